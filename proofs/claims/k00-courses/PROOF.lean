import PyProof.Rows.All
import Wide.All
import OpenK.AllK
import Wide.FinOn
import HandS.ForMost
import HandS.Conv
import HandS.TupAny
import HandS.TupMul
import HandS.Style
import HandS.Zip
import HandS.Wide
import HandS.IsInst
import KE.DataEq
import KE.DataCmp
import KE.DataMinMax
import KE.DataAny
import KE.DataFind
import KE.DataIsa
import KE.SortData
import KE.DatumOrd
import KE.KDictKeyed
import KE.KEqNest
import HandS.SetFor
import HandS.Evl
import HandS.Iter
import HandS.Dict
import PyProof.Rows.SeqRoads
import KE.KTupSum
import PyProof.SeqIndex
import KE.KDictPairs
import KE.KDictDisplayH
import HandS.More
import KE.SortLaws
import PySem.Challenge.RW_bondslaid_k00_whole_courses_and_joints
set_option Elab.async false
set_option linter.all false
set_option maxRecDepth 100000
/-! PV: a small language of data, its interpreter over a monad. -/
namespace PV
open PySem

abbrev D := PyData

/-- a slot of a def: not set, a value that others may hold, a list or dict that this def alone holds, a value that the core never reads -/
inductive Slot where
  | no
  | sh (d : D)
  | ow (d : D)
  | fx (v : L2.V)
abbrev Env := List Slot
def Slot.val : Slot → Option D
  | .no => none
  | .sh d => some d
  | .ow d => some d
  | .fx _ => none
def Slot.frz : Slot → Slot
  | .ow d => .sh d
  | x => x
def Slot.own? : Slot → Option D
  | .ow d => some d
  | _ => none
def getV (ρ : Env) (i : Nat) : Option D := (ρ[i]?).bind Slot.val
def getO (ρ : Env) (i : Nat) : Option D := (ρ[i]?).bind Slot.own?
/-- the names vs frozen -/
def frz (vs : List Nat) (ρ : Env) : Env := ρ.mapIdx fun i s => if vs.contains i then s.frz else s
/-- the names vs forgotten -/
def wip (vs : List Nat) (ρ : Env) : Env := ρ.mapIdx fun i s => if vs.contains i then .no else s
/-- what stood in ρ0 is kept -/
def msk (ρ0 ρ : Env) : Env := ρ.mapIdx fun i s => match ρ0[i]? with
  | some .no => .no
  | none => .no
  | _ => s

inductive Fl where
  | nx (ρ : Env)
  | rt (d : D)
  | bk (ρ : Env)

inductive Op2 where
  | add | sub | mul | fdiv | mod | pow
inductive Cm where
  | eq | ne | lt | le | gt | ge | is_ | isnot | in_ | notin
inductive Bi where
  | len | abs | sum | any | all | tuple | list | sorted | min | max | int | str | dict | sset | lset
inductive Ty where
  | int | bool | str | tuple | list | dict

mutual
inductive Pat where
  | nm (i : Nat)
  | tp (ps : Pats)
inductive Pats where
  | nil
  | cons (p : Pat) (ps : Pats)
end

mutual
inductive E where
  | none
  | bl (b : Bool)
  | int (i : Int)
  | str (s : Str)
  | var (i : Nat)
  | gl (n : Nat)
  | bin (o : Op2) (a b : E)
  | neg (a : E)
  | not (a : E)
  | and (a b : E)
  | or (a b : E)
  | cmp (c : Cm) (a b : E)
  | chain (c1 c2 : Cm) (a b c : E)
  | chain3 (c1 c2 c3 : Cm) (a b c d : E)
  | ife (t a b : E)
  | tup (es : Es)
  | lst (es : Es)
  | dct (es : Es)
  | ix (a i : E)
  | sl (a lo hi : E)
  | rev (a : E)
  | yes
  | comp (own : List Nat) (p : Pat) (s : Src) (t elt : E)
  | comp2 (own own1 : List Nat) (p : Pat) (s : Src) (t : E) (p1 : Pat) (s1 : Src) (t1 elt : E)
  | call (f : Nat) (es : Es)
  | callw (f : Nat) (es : Es)
  | bi (b : Bi) (a : E)
  | bis (b : Bi) (s : Src)
  | mx (a b : E)
  | mn (a b : E)
  | isin (a : E) (t : Ty)
  | count (a x : E)
  | index (a x : E)
  | get1 (a k : E)
  | get2 (a k d : E)
  | bad
inductive Es where
  | nil
  | cons (e : E) (es : Es)
inductive Src where
  | val (e : E)
  | r1 (a : E)
  | r2 (a b : E)
  | r3 (a b c : E)
  | zip (a b : E)
end

mutual
inductive S where
  | pass
  | asg (i : Nat) (e : E)
  | asgp (is : List Nat) (es : Es)
  | asgt (p : Pat) (e : E)
  | aug (i : Nat) (o : Op2) (e : E)
  | app (i : Nat) (e : E)
  | ext (i : Nat) (e : E)
  | ins0 (i : Nat) (e : E)
  | seti (i : Nat) (k e : E)
  | augi (i : Nat) (k : E) (o : Op2) (e : E)
  | upd (i : Nat) (e : E)
  | popt (p : Pat) (i : Nat)
  | ite (t : E) (a b : Ss)
  | whl (t : E) (b : Ss)
  | for_ (p : Pat) (s : Src) (b : Ss)
  | ret (e : E)
  | brk
  | bad
inductive Ss where
  | nil
  | cons (s : S) (r : Ss)
end

def Es.len : Es → Nat
  | .nil => 0
  | .cons _ es => es.len + 1
mutual
def Pat.ns : Pat → List Nat
  | .nm i => [i]
  | .tp ps => ps.ns
def Pats.ns : Pats → List Nat
  | .nil => []
  | .cons p ps => p.ns ++ ps.ns
end

/-! ### what is read as a value of its own (frozen ahead) -/
mutual
/-- b: only looked at -/
def esc (b : Bool) : E → List Nat
  | .var i => if b then [] else [i]
  | .bin _ x y => esc true x ++ esc true y
  | .neg x => esc true x
  | .not x => esc true x
  | .and x y => esc false x ++ esc false y
  | .or x y => esc false x ++ esc false y
  | .cmp _ x y => esc true x ++ esc true y
  | .chain _ _ x y z => esc true x ++ (esc true y ++ esc true z)
  | .chain3 _ _ _ x y z w => esc true x ++ (esc true y ++ (esc true z ++ esc true w))
  | .ife t x y => esc true t ++ (esc false x ++ esc false y)
  | .tup es => escs es
  | .lst es => escs es
  | .dct es => escs es
  | .ix x i => esc true x ++ esc true i
  | .sl x lo hi => esc true x ++ (esc true lo ++ esc true hi)
  | .rev x => esc true x
  | .comp _ _ s t elt => escS s ++ (esc true t ++ esc false elt)
  | .comp2 _ _ _ s t _ s1 t1 elt => escS s ++ (esc true t ++ (escS s1 ++ (esc true t1 ++ esc false elt)))
  | .call _ es => escs es
  | .callw _ es => escs es
  | .bi _ x => esc true x
  | .bis _ s => escS s
  | .mx x y => esc true x ++ esc true y
  | .mn x y => esc true x ++ esc true y
  | .isin x _ => esc true x
  | .count x y => esc true x ++ esc true y
  | .index x y => esc true x ++ esc true y
  | .get1 x k => esc true x ++ esc true k
  | .get2 x k d => esc true x ++ (esc true k ++ esc false d)
  | .none => []
  | .bl _ => []
  | .int _ => []
  | .str _ => []
  | .gl _ => []
  | .yes => []
  | .bad => []
def escs : Es → List Nat
  | .nil => []
  | .cons e es => esc false e ++ escs es
def escS : Src → List Nat
  | .val e => esc true e
  | .r1 x => esc true x
  | .r2 x y => esc true x ++ esc true y
  | .r3 x y z => esc true x ++ (esc true y ++ esc true z)
  | .zip x y => esc true x ++ esc true y
end
/-- the source of a loop: frozen while it runs -/
def escF : Src → List Nat
  | .val e => esc false e
  | .r1 x => esc true x
  | .r2 x y => esc true x ++ esc true y
  | .r3 x y z => esc true x ++ (esc true y ++ esc true z)
  | .zip x y => esc false x ++ esc false y
end PV

set_option maxHeartbeats 4000000
/-! PV: set(xs) of a list of ints, as HandS.SetFor has it of a tuple; numbers in order, no twins. -/
namespace PV
open PySem PySem.Spec PyProof.Rows L2 RZ
/-! ### numbers in order, no twins -/
def insU (x : Int) : List Int → List Int
  | [] => [x]
  | y :: l => if x < y then x :: y :: l else if x = y then y :: l else y :: insU x l
def uniqS (ns : List Int) : List Int := ns.foldr insU []
theorem mem_insU (x z : Int) : ∀ l : List Int, z ∈ insU x l ↔ z = x ∨ z ∈ l
  | [] => by simp [insU]
  | y :: l => by
    unfold insU
    split
    · simp
    · split
      · rename_i h; subst h; simp
      · rw [List.mem_cons, mem_insU x z l, List.mem_cons]
        constructor
        · rintro (h | h | h)
          · exact .inr (.inl h)
          · exact .inl h
          · exact .inr (.inr h)
        · rintro (h | h | h)
          · exact .inr (.inl h)
          · exact .inl h
          · exact .inr (.inr h)
theorem insU_asc (x : Int) : ∀ l : List Int, l.Pairwise (· < ·) → (insU x l).Pairwise (· < ·)
  | [], _ => by simp [insU]
  | y :: l, h => by
    obtain ⟨h1, h2⟩ := List.pairwise_cons.mp h
    unfold insU
    split
    · rename_i c
      refine List.pairwise_cons.mpr ⟨fun z hz => ?_, h⟩
      rcases List.mem_cons.mp hz with rfl | hz
      · exact c
      · have := h1 z hz; omega
    · split
      · exact h
      · refine List.pairwise_cons.mpr ⟨fun z hz => ?_, insU_asc x l h2⟩
        rcases (mem_insU x z l).mp hz with rfl | hz
        · omega
        · exact h1 z hz
theorem mem_uniq (z : Int) : ∀ ns : List Int, z ∈ uniqS ns ↔ z ∈ ns
  | [] => by simp [uniqS]
  | x :: ns => by
    show z ∈ insU x (uniqS ns) ↔ _
    rw [mem_insU, mem_uniq z ns, List.mem_cons]
theorem uniq_asc : ∀ ns : List Int, (uniqS ns).Pairwise (· < ·)
  | [] => List.Pairwise.nil
  | x :: ns => insU_asc x _ (uniq_asc ns)
/-- two rows in order with the same members are one -/
theorem asc_eq : ∀ l m : List Int, l.Pairwise (· < ·) → m.Pairwise (· < ·) → (∀ k, k ∈ l ↔ k ∈ m) → l = m
  | [], [], _, _, _ => rfl
  | [], y :: m, _, _, h => by have := (h y).mpr (by simp); cases this
  | x :: l, [], _, _, h => by have := (h x).mp (by simp); cases this
  | x :: l, y :: m, hl, hm, h => by
    obtain ⟨l1, l2⟩ := List.pairwise_cons.mp hl
    obtain ⟨m1, m2⟩ := List.pairwise_cons.mp hm
    have e : x = y := by
      have a := (h x).mp (by simp)
      have b := (h y).mpr (by simp)
      rcases List.mem_cons.mp a with q | q
      · exact q
      · rcases List.mem_cons.mp b with r | r
        · exact r.symm
        · have := m1 x q
          have := l1 y r
          omega
    subst e
    congr 1
    refine asc_eq l m l2 m2 fun k => ⟨fun hk => ?_, fun hk => ?_⟩
    · rcases List.mem_cons.mp ((h k).mp (by simp [hk])) with q | q
      · have := l1 k hk; omega
      · exact q
    · rcases List.mem_cons.mp ((h k).mpr (by simp [hk])) with q | q
      · have := m1 k hk; omega
      · exact q
theorem asc_nodup : ∀ l : List Int, l.Pairwise (· < ·) → l.Nodup := fun l h => h.imp fun q => by omega
/-! ### set(xs) of a list -/
abbrev em0 (w : World) : Obj := { cls := .type "set", dict := none, data := .set #[] 0 (.fresh 0 0 (!w.params.followText "set-order")) }
section
variable {P : Program} {w : World} {A : Around} {E : Value → Shared → Prop} {s : Shared}
theorem call_set_listR {l : Addr} {items : Array Value} (ns : List Int) {Q : Value → Shared → Prop} (nh : A.handled = none) (hl : s.heap.IsList l items) (hi : IntsAre items.toList ns) (hb : ns.length + 1 < scanBound)
    (k : ∀ (g : Heap) (tk c : Nat), SetR w g s.heap.objs.size (fun j => decide (j ∈ ns)) c → c ≤ ns.length → (∀ b o, s.heap.get? b = some o → g.get? b = some o) → Q (.ref s.heap.objs.size) { s with heap := g, toks := tk }) : wpAny (model P w) A (call (.type "set") [.ref l]) Q E s := by
  have hn : items.size = ns.length := by have q := IntsAre.length hi; rwa [Array.length_toList] at q
  obtain ⟨c, tl, hmro⟩ := F.called_set.mro
  have made := F.called_set.made; have sub := F.called_set.sub
  refine wpAny_call (codeAny_of_tree ?_); show wpAny _ _ (callAny (.type "set") _) _ _ _
  refine wpAny_pure ⟨Code.quiet_builtin _ (by decide +kernel), codeAny_builtin F.entry_type_call ?_⟩; rw [Around.under_plain (weight_type_call_type "set" [.ref l] []) rfl]
  have n1 := F.called_set.notType; have n2 := F.called_set.canCreate; have n3 := F.typeCall_set_1 (.ref l)
  repeat (any_goals (first | assumption | wp_step))
  refine codeAny_mono (code_set_led1 (.ref l) (E := E) (Q₁ := fun obj s1 => obj = .ref s.heap.objs.size ∧ s1 = { s with heap := s.heap.push (em0 w) }) ⟨rfl, rfl⟩) fun r s1 hr => ?_
  match r, hr with
  | .error e, hr => exact hr
  | .ok (.ret obj), hr =>
    obtain ⟨rfl, rfl⟩ := hr
    have hS : (s.heap.push (em0 w)).get? s.heap.objs.size = some (em0 w) := Heap.get?_push_size _ rfl
    have hT : Shared.TypeIs { s with heap := s.heap.push (em0 w) } (.ref s.heap.objs.size) "set" := ⟨_, hS, rfl⟩
    have i1 := F.called_set.init.lookup; have i2 := F.called_set.init.bind (.ref s.heap.objs.size)
    repeat (any_goals (first | assumption | wp_step))
    refine codeAny_mono (codeAny_call_builtin (R := wants (fun r t => r = .none ∧ ∃ g tk c, t = { s with heap := g, toks := tk } ∧ SetR w g s.heap.objs.size (fun j => decide (j ∈ ns)) c ∧ c ≤ ns.length ∧ (∀ b o, s.heap.get? b = some o → g.get? b = some o)) E) F.called_set.init.plain F.entry_set_init (check_set_init_1 hT ?_)) fun r2 s2 hr2 => ?_
    · obtain ⟨⟨oc, od, oa, os⟩, ol, e1, nl, e2⟩ := hl
      simp only at e1 e2; subst e1; subst e2
      have ol' : (s.heap.push (em0 w)).get? l = some { cls := .type "list", dict := od, data := .seq items nl, slots := os } := Heap.get?_push_of_some _ ol
      have s1 := F.sub_list_set; have s2 := F.sub_list_frozenset; have nd : (Value.type "list" == Value.type "dict") = false := by decide
      have hl1 : (s.heap.push (em0 w)).IsList l items := ⟨_, ol', rfl, nl, rfl⟩
      unfold Builtin.«set.__init__» noKeywords Builtin.Frozenset.updateFrom; generalize hPI : pyIter = PI; wp_walk; subst hPI
      refine wpAny_pyIter_list hl1 (wpAny_bind (wpAny_runValue ?_))
      have lS : l < s.heap.objs.size := Heap.lt_size ol
      have nh3 : A.in1.in1.in1.handled = none := by simp [nh]
      have ps : (s.heap.push (em0 w)).objs.size = s.heap.objs.size + 1 := Heap.size_push ..
      have neI : l ≠ (s.heap.push (em0 w)).objs.size := by rw [ps]; exact Nat.ne_of_lt (Nat.lt_succ_of_lt lS)
      have sf : s.heap.objs.size ∉ [(s.heap.push (em0 w)).objs.size, l] := by rw [ps]; simp only [List.mem_cons, List.not_mem_nil, or_false, not_or]; exact ⟨Nat.ne_of_lt (Nat.lt_succ_self _), Nat.ne_of_gt lS⟩
      have val : ∀ (i : Nat) (v : Value), items[i]? = some v → ∃ z t, ns[i]? = some z ∧ v = .int z t := fun i v hv => by
        have il : i < ns.length := by rw [← hn]; exact (Array.getElem?_eq_some_iff.mp hv).1
        obtain ⟨t, e⟩ := IntsAre.int_at hi i v (by rw [Array.getElem?_toList]; exact hv)
        exact ⟨ns[i], t, List.getElem?_eq_getElem il, by rw [e, List.getD_eq_getElem?_getD, List.getElem?_eq_getElem il] <;> rfl⟩
      refine set_update_ints ((Walks.list nh3 _ l neI items).toS) s.heap.objs.size sf ns hn hb val (items.size - 0) 0 _ (by omega) (Nat.zero_le _) ⟨⟨_, Heap.get?_push_size _ rfl, rfl, rfl⟩, (hl1.push _)⟩ ⟨0, Nat.le_refl 0, setR_new_at (Heap.get?_push_of_some _ hS)⟩ ?_
      intro t c' hm hc' hS'
      obtain ⟨g, a1, a2, tk, a3⟩ := t
      have b1 : a1 = s.gens := hm.gens; have b2 : a2 = s.drawn := hm.drawn; have b3 : a3 = s.os := hm.os
      subst b1; subst b2; subst b3
      show wpAny _ _ _ _ _ _; refine wpAny_pure ?_; show wpAny _ _ (ret Value.none) _ _ _
      rw [hn] at hc'
      refine wpAny_pure ⟨rfl, g, tk, c', rfl, hS', hc', fun b o e => ?_⟩
      have q0 : b < s.heap.objs.size := Heap.lt_size e
      have q1 : b ≠ s.heap.objs.size := Nat.ne_of_lt q0
      have q2 : b ≠ (s.heap.push (em0 w)).objs.size := by rw [ps]; exact Nat.ne_of_lt (Nat.lt_succ_of_lt q0)
      exact hm.heap b o (by simp only [List.mem_cons, List.not_mem_nil, or_false, not_or]; exact ⟨q1, q2⟩) (Heap.get?_push_of_some _ (Heap.get?_push_of_some _ e))
    · match r2, hr2 with
      | .error e, hr2 => exact hr2
      | .ok (.ret r), hr2 =>
        obtain ⟨rfl, g, tk, c', rfl, hS', hc', hk'⟩ := hr2
        repeat (any_goals (first | assumption | wp_step))
        exact k _ _ _ hS' hc' hk'
end
end PV

/-! PV: operations on data, the interpreter. -/
namespace PV
open PySem

def LINE : Nat := 16777216
def cut {α : Type} (xs : List α) (lo hi : Option Int) : List α :=
  (xs.drop (HT.sIx xs.length 0 lo)).take (HT.sIx xs.length xs.length hi - HT.sIx xs.length 0 lo)
def small64 (i : Int) : Bool := decide (i.natAbs < 18446744073709551616)

def dBin : Op2 → D → D → Option D
  | .add, .int a, .int b => some (.int (a + b))
  | .add, .tuple a, .tuple b => if a.length + b.length ≤ LINE then some (.tuple (a ++ b)) else none
  | .add, .list a, .list b => if a.length + b.length ≤ LINE then some (.list (a ++ b)) else none
  | .add, .str a, .str b => if a.length + b.length ≤ LINE then some (.str (a ++ b)) else none
  | .sub, .int a, .int b => some (.int (a - b))
  | .mul, .int a, .int b => if small64 a || small64 b then some (.int (a * b)) else none
  | .mul, .tuple a, .int n => if n = 1 then some (.tuple a) else if a ≠ [] ∧ 2 ≤ n ∧ n ≤ 1000 ∧ a.length ≤ 1000 then some (.tuple (List.replicate n.toNat a).flatten) else none
  | .mul, .list a, .int n => if a.length * n.toNat ≤ LINE ∧ n.natAbs < 4611686018427387904 then some (.list (List.replicate n.toNat a).flatten) else none
  | .fdiv, .int a, .int b => if b ≠ 0 ∧ b.natAbs < 1606938044258990275541962092341162602522202993782792835301376 then some (.int (a.fdiv b)) else none
  | .mod, .int a, .int b => if b ≠ 0 then some (.int (a.fmod b)) else none
  | .pow, .int a, .int b => if 0 ≤ b ∧ b ≤ 1000000 ∧ a.natAbs < 18446744073709551616 then some (.int (a ^ b.toNat)) else none
  | _, _, _ => none

/-- data without dicts, at most n deep -/
def shal : Nat → D → Bool
  | _, .none => true
  | _, .bool _ => true
  | _, .int _ => true
  | _, .str _ => true
  | n + 1, .list xs => xs.all (shal n)
  | n + 1, .tuple xs => xs.all (shal n)
  | _, _ => false
def sh (d : D) : Bool := shal 20 d
def shs (xs : List D) : Bool := xs.all (shal 20)
def isN : D → Bool
  | .none => true
  | _ => false
def isB (b : Bool) : D → Bool
  | .bool c => c == b
  | _ => false
def cmpOk (a b : D) : Bool := sh a && (W.alike a b && !isN a)
def dlt (a b : D) : Option Bool := if cmpOk a b then some (W.dataLt a b) else none
/-- the place of a key -/
def keyAt (k : D) : List (D × D) → Option D
  | [] => none
  | (a, v) :: r => if PyData.eqv a k then some v else keyAt k r
def keyPut (k v : D) : List (D × D) → List (D × D)
  | [] => [(k, v)]
  | (a, u) :: r => if PyData.eqv a k then (a, v) :: r else (a, u) :: keyPut k v r
/-- a key: a whole number, a text, or a tuple of keys -/
def scalK : D → Bool
  | .int _ => true
  | .str _ => true
  | _ => false
mutual
def tupK : D → Bool
  | .int _ => true
  | .str _ => true
  | .bool _ => true
  | .none => true
  | .tuple xs => tupKs xs
  | _ => false
def tupKs : List D → Bool
  | [] => true
  | x :: xs => tupK x && tupKs xs
end
def isTup : D → Bool
  | .tuple _ => true
  | _ => false
/-- a key of the dict's own kind: tuples alone, or numbers, texts and such alone -/
def okKey (k : D) (kvs : List (D × D)) : Bool := (scalK k && kvs.all fun p => scalK p.1) || (isTup k && (tupK k && (shal 8 k && kvs.all fun p => isTup p.1)))

def dIn (x : D) : D → Option Bool
  | .list xs => if sh x && shs xs then some (xs.any fun y => PyData.eqv y x) else none
  | .tuple xs => if sh x && shs xs then some (xs.any fun y => PyData.eqv y x) else none
  | .dict kvs => if okKey x kvs then some (keyAt x kvs).isSome else none
  | _ => none
/-- two dicts of numbers or texts as keys -/
def dEqD (ka kb : List (D × D)) : Bool := ka.length == kb.length && ka.all fun p => match keyAt p.1 kb with
  | some y => PyData.eqv p.2 y
  | none => false
def dOkD (ka : List (D × D)) : Bool := ka.all fun p => scalK p.1 && sh p.2
def dEqX : D → D → Option Bool
  | .dict ka, .dict kb => if dOkD ka && dOkD kb then some (dEqD ka kb) else none
  | .list (_ :: _), .list [] => some false
  | _, _ => none
def dCmp : Cm → D → D → Option Bool
  | .eq, a, b => if sh a && sh b then some (PyData.eqv a b) else dEqX a b
  | .ne, a, b => if sh a && sh b then some (!PyData.eqv a b) else (dEqX a b).map (!·)
  | .lt, a, b => dlt a b
  | .gt, a, b => (if cmpOk a b then some (W.dataLt b a) else none)
  | .le, a, b => (if cmpOk a b then some (!W.dataLt b a) else none)
  | .ge, a, b => (if cmpOk a b then some (!W.dataLt a b) else none)
  | .is_, a, .none => some (isN a)
  | .is_, a, .bool b => some (isB b a)
  | .isnot, a, .none => some (!isN a)
  | .isnot, a, .bool b => some (!isB b a)
  | .in_, a, b => dIn a b
  | .notin, a, b => (dIn a b).map (!·)
  | _, _, _ => none

def ints? : List D → Option (List Int)
  | [] => some []
  | .int i :: r => (ints? r).map (i :: ·)
  | _ :: _ => none
def bools? : List D → Option (List Bool)
  | [] => some []
  | .bool i :: r => (bools? r).map (i :: ·)
  | _ :: _ => none
def items : D → Option (List D)
  | .list xs => some xs
  | .tuple xs => some xs
  | _ => none
def allAlike (xs : List D) : Bool := xs.all fun a => xs.all fun b => W.alike a b
def tupNE : D → Bool
  | .tuple (_ :: _) => true
  | _ => false
def sortable (xs : List D) : Bool := xs.all tupNE || xs.all fun d => !isN d && !isTup d
def dSort (xs : List D) : Option (List D) :=
  if xs.length ≤ 1 && (shs xs && xs.all fun d => !isN d) then some xs else if shs xs && (allAlike xs && sortable xs) then some (xs.mergeSort (W.dataLe false id)) else none
/-- each once, the first of equal ones -/
def dedup (xs : List D) : List D := xs.foldl (fun acc x => if acc.any (fun y => PyData.eqv y x) then acc else acc ++ [x]) []
def dMin : List D → Option D
  | [] => none
  | x :: xs => if shs (x :: xs) && (allAlike (x :: xs) && (x :: xs).all (fun d => !isN d)) then some (W.minD x xs) else none
def dMax : List D → Option D
  | [] => none
  | x :: xs => if shs (x :: xs) && (allAlike (x :: xs) && (x :: xs).all (fun d => !isN d)) then some (W.maxD x xs) else none
def signs (s : Str) : List D := s.cps.toList.map fun c => .str ⟨#[c]⟩

/-- {k: v, ..} of the keys and values in turn -/
def dDisp : List D → List (D × D) → Option (List (D × D))
  | [], acc => some acc
  | k :: v :: r, acc => if okKey k acc then dDisp r (keyPut k v acc) else none
  | _, _ => none
/-- dict(pairs), onto what stands -/
def dPairs : List D → List (D × D) → Option (List (D × D))
  | [], acc => some acc
  | .tuple [k, v] :: r, acc => if okKey k acc then dPairs r (keyPut k v acc) else none
  | _ :: _, _ => none
def dBi : Bi → D → Option D
  | .len, .list xs => some (.int xs.length)
  | .len, .tuple xs => some (.int xs.length)
  | .len, .str s => if s.length ≤ LINE then some (.int s.length) else none
  | .len, .dict kvs => some (.int kvs.length)
  | .abs, .int i => some (.int (if i < 0 then -i else i))
  | .sum, d => (items d).bind fun xs => (ints? xs).map fun ns => .int ns.sum
  | .any, .list xs => (bools? xs).map fun bs => .bool (bs.any id)
  | .all, .list xs => (bools? xs).map fun bs => .bool (bs.all id)
  | .tuple, d => (items d).map .tuple
  | .list, .dict kvs => some (.list (kvs.map (·.1)))
  | .list, d => (items d).map .list
  | .sorted, .list xs => (dSort xs).map .list
  | .sorted, .tuple xs => (dSort xs).map .list
  | .min, d => (items d).bind dMin
  | .max, d => (items d).bind dMax
  | .int, .int i => some (.int i)
  | .int, .bool b => some (.int (if b then 1 else 0))
  | .str, .int i => if i.natAbs.log2 < 1920 then some (.str (toString i)) else none
  | .sset, d => (items d).bind fun xs => (ints? xs).bind fun ns => if ns.length ≤ 1000 ∧ (uniqS ns).length < 64 then some (.list ((uniqS ns).map .int)) else none
  | .lset, d => (items d).bind fun xs => (ints? xs).bind fun ns => if ns.length ≤ 1000 then some (.int (uniqS ns).length) else none
  | .dict, .dict kvs => if kvs.all (fun p => !isTup p.1) then some (.dict kvs) else none
  | .dict, .list ps => if ps.length ≤ LINE then (dPairs ps []).map .dict else none
  | _, _ => none

def dIx : D → D → Option D
  | .list xs, .int i => L2.atI xs i
  | .tuple xs, .int i => L2.atI xs i
  | .str s, .int i => if s.length ≤ LINE then (L2.atI s.cps.toList i).map fun c => .str ⟨#[c]⟩ else none
  | .dict kvs, k => if okKey k kvs then keyAt k kvs else none
  | _, _ => none
def bound? : E → D → Option (Option Int)
  | .none, _ => some none
  | _, .int i => some (some i)
  | _, _ => none
def dSl : D → Option Int → Option Int → Option D
  | .list xs, lo, hi => some (.list (cut xs lo hi))
  | .tuple xs, lo, hi => some (.tuple (cut xs lo hi))
  | _, _, _ => none
def dRev : D → Option D
  | .list xs => some (.list xs.reverse)
  | .tuple xs => some (.tuple xs.reverse)
  | _ => none
def dMx : D → D → Option D
  | .int i, .int j => some (.int (if j > i then j else i))
  | _, _ => none
def dMn : D → D → Option D
  | .int i, .int j => some (.int (if j < i then j else i))
  | _, _ => none
def dIs : D → Ty → Bool
  | .int _, .int => true
  | .bool _, .int => true
  | .bool _, .bool => true
  | .str _, .str => true
  | .tuple _, .tuple => true
  | .list _, .list => true
  | .dict _, .dict => true
  | _, _ => false
def dCount (x : D) (d : D) : Option D := (items d).bind fun xs => if sh x && shs xs then some (.int (xs.countP fun y => PyData.eqv y x)) else none
def dIndex (x : D) (d : D) : Option D := (items d).bind fun xs => if sh x && shs xs then (xs.findIdx? fun y => PyData.eqv y x).map fun n => .int n else none
def dGet (k x : D) : D → Option D
  | .dict kvs => if okKey k kvs then some ((keyAt k kvs).getD x) else none
  | _ => none
def rng (a b : Int) : List D := (List.range (b - a).toNat).map fun (i : Nat) => .int (a + i)
def okR (a b : Int) : Bool := decide (a.natAbs < 4611686018427387904 ∧ b.natAbs < 4611686018427387904 ∧ (b - a).toNat ≤ LINE)
/-- range(a, b, c), c below nought: -1 alone -/
def rngD (a b : Int) : List D := (List.range (a - b).toNat).map fun (i : Nat) => .int (a - i)
def lst? : D → Option Unit
  | .list _ => some ()
  | _ => none
def dct? : D → Option Unit
  | .dict _ => some ()
  | _ => none
def isMut : D → Bool
  | .list _ => true
  | .dict _ => true
  | _ => false

def E.fresh : E → Bool
  | .lst _ => true
  | .dct _ => true
  | .comp .. => true
  | .comp2 .. => true
  | .bi .list _ => true
  | .bi .sorted _ => true
  | .bi .dict _ => true
  | .bi .sset _ => true
  | .bis .list _ => true
  | .bin .. => true
  | .sl .. => true
  | .rev .. => true
  | _ => false
def slotOf (e : E) (d : D) : Slot := if e.fresh && isMut d then .ow d else .sh d

mutual
def bindP : Pat → D → Env → Option Env
  | .nm i, d, ρ => some (ρ.set i (.sh d))
  | .tp ps, .tuple ds, ρ => bindPs ps ds ρ
  | .tp _, _, _ => none
def bindPs : Pats → List D → Env → Option Env
  | .nil, [], ρ => some ρ
  | .cons p ps, d :: ds, ρ => (bindP p d ρ).bind fun ρ => bindPs ps ds ρ
  | _, _, _ => none
end

/-! ### the interpreter over a monad -/
structure Mo (m : Type → Type) where
  pure : {α : Type} → α → m α
  bind : {α β : Type} → m α → (α → m β) → m β
  fail : {α : Type} → m α
  whl : (Env → m (Env ⊕ Fl)) → Env → m Fl

section
variable {m : Type → Type} (M : Mo m)
def Mo.lift {α : Type} : Option α → m α
  | some a => M.pure a
  | none => M.fail
def bool? : D → Option Bool
  | .bool b => some b
  | _ => none
def int? : D → Option Int
  | .int i => some i
  | _ => none
def compL (g : D → m (Option D)) : List D → m (List D)
  | [] => M.pure []
  | x :: xs => M.bind (g x) fun o => M.bind (compL g xs) fun ys => M.pure (match o with
    | some y => y :: ys
    | none => ys)
def compLL (src : D → m (Option (Env × List D))) (g : Env → D → m (Option D)) : List D → List D → m (List D)
  | acc, [] => M.pure acc
  | acc, x :: xs => M.bind (src x) fun
    | none => compLL src g acc xs
    | some (ρ, zs) => if acc.length + zs.length ≤ LINE then M.bind (compL M (g ρ) zs) fun ys => compLL src g (acc ++ ys) xs else M.fail
def forL (g : D → Env → m Fl) (ρ0 : Env) : List D → Env → m Fl
  | [], ρ => M.pure (.nx ρ)
  | x :: xs, ρ => M.bind (g x ρ) fun
    | .nx ρ' => forL g ρ0 xs (msk ρ0 ρ')
    | .rt d => M.pure (.rt d)
    | .bk ρ' => M.pure (.nx (msk ρ0 ρ'))
def whlStep (vs : List Nat) (c : Env → m Bool) (b : Env → m Fl) (ρ0 ρ : Env) : m (Env ⊕ Fl) :=
  M.bind (c ρ) fun t => if t = true then M.bind (b ρ) fun
    | .nx ρ' => M.pure (.inl (frz vs (msk ρ0 ρ')))
    | .rt d => M.pure (.inr (.rt d))
    | .bk ρ' => M.pure (.inr (.nx (msk ρ0 ρ')))
  else M.pure (.inr (.nx ρ))
def iter? : D → Option (List D)
  | .list xs => some xs
  | .tuple xs => some xs
  | .dict kvs => some (kvs.map (·.1))
  | _ => none
def zip2 (xs ys : List D) : List D := (xs.zip ys).map fun p => .tuple [p.1, p.2]

def zipD : D → D → Option (List D)
  | .list xs, .list ys => some (zip2 xs ys)
  | .tuple xs, .tuple ys => some (zip2 xs ys)
  | .list xs, .tuple ys => some (zip2 xs ys)
  | _, _ => none
variable (C : Nat → Option D) (F G : Nat → List D → m D)
mutual
def ev : E → Env → m D
  | .none, _ => M.pure .none
  | .bl b, _ => M.pure (.bool b)
  | .int i, _ => M.pure (.int i)
  | .str s, _ => M.pure (.str s)
  | .var i, ρ => M.lift (getV ρ i)
  | .gl n, _ => M.lift (C n)
  | .bin o a b, ρ => M.bind (ev a ρ) fun x => M.bind (ev b ρ) fun y => M.lift (dBin o x y)
  | .neg a, ρ => M.bind (ev a ρ) fun x => M.lift ((int? x).map fun i => .int (-i))
  | .not a, ρ => M.bind (ev a ρ) fun x => M.lift ((bool? x).map fun b => .bool (!b))
  | .and a b, ρ => M.bind (ev a ρ) fun x => M.bind (M.lift (bool? x)) fun t => if t = true then ev b ρ else M.pure (.bool false)
  | .or a b, ρ => M.bind (ev a ρ) fun x => M.bind (M.lift (bool? x)) fun t => if t = true then M.pure (.bool true) else ev b ρ
  | .cmp c a b, ρ => M.bind (ev a ρ) fun x => M.bind (ev b ρ) fun y => M.lift ((dCmp c x y).map .bool)
  | .chain c c' a b d, ρ => M.bind (ev a ρ) fun x => M.bind (ev b ρ) fun y => M.bind (M.lift (dCmp c x y)) fun t =>
      if t = true then M.bind (ev d ρ) fun z => M.lift ((dCmp c' y z).map .bool) else M.pure (.bool false)
  | .chain3 c c' c2 a b d g, ρ => M.bind (ev a ρ) fun x => M.bind (ev b ρ) fun y => M.bind (M.lift (dCmp c x y)) fun t =>
      if t = true then M.bind (ev d ρ) fun z => M.bind (M.lift (dCmp c' y z)) fun t => if t = true then M.bind (ev g ρ) fun u => M.lift ((dCmp c2 z u).map .bool) else M.pure (.bool false) else M.pure (.bool false)
  | .ife t a b, ρ => M.bind (ev t ρ) fun x => M.bind (M.lift (bool? x)) fun t => if t = true then ev a ρ else ev b ρ
  | .tup es, ρ => M.bind (evs es ρ) fun ds => M.pure (.tuple ds)
  | .lst es, ρ => M.bind (evs es ρ) fun ds => M.pure (.list ds)
  | .dct es, ρ => M.bind (evs es ρ) fun ds => M.lift ((dDisp ds []).map .dict)
  | .ix a i, ρ => M.bind (ev a ρ) fun x => M.bind (ev i ρ) fun y => M.lift (dIx x y)
  | .sl a lo hi, ρ => M.bind (ev a ρ) fun x => M.bind (ev lo ρ) fun y => M.bind (M.lift (bound? lo y)) fun l => M.bind (ev hi ρ) fun z => M.bind (M.lift (bound? hi z)) fun h => M.lift (dSl x l h)
  | .rev a, ρ => M.bind (ev a ρ) fun x => M.lift (dRev x)
  | .yes, _ => M.pure (.bool true)
  | .comp own p s t elt, ρ => M.bind (evS s ρ) fun xs => M.bind (compL M (fun d => M.bind (M.lift (bindP p d (wip own ρ))) fun ρ1 =>
      M.bind (ev t ρ1) fun x => M.bind (M.lift (bool? x)) fun b => if b = true then M.bind (ev elt ρ1) fun y => M.pure (some y) else M.pure none) xs) fun ys => M.pure (.list ys)
  | .comp2 own own1 p s t p1 s1 t1 elt, ρ => M.bind (evS s ρ) fun xs => M.bind (compLL M (fun d => M.bind (M.lift (bindP p d (wip own ρ))) fun ρ1 =>
      M.bind (ev t ρ1) fun x => M.bind (M.lift (bool? x)) fun b => if b = true then M.bind (evS s1 ρ1) fun zs => M.pure (some (wip own1 ρ1, zs)) else M.pure none)
      (fun ρ1 d => M.bind (M.lift (bindP p1 d ρ1)) fun ρ2 => M.bind (ev t1 ρ2) fun x => M.bind (M.lift (bool? x)) fun b => if b = true then M.bind (ev elt ρ2) fun y => M.pure (some y) else M.pure none) [] xs) fun ys => M.pure (.list ys)
  | .call f es, ρ => M.bind (evs es ρ) fun ds => F f ds
  | .callw f es, ρ => M.bind (evs es ρ) fun ds => G f ds
  | .bi b a, ρ => M.bind (ev a ρ) fun x => M.lift (dBi b x)
  | .bis b s, ρ => M.bind (evS s ρ) fun xs => M.lift (match b with
      | .tuple => some (.tuple xs)
      | .list => some (.list xs)
      | _ => none)
  | .mx a b, ρ => M.bind (ev a ρ) fun x => M.bind (ev b ρ) fun y => M.lift (dMx x y)
  | .mn a b, ρ => M.bind (ev a ρ) fun x => M.bind (ev b ρ) fun y => M.lift (dMn x y)
  | .isin a t, ρ => M.bind (ev a ρ) fun x => M.pure (.bool (dIs x t))
  | .count a x, ρ => M.bind (ev a ρ) fun d => M.bind (M.lift (lst? d)) fun _ => M.bind (ev x ρ) fun y => M.lift (dCount y d)
  | .index a x, ρ => M.bind (ev a ρ) fun d => M.bind (M.lift (lst? d)) fun _ => M.bind (ev x ρ) fun y => M.lift (dIndex y d)
  | .get1 a k, ρ => M.bind (ev a ρ) fun d => M.bind (M.lift (dct? d)) fun _ => M.bind (ev k ρ) fun y => M.lift (dGet y .none d)
  | .get2 a k x, ρ => M.bind (ev a ρ) fun d => M.bind (M.lift (dct? d)) fun _ => M.bind (ev k ρ) fun y => M.bind (ev x ρ) fun z => M.lift (dGet y z d)
  | .bad, _ => M.fail
def evs : Es → Env → m (List D)
  | .nil, _ => M.pure []
  | .cons e es, ρ => M.bind (ev e ρ) fun d => M.bind (evs es ρ) fun ds => M.pure (d :: ds)
def evS : Src → Env → m (List D)
  | .val e, ρ => M.bind (ev e ρ) fun d => M.lift (iter? d)
  | .r1 a, ρ => M.bind (ev a ρ) fun x => M.bind (M.lift (int? x)) fun i => if okR 0 i then M.pure (rng 0 i) else M.fail
  | .r2 a b, ρ => M.bind (ev a ρ) fun x => M.bind (M.lift (int? x)) fun i => M.bind (ev b ρ) fun y => M.bind (M.lift (int? y)) fun j => if okR i j then M.pure (rng i j) else M.fail
  | .r3 a b c, ρ => M.bind (ev a ρ) fun x => M.bind (M.lift (int? x)) fun i => M.bind (ev b ρ) fun y => M.bind (M.lift (int? y)) fun j => M.bind (ev c ρ) fun z => M.bind (M.lift (int? z)) fun k =>
      if okR j i && k == -1 then M.pure (rngD i j) else M.fail
  | .zip a b, ρ => M.bind (ev a ρ) fun x => M.bind (ev b ρ) fun y => M.lift (zipD x y)
end

/-- slots set from the left -/
def setAll : List Nat → Es → List D → Env → Option Env
  | [], .nil, [], ρ => some ρ
  | i :: is, .cons e es, d :: ds, ρ => setAll is es ds (ρ.set i (slotOf e d))
  | _, _, _, _ => none
def dApp (d : D) : D → Option D
  | .list xs => if xs.length < LINE then some (.list (xs ++ [d])) else none
  | _ => none
def dExt (d : D) : D → Option D
  | .list xs => match d with
    | .list ys => if xs.length + ys.length ≤ LINE then some (.list (xs ++ ys)) else none
    | _ => none
  | _ => none
def dIns0 (d : D) : D → Option D
  | .list xs => if xs.length < LINE then some (.list (d :: xs)) else none
  | _ => none
def dSet (k d : D) : D → Option D
  | .list xs => match k with
    | .int i => (L2.ixN xs.length i).map fun j => .list (xs.set j d)
    | _ => none
  | .dict kvs => if okKey k kvs && decide (kvs.length < LINE) then some (.dict (keyPut k d kvs)) else none
  | _ => none
def dUpd (d : D) : D → Option D
  | .dict kvs => match d with
    | .dict more => if kvs.length + more.length ≤ LINE ∧ (kvs ++ more).all (fun p => scalK p.1) then some (.dict (more.foldl (fun acc p => keyPut p.1 p.2 acc) kvs)) else none
    | _ => none
  | _ => none
def dPop : D → Option (D × D)
  | .list xs => match xs[xs.length - 1]? with
    | some y => some (y, .list xs.dropLast)
    | none => none
  | _ => none
mutual
def ex : S → Env → m Fl
  | .pass, ρ => M.pure (.nx ρ)
  | .asg i e, ρ => M.bind (ev M C F G e (frz (esc false e) ρ)) fun d => M.pure (.nx ((frz (esc false e) ρ).set i (slotOf e d)))
  | .asgp is es, ρ => M.bind (evs M C F G es (frz (escs es) ρ)) fun ds => M.bind (M.lift (setAll is es ds (frz (escs es) ρ))) fun ρ' => M.pure (.nx ρ')
  | .asgt p e, ρ => M.bind (ev M C F G e (frz (esc false e) ρ)) fun d => M.bind (M.lift (bindP p d (frz (esc false e) ρ))) fun ρ' => M.pure (.nx ρ')
  | .aug i o e, ρ => M.bind (M.lift (getV ρ i)) fun x => M.bind (ev M C F G e (frz (esc false e) ρ)) fun y => M.bind (M.lift (int? x)) fun a => M.bind (M.lift (int? y)) fun b =>
      M.bind (M.lift (dBin o (.int a) (.int b))) fun z => M.pure (.nx ((frz (esc false e) ρ).set i (.sh z)))
  | .app i e, ρ => M.bind (M.lift (getO (frz (esc false e) ρ) i)) fun x => M.bind (M.lift (lst? x)) fun _ => M.bind (ev M C F G e (frz (esc false e) ρ)) fun d => M.bind (M.lift (dApp d x)) fun y => M.pure (.nx ((frz (esc false e) ρ).set i (.ow y)))
  | .ext i e, ρ => M.bind (M.lift (getO (frz (esc false e) ρ) i)) fun x => M.bind (M.lift (lst? x)) fun _ => M.bind (ev M C F G e (frz (esc false e) ρ)) fun d => M.bind (M.lift (dExt d x)) fun y => M.pure (.nx ((frz (esc false e) ρ).set i (.ow y)))
  | .ins0 i e, ρ => M.bind (M.lift (getO (frz (esc false e) ρ) i)) fun x => M.bind (M.lift (lst? x)) fun _ => M.bind (ev M C F G e (frz (esc false e) ρ)) fun d => M.bind (M.lift (dIns0 d x)) fun y => M.pure (.nx ((frz (esc false e) ρ).set i (.ow y)))
  | .seti i k e, ρ => M.bind (M.lift (getO (frz (esc false e ++ esc false k) ρ) i)) fun x => M.bind (ev M C F G e (frz (esc false e ++ esc false k) ρ)) fun d => M.bind (ev M C F G k (frz (esc false e ++ esc false k) ρ)) fun j =>
      M.bind (M.lift (dSet j d x)) fun y => M.pure (.nx ((frz (esc false e ++ esc false k) ρ).set i (.ow y)))
  | .augi i k o e, ρ => M.bind (M.lift (getO (frz (esc false e ++ esc false k) ρ) i)) fun x => M.bind (ev M C F G k (frz (esc false e ++ esc false k) ρ)) fun j => M.bind (M.lift (dIx x j)) fun old =>
      M.bind (ev M C F G e (frz (esc false e ++ esc false k) ρ)) fun y => M.bind (M.lift (int? old)) fun a => M.bind (M.lift (int? y)) fun b => M.bind (M.lift (dBin o (.int a) (.int b))) fun z =>
      M.bind (M.lift (dSet j z x)) fun y => M.pure (.nx ((frz (esc false e ++ esc false k) ρ).set i (.ow y)))
  | .upd i e, ρ => M.bind (M.lift (getO (frz (esc false e) ρ) i)) fun x => M.bind (M.lift (dct? x)) fun _ => M.bind (ev M C F G e (frz (esc false e) ρ)) fun d => M.bind (M.lift (dUpd d x)) fun y => M.pure (.nx ((frz (esc false e) ρ).set i (.ow y)))
  | .popt p i, ρ => M.bind (M.lift (getO ρ i)) fun x => M.bind (M.lift (dPop x)) fun y => M.bind (M.lift (bindP p y.1 (ρ.set i (.ow y.2)))) fun ρ' => M.pure (.nx ρ')
  | .ite t a b, ρ => M.bind (ev M C F G t (frz (esc true t) ρ)) fun x => M.bind (M.lift (bool? x)) fun t' => if t' = true then exs a (frz (esc true t) ρ) else exs b (frz (esc true t) ρ)
  | .whl t b, ρ => M.whl (whlStep M (esc true t) (fun ρ => M.bind (ev M C F G t ρ) fun x => M.lift (bool? x)) (exs b) (frz (esc true t) ρ)) (frz (esc true t) ρ)
  | .for_ p s b, ρ => M.bind (evS M C F G s (frz (escF s) ρ)) fun xs => forL M (fun d ρ => M.bind (M.lift (bindP p d ρ)) fun ρ => exs b ρ) (frz (escF s) ρ) xs (frz (escF s) ρ)
  | .ret e, ρ => M.bind (ev M C F G e (frz (esc false e) ρ)) fun d => M.pure (.rt d)
  | .brk, ρ => M.pure (.bk ρ)
  | .bad, _ => M.fail
def exs : Ss → Env → m Fl
  | .nil, ρ => M.pure (.nx ρ)
  | .cons s r, ρ => M.bind (ex s ρ) fun
    | .nx ρ => exs r ρ
    | .rt d => M.pure (.rt d)
    | .bk ρ => M.pure (.bk ρ)
end
/-- a def of n names: its parameters first -/
def run (n : Nat) (b : Ss) (args : List D) : m D :=
  M.bind (exs M C F G b (args.map .sh ++ List.replicate (n - args.length) .no)) fun
    | .nx _ => M.pure .none
    | .rt d => M.pure d
    | .bk _ => M.fail
end
end PV

/-! PV: the two monads; what is reckoned in Option holds in every predicate transformer. -/
namespace PV
open PySem

def whN (step : Env → Option (Env ⊕ Fl)) : Nat → Env → Option Fl
  | 0, _ => none
  | n + 1, ρ => match step ρ with
    | none => none
    | some (.inl ρ') => whN step n ρ'
    | some (.inr f) => some f
theorem whN_mono {step : Env → Option (Env ⊕ Fl)} : ∀ {n : Nat} {ρ : Env} {f : Fl}, whN step n ρ = some f → ∀ {k : Nat}, n ≤ k → whN step k ρ = some f
  | 0, _, _, h, _, _ => by cases h
  | n + 1, ρ, f, h, 0, hk => by omega
  | n + 1, ρ, f, h, k + 1, hk => by
    unfold whN at h ⊢
    cases e : step ρ with
    | none => rw [e] at h; cases h
    | some r =>
      rw [e] at h
      cases r with
      | inl ρ' => exact whN_mono (n := n) h (by omega)
      | inr g => exact h
open Classical in
noncomputable def whO (step : Env → Option (Env ⊕ Fl)) (ρ : Env) : Option Fl :=
  if h : ∃ n, (whN step n ρ).isSome = true then whN step h.choose ρ else none
theorem whO_of {step : Env → Option (Env ⊕ Fl)} {n : Nat} {ρ : Env} {f : Fl} (h : whN step n ρ = some f) : whO step ρ = some f := by
  have hx : ∃ n, (whN step n ρ).isSome = true := ⟨n, by rw [h]; rfl⟩
  unfold whO
  rw [dif_pos hx]
  obtain ⟨g, hg⟩ := Option.isSome_iff_exists.mp hx.choose_spec
  rw [hg]
  have a := whN_mono hg (Nat.le_max_left hx.choose n)
  have b := whN_mono h (Nat.le_max_right hx.choose n)
  rw [a] at b
  exact b
theorem whO_ex {step : Env → Option (Env ⊕ Fl)} {ρ : Env} {f : Fl} (h : whO step ρ = some f) : ∃ n, whN step n ρ = some f := by
  unfold whO at h
  split at h
  · exact ⟨_, h⟩
  · cases h
/-- a turn of a while -/
theorem whO_next {step : Env → Option (Env ⊕ Fl)} {ρ ρ' : Env} (h : step ρ = some (.inl ρ')) : whO step ρ = whO step ρ' := by
  cases e : whO step ρ' with
  | some f =>
    obtain ⟨n, hn⟩ := whO_ex e
    refine whO_of (n := n + 1) ?_
    unfold whN
    rw [h]
    exact hn
  | none =>
    cases e2 : whO step ρ with
    | none => rfl
    | some f =>
      obtain ⟨n, hn⟩ := whO_ex e2
      cases n with
      | zero => cases hn
      | succ n =>
        unfold whN at hn
        rw [h] at hn
        rw [whO_of hn] at e
        cases e
theorem whO_end {step : Env → Option (Env ⊕ Fl)} {ρ : Env} {f : Fl} (h : step ρ = some (.inr f)) : whO step ρ = some f := by
  refine whO_of (n := 1) ?_
  unfold whN
  rw [h]

noncomputable def optM : Mo Option where
  pure := some
  bind := Option.bind
  fail := none
  whl := whO
abbrev W (α : Type) := (α → Prop) → Prop
def wWhl (step : Env → W (Env ⊕ Fl)) (ρ : Env) : W Fl := fun Q => ∃ J : Nat → Env → Prop, (∃ n, J n ρ) ∧ ∀ n ρ, J n ρ → step ρ fun
  | .inl ρ' => ∃ k, k < n ∧ J k ρ'
  | .inr f => Q f
def wM : Mo W where
  pure a Q := Q a
  bind x f Q := x fun a => f a Q
  fail _ := False
  whl := wWhl

/-- x gives what o gives -/
def Gv {α : Type} (o : Option α) (x : W α) : Prop := ∀ a, o = some a → ∀ Q : α → Prop, Q a → x Q
theorem Gv.pure {α : Type} {a : α} : Gv (optM.pure a) (wM.pure a) := fun b h Q q => by
  have e : a = b := Option.some.inj h
  subst e
  exact q
theorem Gv.fail {α : Type} {x : W α} : Gv (optM.fail : Option α) x := fun b h => by cases h
theorem Gv.bind {α β : Type} {o : Option α} {x : W α} {f : α → Option β} {g : α → W β} (h : Gv o x) (k : ∀ a, Gv (f a) (g a)) : Gv (optM.bind o f) (wM.bind x g) := fun b e Q q => by
  have e' : o.bind f = some b := e
  cases ho : o with
  | none => rw [ho] at e'; cases e'
  | some a =>
    rw [ho] at e'
    exact h a ho _ (k a b e' Q q)
theorem Gv.lift {α : Type} (o : Option α) : Gv (optM.lift o) (wM.lift o) := by
  cases o with
  | none => exact Gv.fail
  | some a => exact Gv.pure
theorem Gv.ite {α : Type} {c : Prop} [Decidable c] {o o' : Option α} {x x' : W α} (h : Gv o x) (h' : Gv o' x') : Gv (if c then o else o') (if c then x else x') := by
  split
  · exact h
  · exact h'
theorem Gv.whl {s : Env → Option (Env ⊕ Fl)} {t : Env → W (Env ⊕ Fl)} (h : ∀ ρ, Gv (s ρ) (t ρ)) (ρ : Env) : Gv (optM.whl s ρ) (wM.whl t ρ) := fun f e Q q => by
  obtain ⟨n, hn⟩ := whO_ex (show whO s ρ = some f from e)
  refine ⟨fun n ρ => whN s n ρ = some f, ⟨n, hn⟩, fun n ρ hJ => ?_⟩
  cases n with
  | zero => cases hJ
  | succ n =>
    unfold whN at hJ
    cases e2 : s ρ with
    | none => rw [e2] at hJ; cases hJ
    | some r =>
      rw [e2] at hJ
      refine h ρ r e2 _ ?_
      cases r with
      | inl ρ' => exact ⟨n, Nat.lt_succ_self n, hJ⟩
      | inr g =>
        have e3 : g = f := Option.some.inj hJ
        subst e3
        exact q
section
variable {C : Nat → Option D} {F G : Nat → List D → Option D} {F' G' : Nat → List D → W D}
theorem gv_compL {g : D → Option (Option D)} {g' : D → W (Option D)} (h : ∀ d, Gv (g d) (g' d)) : ∀ xs, Gv (compL optM g xs) (compL wM g' xs)
  | [] => Gv.pure
  | x :: xs => (h x).bind fun o => (gv_compL h xs).bind fun ys => Gv.pure
theorem gv_compLL {s : D → Option (Option (Env × List D))} {s' : D → W (Option (Env × List D))} {g : Env → D → Option (Option D)} {g' : Env → D → W (Option D)} (hs : ∀ d, Gv (s d) (s' d)) (h : ∀ ρ d, Gv (g ρ d) (g' ρ d)) :
    ∀ acc xs, Gv (compLL optM s g acc xs) (compLL wM s' g' acc xs)
  | acc, [] => Gv.pure
  | acc, x :: xs => (hs x).bind fun o => match o with
    | none => gv_compLL hs h acc xs
    | some (ρ, zs) => Gv.ite ((gv_compL (h ρ) zs).bind fun ys => gv_compLL hs h (acc ++ ys) xs) Gv.fail
theorem gv_forL {g : D → Env → Option Fl} {g' : D → Env → W Fl} (h : ∀ d ρ, Gv (g d ρ) (g' d ρ)) (ρ0 : Env) : ∀ xs ρ, Gv (forL optM g ρ0 xs ρ) (forL wM g' ρ0 xs ρ)
  | [], ρ => Gv.pure
  | x :: xs, ρ => (h x ρ).bind fun f => match f with
    | .nx ρ' => gv_forL h ρ0 xs (msk ρ0 ρ')
    | .rt d => Gv.pure
    | .bk ρ' => Gv.pure
theorem gv_step {c : Env → Option Bool} {c' : Env → W Bool} {b : Env → Option Fl} {b' : Env → W Fl} (hc : ∀ ρ, Gv (c ρ) (c' ρ)) (hb : ∀ ρ, Gv (b ρ) (b' ρ)) (vs : List Nat) (ρ0 ρ : Env) : Gv (whlStep optM vs c b ρ0 ρ) (whlStep wM vs c' b' ρ0 ρ) :=
  (hc ρ).bind fun t => Gv.ite ((hb ρ).bind fun f => match f with
    | .nx ρ' => Gv.pure
    | .rt d => Gv.pure
    | .bk ρ' => Gv.pure) Gv.pure
variable (hF : ∀ n ds, Gv (F n ds) (F' n ds)) (hG : ∀ n ds, Gv (G n ds) (G' n ds))
include hF hG
mutual
theorem gv_ev : ∀ (e : E) (ρ : Env), Gv (ev optM C F G e ρ) (ev wM C F' G' e ρ)
  | .none, _ => by unfold ev; exact Gv.pure
  | .bl b, _ => by unfold ev; exact Gv.pure
  | .int i, _ => by unfold ev; exact Gv.pure
  | .str s, _ => by unfold ev; exact Gv.pure
  | .var i, ρ => by unfold ev; exact Gv.lift _
  | .gl n, _ => by unfold ev; exact Gv.lift _
  | .bin o a b, ρ => by unfold ev; exact (gv_ev a ρ).bind fun x => (gv_ev b ρ).bind fun y => Gv.lift _
  | .neg a, ρ => by unfold ev; exact (gv_ev a ρ).bind fun x => Gv.lift _
  | .not a, ρ => by unfold ev; exact (gv_ev a ρ).bind fun x => Gv.lift _
  | .and a b, ρ => by unfold ev; exact (gv_ev a ρ).bind fun x => (Gv.lift _).bind fun t => Gv.ite (gv_ev b ρ) Gv.pure
  | .or a b, ρ => by unfold ev; exact (gv_ev a ρ).bind fun x => (Gv.lift _).bind fun t => Gv.ite Gv.pure (gv_ev b ρ)
  | .cmp c a b, ρ => by unfold ev; exact (gv_ev a ρ).bind fun x => (gv_ev b ρ).bind fun y => Gv.lift _
  | .chain c c' a b d, ρ => by unfold ev; exact (gv_ev a ρ).bind fun x => (gv_ev b ρ).bind fun y => (Gv.lift _).bind fun t => Gv.ite ((gv_ev d ρ).bind fun z => Gv.lift _) Gv.pure
  | .chain3 c c' c2 a b d g, ρ => by unfold ev; exact (gv_ev a ρ).bind fun x => (gv_ev b ρ).bind fun y => (Gv.lift _).bind fun t => Gv.ite ((gv_ev d ρ).bind fun z => (Gv.lift _).bind fun t => Gv.ite ((gv_ev g ρ).bind fun u => Gv.lift _) Gv.pure) Gv.pure
  | .ife t a b, ρ => by unfold ev; exact (gv_ev t ρ).bind fun x => (Gv.lift _).bind fun t => Gv.ite (gv_ev a ρ) (gv_ev b ρ)
  | .tup es, ρ => by unfold ev; exact (gv_evs es ρ).bind fun ds => Gv.pure
  | .lst es, ρ => by unfold ev; exact (gv_evs es ρ).bind fun ds => Gv.pure
  | .dct es, ρ => by unfold ev; exact (gv_evs es ρ).bind fun ds => Gv.lift _
  | .ix a i, ρ => by unfold ev; exact (gv_ev a ρ).bind fun x => (gv_ev i ρ).bind fun y => Gv.lift _
  | .sl a lo hi, ρ => by unfold ev; exact (gv_ev a ρ).bind fun x => (gv_ev lo ρ).bind fun y => (Gv.lift _).bind fun l => (gv_ev hi ρ).bind fun z => (Gv.lift _).bind fun h => Gv.lift _
  | .rev a, ρ => by unfold ev; exact (gv_ev a ρ).bind fun x => Gv.lift _
  | .yes, _ => by unfold ev; exact Gv.pure
  | .comp own p s t elt, ρ => by
    unfold ev
    exact (gv_evS s ρ).bind fun xs => (gv_compL (fun d => (Gv.lift _).bind fun ρ1 => (gv_ev t ρ1).bind fun x => (Gv.lift _).bind fun b => Gv.ite ((gv_ev elt ρ1).bind fun y => Gv.pure) Gv.pure) xs).bind fun ys => Gv.pure
  | .comp2 own own1 p s t p1 s1 t1 elt, ρ => by
    unfold ev
    exact (gv_evS s ρ).bind fun xs => (gv_compLL (fun d => (Gv.lift _).bind fun ρ1 => (gv_ev t ρ1).bind fun x => (Gv.lift _).bind fun b => Gv.ite ((gv_evS s1 ρ1).bind fun zs => Gv.pure) Gv.pure)
      (fun ρ1 d => (Gv.lift _).bind fun ρ2 => (gv_ev t1 ρ2).bind fun x => (Gv.lift _).bind fun b => Gv.ite ((gv_ev elt ρ2).bind fun y => Gv.pure) Gv.pure) [] xs).bind fun ys => Gv.pure
  | .call f es, ρ => by unfold ev; exact (gv_evs es ρ).bind fun ds => hF f ds
  | .callw f es, ρ => by unfold ev; exact (gv_evs es ρ).bind fun ds => hG f ds
  | .bi b a, ρ => by unfold ev; exact (gv_ev a ρ).bind fun x => Gv.lift _
  | .bis b s, ρ => by unfold ev; exact (gv_evS s ρ).bind fun x => Gv.lift _
  | .mx a b, ρ => by unfold ev; exact (gv_ev a ρ).bind fun x => (gv_ev b ρ).bind fun y => Gv.lift _
  | .mn a b, ρ => by unfold ev; exact (gv_ev a ρ).bind fun x => (gv_ev b ρ).bind fun y => Gv.lift _
  | .isin a t, ρ => by unfold ev; exact (gv_ev a ρ).bind fun x => Gv.pure
  | .count a x, ρ => by unfold ev; exact (gv_ev a ρ).bind fun x => (Gv.lift _).bind fun _ => (gv_ev _ ρ).bind fun y => Gv.lift _
  | .index a x, ρ => by unfold ev; exact (gv_ev a ρ).bind fun x => (Gv.lift _).bind fun _ => (gv_ev _ ρ).bind fun y => Gv.lift _
  | .get1 a k, ρ => by unfold ev; exact (gv_ev a ρ).bind fun x => (Gv.lift _).bind fun _ => (gv_ev k ρ).bind fun y => Gv.lift _
  | .get2 a k d, ρ => by unfold ev; exact (gv_ev a ρ).bind fun x => (Gv.lift _).bind fun _ => (gv_ev k ρ).bind fun y => (gv_ev d ρ).bind fun z => Gv.lift _
  | .bad, _ => by unfold ev; exact Gv.fail
theorem gv_evs : ∀ (es : Es) (ρ : Env), Gv (evs optM C F G es ρ) (evs wM C F' G' es ρ)
  | .nil, _ => by unfold evs; exact Gv.pure
  | .cons e es, ρ => by unfold evs; exact (gv_ev e ρ).bind fun d => (gv_evs es ρ).bind fun ds => Gv.pure
theorem gv_evS : ∀ (s : Src) (ρ : Env), Gv (evS optM C F G s ρ) (evS wM C F' G' s ρ)
  | .val e, ρ => by unfold evS; exact (gv_ev e ρ).bind fun d => Gv.lift _
  | .r1 a, ρ => by unfold evS; exact (gv_ev a ρ).bind fun x => (Gv.lift _).bind fun i => Gv.ite Gv.pure Gv.fail
  | .r2 a b, ρ => by unfold evS; exact (gv_ev a ρ).bind fun x => (Gv.lift _).bind fun i => (gv_ev b ρ).bind fun y => (Gv.lift _).bind fun j => Gv.ite Gv.pure Gv.fail
  | .r3 a b c, ρ => by unfold evS; exact (gv_ev a ρ).bind fun x => (Gv.lift _).bind fun i => (gv_ev b ρ).bind fun y => (Gv.lift _).bind fun j => (gv_ev c ρ).bind fun z => (Gv.lift _).bind fun k => Gv.ite Gv.pure Gv.fail
  | .zip a b, ρ => by unfold evS; exact (gv_ev a ρ).bind fun x => (gv_ev b ρ).bind fun y => Gv.lift _
end
mutual
theorem gv_ex : ∀ (s : S) (ρ : Env), Gv (ex optM C F G s ρ) (ex wM C F' G' s ρ)
  | .pass, ρ => by unfold ex; exact Gv.pure
  | .asg i e, ρ => by unfold ex; exact (gv_ev hF hG e _).bind fun d => Gv.pure
  | .asgp is es, ρ => by unfold ex; exact (gv_evs hF hG es _).bind fun ds => (Gv.lift _).bind fun ρ' => Gv.pure
  | .asgt p e, ρ => by unfold ex; exact (gv_ev hF hG e _).bind fun d => (Gv.lift _).bind fun ρ' => Gv.pure
  | .aug i o e, ρ => by unfold ex; exact (Gv.lift _).bind fun x => (gv_ev hF hG e _).bind fun y => (Gv.lift _).bind fun a => (Gv.lift _).bind fun b => (Gv.lift _).bind fun z => Gv.pure
  | .app i e, ρ => by unfold ex; exact (Gv.lift _).bind fun x => (Gv.lift _).bind fun _ => (gv_ev hF hG e _).bind fun d => (Gv.lift _).bind fun y => Gv.pure
  | .ext i e, ρ => by unfold ex; exact (Gv.lift _).bind fun x => (Gv.lift _).bind fun _ => (gv_ev hF hG e _).bind fun d => (Gv.lift _).bind fun y => Gv.pure
  | .ins0 i e, ρ => by unfold ex; exact (Gv.lift _).bind fun x => (Gv.lift _).bind fun _ => (gv_ev hF hG e _).bind fun d => (Gv.lift _).bind fun y => Gv.pure
  | .seti i k e, ρ => by unfold ex; exact (Gv.lift _).bind fun x => (gv_ev hF hG e _).bind fun d => (gv_ev hF hG k _).bind fun j => (Gv.lift _).bind fun y => Gv.pure
  | .augi i k o e, ρ => by
    unfold ex
    exact (Gv.lift _).bind fun x => (gv_ev hF hG k _).bind fun j => (Gv.lift _).bind fun old => (gv_ev hF hG e _).bind fun y => (Gv.lift _).bind fun a => (Gv.lift _).bind fun b => (Gv.lift _).bind fun z => (Gv.lift _).bind fun y => Gv.pure
  | .upd i e, ρ => by unfold ex; exact (Gv.lift _).bind fun x => (Gv.lift _).bind fun _ => (gv_ev hF hG e _).bind fun d => (Gv.lift _).bind fun y => Gv.pure
  | .popt p i, ρ => by unfold ex; exact (Gv.lift _).bind fun x => (Gv.lift _).bind fun y => (Gv.lift _).bind fun ρ' => Gv.pure
  | .ite t a b, ρ => by unfold ex; exact (gv_ev hF hG t _).bind fun x => (Gv.lift _).bind fun t' => Gv.ite (gv_exs a _) (gv_exs b _)
  | .whl t b, ρ => by unfold ex; exact Gv.whl (fun ρ => gv_step (fun ρ => (gv_ev hF hG t ρ).bind fun x => Gv.lift _) (fun ρ => gv_exs b ρ) _ _ ρ) _
  | .for_ p s b, ρ => by unfold ex; exact (gv_evS hF hG s _).bind fun xs => gv_forL (fun d ρ => (Gv.lift _).bind fun ρ => gv_exs b ρ) _ xs _
  | .ret e, ρ => by unfold ex; exact (gv_ev hF hG e _).bind fun d => Gv.pure
  | .brk, ρ => by unfold ex; exact Gv.pure
  | .bad, _ => by unfold ex; exact Gv.fail
theorem gv_exs : ∀ (s : Ss) (ρ : Env), Gv (exs optM C F G s ρ) (exs wM C F' G' s ρ)
  | .nil, ρ => by unfold exs; exact Gv.pure
  | .cons s r, ρ => by
    unfold exs
    exact (gv_ex s ρ).bind fun f => match f with
      | .nx ρ => gv_exs r ρ
      | .rt d => Gv.pure
      | .bk ρ => Gv.pure
end
theorem gv_run (n : Nat) (b : Ss) (args : List D) : Gv (run optM C F G n b args) (run wM C F' G' n b args) := by
  unfold run
  exact (gv_exs hF hG b _).bind fun f => match f with
    | .nx _ => Gv.pure
    | .rt d => Gv.pure
    | .bk _ => Gv.fail
end
end PV

/-! PV: how data lies in the abstract heap. -/
namespace PV
open PySem L2

def Le (H H' : Hp) : Prop := ∀ a o, H a = some o → H' a = some o
theorem Le.refl (H : Hp) : Le H H := fun _ _ h => h
theorem Le.trans {H H1 H2 : Hp} (a : Le H H1) (b : Le H1 H2) : Le H H2 := fun x o h => b x o (a x o h)
theorem Le.new {H : Hp} {p : Addr} {o : HO} (h : H p = none) : Le H (upd H p o) := Evl.Ex.new h
theorem Le.rd {H H' : Hp} {a : Addr} {u : HO} (e : Le H H') (h : Rd H a u) : Rd H' a u := Evl.ex_rd e h
theorem Le.sl {K : PySem.W.Frag} {H H' : Hp} {a : Addr} {xs : List V} (e : Le H H') (h : SqL K H a xs) : SqL K H' a xs := Evl.ex_l e h
theorem Le.st {K : PySem.W.Frag} {H H' : Hp} {a : Addr} {xs : List V} (e : Le H H') (h : SqT K H a xs) : SqT K H' a xs := Evl.ex_t e h
/-- the objects at O taken out -/
def hid (O : List Addr) (H : Hp) : Hp := fun a => if O.contains a then none else H a
theorem hid_le (O : List Addr) (H : Hp) : Le (hid O H) H := fun a o h => by
  unfold hid at h
  split at h
  · cases h
  · exact h
theorem hid_mono {O : List Addr} {H H' : Hp} (e : ∀ a o, a ∉ O → H a = some o → H' a = some o) : Le (hid O H) (hid O H') := fun a o h => by
  unfold hid at h ⊢
  split at h
  · cases h
  · rename_i hn
    rw [if_neg hn]
    exact e a o (fun hm => hn (by simpa using hm)) h
theorem hid_le_mono {O : List Addr} {H H' : Hp} (e : Le H H') : Le (hid O H) (hid O H') := hid_mono fun a o _ h => e a o h
theorem hid_sub {O O' : List Addr} {H : Hp} (s : ∀ a, a ∈ O' → a ∈ O) : Le (hid O H) (hid O' H) := fun a o h => by
  unfold hid at h ⊢
  split at h
  · cases h
  · rename_i hn
    rw [if_neg fun hm => hn (by simpa using s a (by simpa using hm))]
    exact h
theorem hid_out {O : List Addr} {H : Hp} {a : Addr} {o : HO} (h : hid O H a = some o) : a ∉ O := fun hm => by
  unfold hid at h
  rw [if_pos (by simpa using hm)] at h
  cases h
theorem hid_in {O : List Addr} {H : Hp} {a : Addr} {o : HO} (h : a ∉ O) (e : H a = some o) : hid O H a = some o := by
  unfold hid
  rw [if_neg fun hm => h (by simpa using hm)]
  exact e
theorem hid_nil (H : Hp) : hid [] H = H := by
  funext a
  unfold hid
  simp
/-- an object at O changes: nothing is seen of it -/
theorem hid_upd {O : List Addr} {H : Hp} {p : Addr} {o : HO} (h : p ∈ O) : hid O (upd H p o) = hid O H := by
  funext a
  unfold hid upd
  by_cases ha : O.contains a
  · rw [if_pos ha, if_pos ha]
  · rw [if_neg ha, if_neg ha, if_neg]
    intro e
    exact ha (by rw [e]; simpa using h)

/-- the fragment and the world (whose texts' hashes stand in the dicts) -/
structure Fw where
  f : PySem.W.Frag
  w : World
instance : Coe Fw PySem.W.Frag := ⟨Fw.f⟩
abbrev _root_.L2.Cx.fw (X : Cx) : Fw := ⟨X.K, X.w⟩

/-! ### dicts -/
mutual
/-- what a key is, up to == -/
def nkOf : D → Option NestedKey
  | .none => some .none
  | .bool b => some (.num (if b = true then 1 else 0))
  | .int i => some (.num i)
  | .str x => some (.text x)
  | .tuple xs => (nkOfs xs).map .tup
  | _ => none
def nkOfs : List D → Option (List NestedKey)
  | [] => some []
  | x :: xs => (nkOf x).bind fun k => (nkOfs xs).map (k :: ·)
end
def nkTup : NestedKey → Bool
  | .tup _ => true
  | _ => false
/-- the dict's own object -/
def dcO (a : Addr) (o : Obj) : HO := .ext fun h => h.get? a = some o
def kD : Key → D
  | .inl i => .int i
  | .inr x => .str x
abbrev XR : List (NestedKey × Addr × V) → List (NestedKey × Addr × Value) → Prop := Paired fun p q => p.1 = q.1 ∧ p.2.1 = q.2.1 ∧ RelV p.2.2 q.2.2
/-- the object o at a is a dict: its keys as data, as values, its values -/
inductive DOk (w : World) (a : Addr) (o : Obj) : List D → List V → List V → Prop
  | leaf {kvV : List (Key × V)} {us : List (Key × Value)} : KV kvV us → us.length ≤ sizeLine → (a == sysModules) = false → (∀ (P : Program) (h : Heap), h.get? a = some o → h.DictOf (mixKind P w) a us) →
      DOk w a o (kvV.map fun p => kD p.1) (kvV.map fun p => kV p.1) (kvV.map (·.2))
  | tup {xV : List (NestedKey × Addr × V)} {xs : List (NestedKey × Addr × Value)} {kds : List D} : XR xV xs → xs.length ≤ sizeLine → (a == sysModules) = false → kds.map nkOf = xV.map (fun x => some x.1) → (∀ x ∈ xV, nkTup x.1 = true ∧ x.1.depth ≤ 8) →
      (∀ (P : Program) (h : Heap), h.get? a = some o → (∀ x ∈ xs, (nestedKind P w).is h x.1 x.2.1) → h.DictOfH (nestedKind P w) a xs) → DOk w a o kds (xV.map fun x => V.ref x.2.1) (xV.map (·.2.2))

mutual
inductive Rp (K : Fw) (H : Hp) : V → D → Prop
  | non : Rp K H .non .none
  | bl (b : Bool) : Rp K H (.bl b) (.bool b)
  | int (i : Int) : Rp K H (.int i) (.int i)
  | str (x : Str) : Rp K H (.str x) (.str x)
  | lst {a : Addr} {xs : List V} {ds : List D} : H a = some (.lst xs) → Rps K H xs ds → Rp K H (.ref a) (.list ds)
  | tup {a : Addr} {xs : List V} {ds : List D} : SqT K H a xs → Rps K H xs ds → Rp K H (.ref a) (.tuple ds)
  | dct {a : Addr} {o : Obj} {kvs : List (D × D)} {kv vv : List V} : H a = some (dcO a o) → DOk K.w a o (kvs.map (·.1)) kv vv → Rps K H kv (kvs.map (·.1)) → Rps K H vv (kvs.map (·.2)) → Rp K H (.ref a) (.dict kvs)
inductive Rps (K : Fw) (H : Hp) : List V → List D → Prop
  | nil : Rps K H [] []
  | cons {v : V} {vs : List V} {d : D} {ds : List D} : Rp K H v d → Rps K H vs ds → Rps K H (v :: vs) (d :: ds)
end
section
variable {K : Fw} {H H' : Hp}
mutual
theorem Rp.mono (e : Le H H') : ∀ {v : V} {d : D}, Rp K H v d → Rp K H' v d
  | _, _, .non => .non
  | _, _, .bl b => .bl b
  | _, _, .int i => .int i
  | _, _, .str x => .str x
  | _, _, .lst hs ha => .lst (e _ _ hs) (Rps.mono e ha)
  | _, _, .tup hs ha => .tup (e.st hs) (Rps.mono e ha)
  | _, _, .dct hs h1 h2 h3 => .dct (e _ _ hs) h1 (Rps.mono e h2) (Rps.mono e h3)
theorem Rps.mono (e : Le H H') : ∀ {vs : List V} {ds : List D}, Rps K H vs ds → Rps K H' vs ds
  | _, _, .nil => .nil
  | _, _, .cons h1 h2 => .cons (Rp.mono e h1) (Rps.mono e h2)
end
theorem Rps.length : ∀ {vs : List V} {ds : List D}, Rps K H vs ds → vs.length = ds.length
  | _, _, .nil => rfl
  | _, _, .cons _ t => by simp [Rps.length t]
theorem Rps.append : ∀ {vs ws : List V} {ds es : List D}, Rps K H vs ds → Rps K H ws es → Rps K H (vs ++ ws) (ds ++ es)
  | _, _, _, _, .nil, h => h
  | _, _, _, _, .cons a t, h => .cons a (Rps.append t h)
theorem Rps.get : ∀ {vs : List V} {ds : List D} {i : Nat} {v : V}, Rps K H vs ds → vs[i]? = some v → ∃ d, ds[i]? = some d ∧ Rp K H v d
  | _, _, _, _, .nil, e => by simp at e
  | _, _, 0, _, .cons r _, e => by simp at e; subst e; exact ⟨_, rfl, r⟩
  | _, _, i + 1, v, .cons _ t, e => by
    obtain ⟨d, h1, h2⟩ := Rps.get (i := i) (v := v) t (by simpa using e)
    exact ⟨d, by simpa using h1, h2⟩
theorem Rps.getD : ∀ {vs : List V} {ds : List D} {i : Nat} {d : D}, Rps K H vs ds → ds[i]? = some d → ∃ v, vs[i]? = some v ∧ Rp K H v d
  | _, _, _, _, .nil, e => by simp at e
  | _, _, 0, _, .cons r _, e => by simp at e; subst e; exact ⟨_, rfl, r⟩
  | _, _, i + 1, d, .cons _ t, e => by
    obtain ⟨v, h1, h2⟩ := Rps.getD (i := i) (d := d) t (by simpa using e)
    exact ⟨v, by simpa using h1, h2⟩
theorem Rps.set {v : V} {d : D} (r : Rp K H v d) : ∀ {vs : List V} {ds : List D} (i : Nat), Rps K H vs ds → Rps K H (vs.set i v) (ds.set i d)
  | _, _, _, .nil => .nil
  | _, _, 0, .cons _ t => .cons r t
  | _, _, i + 1, .cons q t => .cons q (Rps.set r i t)
theorem Rps.take : ∀ {vs : List V} {ds : List D} (n : Nat), Rps K H vs ds → Rps K H (vs.take n) (ds.take n)
  | _, _, 0, _ => by simp; exact .nil
  | _, _, _ + 1, .nil => .nil
  | _, _, n + 1, .cons r t => .cons r (Rps.take n t)
theorem Rps.drop : ∀ {vs : List V} {ds : List D} (n : Nat), Rps K H vs ds → Rps K H (vs.drop n) (ds.drop n)
  | _, _, 0, r => r
  | _, _, _ + 1, .nil => .nil
  | _, _, n + 1, .cons _ t => Rps.drop n t
theorem Rps.dropLast {vs : List V} {ds : List D} (h : Rps K H vs ds) : Rps K H vs.dropLast ds.dropLast := by
  rw [List.dropLast_eq_take, List.dropLast_eq_take, h.length]
  exact h.take _
theorem Rps.reverse : ∀ {vs : List V} {ds : List D}, Rps K H vs ds → Rps K H vs.reverse ds.reverse
  | _, _, .nil => .nil
  | _, _, .cons r t => by
    rw [List.reverse_cons, List.reverse_cons]
    exact (Rps.reverse t).append (.cons r .nil)
theorem Rps.flat {vs : List V} {ds : List D} (h : Rps K H vs ds) : ∀ n : Nat, Rps K H (List.replicate n vs).flatten (List.replicate n ds).flatten
  | 0 => .nil
  | n + 1 => by
    rw [List.replicate_succ, List.replicate_succ, List.flatten_cons, List.flatten_cons]
    exact h.append (Rps.flat h n)
theorem Rps.cut {vs : List V} {ds : List D} (h : Rps K H vs ds) (lo hi : Option Int) : Rps K H (cutV vs lo hi) (PV.cut ds lo hi) := by
  unfold cutV PV.cut
  rw [h.length]
  exact (h.drop _).take _
theorem Rps.nil_iff {vs : List V} {ds : List D} (h : Rps K H vs ds) : vs = [] ↔ ds = [] := by
  constructor
  · intro e
    subst e
    cases h
    rfl
  · intro e
    subst e
    cases h
    rfl
theorem Rps.ints : ∀ {vs : List V} {ds : List D} {ns : List Int}, Rps K H vs ds → ints? ds = some ns → vs = ns.map V.int
  | _, _, ns, .nil, e => by
    have : ([] : List Int) = ns := Option.some.inj e
    subst this
    rfl
  | _, d :: ds, ns, .cons r t, e => by
    cases d with
    | int i =>
      unfold ints? at e
      cases hq : ints? ds with
      | none => rw [hq] at e; cases e
      | some ms =>
        rw [hq] at e
        have : i :: ms = ns := Option.some.inj e
        subst this
        cases r
        rw [Rps.ints t hq]
        rfl
    | _ => cases e
theorem Rps.bools : ∀ {vs : List V} {ds : List D} {ns : List Bool}, Rps K H vs ds → bools? ds = some ns → vs = ns.map V.bl
  | _, _, ns, .nil, e => by
    have : ([] : List Bool) = ns := Option.some.inj e
    subst this
    rfl
  | _, d :: ds, ns, .cons r t, e => by
    cases d with
    | bool i =>
      unfold bools? at e
      cases hq : bools? ds with
      | none => rw [hq] at e; cases e
      | some ms =>
        rw [hq] at e
        have : i :: ms = ns := Option.some.inj e
        subst this
        cases r
        rw [Rps.bools t hq]
        rfl
    | _ => cases e
end
section
variable {X : Cx} {pins : List (Addr × Obj)} {σ : L2.St} {H : Hp} {s : Shared}
theorem readsAll_of {h : Heap} : ∀ {us : List Value} {ds : List D}, us.length = ds.length → (∀ (i : Nat) (u : Value) (d : D), us[i]? = some u → ds[i]? = some d → ∃ as, Reads h u d as) → ∃ as, ReadsAll h us ds as
  | [], [], _, _ => ⟨_, .nil⟩
  | [], _ :: _, e, _ => by cases e
  | _ :: _, [], e, _ => by cases e
  | u :: us, d :: ds, e, f => by
    obtain ⟨as, h1⟩ := f 0 u d rfl rfl
    obtain ⟨bs, h2⟩ := readsAll_of (h := h) (us := us) (ds := ds) (by simpa using e) fun i u d a b => f (i + 1) u d (by simpa using a) (by simpa using b)
    exact ⟨_, .cons h1 h2⟩
theorem pairs_keys {P : Program} {w : World} {h : Heap} {es : List DictEntry} {kvV : List (Key × V)} {us : List (Key × Value)} (r : KV kvV us) (p : PySem.Pairs (mixKind P w) es us) : (∃ as, ReadsAll h (es.map (·.key)) (kvV.map fun p => kD p.1) as) ∧ Vals (kvV.map (·.2)) (es.map (·.val)) := by
  induction p generalizing kvV with
  | nil => cases r; exact ⟨⟨_, .nil⟩, .nil⟩
  | @cons e kv es us h1 h2 _ ih =>
    cases r with
    | @cons q _ ps _ hq t =>
      obtain ⟨⟨as, a⟩, b⟩ := ih t
      have hk : ∃ as, Reads h e.key (kD q.1) as := by
        rw [hq.1]
        rcases keyIs_shape (show keyIs kv.1 e.key = true from h1) with ⟨i, t, e1, e2⟩ | ⟨x, t, e1, e2⟩
        · rw [e1, e2]; exact ⟨_, .int i t⟩
        · rw [e1, e2]; exact ⟨_, .str x t⟩
      obtain ⟨bs, c⟩ := hk
      exact ⟨⟨_, .cons c a⟩, .cons (show RelV q.2 e.val by rw [h2]; exact hq.2) b⟩
theorem entries_keys {P : Program} {w : World} {xV : List (NestedKey × Addr × V)} {xs : List (NestedKey × Addr × Value)} (r : XR xV xs) : Vals (xV.map fun x => V.ref x.2.1) ((xs.map (entryOfKey (nestedKind P w))).map (·.key)) ∧ Vals (xV.map (·.2.2)) ((xs.map (entryOfKey (nestedKind P w))).map (·.val)) := by
  induction r with
  | nil => exact ⟨.nil, .nil⟩
  | @cons p q ps qs h t ih => exact ⟨.cons (by show Value.ref q.2.1 = .ref p.2.1; rw [h.2.1]) ih.1, .cons h.2.2 ih.2⟩
mutual
/-- a key's value in the heap -/
theorem reads_key {h : Heap} : ∀ (d : D) (k : NestedKey) (u : Value) (as : List Addr), Reads h u d as → nkOf d = some k → NestedIs h k u
  | .none, k, u, as, r, e => by cases r; cases e; exact .none
  | .bool b, k, u, as, r, e => by cases r; cases e; exact .bool rfl
  | .int i, k, u, as, r, e => by cases r; cases e; exact .int _ _
  | .str x, k, u, as, r, e => by cases r; cases e; exact .text _ _
  | .list xs, k, u, as, r, e => by simp [nkOf] at e
  | .dict xs, k, u, as, r, e => by simp [nkOf] at e
  | .tuple xs, k, u, as, r, e => by
    unfold nkOf at e
    cases q : nkOfs xs with
    | none => rw [q] at e; cases e
    | some ks =>
      rw [q] at e
      cases e
      cases r with | tuple h1 h2 h3 h4 => exact .tup h1 h2 h3 (reads_keys xs ks _ _ h4 q)
theorem reads_keys {h : Heap} : ∀ (ds : List D) (ks : List NestedKey) (us : List Value) (as : List Addr), ReadsAll h us ds as → nkOfs ds = some ks → NestedAll h ks us
  | [], ks, us, as, r, e => by cases r; cases e; exact .nil
  | d :: ds, ks, us, as, r, e => by
    unfold nkOfs at e
    cases q : nkOf d with
    | none => rw [q] at e; cases e
    | some k =>
      cases q2 : nkOfs ds with
      | none => rw [q, q2] at e; cases e
      | some ks2 =>
        rw [q, q2] at e
        cases e
        cases r with | cons h1 h2 => exact .cons (reads_key d k _ _ h1 q) (reads_keys ds ks2 _ _ h2 q2)
end
/-- the keys of a dict of tuples stand in the heap -/
theorem keys_is {P : Program} {w : World} {h : Heap} {xV : List (NestedKey × Addr × V)} {xs : List (NestedKey × Addr × Value)} : ∀ {kds : List D} {as : List Addr}, XR xV xs → kds.map nkOf = xV.map (fun x => some x.1) → (∀ x ∈ xV, nkTup x.1 = true ∧ x.1.depth ≤ 8) → ReadsAll h (xV.map fun x => Value.ref x.2.1) kds as → ∀ x ∈ xs, (nestedKind P w).is h x.1 x.2.1 := by
  intro kds as r
  induction r generalizing kds as with
  | nil => exact fun _ _ _ x hx => by cases hx
  | @cons p q ps qs hq t ih =>
    intro e hd ra x hx
    cases kds with
    | nil => cases e
    | cons d ds =>
      rw [List.map_cons, List.map_cons] at e
      injection e with e1 e2
      cases ra with
      | cons h1 h2 =>
        rcases List.mem_cons.mp hx with rfl | hx
        · refine ⟨?_, ?_⟩
          · rw [← hq.1, ← hq.2.1]
            exact reads_key d p.1 _ _ h1 e1
          · rw [← hq.1]; exact (hd p (by simp)).2
        · exact ih e2 (fun x hx => hd x (by simp [hx])) h2 x hx
theorem refs_vals : ∀ {xV : List (NestedKey × Addr × V)}, Vals (xV.map fun x => V.ref x.2.1) (xV.map fun x => Value.ref x.2.1)
  | [] => .nil
  | _ :: _ => .cons rfl refs_vals
mutual
theorem Rp.reads (I : Inv X pins σ H s) : ∀ {v : V} {d : D}, Rp X.fw H v d → ∀ {u : Value}, RelV v u → ∃ as, Reads s.heap u d as
  | _, _, .non, u, r => by cases (show u = _ from r); exact ⟨_, .none⟩
  | _, _, .bl b, u, r => by cases (show u = _ from r); exact ⟨_, .bool b⟩
  | _, _, .int i, u, r => by obtain ⟨t, rfl⟩ := r; exact ⟨_, .int i t⟩
  | _, _, .str x, u, r => by obtain ⟨t, rfl⟩ := r; exact ⟨_, .str x t⟩
  | _, _, .lst hs ha, u, r => by
    cases (show u = _ from r)
    obtain ⟨its, rv, pl, _⟩ := I.list (.inl (.inl hs))
    obtain ⟨as, ra⟩ := Rps.readsAll I ha rv
    obtain ⟨o, n, h1, h2, h3, h4⟩ := pl
    exact ⟨_, .list h1 h2 h4 (by simpa using ra)⟩
  | _, _, .tup hs ha, u, r => by
    cases (show u = _ from r)
    obtain ⟨its, rv, pl, _⟩ := I.tuple (show SqT X.K H _ _ from hs)
    obtain ⟨as, ra⟩ := Rps.readsAll I ha rv
    obtain ⟨o, h1, h2, n, h3⟩ := pl
    exact ⟨_, .tuple h1 h2 h3 (by simpa using ra)⟩
  | _, _, .dct (a := a) (o := o) (kvs := kvs) (kv := kv) (vv := vv) hs ok h2 h3, u, r => by
    cases (show u = _ from r)
    have ho : s.heap.get? a = some o := (I.hok a _ hs).1
    have hr3 : ∀ {us : List Value}, Vals vv us → ∃ as, ReadsAll s.heap us (kvs.map (·.2)) as := fun r => Rps.readsAll I h3 r
    have hr2 : ∀ {us : List Value}, Vals kv us → ∃ as, ReadsAll s.heap us (kvs.map (·.1)) as := fun r => Rps.readsAll I h2 r
    generalize hkd : kvs.map (·.1) = kds at ok hr2
    cases ok with
    | leaf rel hl low hd =>
      obtain ⟨o', es, ep, e1, e2, e3, e4, e5, e6⟩ := hd X.prog s.heap ho
      obtain ⟨⟨as, ra⟩, rv⟩ := pairs_keys (h := s.heap) rel e5
      obtain ⟨bs, rb⟩ := hr3 rv
      rw [← hkd] at ra
      exact ⟨_, .dict e1 e2.1 e3 ra rb⟩
    | tup rel hl low hk hdp hd =>
      obtain ⟨as0, ra0⟩ := hr2 refs_vals
      obtain ⟨o', es, ep, e1, e2, e3, e4, e5, e6⟩ := hd X.prog s.heap ho (keys_is rel hk hdp ra0)
      obtain ⟨r1, r2⟩ := entries_keys (P := X.prog) (w := X.w) rel
      obtain ⟨as, ra⟩ := hr2 r1
      obtain ⟨bs, rb⟩ := hr3 r2
      rw [← hkd] at ra
      exact ⟨_, .dict e1 e2.1 e3 (by rw [e4]; exact ra) (by rw [e4]; exact rb)⟩
theorem Rps.readsAll (I : Inv X pins σ H s) : ∀ {vs : List V} {ds : List D}, Rps X.fw H vs ds → ∀ {us : List Value}, Vals vs us → ∃ as, ReadsAll s.heap us ds as
  | _, _, .nil, _, .nil => ⟨_, .nil⟩
  | _, _, .cons r t, _, .cons q u => by
    obtain ⟨as, h1⟩ := Rp.reads I r q
    obtain ⟨bs, h2⟩ := Rps.readsAll I t u
    exact ⟨_, .cons h1 h2⟩
end
theorem Rps.reads (I : Inv X pins σ H s) {vs : List V} {ds : List D} {us : List Value} (h : Rps X.fw H vs ds) (r : Vals vs us) : ∃ as, ReadsAll s.heap us ds as := Rps.readsAll I h r
end

/-! ### what a def that draws has beside: the dict w (the place, its list, the draws) -/
abbrev Wp := Option (Addr × Addr × List Int)
def WOk : Wp → Hp → Prop
  | none, _ => True
  | some (pw, pd, ds), H => ∃ j : Int, 0 ≤ j ∧ H pw = some (.dK [(.inr "draws", .ref pd), (.inr "at", .int j)]) ∧ H pd = some (.lst (ds.map .int))
def Wp.is (w : Wp) (a : Addr) : Prop := ∃ t, w = some t ∧ a = t.1
/-- all but w's dict stays -/
def Ext (w : Wp) (H H' : Hp) : Prop := (∀ a o, ¬ w.is a → H a = some o → H' a = some o) ∧ WOk w H'
theorem Ext.refl {w : Wp} {H : Hp} (h : WOk w H) : Ext w H H := ⟨fun _ _ _ e => e, h⟩
theorem Ext.trans {w : Wp} {H H1 H2 : Hp} (a : Ext w H H1) (b : Ext w H1 H2) : Ext w H H2 := ⟨fun x o n e => b.1 x o n (a.1 x o n e), b.2⟩
theorem WOk.le {w : Wp} {H H' : Hp} (h : WOk w H) (e : Le H H') : WOk w H' := by
  cases w with
  | none => trivial
  | some t =>
    obtain ⟨pw, pd, ds⟩ := t
    obtain ⟨j, h0, h1, h2⟩ := h
    exact ⟨j, h0, e _ _ h1, e _ _ h2⟩
theorem Ext.of_le {w : Wp} {H H' : Hp} (h : WOk w H) (e : Le H H') : Ext w H H' := ⟨fun a o _ q => e a o q, h.le e⟩
theorem Ext.new {w : Wp} {H : Hp} {p : Addr} {o : HO} (h : WOk w H) (n : H p = none) : Ext w H (upd H p o) := Ext.of_le h (Le.new n)
theorem Ext.hid {w : Wp} {H H' : Hp} {O : List Addr} (e : Ext w H H') (hw : ∀ a, w.is a → a ∈ O) : Le (hid O H) (PV.hid O H') :=
  hid_mono fun a o n q => e.1 a o (fun z => n (hw a z)) q

/-- what stands at p, a list or dict of the datum d -/
inductive Ob (K : Fw) (H : Hp) (p : Addr) : HO → D → Prop
  | lst {vs : List V} {ds : List D} : Rps K H vs ds → Ob K H p (.lst vs) (.list ds)
  | dct {o : Obj} {kvs : List (D × D)} {kv vv : List V} : DOk K.w p o (kvs.map (·.1)) kv vv → Rps K H kv (kvs.map (·.1)) → Rps K H vv (kvs.map (·.2)) → Ob K H p (dcO p o) (.dict kvs)
theorem Ob.mono {K : Fw} {H H' : Hp} (e : Le H H') {p : Addr} {u : HO} {d : D} : Ob K H p u d → Ob K H' p u d
  | .lst r => .lst (r.mono e)
  | .dct h1 h2 h3 => .dct h1 (h2.mono e) (h3.mono e)
theorem Ob.ndK {K : Fw} {H : Hp} {p : Addr} {u : HO} {d : D} (h : Ob K H p u d) : ∀ kvs, u ≠ .dK kvs := by
  cases h with
  | lst _ => exact fun _ z => by cases z
  | dct _ _ _ => exact fun _ z => by unfold dcO at z; cases z
theorem Ob.ntup {K : Fw} {H : Hp} {p : Addr} {u : HO} {d : D} (h : Ob K H p u d) : ∀ xs, u ≠ .tup xs := by
  cases h with
  | lst _ => exact fun _ z => by cases z
  | dct _ _ _ => exact fun _ z => by unfold dcO at z; cases z
theorem Ob.rp {K : Fw} {H : Hp} {p : Addr} {u : HO} {d : D} (h : Ob K H p u d) (hp : H p = some u) : Rp K H (.ref p) d := by
  cases h with
  | lst r => exact .lst hp r
  | dct h1 h2 h3 => exact .dct hp h1 h2 h3
/-- a list or dict that one slot alone holds -/
def Own (K : Fw) (O : List Addr) (H : Hp) (p : Addr) (d : D) : Prop :=
  p ∈ O ∧ ∃ u, H p = some u ∧ Ob K (hid O H) p u d
def SlotOk (K : Fw) (O : List Addr) (H : Hp) : Slot → Option V → Prop
  | .no, _ => True
  | .sh d, o => ∃ v, o = some v ∧ Rp K (hid O H) v d
  | .ow d, o => ∃ p, o = some (.ref p) ∧ Own K O H p d
  | .fx v, o => o = some v
/-- the slots of a def (their values at σ) are the environment; H0: the heap at the entry, O0: what the callers hold alone; iw: the name w -/
structure Sim (K : Fw) (w : Wp) (iw : Nat) (O0 : List Addr) (H0 : Hp) (O : List Addr) (H : Hp) (σ : L2.St) (ρ : Env) : Prop where
  len : σ.length = ρ.length
  slot : ∀ (i : Nat) (s : Slot), ρ[i]? = some s → SlotOk K O H s (σ[i]?.join)
  inj : ∀ (i j : Nat) (d d' : D) (p : Addr), ρ[i]? = some (.ow d) → ρ[j]? = some (.ow d') → σ[i]? = some (some (.ref p)) → σ[j]? = some (some (.ref p)) → i = j
  dom : ∀ p ∈ O, H p ≠ none
  dom0 : ∀ p ∈ O0, H0 p ≠ none
  sub : ∀ p ∈ O0, p ∈ O
  fresh : ∀ p ∈ O, p ∈ O0 ∨ H0 p = none
  ent : Ext w H0 H
  w0 : WOk w H0
  wO : ∀ a, w.is a → a ∈ O0
  wS : ∀ t, w = some t → σ[iw]? = some (some (.ref t.1)) ∧ ρ[iw]? = some .no
  own : ∀ (i : Nat) (d : D) (p : Addr), ρ[i]? = some (.ow d) → σ[i]? = some (some (.ref p)) → H0 p = none

section
variable {K : Fw} {w : Wp} {iw : Nat} {O0 O : List Addr} {H0 H H' : Hp} {σ : L2.St} {ρ : Env}
theorem Sim.wok (S : Sim K w iw O0 H0 O H σ ρ) : WOk w H := S.ent.2
theorem Sim.wo (S : Sim K w iw O0 H0 O H σ ρ) : ∀ a, w.is a → a ∈ O := fun a h => S.sub a (S.wO a h)
/-- the heap goes on -/
theorem Sim.ext (S : Sim K w iw O0 H0 O H σ ρ) (e : Ext w H H') : Sim K w iw O0 H0 O H' σ ρ where
  len := S.len
  slot := fun i s h => by
    have q := S.slot i s h
    have le := e.hid S.wo
    cases s with
    | no => trivial
    | fx v => exact q
    | sh d =>
      obtain ⟨v, e1, r⟩ := q
      exact ⟨v, e1, r.mono le⟩
    | ow d =>
      obtain ⟨p, e1, hp, u, hH, r⟩ := q
      refine ⟨p, e1, hp, u, e.1 p _ (fun hw => ?_) hH, r.mono le⟩
      obtain ⟨t, ht, rfl⟩ := hw
      have wk := S.wok
      rw [ht] at wk
      obtain ⟨j, _, h1, _⟩ := wk
      rw [hH] at h1
      exact r.ndK _ (Option.some.inj h1)
  inj := S.inj
  dom := fun p hp hn => by
    cases q : H p with
    | none => exact S.dom p hp q
    | some o =>
      by_cases hw : w.is p
      · obtain ⟨t, ht, rfl⟩ := hw
        have wk := e.2
        rw [ht] at wk
        obtain ⟨j, _, h1, _⟩ := wk
        rw [h1] at hn
        cases hn
      · rw [e.1 p o hw q] at hn
        cases hn
  dom0 := S.dom0
  sub := S.sub
  fresh := S.fresh
  ent := S.ent.trans e
  w0 := S.w0
  wO := S.wO
  wS := S.wS
  own := S.own
theorem getV_sh {i : Nat} {d : D} (h : getV ρ i = some d) : ρ[i]? = some (.sh d) ∨ ρ[i]? = some (.ow d) := by
  unfold getV at h
  cases e : ρ[i]? with
  | none => rw [e] at h; cases h
  | some s =>
    rw [e] at h
    cases s with
    | no => cases h
    | fx _ => cases h
    | sh d' => have : d' = d := Option.some.inj h; subst this; exact .inl rfl
    | ow d' => have : d' = d := Option.some.inj h; subst this; exact .inr rfl
theorem getO_ow {i : Nat} {d : D} (h : getO ρ i = some d) : ρ[i]? = some (.ow d) := by
  unfold getO at h
  cases e : ρ[i]? with
  | none => rw [e] at h; cases h
  | some s =>
    rw [e] at h
    cases s with
    | no => cases h
    | fx _ => cases h
    | sh d' => cases h
    | ow d' => have : d' = d := Option.some.inj h; subst this; rfl
theorem join_some {α : Type} {o : Option (Option α)} {a : α} (h : o.join = some a) : o = some (some a) := by
  cases o with
  | none => cases h
  | some x => exact congrArg some h
/-- a value that is only looked at: it avoids what is held alone, or is such a thing itself -/
def Br (K : Fw) (O : List Addr) (H : Hp) (v : V) (d : D) : Prop := Rp K (hid O H) v d ∨ ∃ p, v = .ref p ∧ Own K O H p d
theorem Own.rp {p : Addr} {d : D} (h : Own K O H p d) : Rp K H (.ref p) d := by
  obtain ⟨hp, u, hH, r⟩ := h
  exact (r.mono (hid_le O H)).rp hH
theorem Br.rp {v : V} {d : D} (h : Br K O H v d) : Rp K H v d := by
  rcases h with h | ⟨p, rfl, h⟩
  · exact h.mono (hid_le O H)
  · exact h.rp
/-- its items avoid what is held alone -/
theorem Br.items {v : V} {d : D} {ds : List D} (h : Br K O H v d) (e : items d = some ds) : ∃ a vs, v = .ref a ∧ Rps K (hid O H) vs ds ∧ ((d = .list ds ∧ H a = some (.lst vs)) ∨ (d = .tuple ds ∧ SqT K H a vs)) := by
  rcases h with h | ⟨p, rfl, hp, u, hH, r⟩
  · cases h with
    | lst hs ha =>
      have : _ = ds := Option.some.inj e
      subst this
      exact ⟨_, _, rfl, ha, .inl ⟨rfl, hid_le O H _ _ hs⟩⟩
    | tup hs ha =>
      have : _ = ds := Option.some.inj e
      subst this
      exact ⟨_, _, rfl, ha, .inr ⟨rfl, (hid_le O H).st hs⟩⟩
    | _ => cases e
  · cases r with
    | @lst vs es r =>
      have : es = ds := Option.some.inj e
      subst this
      exact ⟨p, vs, rfl, r, .inl ⟨rfl, hH⟩⟩
    | dct _ _ _ => cases e
theorem Br.ext {v : V} {d : D} (h : Br K O H v d) (e : Ext w H H') (hw : ∀ a, w.is a → a ∈ O) (wk : WOk w H) : Br K O H' v d := by
  rcases h with h | ⟨p, rfl, hp, u, hH, r⟩
  · exact .inl (h.mono (e.hid hw))
  · refine .inr ⟨p, rfl, hp, u, e.1 p _ (fun z => ?_) hH, r.mono (e.hid hw)⟩
    obtain ⟨t, ht, rfl⟩ := z
    rw [ht] at wk
    obtain ⟨j, _, h1, _⟩ := wk
    rw [hH] at h1
    exact r.ndK _ (Option.some.inj h1)
/-- a name's value -/
theorem Sim.var (S : Sim K w iw O0 H0 O H σ ρ) {i : Nat} {d : D} (h : getV ρ i = some d) : ∃ v, σ[i]? = some (some v) ∧ Br K O H v d ∧ (getO ρ i = none → Rp K (hid O H) v d) := by
  rcases getV_sh h with e | e
  · obtain ⟨v, e1, r⟩ := S.slot i _ e
    exact ⟨v, join_some e1, .inl r, fun _ => r⟩
  · obtain ⟨p, e1, r⟩ := S.slot i _ e
    refine ⟨.ref p, join_some e1, .inr ⟨p, rfl, r⟩, fun z => ?_⟩
    unfold getO at z
    rw [e] at z
    cases z
end
end PV

set_option maxHeartbeats 4000000
/-! PV: dicts: keys, look-ups, what is stored. -/
namespace PV
open PySem L2 PyProof.Rows

/-! ### keys -/
theorem scal_kD {d : D} (h : scalK d = true) : ∃ k, d = kD k := by
  cases d <;> simp [scalK] at h
  · exact ⟨.inl _, rfl⟩
  · exact ⟨.inr _, rfl⟩
theorem kD_scal (k : Key) : scalK (kD k) = true := by cases k <;> rfl
theorem kD_ntup (k : Key) : isTup (kD k) = false := by cases k <;> rfl
theorem kD_eqv (a b : Key) : PyData.eqv (kD a) (kD b) = decide (a = b) := by
  cases a with
  | inl i =>
    cases b with
    | inl j => simp only [kD, PyData.eqv]; rw [Bool.eq_iff_iff]; simp
    | inr y => simp [kD, PyData.eqv]
  | inr x =>
    cases b with
    | inl j => simp [kD, PyData.eqv]
    | inr y => simp only [kD, PyData.eqv]; rw [Bool.eq_iff_iff]; simp
theorem kD_inj {a b : Key} (e : kD a = kD b) : a = b := by
  have h := kD_eqv a b
  rw [e, kD_eqv] at h
  simpa using h
theorem rp_kD {K : Fw} {H : Hp} {v : V} {k : Key} (h : Rp K H v (kD k)) : v = kV k := by
  cases k <;> (cases h; rfl)
theorem kD_rp (K : Fw) (H : Hp) (k : Key) : Rp K H (kV k) (kD k) := by
  cases k with
  | inl i => exact .int i
  | inr x => exact .str x
mutual
theorem key_eqv : ∀ (a b : D) (x y : NestedKey), nkOf a = some x → nkOf b = some y → PyData.eqv a b = NestedKey.beq x y
  | .none, b, x, y, h, h2 => by
    cases h
    cases b <;> simp only [nkOf] at h2 <;> first
      | (cases h2; rfl)
      | (cases h2; done)
      | (rename_i xs; cases q : nkOfs xs with
         | none => rw [q] at h2; cases h2
         | some ks => rw [q] at h2; cases h2; simp [PyData.eqv, NestedKey.beq])
  | .bool i, b, x, y, h, h2 => by
    cases h
    cases b <;> simp only [nkOf] at h2 <;> first
      | (cases h2; simp only [PyData.eqv, NestedKey.beq]; done)
      | (cases h2; simp only [PyData.eqv, NestedKey.beq]; rw [Bool.eq_iff_iff]; simp; done)
      | (cases h2; rename_i j; cases i <;> cases j <;> rfl)
      | (cases h2; done)
      | (rename_i xs; cases q : nkOfs xs with
         | none => rw [q] at h2; cases h2
         | some ks => rw [q] at h2; cases h2; simp [PyData.eqv, NestedKey.beq])
  | .int i, b, x, y, h, h2 => by
    cases h
    cases b <;> simp only [nkOf] at h2 <;> first
      | (cases h2; simp only [PyData.eqv, NestedKey.beq]; done)
      | (cases h2; simp only [PyData.eqv, NestedKey.beq]; rw [Bool.eq_iff_iff]; simp; done)
      | (cases h2; done)
      | (rename_i xs; cases q : nkOfs xs with
         | none => rw [q] at h2; cases h2
         | some ks => rw [q] at h2; cases h2; simp [PyData.eqv, NestedKey.beq])
  | .str i, b, x, y, h, h2 => by
    cases h
    cases b <;> simp only [nkOf] at h2 <;> first
      | (cases h2; simp only [PyData.eqv, NestedKey.beq]; done)
      | (cases h2; simp only [PyData.eqv, NestedKey.beq]; rw [Bool.eq_iff_iff]; simp; done)
      | (cases h2; done)
      | (rename_i xs; cases q : nkOfs xs with
         | none => rw [q] at h2; cases h2
         | some ks => rw [q] at h2; cases h2; simp [PyData.eqv, NestedKey.beq])
  | .tuple xs, b, x, y, h, h2 => by
    simp only [nkOf] at h
    cases q : nkOfs xs with
    | none => rw [q] at h; cases h
    | some ks =>
      rw [q] at h
      cases h
      cases b <;> simp only [nkOf] at h2 <;> first
        | (cases h2; simp only [PyData.eqv, NestedKey.beq]; done)
        | (cases h2; done)
        | (rename_i ys; cases q2 : nkOfs ys with
           | none => rw [q2] at h2; cases h2
           | some js => rw [q2] at h2; cases h2; simp only [PyData.eqv, NestedKey.beq]; exact keys_eqv xs ys ks js q q2)
  | .list xs, b, x, y, h, h2 => by simp [nkOf] at h
  | .dict xs, b, x, y, h, h2 => by simp [nkOf] at h
theorem keys_eqv : ∀ (as bs : List D) (xs ys : List NestedKey), nkOfs as = some xs → nkOfs bs = some ys → PyData.eqvAll as bs = NestedKey.beqAll xs ys
  | [], bs, xs, ys, h, h2 => by
    cases h
    cases bs with
    | nil => cases h2; rfl
    | cons b bs =>
      simp only [nkOfs] at h2
      cases q : nkOf b with
      | none => rw [q] at h2; cases h2
      | some y => cases q2 : nkOfs bs with
        | none => rw [q, q2] at h2; cases h2
        | some zs => rw [q, q2] at h2; cases h2; rfl
  | a :: as, bs, xs, ys, h, h2 => by
    simp only [nkOfs] at h
    cases q : nkOf a with
    | none => rw [q] at h; cases h
    | some x => cases q2 : nkOfs as with
      | none => rw [q, q2] at h; cases h
      | some zs =>
        rw [q, q2] at h
        cases h
        cases bs with
        | nil => cases h2; rfl
        | cons b bs =>
          simp only [nkOfs] at h2
          cases q3 : nkOf b with
          | none => rw [q3] at h2; cases h2
          | some y => cases q4 : nkOfs bs with
            | none => rw [q3, q4] at h2; cases h2
            | some ws =>
              rw [q3, q4] at h2
              cases h2
              simp only [PyData.eqvAll, NestedKey.beqAll]
              rw [key_eqv a b x y q q3, keys_eqv as bs zs ws q2 q4]
end
mutual
theorem tup_key : ∀ (d : D) (n : Nat), tupK d = true → shal n d = true → ∃ k, nkOf d = some k ∧ k.depth ≤ n
  | .none, n, _, _ => ⟨_, rfl, by simp [NestedKey.depth]⟩
  | .bool b, n, _, _ => ⟨_, rfl, by simp [NestedKey.depth]⟩
  | .int i, n, _, _ => ⟨_, rfl, by simp [NestedKey.depth]⟩
  | .str x, n, _, _ => ⟨_, rfl, by simp [NestedKey.depth]⟩
  | .list xs, n, h, _ => by simp [tupK] at h
  | .dict xs, n, h, _ => by simp [tupK] at h
  | .tuple xs, 0, h, h2 => by simp [shal] at h2
  | .tuple xs, n + 1, h, h2 => by
    obtain ⟨ks, e, l⟩ := tup_keys xs n (by simpa [tupK] using h) (by simpa [shal] using h2)
    exact ⟨.tup ks, by simp [nkOf, e], by simp only [NestedKey.depth]; omega⟩
theorem tup_keys : ∀ (ds : List D) (n : Nat), tupKs ds = true → ds.all (shal n) = true → ∃ ks, nkOfs ds = some ks ∧ NestedKey.depthAll ks ≤ n
  | [], n, _, _ => ⟨[], rfl, by simp [NestedKey.depthAll]⟩
  | d :: ds, n, h, h2 => by
    simp only [tupKs, Bool.and_eq_true] at h
    rw [List.all_cons, Bool.and_eq_true] at h2
    obtain ⟨k, e1, l1⟩ := tup_key d n h.1 h2.1
    obtain ⟨ks, e2, l2⟩ := tup_keys ds n h.2 h2.2
    exact ⟨k :: ks, by simp [nkOfs, e1, e2], by simp only [NestedKey.depthAll]; omega⟩
end
theorem nk_of_tup {d : D} {k : NestedKey} (h : nkOf d = some k) : nkTup k = isTup d := by
  cases d with
  | list xs => simp [nkOf] at h
  | dict xs => simp [nkOf] at h
  | tuple xs =>
    simp only [nkOf] at h
    cases q : nkOfs xs with
    | none => rw [q] at h; cases h
    | some ks => rw [q] at h; cases h; rfl
  | _ => simp only [nkOf] at h; cases h; rfl

/-! ### tables: by value and by place -/
section
variable {K : Fw} {H : Hp}
abbrev LR (K : Fw) (H : Hp) : List (Key × V) → List (D × D) → Prop := Paired fun p q => q.1 = kD p.1 ∧ Rp K H p.2 q.2
abbrev TR (K : Fw) (H : Hp) : List (NestedKey × Addr × V) → List (D × D) → Prop := Paired fun p q => nkOf q.1 = some p.1 ∧ Rp K H (.ref p.2.1) q.1 ∧ Rp K H p.2.2 q.2
theorem LR.of : ∀ {kvV : List (Key × V)} {kvs : List (D × D)}, (kvs.map (·.1)) = kvV.map (fun p => kD p.1) → Rps K H (kvV.map (·.2)) (kvs.map (·.2)) → LR K H kvV kvs
  | [], [], _, _ => .nil
  | [], _ :: _, e, _ => by cases e
  | _ :: _, [], e, _ => by cases e
  | p :: ps, q :: qs, e, r => by
    rw [List.map_cons, List.map_cons] at e
    injection e with e1 e2
    cases r with | cons r1 r2 => exact .cons ⟨e1, r1⟩ (LR.of e2 r2)
theorem LR.keys {kvV : List (Key × V)} {kvs : List (D × D)} (h : LR K H kvV kvs) : kvs.map (·.1) = kvV.map fun p => kD p.1 := by
  induction h with
  | nil => rfl
  | cons hq _ ih => rw [List.map_cons, List.map_cons, ih, hq.1]
theorem LR.kps {kvV : List (Key × V)} {kvs : List (D × D)} (h : LR K H kvV kvs) : Rps K H (kvV.map fun p => kV p.1) (kvs.map (·.1)) := by
  induction h with
  | nil => exact .nil
  | @cons p q _ _ hq _ ih => exact .cons (show Rp K H (kV p.1) q.1 by rw [hq.1]; exact kD_rp K H _) ih
theorem LR.vps {kvV : List (Key × V)} {kvs : List (D × D)} (h : LR K H kvV kvs) : Rps K H (kvV.map (·.2)) (kvs.map (·.2)) := by
  induction h with
  | nil => exact .nil
  | cons hq _ ih => exact .cons hq.2 ih
theorem TR.of : ∀ {xV : List (NestedKey × Addr × V)} {kvs : List (D × D)}, (kvs.map (·.1)).map nkOf = xV.map (fun x => some x.1) → Rps K H (xV.map fun x => V.ref x.2.1) (kvs.map (·.1)) → Rps K H (xV.map (·.2.2)) (kvs.map (·.2)) → TR K H xV kvs
  | [], [], _, _, _ => .nil
  | [], _ :: _, e, _, _ => by cases e
  | _ :: _, [], e, _, _ => by cases e
  | p :: ps, q :: qs, e, r, t => by
    rw [List.map_cons, List.map_cons, List.map_cons] at e
    injection e with e1 e2
    cases r with | cons r1 r2 => cases t with | cons t1 t2 => exact .cons ⟨e1, r1, t1⟩ (TR.of e2 r2 t2)
theorem TR.keys {xV : List (NestedKey × Addr × V)} {kvs : List (D × D)} (h : TR K H xV kvs) : (kvs.map (·.1)).map nkOf = xV.map fun x => some x.1 := by
  induction h with
  | nil => rfl
  | cons hq _ ih => rw [List.map_cons, List.map_cons, List.map_cons, ih, hq.1]
theorem TR.kps {xV : List (NestedKey × Addr × V)} {kvs : List (D × D)} (h : TR K H xV kvs) : Rps K H (xV.map fun x => V.ref x.2.1) (kvs.map (·.1)) := by
  induction h with
  | nil => exact .nil
  | cons hq _ ih => exact .cons hq.2.1 ih
theorem TR.vps {xV : List (NestedKey × Addr × V)} {kvs : List (D × D)} (h : TR K H xV kvs) : Rps K H (xV.map (·.2.2)) (kvs.map (·.2)) := by
  induction h with
  | nil => exact .nil
  | cons hq _ ih => exact .cons hq.2.2 ih
theorem LR.mono {H' : Hp} (e : Le H H') {kvV : List (Key × V)} {kvs : List (D × D)} (h : LR K H kvV kvs) : LR K H' kvV kvs := Paired.mapP h fun _ _ z => ⟨z.1, z.2.mono e⟩
theorem TR.mono {H' : Hp} (e : Le H H') {xV : List (NestedKey × Addr × V)} {kvs : List (D × D)} (h : TR K H xV kvs) : TR K H' xV kvs := Paired.mapP h fun _ _ z => ⟨z.1, z.2.1.mono e, z.2.2.mono e⟩

/-- what a look-up gives -/
def OptR (K : Fw) (H : Hp) : Option V → Option D → Prop
  | some v, some d => Rp K H v d
  | none, none => True
  | _, _ => False
theorem LR.at {kvV : List (Key × V)} {kvs : List (D × D)} (h : LR K H kvV kvs) (k : Key) : OptR K H (valV kvV k) (keyAt (kD k) kvs) := by
  induction h with
  | nil => trivial
  | @cons p q ps qs hq _ ih =>
    unfold keyAt
    rw [hq.1, kD_eqv]
    by_cases e : p.1 = k
    · rw [decide_eq_true e, if_pos rfl, valV_pos e]; exact hq.2
    · rw [decide_eq_false e, if_neg Bool.false_ne_true, valV_neg e]; exact ih
theorem TR.at {xV : List (NestedKey × Addr × V)} {xs : List (NestedKey × Addr × Value)} {kvs : List (D × D)} (x : XR xV xs) : ∀ (h : TR K H xV kvs) {d : D} {k : NestedKey}, nkOf d = some k →
    (keyAt d kvs = none ∧ atKey xs k = none) ∨ ∃ a v u z, keyAt d kvs = some z ∧ atKey xs k = some (a, u) ∧ RelV v u ∧ Rp K H v z := by
  induction x generalizing kvs with
  | nil => intro h d k hk; cases h; exact .inl ⟨rfl, rfl⟩
  | @cons p q ps qs hp _ ih =>
    intro h d k hk
    cases h with
    | @cons _ r _ rs hr t =>
      have e0 := key_eqv r.1 d p.1 k hr.1 hk
      unfold keyAt
      rw [e0, ← NestedKey.decide_eq]
      by_cases e : p.1 = k
      · rw [decide_eq_true e, if_pos rfl]
        refine .inr ⟨q.2.1, p.2.2, q.2.2, r.2, rfl, ?_, hp.2.2, hr.2.2⟩
        simp [atKey, List.find?_cons, hp.1.symm.trans e]
      · rw [decide_eq_false e, if_neg Bool.false_ne_true]
        have e' : ¬ q.1 = k := fun z => e (hp.1.trans z)
        have b : atKey (q :: qs) k = atKey qs k := by simp [atKey, List.find?_cons, e']
        rw [b]
        exact ih t hk
theorem putK_cons {p : Key × V} {r : List (Key × V)} {k : Key} {y : V} (n : ((p :: r).map (·.1)).Nodup) : putK (p :: r) k y = if p.1 = k then (p.1, y) :: r else p :: putK r k y := by
  rw [List.map_cons, List.nodup_cons] at n
  unfold putK
  by_cases e : p.1 = k
  · rw [if_pos (by simp [e]), if_pos e, List.map_cons, if_pos e]
    have : (r.map fun kv => if kv.1 = k then (kv.1, y) else kv) = r := by
      have h : r.map (fun kv => if kv.1 = k then (kv.1, y) else kv) = r.map id := List.map_congr_left fun kv hkv => by
        rw [if_neg]
        · rfl
        · intro z
          exact n.1 (by rw [e, ← z]; exact List.mem_map_of_mem hkv)
      rw [h, List.map_id]
    rw [this]
  · rw [if_neg e]
    have ha : ((p :: r).any fun kv => decide (kv.1 = k)) = r.any fun kv => decide (kv.1 = k) := by rw [List.any_cons, decide_eq_false e, Bool.false_or]
    rw [ha]
    split
    · rw [List.map_cons, if_neg e]
    · rfl
theorem LR.put {kvV : List (Key × V)} {kvs : List (D × D)} (h : LR K H kvV kvs) (n : (kvV.map (·.1)).Nodup) (k : Key) {y : V} {d : D} (ry : Rp K H y d) : LR K H (putK kvV k y) (keyPut (kD k) d kvs) := by
  induction h with
  | nil => exact .cons ⟨rfl, ry⟩ .nil
  | @cons p q ps qs hq t ih =>
    rw [putK_cons n]
    unfold keyPut
    rw [hq.1, kD_eqv]
    rw [List.map_cons, List.nodup_cons] at n
    by_cases e : p.1 = k
    · rw [if_pos e, decide_eq_true e, if_pos rfl]
      exact .cons ⟨rfl, ry⟩ t
    · rw [if_neg e, decide_eq_false e, if_neg Bool.false_ne_true]
      refine .cons ?_ (ih n.2)
      exact ⟨rfl, hq.2⟩
/-- a table of tuples with one more stored -/
def putX (xV : List (NestedKey × Addr × V)) (k : NestedKey) (a : Addr) (v : V) : List (NestedKey × Addr × V) :=
  match xV with
  | [] => [(k, a, v)]
  | p :: r => if p.1 = k then (p.1, p.2.1, v) :: r else p :: putX r k a v
theorem storedH_cons {p : NestedKey × Addr × Value} {r : List (NestedKey × Addr × Value)} {k : NestedKey} {a : Addr} {v : Value} (n : ((p :: r).map (·.1)).Nodup) : storedH (p :: r) k a v = if p.1 = k then (p.1, p.2.1, v) :: r else p :: storedH r k a v := by
  rw [List.map_cons, List.nodup_cons] at n
  unfold storedH
  by_cases e : p.1 = k
  · have h1 : (atKey (p :: r) k).isSome = true := by simp [atKey, List.find?_cons, e]
    rw [if_pos h1, if_pos e, List.map_cons, map_putAt_of_not_mem r k v (by rw [← e]; exact n.1)]
    simp [putAt, e]
  · have h1 : atKey (p :: r) k = atKey r k := by simp [atKey, List.find?_cons, e]
    rw [h1, if_neg e]
    split
    · rw [List.map_cons]
      simp [putAt, e]
    · rfl
theorem XR.keysEq {xV : List (NestedKey × Addr × V)} {xs : List (NestedKey × Addr × Value)} (x : XR xV xs) : xV.map (·.1) = xs.map (·.1) := by
  induction x with
  | nil => rfl
  | cons h _ ih => rw [List.map_cons, List.map_cons, ih, h.1]
theorem XR.put {xV : List (NestedKey × Addr × V)} {xs : List (NestedKey × Addr × Value)} (x : XR xV xs) (n : (xs.map (·.1)).Nodup) (k : NestedKey) (a : Addr) {v : V} {u : Value} (r : RelV v u) : XR (putX xV k a v) (storedH xs k a u) := by
  induction x with
  | nil => exact .cons ⟨rfl, rfl, r⟩ .nil
  | @cons p q ps qs h t ih =>
    rw [storedH_cons n]
    rw [List.map_cons, List.nodup_cons] at n
    unfold putX
    by_cases e : p.1 = k
    · rw [if_pos e, if_pos (h.1.symm.trans e)]
      exact .cons ⟨h.1, h.2.1, r⟩ t
    · rw [if_neg e, if_neg (fun z => e (h.1.trans z))]
      exact .cons h (ih n.2)
theorem TR.put {xV : List (NestedKey × Addr × V)} {kvs : List (D × D)} (h : TR K H xV kvs) {d z : D} {k : NestedKey} (hk : nkOf d = some k) {a : Addr} (ra : Rp K H (.ref a) d) {v : V} (rv : Rp K H v z) : TR K H (putX xV k a v) (keyPut d z kvs) := by
  induction h with
  | nil => exact .cons ⟨hk, ra, rv⟩ .nil
  | @cons p q ps qs hq t ih =>
    unfold keyPut putX
    rw [key_eqv q.1 d p.1 k hq.1 hk, ← NestedKey.decide_eq]
    by_cases e : p.1 = k
    · rw [decide_eq_true e, if_pos rfl, if_pos e]
      exact .cons ⟨hq.1, hq.2.1, rv⟩ t
    · rw [decide_eq_false e, if_neg Bool.false_ne_true, if_neg e]
      exact .cons hq ih
theorem putX_deep {xV : List (NestedKey × Addr × V)} {k : NestedKey} {a : Addr} {v : V} (hk : nkTup k = true ∧ k.depth ≤ 8) : ∀ (h : ∀ x ∈ xV, nkTup x.1 = true ∧ x.1.depth ≤ 8), ∀ x ∈ putX xV k a v, nkTup x.1 = true ∧ x.1.depth ≤ 8 := by
  induction xV with
  | nil => intro _ x hx; have : x = (k, a, v) := by simpa [putX] using hx
           subst this; exact hk
  | cons p r ih =>
    intro h x hx
    unfold putX at hx
    split at hx
    · rcases List.mem_cons.mp hx with rfl | hx
      · exact h p (by simp)
      · exact h x (by simp [hx])
    · rcases List.mem_cons.mp hx with rfl | hx
      · exact h x (by simp)
      · exact ih (fun x hx => h x (by simp [hx])) x hx
theorem length_keyPut (k v : D) : ∀ kvs : List (D × D), (keyPut k v kvs).length ≤ kvs.length + 1
  | [] => by simp [keyPut]
  | (a, u) :: r => by
    have := length_keyPut k v r
    unfold keyPut
    split <;> simp <;> omega
end

/-! ### a dict's object, seen in the heap -/
/-- by value or by place -/
inductive Dvw (X : Cx) (s : Shared) (K : Fw) (H : Hp) (a : Addr) (kvs : List (D × D)) : Prop
  | leaf {kvV : List (Key × V)} {us : List (Key × Value)} : LR K H kvV kvs → KV kvV us → us.length ≤ sizeLine → (a == sysModules) = false → s.heap.DictOf (mixKind X.prog X.w) a us → Dvw X s K H a kvs
  | tup {xV : List (NestedKey × Addr × V)} {xs : List (NestedKey × Addr × Value)} : TR K H xV kvs → XR xV xs → xs.length ≤ sizeLine → (a == sysModules) = false → (∀ x ∈ xV, nkTup x.1 = true ∧ x.1.depth ≤ 8) → s.heap.DictOfH (nestedKind X.prog X.w) a xs → Dvw X s K H a kvs
section
variable {X : Cx} {pins : List (Addr × Obj)} {σ : L2.St} {H Ho : Hp} {s : Shared} {a : Addr} {o : Obj} {kvs : List (D × D)} {kv vv : List V}
theorem dvw (I : Inv X pins σ H s) (le : Le Ho H) (ho : H a = some (dcO a o)) (ok : DOk X.w a o (kvs.map (·.1)) kv vv) (r1 : Rps X.fw Ho kv (kvs.map (·.1))) (r2 : Rps X.fw Ho vv (kvs.map (·.2))) : Dvw X s X.fw Ho a kvs := by
  have hg : s.heap.get? a = some o := (I.hok a _ ho).1
  have r1' := r1.mono le
  have go : ∀ kds, kvs.map (·.1) = kds → DOk X.w a o kds kv vv → Dvw X s X.fw Ho a kvs := by
    intro kds hkd ok
    cases ok with
    | leaf rel hl low hd => exact .leaf (LR.of hkd r2) rel hl low (hd X.prog s.heap hg)
    | tup rel hl low hk hdp hd =>
      obtain ⟨as, ra⟩ := Rps.readsAll I r1' refs_vals
      rw [hkd] at ra
      exact .tup (TR.of (by rw [hkd]; exact hk) r1 r2) rel hl low hdp (hd X.prog s.heap hg (keys_is rel hk hdp ra))
  exact go _ rfl ok
theorem Br.dvw {O : List Addr} {v : V} (I : Inv X pins σ H s) (h : Rp X.fw (hid O H) v (.dict kvs) ∨ ∃ p, v = .ref p ∧ Own X.fw O H p (.dict kvs)) : ∃ a, v = .ref a ∧ Dvw X s X.fw (hid O H) a kvs := by
  rcases h with h | ⟨p, rfl, hp, u, hH, r⟩
  · cases h with | dct h1 h2 h3 h4 => exact ⟨_, rfl, PV.dvw I (hid_le O H) (hid_le O H _ _ h1) h2 h3 h4⟩
  · cases r with | dct h2 h3 h4 => exact ⟨p, rfl, PV.dvw I (hid_le O H) hH h2 h3 h4⟩
/-- a number or text in a dict of tuples, a tuple in one of others: only where it is empty -/
theorem okKey_leaf {k : D} (h : okKey k kvs = true) (hs : isTup k = false) : (∃ j, k = kD j) ∧ ∀ p ∈ kvs, scalK p.1 = true := by
  unfold okKey at h
  rw [Bool.or_eq_true, Bool.and_eq_true, Bool.and_eq_true] at h
  rcases h with h | h
  · exact ⟨scal_kD h.1, fun p hp => List.all_eq_true.mp h.2 p hp⟩
  · rw [hs] at h
    cases h.1
theorem okKey_tup {k : D} (h : okKey k kvs = true) (hs : isTup k = true) : (∃ j, nkOf k = some j ∧ nkTup j = true ∧ j.depth ≤ 8) ∧ ∀ p ∈ kvs, isTup p.1 = true := by
  unfold okKey at h
  rw [Bool.or_eq_true, Bool.and_eq_true, Bool.and_eq_true] at h
  rcases h with h | h
  · cases k <;> simp [scalK, isTup] at h hs
  · rw [Bool.and_eq_true, Bool.and_eq_true] at h
    obtain ⟨j, e, l⟩ := tup_key k 8 h.2.1 h.2.2.1
    exact ⟨⟨j, e, by rw [nk_of_tup e]; exact hs, l⟩, fun p hp => List.all_eq_true.mp h.2.2.2 p hp⟩
end
end PV

set_option maxHeartbeats 4000000
/-! PV: dicts: the operations in the heap. -/
namespace PV
open PySem L2 PyProof.Rows

section
variable {X : Cx} {pins : List (Addr × Obj)} {σ : L2.St} {H Ho : Hp} {s : Shared} {a : Addr} {o : Obj} {kvs : List (D × D)}
theorem Dvw.isLeaf (h : Dvw X s X.fw Ho a kvs) (hs : ∀ p ∈ kvs, scalK p.1 = true) : ∃ (kvV : List (Key × V)) (us : List (Key × Value)), LR X.fw Ho kvV kvs ∧ KV kvV us ∧ us.length ≤ sizeLine ∧ (a == sysModules) = false ∧ s.heap.DictOf (mixKind X.prog X.w) a us := by
  cases h with
  | leaf h1 h2 h3 h4 h5 => exact ⟨_, _, h1, h2, h3, h4, h5⟩
  | @tup xV xs h1 h2 h3 h4 h5 h6 =>
    cases h1 with
    | nil =>
      cases h2
      obtain ⟨ob, es, ep, e1, e2, e3, e4, e5, e6⟩ := h6
      have e4 : es.toList = [] := e4
      have e7 : KeysOf (mixKind X.prog X.w) es := fun e he => by
        have h9 : e ∈ es.toList := by simpa using he
        rw [e4] at h9
        cases h9
      exact ⟨[], [], .nil, .nil, by simp, h4, ob, es, ep, e1, e2, e3, e7, by rw [e4]; exact .nil, by simp⟩
    | @cons p q _ _ hq _ =>
      have k1 := hs q (by simp)
      have k2 := (h5 p (by simp)).1
      rw [nk_of_tup hq.1] at k2
      cases hq1 : q.1 <;> rw [hq1] at k1 k2 <;> simp [scalK, isTup] at k1 k2
theorem Dvw.isTup (h : Dvw X s X.fw Ho a kvs) (hs : ∀ p ∈ kvs, isTup p.1 = true) : ∃ (xV : List (NestedKey × Addr × V)) (xs : List (NestedKey × Addr × Value)), TR X.fw Ho xV kvs ∧ XR xV xs ∧ xs.length ≤ sizeLine ∧ (a == sysModules) = false ∧ (∀ x ∈ xV, nkTup x.1 = true ∧ x.1.depth ≤ 8) ∧ s.heap.DictOfH (nestedKind X.prog X.w) a xs := by
  cases h with
  | tup h1 h2 h3 h4 h5 h6 => exact ⟨_, _, h1, h2, h3, h4, h5, h6⟩
  | @leaf kvV us h1 h2 h3 h4 h5 =>
    cases h1 with
    | nil =>
      cases h2
      obtain ⟨ob, es, ep, e1, e2, e3, e4, e5, e6⟩ := h5
      have e7 : es.toList = [] := by cases q : es.toList with
        | nil => rfl
        | cons _ _ => rw [q] at e5; cases e5
      exact ⟨[], [], .nil, .nil, by simp, h4, (fun x hx => nomatch hx), ob, es, ep, e1, e2, e3, e7, (fun x hx => nomatch hx), by simp⟩
    | @cons p q _ _ hq _ =>
      have k1 := hs q (by simp)
      rw [hq.1, kD_ntup] at k1
      cases k1
theorem Dvw.low (h : Dvw X s X.fw Ho a kvs) : (a == sysModules) = false := by
  cases h with
  | leaf _ _ _ h _ => exact h
  | tup _ _ _ h _ _ => exact h
theorem LR.len {K : Fw} {H : Hp} {kvV : List (Key × V)} {kvs : List (D × D)} (h : LR K H kvV kvs) : kvV.length = kvs.length := Paired.length h
theorem TR.len {K : Fw} {H : Hp} {xV : List (NestedKey × Addr × V)} {kvs : List (D × D)} (h : TR K H xV kvs) : xV.length = kvs.length := Paired.length h
theorem Dvw.len (h : Dvw X s X.fw Ho a kvs) : kvs.length ≤ sizeLine := by
  cases h with
  | leaf h1 h2 h3 _ _ => rw [← h1.len, show _ = _ from Paired.length h2]; exact h3
  | tup h1 h2 h3 _ _ _ => rw [← h1.len, show _ = _ from Paired.length h2]; exact h3
/-- a tuple's value that is a key -/
theorem tup_is (I : Inv X pins σ H s) (le : Le Ho H) {v : V} {u : Value} {k : D} {j : NestedKey} (hv : Rp X.fw Ho v k) (ru : RelV v u) (hk : nkOf k = some j) (ht : nkTup j = true) (hd : j.depth ≤ 8) : ∃ b, v = .ref b ∧ u = .ref b ∧ (nestedKind X.prog X.w).is s.heap j b := by
  obtain ⟨as, ra⟩ := (hv.mono le).reads I ru
  have hn := reads_key k j u as ra hk
  rw [nk_of_tup hk] at ht
  cases hv with
  | tup hs _ =>
    cases (show u = _ from ru)
    exact ⟨_, rfl, rfl, hn, hd⟩
  | _ => simp [PV.isTup] at ht
theorem room_t {k : Nat} {A : Around} (hr : Room k A) {prog : Program} {w : World} : (nestedKind prog w).room A.in1 := by
  show A.units + 1 + 8 < cLine
  have := hr.un
  omega
/-- k in d -/
theorem dict_in {k0 : Nat} (hr : Room k0 X.A) (I : Inv X pins σ H s) (le : Le Ho H) (h : Dvw X s X.fw Ho a kvs) {v : V} {u : Value} {k : D} (hv : Rp X.fw Ho v k) (ru : RelV v u) (hk : okKey k kvs = true) {Q : Value → Shared → Prop} {E : Value → Shared → Prop} (q : ∀ t, Q (.bool (keyAt k kvs).isSome) { s with toks := t }) :
    wpAny (model X.prog X.w) X.A (compareOp .In u (.ref a)) Q E s := by
  cases ht : PV.isTup k with
  | false =>
    obtain ⟨⟨j, rfl⟩, hs⟩ := okKey_leaf hk ht
    obtain ⟨kvV, us, h1, h2, h3, h4, h5⟩ := h.isLeaf hs
    have e := rp_kD hv
    subst e
    refine wpAny_in_of (kV_is ru) h4 h5.mapOf ?_
    have e1 := (h2.val j).isSome_eq
    have e2 := h1.at j
    have e3 : (valV kvV j).isSome = (keyAt (kD j) kvs).isSome := by
      cases q1 : valV kvV j <;> cases q2 : keyAt (kD j) kvs <;> rw [q1, q2] at e2 <;> first | rfl | exact False.elim e2
    rw [← e1, e3]
    exact q _
  | true =>
    obtain ⟨⟨j, hj, hn, hd⟩, hs⟩ := okKey_tup hk ht
    obtain ⟨xV, xs, h1, h2, h3, h4, h5, h6⟩ := h.isTup hs
    obtain ⟨b, rfl, rfl, hb⟩ := tup_is I le hv ru hj hn hd
    refine wpAny_in_heap (room_t hr) hb h4 h6 ?_
    rcases TR.at h2 h1 hj with ⟨e1, e2⟩ | ⟨a', v', u', z, e1, e2, _⟩ <;> rw [e2] <;> rw [e1] at q <;> exact q _
theorem dict_notIn {k0 : Nat} (hr : Room k0 X.A) (I : Inv X pins σ H s) (le : Le Ho H) (h : Dvw X s X.fw Ho a kvs) {v : V} {u : Value} {k : D} (hv : Rp X.fw Ho v k) (ru : RelV v u) (hk : okKey k kvs = true) {Q : Value → Shared → Prop} {E : Value → Shared → Prop} (q : ∀ t, Q (.bool (!(keyAt k kvs).isSome)) { s with toks := t }) :
    wpAny (model X.prog X.w) X.A (compareOp .NotIn u (.ref a)) Q E s := by
  cases ht : PV.isTup k with
  | false =>
    obtain ⟨⟨j, rfl⟩, hs⟩ := okKey_leaf hk ht
    obtain ⟨kvV, us, h1, h2, h3, h4, h5⟩ := h.isLeaf hs
    have e := rp_kD hv
    subst e
    refine wpAny_notIn_of (kV_is ru) h4 h5.mapOf ?_
    have e1 := (h2.val j).isSome_eq
    have e2 := h1.at j
    have e3 : (valV kvV j).isSome = (keyAt (kD j) kvs).isSome := by
      cases q1 : valV kvV j <;> cases q2 : keyAt (kD j) kvs <;> rw [q1, q2] at e2 <;> first | rfl | exact False.elim e2
    rw [← e1, e3]
    exact q _
  | true =>
    obtain ⟨⟨j, hj, hn, hd⟩, hs⟩ := okKey_tup hk ht
    obtain ⟨xV, xs, h1, h2, h3, h4, h5, h6⟩ := h.isTup hs
    obtain ⟨b, rfl, rfl, hb⟩ := tup_is I le hv ru hj hn hd
    refine wpAny_notIn_heap (room_t hr) hb h4 h6 ?_
    rcases TR.at h2 h1 hj with ⟨e1, e2⟩ | ⟨a', v', u', z, e1, e2, _⟩ <;> rw [e2] <;> rw [e1] at q <;> exact q _
theorem LR.got {K : Fw} {H : Hp} {kvV : List (Key × V)} {us : List (Key × Value)} {kvs : List (D × D)} (h1 : LR K H kvV kvs) (h2 : KV kvV us) (j : Key) : (keyAt (kD j) kvs = none ∧ valueAt us j = none) ∨ ∃ v u z, keyAt (kD j) kvs = some z ∧ valueAt us j = some u ∧ RelV v u ∧ Rp K H v z := by
  have e1 := h1.at j
  have e2 := h2.val j
  cases q1 : valV kvV j with
  | none =>
    rw [q1] at e1 e2
    cases q2 : keyAt (kD j) kvs with
    | some _ => rw [q2] at e1; exact False.elim e1
    | none => cases q3 : valueAt us j with
      | some _ => rw [q3] at e2; exact False.elim e2
      | none => exact .inl ⟨rfl, rfl⟩
  | some v =>
    rw [q1] at e1 e2
    cases q2 : keyAt (kD j) kvs with
    | none => rw [q2] at e1; exact False.elim e1
    | some z => cases q3 : valueAt us j with
      | none => rw [q3] at e2; exact False.elim e2
      | some u => rw [q2] at e1; rw [q3] at e2; exact .inr ⟨v, u, z, rfl, rfl, e2, e1⟩
/-- d[k] -/
theorem dict_ix {k0 : Nat} (hr : Room k0 X.A) (I : Inv X pins σ H s) (le : Le Ho H) (h : Dvw X s X.fw Ho a kvs) {v : V} {u : Value} {k z : D} (hv : Rp X.fw Ho v k) (ru : RelV v u) (hk : okKey k kvs = true) (hz : keyAt k kvs = some z) {Q : Value → Shared → Prop} {E : Value → Shared → Prop}
    (q : ∀ v' u' t, RelV v' u' → Rp X.fw Ho v' z → Q u' { s with toks := t }) : wpAny (model X.prog X.w) X.A (getItem (.ref a) u) Q E s := by
  cases ht : PV.isTup k with
  | false =>
    obtain ⟨⟨j, rfl⟩, hs⟩ := okKey_leaf hk ht
    obtain ⟨kvV, us, h1, h2, h3, h4, h5⟩ := h.isLeaf hs
    have e := rp_kD hv
    subst e
    rcases h1.got h2 j with ⟨e1, _⟩ | ⟨v', u', z', e1, e2, r1, r2⟩
    · rw [hz] at e1; cases e1
    · rw [hz] at e1
      cases e1
      exact wpAny_getItem_of (kV_is ru) h5.mapOf e2 (q v' u' _ r1 r2)
  | true =>
    obtain ⟨⟨j, hj, hn, hd⟩, hs⟩ := okKey_tup hk ht
    obtain ⟨xV, xs, h1, h2, h3, h4, h5, h6⟩ := h.isTup hs
    obtain ⟨b, rfl, rfl, hb⟩ := tup_is I le hv ru hj hn hd
    rcases TR.at h2 h1 hj with ⟨e1, _⟩ | ⟨a', v', u', z', e1, e2, r1, r2⟩
    · rw [hz] at e1; cases e1
    · rw [hz] at e1
      cases e1
      exact wpAny_getItem_heap (room_t hr) hb h6 e2 (q v' u' _ r1 r2)
/-- d.get(k) -/
theorem dict_get1 {k0 : Nat} (hr : Room k0 X.A) (I : Inv X pins σ H s) (le : Le Ho H) (h : Dvw X s X.fw Ho a kvs) {v : V} {u : Value} {k : D} (hv : Rp X.fw Ho v k) (ru : RelV v u) (hk : okKey k kvs = true) {Q : Value → Shared → Prop} {E : Value → Shared → Prop}
    (q : ∀ v' u' t, RelV v' u' → Rp X.fw Ho v' ((keyAt k kvs).getD .none) → Q u' { s with toks := t }) : wpAny (model X.prog X.w) X.A (call (.builtin "dict.get") [.ref a, u]) Q E s := by
  cases ht : PV.isTup k with
  | false =>
    obtain ⟨⟨j, rfl⟩, hs⟩ := okKey_leaf hk ht
    obtain ⟨kvV, us, h1, h2, h3, h4, h5⟩ := h.isLeaf hs
    have e := rp_kD hv
    subst e
    refine call_meetsIn PySem.F.slot_dict_get h5.typeIs PySem.F.entry_dict_get (PySem.F.args_dict_get_2 _ _) (meets_dict_get (mixKind X.prog X.w) a (kV_is ru) h4) ⟨_, h5.mapOf, ?_⟩
    rcases h1.got h2 j with ⟨e1, e2⟩ | ⟨v', u', z', e1, e2, r1, r2⟩
    · rw [e2]; rw [e1] at q; exact q .non _ _ rfl .non
    · rw [e2]; rw [e1] at q; exact q v' u' _ r1 r2
  | true =>
    obtain ⟨⟨j, hj, hn, hd⟩, hs⟩ := okKey_tup hk ht
    obtain ⟨xV, xs, h1, h2, h3, h4, h5, h6⟩ := h.isTup hs
    obtain ⟨b, rfl, rfl, hb⟩ := tup_is I le hv ru hj hn hd
    refine call_meetsIn PySem.F.slot_dict_get h6.typeIs PySem.F.entry_dict_get (PySem.F.args_dict_get_2 _ _) (meetsH_dict_get (nestedKind X.prog X.w) a b h4) ⟨room_t hr, j, xs, hb, h6, ?_⟩
    rcases TR.at h2 h1 hj with ⟨e1, e2⟩ | ⟨a', v', u', z', e1, e2, r1, r2⟩
    · rw [e2]; rw [e1] at q; exact q .non _ _ rfl .non
    · rw [e2]; rw [e1] at q; exact q v' u' _ r1 r2
/-- d.get(k, x) -/
theorem dict_get2 {k0 : Nat} (hr : Room k0 X.A) (I : Inv X pins σ H s) (le : Le Ho H) (h : Dvw X s X.fw Ho a kvs) {v x : V} {u y : Value} {k z : D} (hv : Rp X.fw Ho v k) (ru : RelV v u) (hx : Rp X.fw Ho x z) (rx : RelV x y) (hk : okKey k kvs = true) {Q : Value → Shared → Prop} {E : Value → Shared → Prop}
    (q : ∀ v' u' t, RelV v' u' → Rp X.fw Ho v' ((keyAt k kvs).getD z) → Q u' { s with toks := t }) : wpAny (model X.prog X.w) X.A (call (.builtin "dict.get") [.ref a, u, y]) Q E s := by
  cases ht : PV.isTup k with
  | false =>
    obtain ⟨⟨j, rfl⟩, hs⟩ := okKey_leaf hk ht
    obtain ⟨kvV, us, h1, h2, h3, h4, h5⟩ := h.isLeaf hs
    have e := rp_kD hv
    subst e
    refine call_meetsIn PySem.F.slot_dict_get h5.typeIs PySem.F.entry_dict_get (PySem.F.args_dict_get_3 _ _ _) (meets_dict_get_default (mixKind X.prog X.w) a (kV_is ru) h4 y) ⟨_, h5.mapOf, ?_⟩
    rcases h1.got h2 j with ⟨e1, e2⟩ | ⟨v', u', z', e1, e2, r1, r2⟩
    · rw [e2]; rw [e1] at q; exact q x _ _ rx hx
    · rw [e2]; rw [e1] at q; exact q v' u' _ r1 r2
  | true =>
    obtain ⟨⟨j, hj, hn, hd⟩, hs⟩ := okKey_tup hk ht
    obtain ⟨xV, xs, h1, h2, h3, h4, h5, h6⟩ := h.isTup hs
    obtain ⟨b, rfl, rfl, hb⟩ := tup_is I le hv ru hj hn hd
    refine call_meetsIn PySem.F.slot_dict_get h6.typeIs PySem.F.entry_dict_get (PySem.F.args_dict_get_3 _ _ _) (meetsH_dict_get_default (nestedKind X.prog X.w) a b h4 y) ⟨room_t hr, j, xs, hb, h6, ?_⟩
    rcases TR.at h2 h1 hj with ⟨e1, e2⟩ | ⟨a', v', u', z', e1, e2, r1, r2⟩
    · rw [e2]; rw [e1] at q; exact q x _ _ rx hx
    · rw [e2]; rw [e1] at q; exact q v' u' _ r1 r2
/-- what stands behind a write or a making -/
def Dnew (w : World) (K : Fw) (Ho : Hp) (a : Addr) (o : Obj) (kvs : List (D × D)) : Prop := ∃ kv vv, DOk w a o (kvs.map (·.1)) kv vv ∧ Rps K Ho kv (kvs.map (·.1)) ∧ Rps K Ho vv (kvs.map (·.2))
theorem pairs_prog {P P' : Program} {w : World} {es : List DictEntry} {us : List (Key × Value)} (h : PySem.Pairs (mixKind P w) es us) : PySem.Pairs (mixKind P' w) es us := by
  induction h with
  | nil => exact .nil
  | cons h1 h2 _ ih => exact .cons h1 h2 ih
theorem dnew_leaf {P : Program} {w : World} {h' : Heap} {K : Fw} {kvV : List (Key × V)} {us : List (Key × Value)} (h1 : LR K Ho kvV kvs) (h2 : KV kvV us) (hl : us.length ≤ sizeLine) (low : (a == sysModules) = false) (dd : h'.DictOf (mixKind P w) a us) : ∃ o, h'.get? a = some o ∧ Dnew w K Ho a o kvs := by
  obtain ⟨o, es, ep, e1, r⟩ := dd
  have ok : DOk w a o (kvV.map fun p => kD p.1) (kvV.map fun p => kV p.1) (kvV.map (·.2)) := .leaf h2 hl low fun P' h hg => ⟨o, es, ep, hg, r.1, r.2.1, r.2.2.1, pairs_prog r.2.2.2.1, r.2.2.2.2⟩
  exact ⟨o, e1, _, _, by rw [h1.keys]; exact ok, h1.kps, h1.vps⟩
theorem dnew_tup {P : Program} {w : World} {h' : Heap} {K : Fw} {xV : List (NestedKey × Addr × V)} {xs : List (NestedKey × Addr × Value)} (h1 : TR K Ho xV kvs) (h2 : XR xV xs) (hl : xs.length ≤ sizeLine) (low : (a == sysModules) = false) (hd : ∀ x ∈ xV, nkTup x.1 = true ∧ x.1.depth ≤ 8) (dd : h'.DictOfH (nestedKind P w) a xs) : ∃ o, h'.get? a = some o ∧ Dnew w K Ho a o kvs := by
  obtain ⟨o, es, ep, e1, e2, e3, e4, e5, e6⟩ := dd
  refine ⟨o, e1, _, _, .tup (xV := xV) h2 hl low h1.keys hd fun P' h hg his => ?_, h1.kps, h1.vps⟩
  exact ⟨o, es, ep, hg, e2, e3, e4, his, e6⟩
theorem mut_dcO : Mut (some (dcO a o)) := trivial
theorem ok_dcO {P : Program} {w : World} {H' : Hp} {h' : Heap} (h : h'.get? a = some o) : ObjOk P w H' h' a (dcO a o) := ⟨h, ⟨_, h⟩, fun h1 h2 e k => k _ e⟩
/-- d[k] = v -/
theorem dict_set {k0 : Nat} (hr : Room k0 X.A) (I : Inv X pins σ H s) (le : Le Ho H) (ho : H a = some (dcO a o)) (h : Dvw X s X.fw Ho a kvs) {v x : V} {u y : Value} {k z : D} (hv : Rp X.fw Ho v k) (ru : RelV v u) (hx : Rp X.fw Ho x z) (rx : RelV x y) (hk : okKey k kvs = true) (hl : kvs.length < sizeLine)
    {Q : Unit → Shared → Prop} {E : Value → Shared → Prop} (q : ∀ o' s', Inv X pins σ (upd H a (dcO a o')) s' → Dnew X.w X.fw Ho a o' (keyPut k z kvs) → Q () s') : wpAny (model X.prog X.w) X.A (setItem (.ref a) u y) Q E s := by
  have fin : ∀ (h' : Heap) (t : Nat), Heap.SameBut a s.heap h' → ∀ o', h'.get? a = some o' → Dnew X.w X.fw Ho a o' (keyPut k z kvs) → Q () { s with heap := h', toks := t } := fun h' t hs o' ho' dn =>
    q o' _ (d_write I (by rw [ho]; exact mut_dcO) hs ⟨_, ho'⟩ (ok_dcO ho')) dn
  cases ht : PV.isTup k with
  | false =>
    obtain ⟨⟨j, rfl⟩, hs⟩ := okKey_leaf hk ht
    obtain ⟨kvV, us, h1, h2, h3, h4, h5⟩ := h.isLeaf hs
    have e := rp_kD hv
    subst e
    have hn : (kvV.map (·.1)).Nodup := by rw [KV.keys h2]; obtain ⟨_, _, _, _, _, _, _, _, n⟩ := h5; exact n
    refine wpAny_setItem_pairs (hsz := h3) (kV_is ru) h5 fun h' dd' hs => ?_
    have lr := h1.put hn j hx
    have kv := h2.put j rx
    have hlen : (stored us j y).length ≤ sizeLine := by
      rw [← show (putK kvV j x).length = (stored us j y).length from Paired.length kv]
      have h0 := length_putK kvV j x
      have h6 := h1.len
      omega
    obtain ⟨o', ho', dn⟩ := dnew_leaf lr kv hlen h4 dd'
    exact fin h' _ hs o' ho' dn
  | true =>
    obtain ⟨⟨j, hj, hn, hd⟩, hs⟩ := okKey_tup hk ht
    obtain ⟨xV, xs, h1, h2, h3, h4, h5, h6⟩ := h.isTup hs
    obtain ⟨b, rfl, rfl, hb⟩ := tup_is I le hv ru hj hn hd
    have nn : (xs.map (·.1)).Nodup := h6.nodup
    refine wpAny_setItem_heap (hsz := h3) (room_t hr) hb h6 fun h' dd' hs => ?_
    have tr := h1.put hj hv hx
    have xr := h2.put nn j b rx
    have hlen : (storedH xs j b y).length ≤ sizeLine := by
      have h0 := storedH_length xs j b y
      have h7 : xV.length = xs.length := Paired.length h2
      have h8 := h1.len
      omega
    obtain ⟨o', ho', dn⟩ := dnew_tup tr xr hlen h4 (putX_deep ⟨hn, hd⟩ h5) dd'
    exact fin h' _ hs o' ho' dn
/-- the entries -/
theorem dict_raw (h : Dvw X s X.fw Ho a kvs) : ∃ es ep, s.heap.DictRaw a es ep ∧ es.size = kvs.length := by
  cases h with
  | leaf h1 h2 h3 h4 h5 =>
    obtain ⟨ob, es, ep, e1, e2, e3, e4, e5, e6⟩ := h5
    refine ⟨es, ep, ⟨ob, e1, e2, e3⟩, ?_⟩
    have := e5.length
    rw [Array.length_toList] at this
    rw [this, ← show _ = _ from Paired.length h2, h1.len]
  | tup h1 h2 h3 h4 h5 h6 =>
    obtain ⟨ob, es, ep, e1, e2, e3, e4, e5, e6⟩ := h6
    refine ⟨es, ep, ⟨ob, e1, e2, e3⟩, ?_⟩
    rw [size_of_entries e4, ← show _ = _ from Paired.length h2, h1.len]
theorem LR.vals {K : Fw} {H : Hp} {kvV : List (Key × V)} {us : List (Key × Value)} {kvs : List (D × D)} {P : Program} {w : World} {es : List DictEntry} (h1 : LR K H kvV kvs) (h2 : KV kvV us) (p : PySem.Pairs (mixKind P w) es us) : ∃ kv, Vals kv (es.map (·.key)) ∧ Rps K H kv (kvs.map (·.1)) := by
  refine ⟨_, ?_, h1.kps⟩
  clear h1
  induction p generalizing kvV with
  | nil => cases h2; exact .nil
  | @cons e kv es us q1 q2 _ ih =>
    cases h2 with
    | @cons q _ ps _ hq t =>
      refine .cons ?_ (ih t)
      show RelV (kV q.1) e.key
      rw [hq.1]
      rcases keyIs_shape (show keyIs kv.1 e.key = true from q1) with ⟨i, t, e1, e2⟩ | ⟨x, t, e1, e2⟩
      · rw [e1, e2]; exact ⟨t, rfl⟩
      · rw [e1, e2]; exact ⟨t, rfl⟩
/-- the entries with the keys as values -/
theorem dict_keys (h : Dvw X s X.fw Ho a kvs) : ∃ es ep kv, s.heap.DictRaw a es ep ∧ es.size = kvs.length ∧ Vals kv (es.toList.map (·.key)) ∧ Rps X.fw Ho kv (kvs.map (·.1)) := by
  obtain ⟨es, ep, hr, hs⟩ := dict_raw h
  cases h with
  | leaf h1 h2 h3 h4 h5 =>
    obtain ⟨ob, es', ep', e1, e2, e3, e4, e5, e6⟩ := h5
    obtain ⟨ob2, f1, f2, f3⟩ := hr
    rw [e1] at f1
    cases f1
    rw [e3] at f3
    cases f3
    obtain ⟨kv, v1, v2⟩ := h1.vals h2 e5
    exact ⟨es, ep, kv, ⟨ob, e1, e2, e3⟩, hs, v1, v2⟩
  | tup h1 h2 h3 h4 h5 h6 =>
    obtain ⟨ob, es', ep', e1, e2, e3, e4, e5, e6⟩ := h6
    obtain ⟨ob2, f1, f2, f3⟩ := hr
    rw [e1] at f1
    cases f1
    rw [e3] at f3
    cases f3
    obtain ⟨v1, _⟩ := entries_keys (P := X.prog) (w := X.w) h2
    exact ⟨es, ep, _, ⟨ob, e1, e2, e3⟩, hs, by rw [e4]; exact v1, h1.kps⟩
theorem items_vals {h : Heap} {K : Fw} {H : Hp} {kv : List V} {kds : List D} {es : Array DictEntry} {acc : Array Value} (rv : Vals kv (es.toList.map (·.key))) (it : ItemsOf (fun i v => ∃ hi : i < es.size, v = es[i].key) acc es.size) : Vals kv acc.toList := by
  have e : acc.toList = es.toList.map (·.key) := by
    refine List.ext_getElem? fun i => ?_
    rw [List.getElem?_map, Array.getElem?_toList, Array.getElem?_toList]
    cases q : acc[i]? with
    | none =>
      have : acc.size ≤ i := Array.getElem?_eq_none_iff.mp q
      rw [it.1] at this
      rw [Array.getElem?_eq_none_iff.mpr this]
      rfl
    | some v =>
      obtain ⟨hi, e⟩ := it.2 i v q
      rw [Array.getElem?_eq_getElem hi, e]
      rfl
  rw [e]
  exact rv
/-- len(d) -/
theorem dict_len (h : Dvw X s X.fw Ho a kvs) {Q : Value → Shared → Prop} {E : Value → Shared → Prop} (q : ∀ t t', Q (.int kvs.length t) { s with toks := t' }) : wpAny (model X.prog X.w) X.A (call (.builtin "len") [.ref a]) Q E s := by
  obtain ⟨es, ep, hr, hs⟩ := dict_raw h
  have hl := h.len
  refine call_len_slot (n := (kvs.length : Int)) hr.typeIs PySem.F.slot_dict_len (fun Q' hq => call_len_raw h.low hr ?_) (by omega) (by rw [sizeLine_eq] at hl; omega) (q _ _)
  rw [hs]
  exact hq
end
end PV

set_option maxHeartbeats 4000000
/-! PV: what the operations give, by values. -/
namespace PV
open PySem L2

/-- // by a divisor of up to two hundred bits -/
def CDivB (_ j : Int) : Prop := j ≠ 0 ∧ j.natAbs < 1606938044258990275541962092341162602522202993782792835301376
theorem op_fdivB {X : Cx} : OpR X (binaryOp .FloorDiv) (rI CDivB fun i j => .int (i.fdiv j)) := opI fun i j _ _ _ _ _ hc q => by
  have h2 : j.natAbs < 2 ^ 200 := hc.2
  exact PyProof.Rows.floordiv_int hc.1 q (.inl (PyProof.noPylong_of_log2 (Nat.lt_of_lt_of_le (PySem.Flt.log2_lt_of (by decide) h2) (by decide))))
/-- a list that was just made: nobody else holds it -/
def FrP (K : Fw) (O : List Addr) (H H' : Hp) (v : V) (z : D) : Prop := ∃ p u, v = .ref p ∧ H p = none ∧ H' p = some u ∧ Ob K (hid (p :: O) H') p u z
/-- a value of the datum z, the heap may have grown; f: a list is new -/
def Nw (f : Bool) (K : Fw) (O : List Addr) (H : Hp) (z : D) (Q : VK) : Prop := ∀ v H', Le H H' → Rp K (hid O H') v z → (f = true → isMut z = true → FrP K O H H' v z) → Q v H'
abbrev Dm (O : List Addr) (H : Hp) : Prop := ∀ p ∈ O, H p ≠ none
section
variable {f : Bool} {K : Fw} {O : List Addr} {H : Hp} {z : D} {Q : VK} {v : V} {d : D}
theorem Nw.same (n : Nw f K O H z Q) (r : Rp K (hid O H) v z) (h : (f && isMut z) = false := by rfl) : Q v H := n v H (Le.refl H) r fun h1 h2 => by rw [h1, h2] at h; cases h
theorem Nw.int {i : Int} (n : Nw f K O H (.int i) Q) : Q (.int i) H := n.same (.int i) (by cases f <;> rfl)
theorem Nw.bl {i : Bool} (n : Nw f K O H (.bool i) Q) : Q (.bl i) H := n.same (.bl i) (by cases f <;> rfl)
theorem Nw.str {i : Str} (n : Nw f K O H (.str i) Q) : Q (.str i) H := n.same (.str i) (by cases f <;> rfl)
theorem Nw.sameT {ds : List D} (n : Nw f K O H (.tuple ds) Q) (r : Rp K (hid O H) v (.tuple ds)) : Q v H := n.same r (by cases f <;> rfl)
theorem Nw.tup {vs : List V} {ds : List D} (n : Nw f K O H (.tuple ds) Q) (dm : Dm O H) (r : Rps K (hid O H) vs ds) {p : Addr} (hp : H p = none) : Q (.ref p) (upd H p (.tup vs)) :=
  n _ _ (Le.new hp) (.tup (.inl (.inl (hid_in (fun hm => dm p hm hp) upd_same))) (r.mono (hid_le_mono (Le.new hp)))) fun _ h => by cases h
/-- what was known ahead of a new object avoids it -/
theorem hid_cons_new {p : Addr} {o : HO} (hp : H p = none) : Le (hid O H) (hid (p :: O) (upd H p o)) := fun a u e => by
  have ha := hid_out e
  have e' := hid_le O H a u e
  have hne : a ≠ p := fun z => by rw [z, hp] at e'; cases e'
  exact hid_in (fun hm => (List.mem_cons.mp hm).elim hne ha) (by rw [upd_ne hne]; exact e')
theorem Nw.lst {vs : List V} {ds : List D} (n : Nw f K O H (.list ds) Q) (dm : Dm O H) (r : Rps K (hid O H) vs ds) {p : Addr} (hp : H p = none) : Q (.ref p) (upd H p (.lst vs)) :=
  n _ _ (Le.new hp) (.lst (hid_in (fun hm => dm p hm hp) upd_same) (r.mono (hid_le_mono (Le.new hp)))) fun _ _ => ⟨p, _, rfl, hp, upd_same, .lst (r.mono (hid_cons_new hp))⟩
theorem Br.int {i : Int} (h : Br K O H v (.int i)) : v = .int i := by
  rcases h with h | ⟨p, _, _, _, _, e⟩
  · cases h; rfl
  · cases e
theorem Br.bl {i : Bool} (h : Br K O H v (.bool i)) : v = .bl i := by
  rcases h with h | ⟨p, _, _, _, _, e⟩
  · cases h; rfl
  · cases e
theorem Br.str {i : Str} (h : Br K O H v (.str i)) : v = .str i := by
  rcases h with h | ⟨p, _, _, _, _, e⟩
  · cases h; rfl
  · cases e
theorem Br.non (h : Br K O H v .none) : v = .non := by
  rcases h with h | ⟨p, _, _, _, _, e⟩
  · cases h; rfl
  · cases e
theorem Br.lst {ds : List D} (h : Br K O H v (.list ds)) : ∃ a vs, v = .ref a ∧ Rps K (hid O H) vs ds ∧ H a = some (.lst vs) := by
  obtain ⟨a, vs, e, r, q⟩ := h.items (ds := ds) rfl
  rcases q with ⟨_, q⟩ | ⟨e2, _⟩
  · exact ⟨a, vs, e, r, q⟩
  · cases e2
theorem Br.tup {ds : List D} (h : Br K O H v (.tuple ds)) : ∃ a vs, v = .ref a ∧ Rps K (hid O H) vs ds ∧ SqT K H a vs ∧ Rp K (hid O H) v (.tuple ds) := by
  obtain ⟨a, vs, e, r, q⟩ := h.items (ds := ds) rfl
  rcases q with ⟨e2, _⟩ | ⟨_, q⟩
  · cases e2
  · refine ⟨a, vs, e, r, q, ?_⟩
    rcases h with h | ⟨p, _, _, _, _, e⟩
    · exact h
    · cases e
theorem Br.dct {kvs : List (D × D)} (h : Br K O H v (.dict kvs)) : ∃ a, v = .ref a ∧ ∃ o kv vv, H a = some (dcO a o) ∧ DOk K.w a o (kvs.map (·.1)) kv vv ∧ Rps K (hid O H) kv (kvs.map (·.1)) ∧ Rps K (hid O H) vv (kvs.map (·.2)) := by
  rcases h with h | ⟨p, rfl, hp, u, hH, r⟩
  · cases h with | dct h1 h2 h3 h4 => exact ⟨_, rfl, _, _, _, hid_le O H _ _ h1, h2, h3, h4⟩
  · cases r with | dct h2 h3 h4 => exact ⟨p, rfl, _, _, _, hH, h2, h3, h4⟩
end

/-! ### shallow data -/
mutual
theorem plain_shal : ∀ (d : D) (n : Nat), shal n d = true → d.plain = true ∧ d.depth ≤ n
  | .none, n, _ => ⟨rfl, by simp [PyData.depth]⟩
  | .bool _, n, _ => ⟨rfl, by simp [PyData.depth]⟩
  | .int _, n, _ => ⟨rfl, by simp [PyData.depth]⟩
  | .str _, n, _ => ⟨rfl, by simp [PyData.depth]⟩
  | .list xs, 0, h => by simp [shal] at h
  | .list xs, n + 1, h => by
    have h' : xs.all (shal n) = true := by simpa [shal] using h
    obtain ⟨a, b⟩ := plain_shals xs n h'
    refine ⟨by simp only [PyData.plain]; exact a, by simp only [PyData.depth]; omega⟩
  | .tuple xs, 0, h => by simp [shal] at h
  | .tuple xs, n + 1, h => by
    have h' : xs.all (shal n) = true := by simpa [shal] using h
    obtain ⟨a, b⟩ := plain_shals xs n h'
    refine ⟨by simp only [PyData.plain]; exact a, by simp only [PyData.depth]; omega⟩
  | .dict _, 0, h => by simp [shal] at h
  | .dict _, n + 1, h => by simp [shal] at h
theorem plain_shals : ∀ (xs : List D) (n : Nat), xs.all (shal n) = true → PyData.plainAll xs = true ∧ PyData.depthAll xs ≤ n
  | [], _, _ => ⟨rfl, by simp [PyData.depthAll]⟩
  | x :: xs, n, h => by
    rw [List.all_cons, Bool.and_eq_true] at h
    obtain ⟨a, b⟩ := plain_shal x n h.1
    obtain ⟨c, e⟩ := plain_shals xs n h.2
    refine ⟨by simp only [PyData.plainAll]; rw [a, c]; rfl, by simp only [PyData.depthAll]; omega⟩
end

theorem tuple_mulS (l : Addr) (items : Array Value) (n : Nat) (dd : Option Addr) (sl : Array (Option Value)) (u : Tok) :
    PySem.Meets (Builtin.«tuple.__mul__» ⟨[.ref l, .int 1 u], []⟩) (fun _ R s => s.heap.get? l = some { cls := .type "tuple", dict := dd, data := .seq items n, slots := sl } ∧
      R (.ok (.ret (Value.ref l))) s) :=
  .of_wp fun prog w A R s h => by
    obtain ⟨hp, g, d, tk, os⟩ := s
    obtain ⟨hl, h⟩ := h
    have f1 := AutoSeq1.idx_int
    have c0 : (decide ((1 : Int) < -(2 ^ 63)) || decide ((1 : Int) ≥ 2 ^ 63)) = false := by decide
    have c1 : (items.isEmpty || (1 : Int) == 1) = true := by simp
    wp_walk using wpAny_loadPart' hl
    repeat (first
      | (refine wpAny_ite_false (decide_eq_false (by rw [c0]; exact Bool.false_ne_true)) ?_; wp_walk using wpAny_loadPart' hl)
      | (refine wpAny_ite_true (decide_eq_true (by rw [c1])) ?_; wp_walk using wpAny_loadPart' hl))
    exact ⟨_, rfl, h⟩
theorem op_repT1 {X : Cx} {pins : List (Addr × Obj)} {s : Shared} {σ : L2.St} {H : Hp} {l : Addr} {xs : List V} {t : Tok} {Q : VK} (I : Inv X pins σ H s) (hT : SqT X.fw H l xs) (q : Q (.ref l) H) :
    wpAny (model X.prog X.w) X.A (binaryOp .Mult (.ref l) (.int 1 t)) (EP X pins σ Q) X.xe s := by
  obtain ⟨its, r, ⟨⟨cls, dd, data, sl⟩, ho, hc, n, hd⟩, hs⟩ := I.tuple hT
  simp only at hc hd
  subst hc hd
  exact wpAny_binaryOp_repeat_ref (T := "tuple") (U := "int") (by decide) ⟨_, ho, rfl⟩ (fun s' => PySem.typeIs_int s' 1 t) noFill_tuple_mul F.fills_int_mul F.slot_int_rmul repeat_tuple F.slot_int_index.lookup
    (call_meets F.slot_int_rmul (PySem.typeIs_int s 1 t) F.entry_int_rmul (F.args_int_rmul_2 _ _) (int_rmul_tuple 1 t l its.toArray n dd sl)
      ⟨ho, rfl, ⟨_, ho, rfl⟩, call_meets F.slot_tuple_mul ⟨_, ho, rfl⟩ F.entry_tuple_mul (F.args_tuple_mul_2 _ _) (tuple_mulS l its.toArray n dd sl t) ⟨ho, ⟨.ref l, H, I, rfl, q⟩⟩⟩)
section
variable {X : Cx}
/-- a two-place operation that gives the datum g a b -/
def rD2 (f : Bool) (K : Fw) (g : D → D → Option D) : R2 := fun x y H Q => ∃ O a b z, Dm O H ∧ Br K O H x a ∧ Br K O H y b ∧ g a b = some z ∧ Nw f K O H z Q
def binOp : Op2 → Operator
  | .add => .Add
  | .sub => .Sub
  | .mul => .Mult
  | .fdiv => .FloorDiv
  | .mod => .Mod
  | .pow => .Pow
theorem line_eq : (LINE : Nat) = sizeLine := by rw [sizeLine_eq]; rfl
theorem small_ok {i : Int} (h : small64 i = true) : -(2 ^ 64) < i ∧ i < 2 ^ 64 := by
  unfold small64 at h
  have h' := of_decide_eq_true h
  omega
theorem op_bin (o : Op2) : OpR X (binaryOp (binOp o)) (rD2 true X.fw (dBin o)) := by
  intro pins s σ H x y v u Q I rx ry h
  obtain ⟨O, a, b, z, dm, ha, hb, hz, n⟩ := h
  cases o with
  | add =>
    cases a <;> cases b <;> try (simp [dBin] at hz; done)
    case int.int i j =>
      have e : PyData.int (i + j) = z := Option.some.inj hz
      subst e
      exact op_add pins s σ H x y v u Q I rx ry ⟨i, j, ha.int, hb.int, n.int⟩
    case str.str i j =>
      simp only [dBin] at hz
      split at hz
      · rename_i hl
        have e : PyData.str (i ++ j) = z := Option.some.inj hz
        subst e
        exact op_add_str pins s σ H x y v u Q I rx ry ⟨i, j, ha.str, hb.str, by rw [← line_eq]; exact hl, n.str⟩
      · cases hz
    case list.list i j =>
      simp only [dBin] at hz
      split at hz
      · rename_i hl
        have e : PyData.list (i ++ j) = z := Option.some.inj hz
        subst e
        obtain ⟨p, vs, e1, r1, h1⟩ := ha.lst
        obtain ⟨q, ws, e2, r2, h2⟩ := hb.lst
        exact op_cat pins s σ H x y v u Q I rx ry ⟨p, q, vs, ws, e1, e2, h1, h2, by rw [r1.length, r2.length, ← line_eq]; exact hl, fun l hl => n.lst dm (r1.append r2) hl⟩
      · cases hz
    case tuple.tuple i j =>
      simp only [dBin] at hz
      split at hz
      · rename_i hl
        have e : PyData.tuple (i ++ j) = z := Option.some.inj hz
        subst e
        obtain ⟨p, vs, e1, r1, h1, f1⟩ := ha.tup
        obtain ⟨q, ws, e2, r2, h2, f2⟩ := hb.tup
        refine op_catA pins s σ H x y v u Q I rx ry ⟨p, q, vs, ws, e1, e2, h1, h2, by rw [r1.length, r2.length, ← line_eq]; exact hl, fun e => ?_, fun _ e => ?_, fun _ _ l hl => n.tup dm (r1.append r2) hl⟩
        · have e' := r1.nil_iff.mp e
          subst e'
          rw [e2] at f2
          exact n.sameT f2
        · have e' := r2.nil_iff.mp e
          subst e'
          rw [e1] at f1
          rw [List.append_nil] at n
          exact n.sameT f1
      · cases hz
  | sub =>
    cases a <;> cases b <;> try (simp [dBin] at hz; done)
    case int.int i j =>
      have e : PyData.int (i - j) = z := Option.some.inj hz
      subst e
      exact op_sub pins s σ H x y v u Q I rx ry ⟨i, j, ha.int, hb.int, n.int⟩
  | mul =>
    cases a <;> cases b <;> try (simp [dBin] at hz; done)
    case int.int i j =>
      simp only [dBin] at hz
      split at hz
      · rename_i hl
        have e : PyData.int (i * j) = z := Option.some.inj hz
        subst e
        refine op_mul pins s σ H x y v u Q I rx ry ⟨i, j, ha.int, hb.int, ?_, n.int⟩
        rw [Bool.or_eq_true] at hl
        rcases hl with hl | hl
        · exact .inl (small_ok hl)
        · exact .inr (small_ok hl)
      · cases hz
    case list.int i k =>
      simp only [dBin] at hz
      split at hz
      · rename_i hl
        have e : PyData.list (List.replicate k.toNat i).flatten = z := Option.some.inj hz
        subst e
        obtain ⟨p, vs, e1, r1, h1⟩ := ha.lst
        refine op_rep pins s σ H x y v u Q I rx ry ⟨p, k, vs, e1, hb.int, h1, by omega, by omega, by rw [r1.length, ← line_eq]; exact hl.1, fun l hl => n.lst dm (r1.flat _) hl⟩
      · cases hz
    case tuple.int i k =>
      obtain ⟨p, vs, e1, r1, h1, f1⟩ := ha.tup
      simp only [dBin] at hz
      split at hz
      · rename_i hk
        subst hk
        have e : PyData.tuple i = z := Option.some.inj hz
        subst e
        have e2 := hb.int
        subst e1 e2
        obtain ⟨t, rfl⟩ := ry
        cases rx
        exact op_repT1 I h1 (n.sameT f1)
      · split at hz
        · rename_i hk hl
          have e : PyData.tuple (List.replicate k.toNat i).flatten = z := Option.some.inj hz
          subst e
          exact op_repT pins s σ H x y v u Q I rx ry ⟨p, k, vs, e1, hb.int, h1, fun e => hl.1 (r1.nil_iff.mp e), hl.2.1, hl.2.2.1, by rw [r1.length]; exact hl.2.2.2, fun l hl => n.tup dm (r1.flat _) hl⟩
        · cases hz
  | fdiv =>
    cases a <;> cases b <;> try (simp [dBin] at hz; done)
    case int.int i j =>
      simp only [dBin] at hz
      split at hz
      · rename_i hl
        have e : PyData.int (i.fdiv j) = z := Option.some.inj hz
        subst e
        exact op_fdivB pins s σ H x y v u Q I rx ry ⟨i, j, ha.int, hb.int, hl, n.int⟩
      · cases hz
  | mod =>
    cases a <;> cases b <;> try (simp [dBin] at hz; done)
    case int.int i j =>
      simp only [dBin] at hz
      split at hz
      · rename_i hl
        have e : PyData.int (i.fmod j) = z := Option.some.inj hz
        subst e
        exact op_modN pins s σ H x y v u Q I rx ry ⟨i, j, ha.int, hb.int, hl, n.int⟩
      · cases hz
  | pow =>
    cases a <;> cases b <;> try (simp [dBin] at hz; done)
    case int.int i j =>
      simp only [dBin] at hz
      split at hz
      · rename_i hl
        have e : PyData.int (i ^ j.toNat) = z := Option.some.inj hz
        subst e
        exact op_pow pins s σ H x y v u Q I rx ry ⟨i, j, ha.int, hb.int, hl, n.int⟩
      · cases hz

/-! ### comparisons -/
def cmOp : Cm → CmpOp
  | .eq => .Eq
  | .ne => .NotEq
  | .lt => .Lt
  | .le => .LtE
  | .gt => .Gt
  | .ge => .GtE
  | .is_ => .Is
  | .isnot => .IsNot
  | .in_ => .In
  | .notin => .NotIn
/-- a comparison of two data: a truth -/
def rC2 (K : Fw) (g : D → D → Option Bool) : R2 := fun x y H Q => ∃ O a b z, Br K O H x a ∧ Br K O H y b ∧ g a b = some z ∧ Q (.bl z) H
theorem room_le {A : Around} {k n : Nat} (hr : Room k A) (h : n ≤ 100) : A.units + n < cLine := by have := hr.un; omega
theorem Br.reads {pins : List (Addr × Obj)} {σ : L2.St} {H : Hp} {s : Shared} {O : List Addr} {x : V} {a : D} {v : Value} (I : Inv X pins σ H s) (h : Br X.fw O H x a) (r : RelV x v) : ∃ as, Reads s.heap v a as := h.rp.reads I r
theorem isN_eq {K : Fw} {O : List Addr} {H : Hp} {x : V} {a : D} (h : Br K O H x a) : decide (x = .non) = isN a := by
  cases a with
  | none => rw [h.non]; rfl
  | bool b => rw [h.bl]; rfl
  | int i => rw [h.int]; rfl
  | str i => rw [h.str]; rfl
  | list ds => obtain ⟨p, vs, e, _⟩ := h.lst; rw [e]; rfl
  | tuple ds => obtain ⟨p, vs, e, _⟩ := h.tup; rw [e]; rfl
  | dict ds => obtain ⟨p, e, _⟩ := h.dct; rw [e]; rfl
theorem ord_ok {a b : D} (h : cmpOk a b = true) : a.plain = true ∧ a.depth ≤ 20 ∧ W.alike a b = true ∧ a ≠ .none := by
  unfold cmpOk sh at h
  rw [Bool.and_eq_true, Bool.and_eq_true] at h
  obtain ⟨h1, h2, h3⟩ := h
  obtain ⟨p1, p2⟩ := plain_shal a 20 h1
  refine ⟨p1, p2, h2, ?_⟩
  rintro rfl
  simp [isN] at h3
/-- is, is not with a truth: another thing is none -/
theorem is_bool {pins : List (Addr × Obj)} {σ : L2.St} {H : Hp} {s : Shared} {O : List Addr} {x : V} {a : D} {v : Value} {c : Bool} (I : Inv X pins σ H s) (h : Br X.fw O H x a) (r : RelV x v) (e : isB c a = false) : v ≠ .bool c := by
  rintro rfl
  have q := r.abs
  have q' : some (V.bl c) = some x := q
  cases a with
  | bool b =>
    rw [h.bl] at q'
    cases q'
    simp [isB] at e
  | none => rw [h.non] at q'; cases q'
  | int i => rw [h.int] at q'; cases q'
  | str i => rw [h.str] at q'; cases q'
  | list ds => obtain ⟨p, vs, e, _⟩ := h.lst; rw [e] at q'; cases q'
  | tuple ds => obtain ⟨p, vs, e, _⟩ := h.tup; rw [e] at q'; cases q'
  | dict ds => obtain ⟨p, e, _⟩ := h.dct; rw [e] at q'; cases q'
theorem is_plain {K : Fw} {O : List Addr} {H : Hp} {x : V} {a : D} {v : Value} {c : Bool} (h : Br K O H x a) (r : RelV x v) : plainIs v (.bool c) = true := by
  cases a with
  | bool b => rw [h.bl] at r; cases (show v = _ from r); rfl
  | none => rw [h.non] at r; cases (show v = _ from r); rfl
  | int i => rw [h.int] at r; obtain ⟨t, rfl⟩ := r; rfl
  | str i => rw [h.str] at r; obtain ⟨t, rfl⟩ := r; rfl
  | list ds => obtain ⟨p, vs, e, _⟩ := h.lst; rw [e] at r; cases (show v = _ from r); rfl
  | tuple ds => obtain ⟨p, vs, e, _⟩ := h.tup; rw [e] at r; cases (show v = _ from r); rfl
  | dict ds => obtain ⟨p, e, _⟩ := h.dct; rw [e] at r; cases (show v = _ from r); rfl
theorem isB_true {a : D} {c : Bool} (h : isB c a = true) : a = .bool c := by
  cases a <;> simp [isB] at h
  rw [h]
theorem Br.view {pins : List (Addr × Obj)} {σ : L2.St} {H : Hp} {s : Shared} {O : List Addr} {v : V} {kvs : List (D × D)} (I : Inv X pins σ H s) (h : Br X.fw O H v (.dict kvs)) : ∃ a, v = .ref a ∧ Dvw X s X.fw (hid O H) a kvs := Br.dvw I h
theorem Br.key {O : List Addr} {H : Hp} {v : V} {k : D} {kvs : List (D × D)} {K : Fw} (h : Br K O H v k) (hk : okKey k kvs = true) : Rp K (hid O H) v k := by
  rcases h with h | ⟨p, rfl, hp, u, hH, r⟩
  · exact h
  · unfold okKey at hk
    cases r <;> simp [scalK, isTup, tupK] at hk
theorem hits_of {A : Around} {s : Shared} (hu : A.units + 20 < cLine) {K : Fw} {H : Hp} (rd : ∀ (v : V) (d : D) (u : Value), Rp K H v d → RelV v u → ∃ as, Reads s.heap u d as) {kvB : List (Key × V)} {ub : List (Key × Value)} {kb : List (D × D)} (b1 : LR K H kvB kb) (b2 : KV kvB ub) (bo : dOkD kb = true) :
    ∀ {kvA : List (Key × V)} {ua : List (Key × Value)} {ka : List (D × D)}, LR K H kvA ka → KV kvA ua → dOkD ka = true → PySem.W.KeqHits A s ub ua (ka.all fun p => match keyAt p.1 kb with
      | some y => PyData.eqv p.2 y
      | none => false) := by
  intro kvA ua ka a1 a2
  induction a1 generalizing ua with
  | nil => intro _; cases a2; exact .nil
  | @cons p q ps qs hq t ih =>
    intro ao
    cases a2 with
    | @cons _ r _ rs hr u =>
      unfold dOkD at ao
      rw [List.all_cons, Bool.and_eq_true, Bool.and_eq_true] at ao
      have ih := ih u ao.2
      obtain ⟨rk, rv⟩ := r
      obtain ⟨hr1, hr2⟩ := hr
      have hr1 : p.1 = rk := hr1
      subst hr1
      rw [List.all_cons, hq.1]
      rcases b1.got b2 p.1 with ⟨e1, e2⟩ | ⟨v', u', z, e1, e2, r1, r2⟩
      · rw [e1]
        exact .miss e2
      · rw [e1]
        refine .hit e2 ?_ ih
        obtain ⟨as, ra⟩ := rd _ _ _ hq.2 hr2
        obtain ⟨bs, rb⟩ := rd _ _ _ r2 r1
        obtain ⟨p1, p2⟩ := plain_shal q.2 20 ao.1.2
        have hz : sh z = true := by
          have : ∀ {kb : List (D × D)} {k z : D}, keyAt k kb = some z → dOkD kb = true → sh z = true := fun {kb k z} => by
            induction kb with
            | nil => intro h; cases h
            | cons p r ih =>
              intro h ho
              unfold dOkD at ho
              rw [List.all_cons, Bool.and_eq_true, Bool.and_eq_true] at ho
              unfold keyAt at h
              split at h
              · cases h; exact ho.1.2
              · exact ih h ho.2
          exact this e1 bo
        obtain ⟨p3, p4⟩ := plain_shal z 20 hz
        exact PySem.SeqAt.eqAt_plain q.2 z A s _ _ as bs ra rb p1 p3 (by omega)
theorem dOk_leaf {ka : List (D × D)} (h : dOkD ka = true) : ∀ p ∈ ka, scalK p.1 = true := fun p hp => by
  have := List.all_eq_true.mp h p hp
  rw [Bool.and_eq_true] at this
  exact this.1
theorem lists_apart {h : Heap} {u v : Value} {x : D} {xs : List D} {as bs : List Addr} (ra : Reads h u (.list (x :: xs)) as) (rb : Reads h v (.list []) bs) : ∃ l b i1 i2, u = .ref l ∧ v = .ref b ∧ h.IsList l i1 ∧ h.IsList b i2 ∧ (i1.size != i2.size) = true := by
  cases ra with
  | @list l o vs n _ as₁ h1 h2 h3 h4 =>
    cases rb with
    | @list l' o' vs' n' _ bs₁ k1 k2 k3 k4 =>
      have n1 : vs.toList ≠ [] := fun e => by rw [e] at h4; cases h4
      have n2 : vs'.toList = [] := by
        cases hv : vs'.toList with
        | nil => rfl
        | cons => rw [hv] at k4; cases k4
      have n3 : vs' = #[] := by simpa using n2
      subst n3
      have n4 : vs ≠ #[] := fun e => n1 (by rw [e])
      exact ⟨l, l', vs, #[], rfl, rfl, ⟨_, h1, h2, _, h3⟩, ⟨_, k1, k2, _, k3⟩, by simpa using n4⟩
theorem op_cmp {k : Nat} (hr : Room k X.A) (c : Cm) : OpR X (compareOp (cmOp c)) (rC2 X.fw (dCmp c)) := by
  intro pins s σ H x y v u Q I rx ry h
  obtain ⟨O, a, b, z, ha, hb, hz, n⟩ := h
  obtain ⟨as, ra⟩ := ha.reads I rx
  obtain ⟨bs, rb⟩ := hb.reads I ry
  have fin : ∀ {w : Bool}, w = z → EP X pins σ Q (.bool w) s := fun e => by subst e; exact ⟨.bl _, H, I, rfl, n⟩
  cases c with
  | eq =>
    simp only [dCmp] at hz
    split at hz
    · rename_i hl
      rw [Bool.and_eq_true] at hl
      obtain ⟨p1, p2⟩ := plain_shal a 20 hl.1
      obtain ⟨p3, p4⟩ := plain_shal b 20 hl.2
      exact PySem.SeqAt.eq_plain ra rb p1 p3 (room_le hr (by omega)) (fin (Option.some.inj hz))
    · cases a <;> cases b <;> try (simp [dEqX] at hz ; done)
      · rename_i xs ys _
        cases xs with
        | nil => simp [dEqX] at hz
        | cons x xs =>
          cases ys with
          | cons => simp [dEqX] at hz
          | nil =>
            obtain ⟨l, b', i1, i2, rfl, rfl, q1, q2, q3⟩ := lists_apart ra rb
            exact PySem.SeqAt.RcAt.lists_lengths q1 q2 q3 (room_le hr (n := 0) (by omega)) _ _ _ _ (fin (by simpa [dEqX] using hz))
      · rename_i ka kb _
        simp only [dEqX] at hz
        split at hz
        · rename_i hl
          rw [Bool.and_eq_true] at hl
          obtain ⟨p, rfl, va⟩ := ha.view I
          obtain ⟨q, rfl, vb⟩ := hb.view I
          obtain ⟨kvA, ua, a1, a2, a3, a4, a5⟩ := va.isLeaf (dOk_leaf hl.1)
          obtain ⟨kvB, ub, b1, b2, b3, b4, b5⟩ := vb.isLeaf (dOk_leaf hl.2)
          cases (show v = .ref p from rx)
          cases (show u = .ref q from ry)
          have la : ka.length = ua.length := by rw [← a1.len]; exact Paired.length a2
          have lb : kb.length = ub.length := by rw [← b1.len]; exact Paired.length b2
          exact PySem.W.keq_eq a4 b4 a5 b5 (room_le hr (n := 0) (by omega)) (fun _ => hits_of (by have := room_le hr (n := 50) (by omega); show X.A.units + 1 + 20 < cLine; omega) (fun v d u h r => (h.mono (hid_le O H)).reads I r) b1 b2 hl.2 a1 a2 hl.1) (fin (by rw [← la, ← lb]; exact Option.some.inj hz))
        · cases hz
  | ne =>
    simp only [dCmp] at hz
    split at hz
    · rename_i hl
      rw [Bool.and_eq_true] at hl
      obtain ⟨p1, p2⟩ := plain_shal a 20 hl.1
      obtain ⟨p3, p4⟩ := plain_shal b 20 hl.2
      exact PySem.SeqAt.ne_plain ra rb p1 p3 (room_le hr (by omega)) (fin (Option.some.inj hz))
    · cases a <;> cases b <;> try (simp [dEqX] at hz ; done)
      · rename_i xs ys _
        cases xs with
        | nil => simp [dEqX] at hz
        | cons x xs =>
          cases ys with
          | cons => simp [dEqX] at hz
          | nil =>
            obtain ⟨l, b', i1, i2, rfl, rfl, q1, q2, q3⟩ := lists_apart ra rb
            exact PySem.SeqAt.RcNeAt.lists_lengths q1 q2 q3 (room_le hr (n := 0) (by omega)) _ _ _ _ (fin (by simpa [dEqX] using hz))
      · rename_i ka kb _
        simp only [dEqX] at hz
        split at hz
        · rename_i hl
          rw [Bool.and_eq_true] at hl
          obtain ⟨p, rfl, va⟩ := ha.view I
          obtain ⟨q, rfl, vb⟩ := hb.view I
          obtain ⟨kvA, ua, a1, a2, a3, a4, a5⟩ := va.isLeaf (dOk_leaf hl.1)
          obtain ⟨kvB, ub, b1, b2, b3, b4, b5⟩ := vb.isLeaf (dOk_leaf hl.2)
          cases (show v = .ref p from rx)
          cases (show u = .ref q from ry)
          have la : ka.length = ua.length := by rw [← a1.len]; exact Paired.length a2
          have lb : kb.length = ub.length := by rw [← b1.len]; exact Paired.length b2
          exact PySem.W.keq_ne a4 b4 a5 b5 (room_le hr (n := 0) (by omega)) (fun _ => hits_of (by have := room_le hr (n := 50) (by omega); show X.A.units + 1 + 20 < cLine; omega) (fun v d u h r => (h.mono (hid_le O H)).reads I r) b1 b2 hl.2 a1 a2 hl.1) (fin (by rw [← la, ← lb]; exact Option.some.inj hz))
        · cases hz
  | lt =>
    simp only [dCmp, dlt] at hz
    split at hz
    · rename_i hl
      obtain ⟨p1, p2, p3, p4⟩ := ord_ok hl
      exact PySem.W.lt_data ra rb p3 p4 (room_le hr (by omega)) (fin (Option.some.inj hz))
    · cases hz
  | gt =>
    simp only [dCmp] at hz
    split at hz
    · rename_i hl
      obtain ⟨p1, p2, p3, p4⟩ := ord_ok hl
      exact PySem.W.gt_data ra rb p3 p4 (room_le hr (by omega)) (fin (Option.some.inj hz))
    · cases hz
  | le =>
    simp only [dCmp] at hz
    split at hz
    · rename_i hl
      obtain ⟨p1, p2, p3, p4⟩ := ord_ok hl
      exact PySem.W.le_data ra rb p3 p4 (room_le hr (by omega)) (fin (Option.some.inj hz))
    · cases hz
  | ge =>
    simp only [dCmp] at hz
    split at hz
    · rename_i hl
      obtain ⟨p1, p2, p3, p4⟩ := ord_ok hl
      exact PySem.W.ge_data ra rb p3 p4 (room_le hr (by omega)) (fin (Option.some.inj hz))
    · cases hz
  | is_ =>
    cases b <;> try (simp [dCmp] at hz; done)
    case none =>
      refine op_isN pins s σ H x y v u Q I rx ry ⟨hb.non, ?_⟩
      rw [isN_eq ha]
      have e : isN a = z := Option.some.inj hz
      rw [e]
      exact n
    case bool c =>
      have e : isB c a = z := Option.some.inj hz
      rw [hb.bl] at ry
      cases (show u = Value.bool c from ry)
      cases hc : isB c a with
      | true =>
        have e2 := isB_true hc
        subst e2
        rw [ha.bl] at rx
        cases (show v = Value.bool c from rx)
        exact PySem.wpAny_is_self rfl (fin (by rw [← e, hc]))
      | false => exact PySem.wpAny_is_other (is_plain ha rx) (is_bool I ha rx hc) (fin (by rw [← e, hc]))
  | isnot =>
    cases b <;> try (simp [dCmp] at hz; done)
    case none =>
      refine op_notN pins s σ H x y v u Q I rx ry ⟨hb.non, ?_⟩
      rw [isN_eq ha]
      have e : (!isN a) = z := Option.some.inj hz
      rw [e]
      exact n
    case bool c =>
      have e : (!isB c a) = z := Option.some.inj hz
      rw [hb.bl] at ry
      cases (show u = Value.bool c from ry)
      cases hc : isB c a with
      | true =>
        have e2 := isB_true hc
        subst e2
        rw [ha.bl] at rx
        cases (show v = Value.bool c from rx)
        exact PySem.wpAny_isNot_self rfl (fin (by rw [← e, hc]; rfl))
      | false => exact PySem.wpAny_isNot_other (is_plain ha rx) (is_bool I ha rx hc) (fin (by rw [← e, hc]; rfl))
  | in_ =>
    cases b <;> try (simp [dCmp, dIn] at hz; done)
    case list xs =>
      simp only [dCmp, dIn] at hz
      split at hz
      · rename_i hl
        rw [Bool.and_eq_true] at hl
        obtain ⟨p1, p2⟩ := plain_shal a 20 hl.1
        obtain ⟨p3, p4⟩ := plain_shals xs 20 hl.2
        exact PySem.SeqAt.in_list_data rb ra p3 p1 (by have := room_le hr (n := 21) (by omega); omega) (fin (Option.some.inj hz))
      · cases hz
    case tuple xs =>
      simp only [dCmp, dIn] at hz
      split at hz
      · rename_i hl
        rw [Bool.and_eq_true] at hl
        obtain ⟨p1, p2⟩ := plain_shal a 20 hl.1
        obtain ⟨p3, p4⟩ := plain_shals xs 20 hl.2
        exact PySem.SeqAt.in_tuple_data rb ra p3 p1 (by have := room_le hr (n := 21) (by omega); omega) (fin (Option.some.inj hz))
      · cases hz
    case dict xs =>
      simp only [dCmp, dIn] at hz
      split at hz
      · rename_i hk
        obtain ⟨p, rfl, vb⟩ := hb.view I
        cases (show u = .ref p from ry)
        exact dict_in hr I (hid_le O H) vb (ha.key hk) rx hk fun t => ⟨.bl z, H, I.tok t, by rw [Option.some.inj hz]; rfl, n⟩
      · cases hz
  | notin =>
    cases b <;> try (simp [dCmp, dIn] at hz; done)
    case list xs =>
      simp only [dCmp, dIn] at hz
      split at hz
      · rename_i hl
        rw [Bool.and_eq_true] at hl
        obtain ⟨p1, p2⟩ := plain_shal a 20 hl.1
        obtain ⟨p3, p4⟩ := plain_shals xs 20 hl.2
        exact PySem.SeqAt.notIn_list_data rb ra p3 p1 (by have := room_le hr (n := 21) (by omega); omega) (fin (Option.some.inj hz))
      · cases hz
    case tuple xs =>
      simp only [dCmp, dIn] at hz
      split at hz
      · rename_i hl
        rw [Bool.and_eq_true] at hl
        obtain ⟨p1, p2⟩ := plain_shal a 20 hl.1
        obtain ⟨p3, p4⟩ := plain_shals xs 20 hl.2
        exact PySem.SeqAt.notIn_tuple_data rb ra p3 p1 (by have := room_le hr (n := 21) (by omega); omega) (fin (Option.some.inj hz))
      · cases hz
    case dict xs =>
      simp only [dCmp, dIn] at hz
      split at hz
      · rename_i hk
        obtain ⟨p, rfl, vb⟩ := hb.view I
        cases (show u = .ref p from ry)
        exact dict_notIn hr I (hid_le O H) vb (ha.key hk) rx hk fun t => ⟨.bl z, H, I.tok t, by rw [← Option.some.inj hz]; rfl, n⟩
      · cases hz
end
end PV

set_option maxHeartbeats 4000000
/-! PV: dict(..). -/
namespace PV
open PySem L2 PyProof.Rows

section
variable {prog : Program} {w : World} {K : Type} [DecidableEq K] {knd : PySem.KeyKind prog w K} {A : Around} {E : Value → Shared → Prop} {s : Shared}
/-- dict(d): the keys numbers or texts -/
theorem call_dict_same {o : Addr} {more : List (K × Value)} {Q : Value → Shared → Prop} (hoS : (o == sysModules) = false) (ho : s.heap.DictOf knd o more) (hsz : more.length ≤ sizeLine)
    (h : ∀ h', h'.DictOf knd s.heap.objs.size (merged [] more) → (∀ b ob, s.heap.get? b = some ob → h'.get? b = some ob) → Q (.ref s.heap.objs.size) { s with heap := h' }) : wpAny (model prog w) A (call (.type "dict") [.ref o]) Q E s := by
  refine callType_codes (Q₁ := fun obj s₁ => obj = .ref s.heap.objs.size ∧ s₁ = { s with heap := s.heap.push { cls := .type "dict", data := .dict #[] } }) PySem.F.kt_called_dict (PySem.F.kt_typeCall_dict_1 _) PySem.F.entry_dict_init (kt_code_dict_new _ ⟨rfl, rfl⟩) ?_
  rintro obj s₁ ⟨rfl, rfl⟩
  have hT : Shared.TypeIs { s with heap := s.heap.push { cls := .type "dict", data := .dict #[] } } (.ref s.heap.objs.size) "dict" := ⟨_, Heap.get?_push_size _ rfl, rfl⟩
  refine ⟨hT, PySem.F.args_dict_init_2 _ _, ?_⟩
  have ho1 : (s.heap.push { cls := .type "dict", data := .dict #[] }).DictOf knd o more := ho.at' fun ob e => Heap.get?_push_of_some _ e
  have hd1 : (s.heap.push { cls := .type "dict", data := .dict #[] }).DictOf knd s.heap.objs.size [] := Heap.DictOf.new s.heap
  have hdo : s.heap.objs.size ≠ o := Nat.ne_of_gt ho.lt_size
  unfold Builtin.«dict.__init__»
  refine wpAny_bind ?_
  unfold Builtin.Dict.selfAndRest
  refine wpAny_bind (wpAny_notOrdered_dict hT ?_)
  show wpAny _ _ (pure (s.heap.objs.size, [Value.ref o])) _ _ _
  refine wpAny_pure ?_
  show wpAny _ _ (Builtin.Dict.updateFrom "dict.__init__" s.heap.objs.size (.ref o) [] .none) _ _ _
  unfold Builtin.Dict.updateFrom
  refine wpAny_bind (wpAny_typeOf (s := { s with heap := s.heap.push { cls := .type "dict", data := .dict #[] } }) ho1.typeIs ?_)
  rw [if_neg (by decide)]
  refine wpAny_bind ?_
  unfold Builtin.Dict.merge
  refine wpAny_bind ?_
  unfold Builtin.Dict.readDirectly
  refine wpAny_bind (wpAny_isInstance (s := { s with heap := s.heap.push { cls := .type "dict", data := .dict #[] } }) ho1.typeIs isSubtype_dict_dict ?_)
  simp only [Bool.not_true, Bool.false_eq_true, if_false]
  refine wpAny_bind (wpAny_specialOf (s := { s with heap := s.heap.push { cls := .type "dict", data := .dict #[] } }) ho1.typeIs PySem.F.slot_dict_iter.lookup (wpAny_pure ?_))
  simp only [beq_self_eq_true, if_true]
  refine wpAny_bind (wpAny_pure ?_)
  refine wpAny_mergeDict (hsz := by simpa using hsz) hdo hoS hd1 ho1 fun h' hd' ho' hs' => ?_
  show wpAny _ _ (Builtin.Dict.addKeywords _ [] >>= _) _ _ _
  refine wpAny_bind (wpAny_pure (wpAny_pure ?_))
  exact ⟨rfl, h h' hd' fun b ob e => (hs'.2 b (Nat.ne_of_lt (Heap.lt_size e))).trans (Heap.get?_push_of_some _ e)⟩
end

section
variable {X : Cx} {pins : List (Addr × Obj)} {σ : L2.St} {H Ho : Hp} {s : Shared}
theorem Nw.dct {f : Bool} {K : Fw} {O : List Addr} {H : Hp} {kvs : List (D × D)} {Q : VK} (n : Nw f K O H (.dict kvs) Q) (dm : Dm O H) {p : Addr} {o : Obj} (hp : H p = none) (dn : Dnew K.w K (hid O H) p o kvs) : Q (.ref p) (upd H p (dcO p o)) := by
  obtain ⟨kv, vv, ok, r1, r2⟩ := dn
  exact n _ _ (Le.new hp) (.dct (hid_in (fun hm => dm p hm hp) upd_same) ok (r1.mono (hid_le_mono (Le.new hp))) (r2.mono (hid_le_mono (Le.new hp)))) fun _ _ => ⟨p, _, rfl, hp, upd_same, .dct ok (r1.mono (hid_cons_new hp)) (r2.mono (hid_cons_new hp))⟩
/-- a new dict has come -/
theorem laid_dct {k : Nat} {O : List Addr} {f : Bool} {kvs : List (D × D)} {Q : VK} {h' : Heap} {t : Nat} (I : Inv X pins σ H s) (dm : Dm O H) (n : Nw f X.fw O H (.dict kvs) Q) (hk : ∀ b ob, s.heap.get? b = some ob → h'.get? b = some ob)
    (dn : ∃ o, h'.get? s.heap.objs.size = some o ∧ Dnew X.w X.fw (hid O H) s.heap.objs.size o kvs) : EP X pins σ Q (.ref s.heap.objs.size) { s with heap := h', toks := t } := by
  obtain ⟨o, ho, dn⟩ := dn
  exact ⟨.ref s.heap.objs.size, _, I.laid (t' := t) hk (Nat.le_refl _) (ok_dcO ho), rfl, n.dct dm (I.hok.fresh (Nat.le_refl _)) dn⟩

theorem low_of (I : Inv X pins σ H s) : (s.heap.objs.size == sysModules) = false := by
  have h := I.big
  rw [beq_eq_false_iff_ne]
  exact Nat.ne_of_gt h
def rD1' (K : Fw) : List V → Hp → VK → Prop := fun xs H Q => ∃ O x a z, xs = [x] ∧ Dm O H ∧ Br K O H x a ∧ dBi .dict a = some z ∧ Nw true K O H z Q
/-! the pairs of a list -/
structure PL where
  T : Addr
  k : Key
  key : Value
  x : V
  y : Value
  z : D
structure PT' where
  T : Addr
  kd : D
  k : NestedKey
  b : Addr
  x : V
  y : Value
  z : D
def PL.Ok0 (K : Fw) (H : Hp) (p : PL) : Prop := keyIs p.k p.key = true ∧ RelV p.x p.y ∧ Rp K H p.x p.z
def PL.Ok (h : Heap) (K : Fw) (H : Hp) (p : PL) : Prop := h.IsTuple p.T #[p.key, p.y] ∧ p.Ok0 K H
def PT'.Ok0 (K : Fw) (H : Hp) (p : PT') : Prop := nkOf p.kd = some p.k ∧ nkTup p.k = true ∧ p.k.depth ≤ 8 ∧ Rp K H (.ref p.b) p.kd ∧ RelV p.x p.y ∧ Rp K H p.x p.z
def PT'.Ok (h : Heap) (K : Fw) (H : Hp) (p : PT') : Prop := h.IsTuple p.T #[.ref p.b, p.y] ∧ p.Ok0 K H
/-- a pair's own tuple -/
theorem pair_at {O : List Addr} (I : Inv X pins σ H s) {v : V} {u : Value} {k z : D} (r : Rp X.fw (hid O H) v (.tuple [k, z])) (ru : RelV v u) : ∃ T kv x key y, v = .ref T ∧ u = .ref T ∧ s.heap.IsTuple T #[key, y] ∧ RelV kv key ∧ RelV x y ∧ Rp X.fw (hid O H) kv k ∧ Rp X.fw (hid O H) x z := by
  cases r with
  | @tup T xs _ hs r =>
    cases r with
    | @cons kv _ _ _ r1 r2 =>
      cases r2 with
      | @cons x _ _ _ r3 r4 =>
        cases r4
        cases (show u = _ from ru)
        obtain ⟨its, rv, pl, _⟩ := I.tuple (show SqT X.K H T [kv, x] from (hid_le O H).st hs)
        cases rv with
        | @cons _ key _ _ q1 q2 => cases q2 with
          | @cons _ y _ _ q3 q4 =>
            cases q4
            obtain ⟨ob, h1, h2, n, h3⟩ := pl
            exact ⟨T, kv, x, key, y, rfl, rfl, ⟨ob, h1, h2, n, h3⟩, q1, q3, r1, r3⟩
theorem pairs_leaf {O : List Addr} (I : Inv X pins σ H s) : ∀ {ps : List D} {vs : List V} {its : List Value}, (∀ p ∈ ps, ∃ k z, p = .tuple [kD k, z]) → Rps X.fw (hid O H) vs ps → Vals vs its → ∃ L : List PL, (∀ p ∈ L, p.Ok s.heap X.fw (hid O H)) ∧ ps = L.map (fun p => .tuple [kD p.k, p.z]) ∧ its = L.map fun p => .ref p.T
  | [], _, _, _, .nil, .nil => ⟨[], by simp, rfl, rfl⟩
  | p :: ps, _, _, f, .cons r t, .cons q u => by
    obtain ⟨L, h1, h2, h3⟩ := pairs_leaf I (fun p hp => f p (by simp [hp])) t u
    obtain ⟨k, z, rfl⟩ := f p (by simp)
    obtain ⟨T, kv, x, key, y, rfl, rfl, e1, e2, e3, e4, e5⟩ := pair_at I r q
    rw [rp_kD e4] at e2
    refine ⟨⟨T, k, key, x, y, z⟩ :: L, fun p hp => ?_, by rw [h2]; rfl, by rw [h3]; rfl⟩
    rcases List.mem_cons.mp hp with rfl | hp
    · exact ⟨e1, kV_is (P := X.prog) (w := X.w) e2, e3, e5⟩
    · exact h1 p hp
theorem pairs_tup {O : List Addr} (I : Inv X pins σ H s) : ∀ {ps : List D} {vs : List V} {its : List Value}, (∀ p ∈ ps, ∃ k z j, p = .tuple [k, z] ∧ nkOf k = some j ∧ nkTup j = true ∧ j.depth ≤ 8) → Rps X.fw (hid O H) vs ps → Vals vs its →
    ∃ L : List PT', (∀ p ∈ L, p.Ok s.heap X.fw (hid O H)) ∧ ps = L.map (fun p => .tuple [p.kd, p.z]) ∧ its = L.map fun p => .ref p.T
  | [], _, _, _, .nil, .nil => ⟨[], by simp, rfl, rfl⟩
  | p :: ps, _, _, f, .cons r t, .cons q u => by
    obtain ⟨L, h1, h2, h3⟩ := pairs_tup I (fun p hp => f p (by simp [hp])) t u
    obtain ⟨k, z, j, rfl, j1, j2, j3⟩ := f p (by simp)
    obtain ⟨T, kv, x, key, y, rfl, rfl, e1, e2, e3, e4, e5⟩ := pair_at I r q
    have hb : ∃ b, kv = .ref b := by
      rw [nk_of_tup j1] at j2
      cases e4 <;> first | exact ⟨_, rfl⟩ | simp [isTup] at j2
    obtain ⟨b, rfl⟩ := hb
    cases (show key = .ref b from e2)
    refine ⟨⟨T, k, j, b, x, y, z⟩ :: L, fun p hp => ?_, by rw [h2]; rfl, by rw [h3]; rfl⟩
    rcases List.mem_cons.mp hp with rfl | hp
    · exact ⟨e1, j1, j2, j3, e4, e3, e5⟩
    · exact h1 p hp
theorem dPairs_cons {q : D} {ps : List D} {acc r : List (D × D)} (h : dPairs (q :: ps) acc = some r) : ∃ k v, q = .tuple [k, v] ∧ okKey k acc = true ∧ dPairs ps (keyPut k v acc) = some r := by
  cases q with
  | tuple xs =>
    match xs, h with
    | [k, v], h =>
      unfold dPairs at h
      split at h
      · rename_i hk
        exact ⟨k, v, rfl, hk, h⟩
      · cases h
    | [], h => simp [dPairs] at h
    | [_], h => simp [dPairs] at h
    | _ :: _ :: _ :: _, h => simp [dPairs] at h
  | _ => simp [dPairs] at h
theorem put_head (k v : D) (acc : List (D × D)) {f : D → Bool} (hk : f k = true) (ha : ∀ p ∈ acc, f p.1 = true) : ∃ p ∈ keyPut k v acc, f p.1 = true := by
  cases acc with
  | nil => exact ⟨(k, v), by simp [keyPut], hk⟩
  | cons a as =>
    unfold keyPut
    split
    · exact ⟨(a.1, v), by simp, ha a (by simp)⟩
    · exact ⟨a, by simp, ha a (by simp)⟩
/-- all keys of one make -/
theorem dPairs_leaf : ∀ {ps : List D} {acc r : List (D × D)}, dPairs ps acc = some r → (∃ p ∈ acc, scalK p.1 = true) → ∀ p ∈ ps, ∃ k z, p = .tuple [kD k, z]
  | [], _, _, _, _, p, hp => by cases hp
  | q :: ps, acc, r, h, ha, p, hp => by
    obtain ⟨k, v, rfl, hk, h⟩ := dPairs_cons h
    have hs : isTup k = false := by
      cases ht : isTup k with
      | false => rfl
      | true =>
        obtain ⟨p', hp', hs⟩ := ha
        have := (okKey_tup hk ht).2 p' hp'
        cases hq : p'.1 <;> rw [hq] at this hs <;> simp [isTup, scalK] at this hs
    obtain ⟨⟨j, rfl⟩, hall⟩ := okKey_leaf hk hs
    rcases List.mem_cons.mp hp with rfl | hp
    · exact ⟨j, v, rfl⟩
    · exact dPairs_leaf h (put_head _ _ _ (kD_scal j) hall) p hp
theorem dPairs_tup : ∀ {ps : List D} {acc r : List (D × D)}, dPairs ps acc = some r → (∃ p ∈ acc, isTup p.1 = true) → ∀ p ∈ ps, ∃ k z j, p = .tuple [k, z] ∧ nkOf k = some j ∧ nkTup j = true ∧ j.depth ≤ 8
  | [], _, _, _, _, p, hp => by cases hp
  | q :: ps, acc, r, h, ha, p, hp => by
    obtain ⟨k, v, rfl, hk, h⟩ := dPairs_cons h
    have hs : isTup k = true := by
      cases ht : isTup k with
      | true => rfl
      | false =>
        obtain ⟨p', hp', hs⟩ := ha
        have := (okKey_leaf hk ht).2 p' hp'
        cases hq : p'.1 <;> rw [hq] at this hs <;> simp [isTup, scalK] at this hs
    obtain ⟨⟨j, j1, j2, j3⟩, hall⟩ := okKey_tup hk hs
    rcases List.mem_cons.mp hp with rfl | hp
    · exact ⟨k, v, j, rfl, j1, j2, j3⟩
    · exact dPairs_tup h (put_head _ _ _ hs hall) p hp
theorem dPairs_kind {ps : List D} {r : List (D × D)} (h : dPairs ps [] = some r) : (∀ p ∈ ps, ∃ k z, p = .tuple [kD k, z]) ∨ ∀ p ∈ ps, ∃ k z j, p = .tuple [k, z] ∧ nkOf k = some j ∧ nkTup j = true ∧ j.depth ≤ 8 := by
  cases ps with
  | nil => exact .inl fun p hp => by cases hp
  | cons q ps =>
    obtain ⟨k, v, rfl, hk, h⟩ := dPairs_cons h
    cases ht : isTup k with
    | false =>
      obtain ⟨⟨j, rfl⟩, hall⟩ := okKey_leaf hk ht
      refine .inl fun p hp => ?_
      rcases List.mem_cons.mp hp with rfl | hp
      · exact ⟨j, v, rfl⟩
      · exact dPairs_leaf h (put_head _ _ _ (kD_scal j) hall) p hp
    | true =>
      obtain ⟨⟨j, j1, j2, j3⟩, hall⟩ := okKey_tup hk ht
      refine .inr fun p hp => ?_
      rcases List.mem_cons.mp hp with rfl | hp
      · exact ⟨k, v, j, rfl, j1, j2, j3⟩
      · exact dPairs_tup h (put_head _ _ _ ht hall) p hp
theorem nodup_put {kvV : List (Key × V)} (n : (kvV.map (·.1)).Nodup) (k : Key) (y : V) : ((putK kvV k y).map (·.1)).Nodup := by
  induction kvV with
  | nil => simp [putK]
  | cons p r ih =>
    rw [putK_cons n]
    rw [List.map_cons, List.nodup_cons] at n
    split
    · rw [List.map_cons, List.nodup_cons]; exact n
    · rename_i e
      rw [List.map_cons, List.nodup_cons]
      refine ⟨fun hm => ?_, ih n.2⟩
      obtain ⟨q, hq, e2⟩ := List.mem_map.mp hm
      have : ∀ {r : List (Key × V)}, q ∈ putK r k y → q.1 = k ∨ ∃ q' ∈ r, q'.1 = q.1 := fun {r} h => by
        unfold putK at h
        split at h
        · obtain ⟨q', hq', e3⟩ := List.mem_map.mp h
          split at e3
          · exact .inr ⟨q', hq', by rw [← e3]⟩
          · exact .inr ⟨q', hq', by rw [e3]⟩
        · rcases List.mem_append.mp h with h | h
          · exact .inr ⟨q, h, rfl⟩
          · have : q = (k, y) := by simpa using h
            exact .inl (by rw [this])
      rcases this hq with h | ⟨q', hq', e3⟩
      · exact e (e2.symm.trans h)
      · exact n.1 (by rw [← e2, ← e3]; exact List.mem_map_of_mem hq')
theorem fold_leaf {K : Fw} {H : Hp} : ∀ {L : List PL} {accV : List (Key × V)} {accU : List (Key × Value)} {acc r : List (D × D)}, (∀ p ∈ L, p.Ok0 K H) → LR K H accV acc → KV accV accU → (accV.map (·.1)).Nodup → dPairs (L.map fun p => .tuple [kD p.k, p.z]) acc = some r →
    ∃ rV, LR K H rV r ∧ KV rV (merged accU (L.map fun p => (p.k, p.y)))
  | [], accV, accU, acc, r, _, lr, kv, _, h => by cases h; exact ⟨accV, lr, kv⟩
  | p :: L, accV, accU, acc, r, ok, lr, kv, n, h => by
    obtain ⟨k, v, e, hk, h⟩ := dPairs_cons (show dPairs (.tuple [kD p.k, p.z] :: L.map fun p => .tuple [kD p.k, p.z]) acc = some r from h)
    cases e
    obtain ⟨_, e3, e4⟩ := ok p (by simp)
    exact fold_leaf (L := L) (fun q hq => ok q (by simp [hq])) (lr.put n p.k e4) (kv.put p.k e3) (nodup_put n p.k p.x) h
theorem nodup_putX {xV : List (NestedKey × Addr × V)} (n : (xV.map (·.1)).Nodup) (k : NestedKey) (a : Addr) (y : V) : ((putX xV k a y).map (·.1)).Nodup ∧ ∀ q ∈ putX xV k a y, q.1 = k ∨ ∃ q' ∈ xV, q'.1 = q.1 := by
  induction xV with
  | nil => exact ⟨by simp [putX], fun q hq => .inl (by have : q = (k, a, y) := by simpa [putX] using hq
                                                       rw [this])⟩
  | cons p r ih =>
    rw [List.map_cons, List.nodup_cons] at n
    obtain ⟨i1, i2⟩ := ih n.2
    unfold putX
    split
    · refine ⟨by rw [List.map_cons, List.nodup_cons]; exact n, fun q hq => ?_⟩
      rcases List.mem_cons.mp hq with rfl | hq
      · exact .inr ⟨p, by simp, rfl⟩
      · exact .inr ⟨q, by simp [hq], rfl⟩
    · rename_i e
      refine ⟨?_, fun q hq => ?_⟩
      · rw [List.map_cons, List.nodup_cons]
        refine ⟨fun hm => ?_, i1⟩
        obtain ⟨q, hq, e2⟩ := List.mem_map.mp hm
        rcases i2 q hq with h | ⟨q', hq', e3⟩
        · exact e (e2.symm.trans h)
        · exact n.1 (by rw [← e2, ← e3]; exact List.mem_map_of_mem hq')
      · rcases List.mem_cons.mp hq with rfl | hq
        · exact .inr ⟨q, by simp, rfl⟩
        · rcases i2 q hq with h | ⟨q', hq', e3⟩
          · exact .inl h
          · exact .inr ⟨q', by simp [hq'], e3⟩
theorem fold_tup {K : Fw} {H : Hp} : ∀ {L : List PT'} {accV : List (NestedKey × Addr × V)} {accU : List (NestedKey × Addr × Value)} {acc r : List (D × D)}, (∀ p ∈ L, p.Ok0 K H) → TR K H accV acc → XR accV accU → (accV.map (·.1)).Nodup → (∀ x ∈ accV, nkTup x.1 = true ∧ x.1.depth ≤ 8) → dPairs (L.map fun p => .tuple [p.kd, p.z]) acc = some r →
    ∃ rV, TR K H rV r ∧ XR rV (storedAllH accU (L.map fun p => (p.k, p.b, p.y))) ∧ ∀ x ∈ rV, nkTup x.1 = true ∧ x.1.depth ≤ 8
  | [], accV, accU, acc, r, _, lr, kv, _, hd, h => by cases h; exact ⟨accV, lr, kv, hd⟩
  | p :: L, accV, accU, acc, r, ok, lr, kv, n, hd, h => by
    obtain ⟨k, v, e, hk, h⟩ := dPairs_cons (show dPairs (.tuple [p.kd, p.z] :: L.map fun p => .tuple [p.kd, p.z]) acc = some r from h)
    cases e
    obtain ⟨e2, e3, e4, e5, e6, e7⟩ := ok p (by simp)
    exact fold_tup (L := L) (fun q hq => ok q (by simp [hq])) (lr.put e2 e5 e7) (kv.put (by rw [← XR.keysEq kv]; exact n) p.k p.b e6) (nodup_putX n p.k p.b p.x).1 (putX_deep ⟨e3, e4⟩ hd) h
theorem get_map {α β : Type} {f : α → β} {L : List α} {j : Nat} {y : β} (h : (L.map f)[j]? = some y) : ∃ p, L[j]? = some p ∧ f p = y := by
  rw [List.getElem?_map] at h
  cases e : L[j]? with
  | none => rw [e] at h; cases h
  | some p => rw [e] at h; exact ⟨p, rfl, Option.some.inj h⟩
theorem bi_dict {k0 : Nat} (hr : Room k0 X.A) (hc : X.calm = true) : CallR X (.type "dict") (rD1' X.fw) := by
  intro pins s σ H xs us Q I r h
  obtain ⟨O, x, a, z, rfl, dm, ha, hz, n⟩ := h
  cases a <;> try (simp [dBi] at hz; done)
  case dict kvs =>
    simp only [dBi] at hz
    split at hz
    · rename_i hk
      have e : PyData.dict kvs = z := Option.some.inj hz
      subst e
      obtain ⟨p, rfl, va⟩ := ha.view I
      rw [Vals.ref1 r]
      cases va with
      | leaf h1 h2 h3 h4 h5 =>
        rename_i kvV us'
        refine call_dict_same h4 h5 h3 fun h' dd hk => ?_
        have nn : (us'.map (·.1)).Nodup := by obtain ⟨_, _, _, _, _, _, _, _, n⟩ := h5; exact n
        rw [merged_nil_of_nodup _ nn] at dd
        exact laid_dct (k := k0) (t := s.toks) I dm n hk (dnew_leaf h1 h2 h3 (low_of I) dd)
      | tup h1 h2 h3 h4 h5 h6 =>
        cases h1 with
        | nil =>
          obtain ⟨kvV, us', g1, g2, g3, g4, g5⟩ := Dvw.isLeaf (kvs := []) (.tup (.nil) h2 h3 h4 h5 h6) (fun p hp => by cases hp)
          refine call_dict_same g4 g5 g3 fun h' dd hk => ?_
          have nn : (us'.map (·.1)).Nodup := by obtain ⟨_, _, _, _, _, _, _, _, n⟩ := g5; exact n
          rw [merged_nil_of_nodup _ nn] at dd
          exact laid_dct (k := k0) (t := s.toks) I dm n hk (dnew_leaf g1 g2 g3 (low_of I) dd)
        | @cons p q _ _ hq _ =>
          rw [List.all_cons, Bool.and_eq_true] at hk
          have k2 := (h5 p (by simp)).1
          rw [nk_of_tup hq.1] at k2
          simp [k2] at hk
    · cases hz
  case list ps =>
    simp only [dBi] at hz
    split at hz
    · rename_i hlen
      cases hp : dPairs ps [] with
      | none => rw [hp] at hz; cases hz
      | some kvs =>
        rw [hp] at hz
        have e : PyData.dict kvs = z := Option.some.inj hz
        subst e
        obtain ⟨p, vs, rfl, r1, q⟩ := ha.lst
        rw [Vals.ref1 r]
        obtain ⟨its, rv, pl, hzz⟩ := I.list (.inl (.inl q))
        obtain ⟨ob, nn, g1, g2, g3, g4⟩ := pl
        rcases dPairs_kind hp with hk | hk
        · obtain ⟨L, l1, l2, l3⟩ := pairs_leaf I hk r1 rv
          subst l2 l3
          obtain ⟨rV, lr, kv⟩ := fold_leaf (fun p hp => (l1 p hp).2) .nil .nil (by simp) hp
          have hL : L.length ≤ sizeLine := by rw [List.length_map] at hlen; rw [← line_eq]; exact hlen
          refine call_dict_pairs (knd := mixKind X.prog X.w) (kvs := L.map fun p => (p.k, p.y)) (PySem.PairArg.list p _ (fun j => ((L[j]?).map (·.T)).getD 0) (L.map fun p => (p.key, p.y))) (I.ok.hd hc) ⟨⟨ob, nn, g1, g2, g3, g4⟩, by simp, fun j key y hj => ?_⟩ ⟨by simp, fun i key v hrel => ?_⟩ (by simpa using hL) fun h' tk dd hk => ?_
          · obtain ⟨p, hp, e⟩ := get_map hj
            cases e
            obtain ⟨e1, _⟩ := l1 p (List.mem_of_getElem? hp)
            refine ⟨?_, .inl ?_⟩
            · rw [List.getElem?_toArray, List.getElem?_map, hp]
              simp [hp]
            · simp [hp]; exact e1
          · obtain ⟨p, hp, e⟩ := get_map hrel
            cases e
            obtain ⟨_, e2, _⟩ := l1 p (List.mem_of_getElem? hp)
            exact ⟨p.k, by rw [List.getElem?_map, hp]; rfl, e2⟩
          · refine laid_dct (k := k0) (t := tk) I dm n (fun b o e => hk b o (by simp) e) (dnew_leaf lr kv ?_ (low_of I) dd)
            have := merged_length_le ([] : List (Key × Value)) (L.map fun p => (p.k, p.y))
            simp only [List.length_nil, List.length_map] at this
            omega
        · obtain ⟨L, l1, l2, l3⟩ := pairs_tup I hk r1 rv
          subst l2 l3
          obtain ⟨rV, tr, xr, hd⟩ := fold_tup (fun p hp => (l1 p hp).2) .nil .nil (by simp) (fun x hx => by cases hx) hp
          have hL : L.length ≤ sizeLine := by rw [List.length_map] at hlen; rw [← line_eq]; exact hlen
          refine call_dict_pairsH (knd := nestedKind X.prog X.w) (ps := L.map fun p => (p.k, p.b, p.y)) (PySem.PairArg.list p _ (fun j => ((L[j]?).map (·.T)).getD 0) (L.map fun p => (.ref p.b, p.y))) (I.ok.hd hc) (by show X.A.units + 1 + 1 + 8 < cLine; have := hr.un; omega) ⟨⟨ob, nn, g1, g2, g3, g4⟩, by simp, fun j key y hj => ?_⟩ ⟨by simp, fun i key v hrel => ?_⟩ (fun h' hk x hx => ?_) (by simpa using hL) fun h' tk dd hk => ?_
          · obtain ⟨p, hp, e⟩ := get_map hj
            cases e
            obtain ⟨e1, _⟩ := l1 p (List.mem_of_getElem? hp)
            refine ⟨?_, .inl ?_⟩
            · rw [List.getElem?_toArray, List.getElem?_map, hp]
              simp [hp]
            · simp [hp]; exact e1
          · obtain ⟨p, hp, e⟩ := get_map hrel
            cases e
            exact ⟨p.k, p.b, by rw [List.getElem?_map, hp]; rfl, rfl⟩
          · obtain ⟨p, hp, rfl⟩ := List.mem_map.mp hx
            obtain ⟨_, e2, e3, e4, e5, _⟩ := l1 p hp
            obtain ⟨b, eb, _, hb⟩ := tup_is (u := .ref p.b) I (hid_le O H) e5 rfl e2 e3 e4
            cases eb
            exact nestedKind_stays.stays (fun b' o vs n' hb' hd' => hk b' o (Nat.ne_of_lt (Heap.lt_size hb')) (by simp) hb') hb
          · refine laid_dct (k := k0) (t := tk) I dm n (fun b o e => hk b o (by simp) e) (dnew_tup tr xr ?_ (low_of I) hd dd)
            have := storedAllH_length (L.map fun p => (p.k, p.b, p.y)) []
            simp only [List.length_nil, List.length_map] at this
            omega
    · cases hz
end
end PV

set_option maxHeartbeats 4000000
/-! PV: sorted(xs) of a tuple. -/
namespace PV
open PySem PySem.Calls PySem.W L2 PyProof.Rows
section
variable {prog : Program} {w : World} {A : Around} {E : Value → Shared → Prop} {s : Shared} {κ : PyProof.Rows.KeyKind}
theorem collect_tup {l : Addr} {vs : List Value} {Q : List Value → Shared → Prop} (hl : IsTup s.heap l vs.toArray) (hsz : vs.length ≤ sizeLine)
    (h : Q vs { s with heap := (s.heap.push (seqObj "list" #[] 0)).update s.heap.objs.size (Obj.mapSeq (· ++ vs.toArray)) }) :
    wpAny (model prog w) A (collect (.ref l)) Q E s := by
  obtain ⟨o, ho, hc, n, hd⟩ := id hl
  unfold collect
  refine wpAny_bind (wpAny_runValue (codeAny_builtin entry_proto_collect' ?_))
  show wpAny _ _ (do again (.builtin "list.__iadd__" ⟨[← newList [], .ref l], []⟩)) _ _ s
  refine wpAny_bind (wpAny_newList (wpAny_pure ⟨Code.quiet_builtin _ (by decide +kernel), codeAny_builtin entry_list_iadd' ?_⟩))
  show wpAny _ _ (Builtin.List.listExtendWith (.ref s.heap.objs.size) (.ref l) (.ref s.heap.objs.size)) _ _ { s with heap := s.heap.push (seqObj "list" #[] 0) }
  unfold Builtin.List.listExtendWith
  have ho' : (s.heap.push (seqObj "list" #[] 0)).get? l = some o := Heap.get?_push_of_some _ ho
  refine wpAny_bind (wpAny_typeOf (T := "tuple") ⟨o, ho', hc⟩ ?_)
  have ht : (Value.type "tuple" == Value.type "tuple") = true := by rfl
  rw [if_pos (by rw [ht]; simp)]
  refine wpAny_bind (listItems_at ho' hd ?_)
  refine wpAny_bind (listItems_at (xs := #[]) (n := 0) (Heap.get?_push_size _ rfl) rfl ?_)
  rw [if_neg (by simp)]
  refine wpAny_bind (listUpdate_at (xs := #[]) (n := 0) (Heap.get?_push_size _ rfl) rfl ?_ (Nat.zero_le _) (by show (#[] ++ vs.toArray).size ≤ sizeLine + 1; simp only [Array.size_append, List.size_toArray, List.length_nil]; omega))
  refine wpAny_pure ?_
  show wpAny (model prog w) A (do
      let o ← load s.heap.objs.size
      match o.data with
      | .seq xs _ => pure xs.toList
      | _ => unsupported "internal:collect") Q E { s with heap := (s.heap.push (seqObj "list" #[] 0)).update s.heap.objs.size (Obj.mapSeq (· ++ vs.toArray)) }
  refine wpAny_bind (wpAny_load (get?_update_seq (Heap.get?_push_size _ rfl) _) ?_)
  show wpAny _ _ (pure ((#[] : Array Value) ++ vs.toArray).toList) Q E _
  rw [show ((#[] : Array Value) ++ vs.toArray).toList = vs by simp]
  exact wpAny_pure h
theorem sorted_vals_tup {l : Addr} {vs : List Value} {Q : Value → Shared → Prop} (hl : IsTup s.heap l vs.toArray) (S : SortsAt prog w A.in1.in1 { s with heap := sortingHeap (copyHeap s.heap vs) (s.heap.objs.size + 1) vs } κ vs) (hL : vs.length ≤ sizeLine)
    (h : Q (.ref (s.heap.objs.size + 1)) { s with heap := sortedAll s.heap vs (sortVals κ false vs vs).toArray }) : wpAny (model prog w) A (call (.builtin "sorted") [.ref l]) Q E s := by
  refine call_function_entry_kw kind_sorted plain_sorted entry_sorted (args_sorted1 _) ?_
  unfold Builtin.«sorted»
  refine wpAny_bind (m := checkCount "sorted" 1 1 _) (wpAny_pure ?_)
  refine wpAny_bind (collect_tup hl hL ?_)
  refine wpAny_bind (wpAny_newList ?_ hL)
  have hsz : ((s.heap.push (seqObj "list" #[] 0)).update s.heap.objs.size (Obj.mapSeq (· ++ vs.toArray))).objs.size = s.heap.objs.size + 1 := by
    rw [Heap.size_update, size_push']
  show wpAny _ _ _ _ _ { s with heap := copyHeap s.heap vs }
  rw [hsz]
  refine wpAny_bind (wpAny_holding (wpAny_call_entry_kw slot_list_sort ⟨_, copyHeap_at s.heap vs, rfl⟩ entry_list_sort ?body (args_list_sort _)))
  case body =>
    show wpAny (model prog w) A.in1.in1 (Builtin.«list.sort» ⟨[.ref (s.heap.objs.size + 1)], []⟩) _ _ _
    refine wpAny_mono (list_sort_vals (P := fun f s' => f = .done (.ret .none) ∧ Q (.ref (s.heap.objs.size + 1)) s') (s := { s with heap := copyHeap s.heap vs }) (copyHeap_at s.heap vs) S hL ⟨rfl, h⟩) (fun f s' hf => ?_) fun _ _ e => e
    obtain ⟨rfl, hq⟩ := hf
    exact ⟨_, rfl, wpAny_pure ⟨_, rfl, hq⟩⟩
theorem bound_map' {β : Type} {bs : List β} {enc : β → PyData} (hu : ∀ b, b ∈ bs → A.units + (enc b).depth < cLine) : ∀ d, d ∈ bs.map enc → A.units + d.depth < cLine := by
  intro d hd
  obtain ⟨b, hb, rfl⟩ := List.mem_map.mp hd
  exact hu b hb
theorem sorted_data_tup {l : Addr} {vs : List Value} {bs : List PyData} {R : Value → PyData → Prop} {Q : Value → Shared → Prop} (hl : IsTup s.heap l vs.toArray) (e : EachIs R vs bs) (er : EachIs (fun v b => ∃ as, Reads s.heap v (id b) as) vs bs) (hal : AllAlike (bs.map id)) (hk : PySem.W.Sortable (bs.map id)) (hL : bs.length ≤ sizeLine)
    (hu : ∀ b, b ∈ bs → A.units + 2 + (id b).depth < cLine) (h : ∀ out, out.length = bs.length → EachIs R out (bs.mergeSort (dataLe false id)) → Q (.ref (s.heap.objs.size + 1)) { s with heap := sortedAll s.heap vs (List.toArray out) }) :
    wpAny (model prog w) A (call (.builtin "sorted") [.ref l]) Q E s := by
  have er' : EachIs (fun v b => ∃ as, Reads (sortingHeap (copyHeap s.heap vs) (s.heap.objs.size + 1) vs) v (id b) as) vs bs := er.mono fun _ _ ⟨as, r⟩ => ⟨as, PyProof.Rows.Reads.keeps (fun _ _ => sorting_copy_old) r⟩
  exact sorted_vals_tup hl (SortsAt.data (s := { s with heap := sortingHeap (copyHeap s.heap vs) (s.heap.objs.size + 1) vs }) (each_map (R := fun v d => ∃ as, Reads (sortingHeap (copyHeap s.heap vs) (s.heap.objs.size + 1) vs) v d as) id er') hal hk (bound_map' hu)) (by rw [e.length]; exact hL)
    (h _ (by rw [sortVals_length false rfl]; exact e.length) (sortVals_data false e er' hal))
end
end PV

set_option maxHeartbeats 4000000
/-! PV: subscripts, slices, built-in functions. -/
namespace PV
open PySem L2 PyProof.Rows

section
variable {K : Fw} {O : List Addr} {H : Hp}
theorem Rps.at_ {vs : List V} {ds : List D} {i : Int} {d : D} (h : Rps K H vs ds) (e : atI ds i = some d) : ∃ v, atI vs i = some v ∧ Rp K H v d := by
  unfold atI at e ⊢
  rw [h.length]
  cases q : ixN ds.length i with
  | none => rw [q] at e; cases e
  | some j =>
    rw [q] at e
    exact h.getD e
end
section
variable {X : Cx}
theorem op_ix {k : Nat} (hr : Room k X.A) : IxR X (rD2 false X.fw dIx) := by
  intro value slice pins s σ H x y v u Q I rx ry h hs
  obtain ⟨O, a, b, z, dm, ha, hb, hz, n⟩ := h
  by_cases hdd : ∃ kvs, a = .dict kvs
  · obtain ⟨kvs, rfl⟩ := hdd
    simp only [dIx] at hz
    split at hz
    · rename_i hk
      obtain ⟨p, rfl, va⟩ := ha.view I
      cases (show v = .ref p from rx)
      exact tail_any (ops := [.ref p, u]) (dict_raw va).choose_spec.choose_spec.1.typeIs PySem.F.slot_dict_getitem.lookup (dict_ix hr I (hid_le O H) va (hb.key hk) ry hk hz fun v' u' t r1 r2 => ⟨v', H, I.tok t, r1, n.same r2⟩) hs
    · cases hz
  cases a <;> cases b <;> try (first | exact absurd ⟨_, rfl⟩ hdd | (simp [dIx] at hz; done))
  case list.int xs i =>
    obtain ⟨p, vs, e1, r1, h1⟩ := ha.lst
    obtain ⟨w, e2, r2⟩ := r1.at_ (show atI xs i = some z from hz)
    exact ix_list value slice pins s σ H x y v u Q I rx ry ⟨p, vs, i, w, e1, hb.int, .inl (.inl h1), e2, n.same r2⟩ hs
  case tuple.int xs i =>
    obtain ⟨p, vs, e1, r1, h1, _⟩ := ha.tup
    obtain ⟨w, e2, r2⟩ := r1.at_ (show atI xs i = some z from hz)
    exact ix_tup value slice pins s σ H x y v u Q I rx ry ⟨p, vs, i, w, e1, hb.int, h1, e2, n.same r2⟩ hs
  case str.int xs i =>
    simp only [dIx] at hz
    split at hz
    · rename_i hl
      cases q : atI xs.cps.toList i with
      | none => rw [q] at hz; cases hz
      | some c =>
        rw [q] at hz
        have e : PyData.str ⟨#[c]⟩ = z := Option.some.inj hz
        subst e
        exact ix_str value slice pins s σ H x y v u Q I rx ry ⟨xs, i, c, ha.str, hb.int, by rw [← line_eq]; exact hl, q, n.str⟩ hs
    · cases hz
/-- a slice -/
def rSlD (K : Fw) : V → Option Int → Option Int → Hp → VK → Prop := fun x lo hi H Q => ∃ O a z, Dm O H ∧ Br K O H x a ∧ dSl a lo hi = some z ∧ Nw true K O H z Q
theorem cut_whole {α : Type} {xs : List α} {lo hi : Option Int} (h : HT.sIx xs.length 0 lo = 0 ∧ HT.sIx xs.length xs.length hi = xs.length) : cut xs lo hi = xs := by
  unfold cut
  rw [h.1, h.2]
  simp
theorem op_sl : SlR X (rSlD X.fw) := by
  intro pins s σ H x v vl vu lo hi sl Q I rx hs pl pu h
  obtain ⟨O, a, z, dm, ha, hz, n⟩ := h
  cases a <;> try (simp [dSl] at hz; done)
  case list xs =>
    have e : PyData.list (cut xs lo hi) = z := Option.some.inj hz
    subst e
    obtain ⟨p, vs, e1, r1, h1⟩ := ha.lst
    exact sl_list pins s σ H x v vl vu lo hi sl Q I rx hs pl pu ⟨p, vs, e1, .inl (.inl h1), fun l hl => n.lst dm (r1.cut lo hi) hl⟩
  case tuple xs =>
    have e : PyData.tuple (cut xs lo hi) = z := Option.some.inj hz
    subst e
    obtain ⟨p, vs, e1, r1, h1, f1⟩ := ha.tup
    refine sl_tupA pins s σ H x v vl vu lo hi sl Q I rx hs pl pu ⟨p, vs, e1, h1, fun hw => ?_, fun _ l hl => n.tup dm (r1.cut lo hi) hl⟩
    rw [r1.length] at hw
    rw [cut_whole hw] at n
    rw [e1] at f1
    exact n.sameT f1

/-! ### built-in functions -/
def biF : Bi → Bool
  | .list => true
  | .sorted => true
  | .dict => true
  | .sset => true
  | _ => false
def rD1 (K : Fw) (b : Bi) : List V → Hp → VK → Prop := fun xs H Q => ∃ O x a z, xs = [x] ∧ Dm O H ∧ Br K O H x a ∧ dBi b a = some z ∧ Nw (biF b) K O H z Q
def biV : Bi → Value
  | .len => .builtin "len"
  | .abs => .builtin "abs"
  | .sum => .builtin "sum"
  | .any => .builtin "any"
  | .all => .builtin "all"
  | .sorted => .builtin "sorted"
  | .min => .builtin "min"
  | .max => .builtin "max"
  | .tuple => .type "tuple"
  | .list => .type "list"
  | .int => .type "int"
  | .str => .type "str"
  | .dict => .type "dict"
  | .sset => .builtin "sorted"
  | .lset => .builtin "len"
/-- the ones that are served -/
def biOk : Bi → Bool
  | .str => false
  | .sset => false
  | .lset => false
  | _ => true
theorem bi_len : CallR X (.builtin "len") (rD1 X.fw .len) := by
  intro pins s σ H xs us Q I r h
  obtain ⟨O, x, a, z, rfl, dm, ha, hz, n⟩ := h
  cases a <;> try (simp [dBi] at hz; done)
  case list ds =>
    have e : PyData.int ds.length = z := Option.some.inj hz
    subst e
    obtain ⟨p, vs, e1, r1, h1⟩ := ha.lst
    refine call_len_seq pins s σ H _ us Q I r ⟨p, vs, by rw [e1], .inl (.inl (.inl h1)), ?_⟩
    rw [r1.length]
    exact n.int
  case tuple ds =>
    have e : PyData.int ds.length = z := Option.some.inj hz
    subst e
    obtain ⟨p, vs, e1, r1, h1, _⟩ := ha.tup
    refine call_len_seq pins s σ H _ us Q I r ⟨p, vs, by rw [e1], .inr h1, ?_⟩
    rw [r1.length]
    exact n.int
  case str t =>
    simp only [dBi] at hz
    split at hz
    · rename_i hl
      have e : PyData.int t.length = z := Option.some.inj hz
      subst e
      exact call_len_str pins s σ H _ us Q I r ⟨t, by rw [ha.str], by rw [← line_eq]; exact hl, n.int⟩
    · cases hz
  case dict ds =>
    have e : PyData.int ds.length = z := Option.some.inj hz
    subst e
    obtain ⟨p, rfl, va⟩ := ha.view I
    rw [Vals.ref1 r]
    exact dict_len va fun t t' => ⟨.int ds.length, H, I.tok t', ⟨t, rfl⟩, n.int⟩
theorem bi_abs : CallR X (.builtin "abs") (rD1 X.fw .abs) := by
  intro pins s σ H xs us Q I r h
  obtain ⟨O, x, a, z, rfl, dm, ha, hz, n⟩ := h
  cases a <;> try (simp [dBi] at hz; done)
  case int i =>
    have e : PyData.int (if i < 0 then -i else i) = z := Option.some.inj hz
    subst e
    exact call_abs pins s σ H _ us Q I r ⟨i, by rw [ha.int], n.int⟩
theorem items_some {d : D} {ds : List D} (e : items d = some ds) : d = .list ds ∨ d = .tuple ds := by
  cases d <;> simp [items] at e
  · subst e; exact .inl rfl
  · subst e; exact .inr rfl
theorem sum_tup {pins : List (Addr × Obj)} {s : Shared} {σ : L2.St} {H : Hp} {a : Addr} {ns : List Int} {Q : VK} (hc : X.calm = true) (I : Inv X pins σ H s) (hT : SqT X.fw H a (ns.map V.int)) (q : Q (.int ns.sum) H) :
    wpAny (model X.prog X.w) X.A (call (.builtin "sum") [.ref a]) (EP X pins σ Q) X.xe s := by
  obtain ⟨its, rv, pl, hz⟩ := I.tuple hT
  have hi : PyProof.Rows.IntsAre its ns := rv.ints
  obtain ⟨xs, e⟩ := hi.allInts.items
  have hn : PySem.numsOf (PySem.intItems xs).toList = ns := by rw [← e]; exact hi.numsOf
  rw [nums_intItems] at hn
  rw [e] at pl
  refine PySem.W.ktm_sumG (I.ok.hd hc) pl fun h' tk t' hk => ?_
  refine ⟨.int ns.sum, H, I.kept hk, ⟨t', ?_⟩, q⟩
  rw [preSum_eq, List.take_of_length_le (by simp), hn]
theorem bi_sum (hc : X.calm = true) : CallR X (.builtin "sum") (rD1 X.fw .sum) := by
  intro pins s σ H xs us Q I r h
  obtain ⟨O, x, a, z, rfl, dm, ha, hz, n⟩ := h
  simp only [dBi] at hz
  cases hi : items a with
  | none => rw [hi] at hz; cases hz
  | some ds =>
    rw [hi] at hz
    cases hn : ints? ds with
    | none => simp [hn] at hz
    | some ns =>
      have e : PyData.int ns.sum = z := by simpa [hn] using hz
      subst e
      obtain ⟨p, vs, e1, r1, q⟩ := ha.items hi
      have e2 := r1.ints hn
      subst e1 e2
      rcases q with ⟨_, q⟩ | ⟨_, q⟩
      · exact cr_sum hc pins s σ H _ us Q I r ⟨p, ns, rfl, .inl (.inl q), n.int⟩
      · rw [Vals.ref1 r]
        exact sum_tup hc I q n.int
theorem bi_any (hc : X.calm = true) : CallR X (.builtin "any") (rD1 X.fw .any) := by
  intro pins s σ H xs us Q I r h
  obtain ⟨O, x, a, z, rfl, dm, ha, hz, n⟩ := h
  cases a <;> try (simp [dBi] at hz; done)
  case list ds =>
    simp only [dBi] at hz
    cases hn : bools? ds with
    | none => rw [hn] at hz; cases hz
    | some ns =>
      rw [hn] at hz
      have e : PyData.bool (ns.any id) = z := Option.some.inj hz
      subst e
      obtain ⟨p, vs, e1, r1, q⟩ := ha.lst
      have e2 := r1.bools hn
      subst e1 e2
      exact cr_any hc pins s σ H _ us Q I r ⟨p, ns, rfl, .inl (.inl q), n.bl⟩
theorem bi_all (hc : X.calm = true) : CallR X (.builtin "all") (rD1 X.fw .all) := by
  intro pins s σ H xs us Q I r h
  obtain ⟨O, x, a, z, rfl, dm, ha, hz, n⟩ := h
  cases a <;> try (simp [dBi] at hz; done)
  case list ds =>
    simp only [dBi] at hz
    cases hn : bools? ds with
    | none => rw [hn] at hz; cases hz
    | some ns =>
      rw [hn] at hz
      have e : PyData.bool (ns.all id) = z := Option.some.inj hz
      subst e
      obtain ⟨p, vs, e1, r1, q⟩ := ha.lst
      have e2 := r1.bools hn
      subst e1 e2
      exact cr_all hc pins s σ H _ us Q I r ⟨p, ns, rfl, .inl (.inl q), n.bl⟩
theorem bi_tuple : CallR X (.type "tuple") (rD1 X.fw .tuple) := by
  intro pins s σ H xs us Q I r h
  obtain ⟨O, x, a, z, rfl, dm, ha, hz, n⟩ := h
  simp only [dBi] at hz
  cases hi : items a with
  | none => rw [hi] at hz; cases hz
  | some ds =>
    rw [hi] at hz
    have e : PyData.tuple ds = z := Option.some.inj hz
    subst e
    obtain ⟨p, vs, e1, r1, q⟩ := ha.items hi
    subst e1
    rcases q with ⟨_, q⟩ | ⟨e, q⟩
    · exact call_tuple_of pins s σ H _ us Q I r ⟨p, vs, rfl, .inl ⟨.inl (.inl q), fun l hl => n.tup dm r1 hl⟩⟩
    · subst e
      exact call_tuple_of pins s σ H _ us Q I r ⟨p, vs, rfl, .inr ⟨q, n.sameT ha.tup.choose_spec.choose_spec.2.2.2⟩⟩
theorem bi_list (hc : X.calm = true) : CallR X (.type "list") (rD1 X.fw .list) := by
  intro pins s σ H xs us Q I r h
  obtain ⟨O, x, a, z, rfl, dm, ha, hz, n⟩ := h
  by_cases nd : ∃ kvs, a = .dict kvs
  · obtain ⟨kvs, rfl⟩ := nd
    have e : PyData.list (kvs.map (·.1)) = z := Option.some.inj hz
    subst e
    obtain ⟨p, rfl, va⟩ := ha.view I
    rw [Vals.ref1 r]
    obtain ⟨es, ep, kv, hr, hs, rv, rk⟩ := dict_keys va
    have hl := va.len
    refine PySem.W.kdl_call (PySem.KdlSrc.rawDict (es := es) (ep := ep) va.low) (I.ok.hd hc) hr (by rw [hs]; exact hl) fun h' tk acc c' hk hS hacc => ?_
    have rv' := items_vals (h := h') (K := X.fw) (H := H) (kds := []) rv hacc
    have hlen : kv.length ≤ sizeLine := by rw [rk.length, List.length_map]; exact hl
    exact ⟨.ref s.heap.objs.size, _, I.laid (t' := tk) hk (Nat.le_refl _) (show ObjOk X.prog X.w _ h' _ (.lst kv) from ⟨hlen, acc.toList, c', rv', by simpa using hS⟩), rfl, n.lst dm rk (I.hok.fresh (Nat.le_refl _))⟩
  have hz' : (items a).map PyData.list = some z := by
    cases a <;> first | exact hz | exact absurd ⟨_, rfl⟩ nd
  cases hi : items a with
  | none => rw [hi] at hz'; cases hz'
  | some ds =>
    rw [hi] at hz'
    have e : PyData.list ds = z := Option.some.inj hz'
    subst e
    obtain ⟨p, vs, e1, r1, q⟩ := ha.items hi
    subst e1
    refine call_list_of pins s σ H _ us Q I r ⟨p, vs, rfl, ?_, fun l hl => n.lst dm r1 hl⟩
    rcases q with ⟨_, q⟩ | ⟨e, q⟩
    · exact .inl (.inl (.inl q))
    · exact .inr q
theorem bi_int : CallR X (.type "int") (rD1 X.fw .int) := by
  intro pins s σ H xs us Q I r h
  obtain ⟨O, x, a, z, rfl, dm, ha, hz, n⟩ := h
  cases a <;> try (simp [dBi] at hz; done)
  case int i =>
    have e : PyData.int i = z := Option.some.inj hz
    subst e
    exact call_int1 pins s σ H _ us Q I r (.inl ⟨i, by rw [ha.int], n.int⟩)
  case bool i =>
    have e : PyData.int (if i then 1 else 0) = z := Option.some.inj hz
    subst e
    exact call_int1 pins s σ H _ us Q I r (.inr ⟨i, by rw [ha.bl], n.int⟩)
/-- the item of a list that reads as a datum of it -/
theorem item_of {pins : List (Addr × Obj)} {s : Shared} {σ : L2.St} {H : Hp} {O : List Addr} {vs : List V} {ds : List D} {its : List Value} {i : Nat} {v : Value} {h' : Heap} {m : D} {bs : List Addr} (I : Inv X pins σ H s) (r1 : Rps X.fw (hid O H) vs ds) (rv : Vals vs its)
    (hv : its[i]? = some v) (hm : Reads h' v m bs) (hk : ∀ b o, s.heap.get? b = some o → h'.get? b = some o) (hs : ∀ d ∈ ds, d.plain = true) : ∃ x, RelV x v ∧ Rp X.fw (hid O H) x m := by
  have hl := rv.length
  have hi : i < its.length := (List.getElem?_eq_some_iff.mp hv).1
  have e : vs[i]? = some vs[i] := List.getElem?_eq_getElem (by omega)
  obtain ⟨u, e2, ru⟩ := rv.get e
  rw [hv] at e2
  cases e2
  obtain ⟨d, e3, rd⟩ := r1.get e
  obtain ⟨as, rr⟩ := (rd.mono (hid_le O H)).reads I ru
  have e4 := PySem.SeqAt.plain_unique d m v as bs (hs d (List.mem_of_getElem? e3)) (PyProof.Rows.Reads.keeps hk rr) hm
  subst e4
  exact ⟨_, ru, rd⟩
theorem shs_plain {xs : List D} (h : shs xs = true) : (∀ d ∈ xs, d.plain = true) ∧ PyData.depthAll xs ≤ 20 ∧ ∀ d ∈ xs, d.depth ≤ 20 := by
  unfold shs at h
  have h' := List.all_eq_true.mp h
  exact ⟨fun d hd => (plain_shal d 20 (h' d hd)).1, (plain_shals xs 20 h).2, fun d hd => (plain_shal d 20 (h' d hd)).2⟩
theorem allAlike_of {xs : List D} (h : allAlike xs = true) : ∀ x ∈ xs, ∀ y ∈ xs, W.alike x y = true := fun x hx y hy => by
  unfold allAlike at h
  exact List.all_eq_true.mp (List.all_eq_true.mp h x hx) y hy
theorem alikeAll_of {xs : List D} (h : allAlike xs = true) (hn : xs.all (fun d => !isN d) = true) : PySem.W.AlikeAll xs := ⟨allAlike_of h, fun x hx e => by
  subst e
  have := List.all_eq_true.mp hn _ hx
  simp [isN] at this⟩
theorem bi_min {k : Nat} (hr : Room k X.A) (hc : X.calm = true) : CallR X (.builtin "min") (rD1 X.fw .min) := by
  intro pins s σ H xs us Q I r h
  obtain ⟨O, x, a, z, rfl, dm, ha, hz, n⟩ := h
  simp only [dBi] at hz
  cases hi : items a with
  | none => rw [hi] at hz; cases hz
  | some ds =>
    rw [hi] at hz
    have hz : dMin ds = some z := hz
    obtain ⟨p, vs, e1, r1, q⟩ := ha.items hi
    cases ds with
    | nil => simp [dMin] at hz
    | cons d ds =>
      simp only [dMin] at hz
      split at hz
      · rename_i hl
        rw [Bool.and_eq_true, Bool.and_eq_true] at hl
        obtain ⟨h1, h2, h3⟩ := hl
        obtain ⟨p1, p2, _⟩ := shs_plain h1
        have e : W.minD d ds = z := Option.some.inj hz
        subst e1
        rw [Vals.ref1 r]
        rcases q with ⟨_, q⟩ | ⟨_, q⟩
        · obtain ⟨its, rv, pl, hzz⟩ := I.list (.inl (.inl q))
          obtain ⟨as, ra⟩ := (r1.mono (hid_le O H)).reads I rv
          refine PySem.W.min_list_data (I.ok.hd hc) pl.isList (by simpa using ra) (alikeAll_of h2 h3) (by have := room_le hr (n := 21) (by omega); omega) fun i v h' tk bs hv hm hk => ?_
          rw [e] at hm
          obtain ⟨y, ry, rp⟩ := item_of I r1 rv (by simpa using hv) hm hk p1
          exact ⟨y, H, I.kept hk, ry, n.same rp⟩
        · obtain ⟨its, rv, pl, hzz⟩ := I.tuple q
          obtain ⟨as, ra⟩ := (r1.mono (hid_le O H)).reads I rv
          refine PySem.W.min_tuple_data (I.ok.hd hc) pl (by simpa using ra) (alikeAll_of h2 h3) (by have := room_le hr (n := 21) (by omega); omega) fun i v h' tk bs hv hm hk => ?_
          rw [e] at hm
          obtain ⟨y, ry, rp⟩ := item_of I r1 rv (by simpa using hv) hm hk p1
          exact ⟨y, H, I.kept hk, ry, n.same rp⟩
      · cases hz
theorem bi_max {k : Nat} (hr : Room k X.A) (hc : X.calm = true) : CallR X (.builtin "max") (rD1 X.fw .max) := by
  intro pins s σ H xs us Q I r h
  obtain ⟨O, x, a, z, rfl, dm, ha, hz, n⟩ := h
  simp only [dBi] at hz
  cases hi : items a with
  | none => rw [hi] at hz; cases hz
  | some ds =>
    rw [hi] at hz
    have hz : dMax ds = some z := hz
    obtain ⟨p, vs, e1, r1, q⟩ := ha.items hi
    cases ds with
    | nil => simp [dMax] at hz
    | cons d ds =>
      simp only [dMax] at hz
      split at hz
      · rename_i hl
        rw [Bool.and_eq_true, Bool.and_eq_true] at hl
        obtain ⟨h1, h2, h3⟩ := hl
        obtain ⟨p1, p2, _⟩ := shs_plain h1
        have e : W.maxD d ds = z := Option.some.inj hz
        subst e1
        rw [Vals.ref1 r]
        rcases q with ⟨_, q⟩ | ⟨_, q⟩
        · obtain ⟨its, rv, pl, hzz⟩ := I.list (.inl (.inl q))
          obtain ⟨as, ra⟩ := (r1.mono (hid_le O H)).reads I rv
          refine PySem.W.max_list_data (I.ok.hd hc) pl.isList (by simpa using ra) (alikeAll_of h2 h3) (by have := room_le hr (n := 21) (by omega); omega) fun i v h' tk bs hv hm hk => ?_
          rw [e] at hm
          obtain ⟨y, ry, rp⟩ := item_of I r1 rv (by simpa using hv) hm hk p1
          exact ⟨y, H, I.kept hk, ry, n.same rp⟩
        · obtain ⟨its, rv, pl, hzz⟩ := I.tuple q
          obtain ⟨as, ra⟩ := (r1.mono (hid_le O H)).reads I rv
          refine PySem.W.max_tuple_data (I.ok.hd hc) pl (by simpa using ra) (alikeAll_of h2 h3) (by have := room_le hr (n := 21) (by omega); omega) fun i v h' tk bs hv hm hk => ?_
          rw [e] at hm
          obtain ⟨y, ry, rp⟩ := item_of I r1 rv (by simpa using hv) hm hk p1
          exact ⟨y, H, I.kept hk, ry, n.same rp⟩
      · cases hz
theorem vals_out {K : Fw} {O : List Addr} {H : Hp} : ∀ {out : List Value} {ds : List D}, PySem.W.EachIs (fun v d => ∃ x, RelV x v ∧ Rp K (hid O H) x d) out ds → ∃ vs, Vals vs out ∧ Rps K (hid O H) vs ds
  | _, _, .nil => ⟨[], .nil, .nil⟩
  | _, _, .cons ⟨x, r, q⟩ t => by
    obtain ⟨vs, h1, h2⟩ := vals_out t
    exact ⟨x :: vs, .cons r h1, .cons q h2⟩
theorem each_in {K : Fw} {O : List Addr} {H : Hp} : ∀ {vs : List V} {its : List Value} {ds : List D}, Vals vs its → Rps K (hid O H) vs ds → PySem.W.EachIs (fun v d => ∃ x, RelV x v ∧ Rp K (hid O H) x d) its ds
  | _, _, _, .nil, .nil => .nil
  | _, _, _, .cons r t, .cons q u => .cons ⟨_, r, q⟩ (each_in t u)
theorem tupNE_of {d : D} (h : tupNE d = true) : ∃ x r, d = .tuple (x :: r) := by
  cases d <;> simp [tupNE] at h
  rename_i xs
  cases xs with
  | nil => simp [tupNE] at h
  | cons x r => exact ⟨x, r, rfl⟩
theorem sortable_of {xs : List D} (h : sortable xs = true) : PySem.W.Sortable xs := by
  unfold sortable at h
  rw [Bool.or_eq_true] at h
  rcases h with h | h
  · exact .inl fun d hd => tupNE_of (List.all_eq_true.mp h d hd)
  · refine .inr fun d hd => ?_
    have q := List.all_eq_true.mp h d hd
    rw [Bool.and_eq_true] at q
    refine ⟨?_, ?_⟩
    · rintro rfl
      simp [isN] at q
    · rintro xs rfl
      simp [isTup] at q
mutual
theorem alike_refl_plain : ∀ d : D, d.plain = true → W.alike d d = true
  | .none, _ => by simp [W.alike]
  | .bool _, _ => by simp [W.alike]
  | .int _, _ => by simp [W.alike]
  | .str _, _ => by simp [W.alike]
  | .list xs, h => by
    simp only [W.alike]
    exact alikes_refl_plain xs (by simpa [PyData.plain] using h)
  | .tuple xs, h => by
    simp only [W.alike]
    exact alikes_refl_plain xs (by simpa [PyData.plain] using h)
  | .dict _, h => by simp [PyData.plain] at h
theorem alikes_refl_plain : ∀ xs : List D, PyData.plainAll xs = true → W.alikeAll xs xs = true
  | [], _ => by simp [W.alikeAll]
  | x :: xs, h => by
    have h' : x.plain = true ∧ PyData.plainAll xs = true := by simpa [PyData.plainAll] using h
    simp only [W.alikeAll, Bool.and_eq_true]
    exact ⟨alike_refl_plain x h'.1, alikes_refl_plain xs h'.2⟩
end
/-- one item, or none, is sorted whatever it is -/
theorem sorts_one {prog : Program} {w : World} {A : Around} {s : Shared} {vs : List Value} {ds : List D} (e : PySem.W.EachIs (fun v d => ∃ as, Reads s.heap v d as) vs ds) (hal : PySem.W.AllAlike ds) (hn : ∀ d ∈ ds, d ≠ .none) (h1 : ds.length ≤ 1) (hu : ∀ d, d ∈ ds → A.units + d.depth < cLine) :
    PySem.W.SortsAt prog w A s (PySem.W.dataKind s.heap ds) vs := by
  have hl := e.length
  refine ⟨fun v hv => ?_, general', fun E x y a b Q ha hb hq => ?_, fun h2 => by omega⟩
  · obtain ⟨d, hd, as, r⟩ := e.left v hv
    exact ⟨_, PySem.W.dataKind_some hal hd r⟩
  · obtain ⟨d, as, hd, ra, rfl⟩ := PySem.W.dataKind_inv ha
    obtain ⟨d', as', hd', rb, rfl⟩ := PySem.W.dataKind_inv hb
    exact PySem.W.oneLt_alike (f := false) (fun z => by cases z) ra rb (hal d hd d' hd') (hn d hd) (Nat.lt_of_le_of_lt (Nat.add_le_add_left (Nat.min_le_left _ _) _) (hu d hd)) hq
theorem sort_le1 {xs : List D} (h : xs.length ≤ 1) : xs.mergeSort (W.dataLe false id) = xs := by
  match xs, h with
  | [], _ => simp
  | [x], _ => simp
/-- sorted(xs) of a list, the sorting premise given at the heap in which it is asked -/
theorem sorted_list {pins : List (Addr × Obj)} {s : Shared} {σ : L2.St} {H : Hp} {O : List Addr} {p : Addr} {vs : List V} {ds : List D} {Q : VK} {k : Nat} (hr : Room k X.A) (I : Inv X pins σ H s) (dm : Dm O H) (r1 : Rps X.fw (hid O H) vs ds) (q : H p = some (.lst vs))
    (hs : shs ds = true) (hal : PySem.W.AllAlike ds) (hk : PySem.W.Sortable ds ∨ (ds.length ≤ 1 ∧ ∀ d ∈ ds, d ≠ .none)) (n : Nw true X.fw O H (.list (ds.mergeSort (W.dataLe false id))) Q) :
    wpAny (model X.prog X.w) X.A (call (.builtin "sorted") [.ref p]) (EP X pins σ Q) X.xe s := by
  obtain ⟨its, rv, pl, hz⟩ := I.list (.inl (.inl q))
  have e1 := each_in rv r1
  have er : PySem.W.EachIs (fun v d => ∃ as, Reads s.heap v (id d) as) its ds := e1.mono fun v d ⟨x, h1, h2⟩ => (h2.mono (hid_le O H)).reads I h1
  have hlen : ds.length ≤ sizeLine := by rw [← r1.length]; exact hz
  obtain ⟨_, _, dp⟩ := shs_plain hs
  have hu : ∀ d, d ∈ ds → X.A.units + 2 + d.depth < cLine := fun d hd => by have := room_le hr (n := 22) (by omega); have := dp d hd; omega
  have fin : ∀ out : List Value, PySem.W.EachIs (fun v d => ∃ x, RelV x v ∧ Rp X.fw (hid O H) x d) out (ds.mergeSort (W.dataLe false id)) → out.length = ds.length → EP X pins σ Q (.ref (s.heap.objs.size + 1)) { s with heap := sortedAll s.heap its out.toArray } := fun out eo hol => by
    obtain ⟨ws, h1, h2⟩ := vals_out eo
    obtain ⟨c, hc⟩ := sortedAll_at s.heap its out.toArray
    have hn : H (s.heap.objs.size + 1) = none := I.hok.fresh (Nat.le_succ _)
    refine ⟨.ref (s.heap.objs.size + 1), upd H (s.heap.objs.size + 1) (.lst ws), I.laid (t' := s.toks) (fun b o e => sortedAll_old e) (Nat.le_succ _) ⟨?_, out, c, h1, hc⟩, rfl, n.lst dm h2 hn⟩
    have := h1.length
    omega
  rcases hk with hk | hk
  · refine PySem.W.sorted_data (bs := ds) (enc := id) (R := fun v d => ∃ x, RelV x v ∧ Rp X.fw (hid O H) x d) pl.isList e1 er (by simpa using hal) (by simpa using hk) hlen hu fun out ho eo => fin out eo ho
  · have er' : PySem.W.EachIs (fun v d => ∃ as, Reads (PySem.W.sortingHeap (PySem.W.copyHeap s.heap its) (s.heap.objs.size + 1) its) v d as) its ds := er.mono fun _ _ ⟨as, r⟩ => ⟨as, PyProof.Rows.Reads.keeps (fun _ _ => PySem.W.sorting_copy_old) r⟩
    refine PySem.W.sorted_vals pl.isList (sorts_one (s := { s with heap := PySem.W.sortingHeap (PySem.W.copyHeap s.heap its) (s.heap.objs.size + 1) its }) er' hal hk.2 hk.1 hu) (by rw [e1.length]; exact hlen) ?_
    refine fin _ ?_ (by rw [PySem.W.sortVals_length false rfl]; exact e1.length)
    have hq := PySem.W.sortVals_data (enc := id) (h' := PySem.W.sortingHeap (PySem.W.copyHeap s.heap its) (s.heap.objs.size + 1) its) false e1 er' (by simpa using hal)
    simpa using hq
/-- sorted(xs) of a tuple, the sorting premise given at the heap in which it is asked -/
theorem sorted_tup {pins : List (Addr × Obj)} {s : Shared} {σ : L2.St} {H : Hp} {O : List Addr} {p : Addr} {vs : List V} {ds : List D} {Q : VK} {k : Nat} (hr : Room k X.A) (I : Inv X pins σ H s) (dm : Dm O H) (r1 : Rps X.fw (hid O H) vs ds) (q : SqT X.fw H p vs)
    (hs : shs ds = true) (hal : PySem.W.AllAlike ds) (hk : PySem.W.Sortable ds ∨ (ds.length ≤ 1 ∧ ∀ d ∈ ds, d ≠ .none)) (n : Nw true X.fw O H (.list (ds.mergeSort (W.dataLe false id))) Q) :
    wpAny (model X.prog X.w) X.A (call (.builtin "sorted") [.ref p]) (EP X pins σ Q) X.xe s := by
  obtain ⟨its, rv, pl, hz⟩ := I.tuple q
  have e1 := each_in rv r1
  have er : PySem.W.EachIs (fun v d => ∃ as, Reads s.heap v (id d) as) its ds := e1.mono fun v d ⟨x, h1, h2⟩ => (h2.mono (hid_le O H)).reads I h1
  have hlen : ds.length ≤ sizeLine := by rw [← r1.length]; exact hz
  obtain ⟨_, _, dp⟩ := shs_plain hs
  have hu : ∀ d, d ∈ ds → X.A.units + 2 + d.depth < cLine := fun d hd => by have := room_le hr (n := 22) (by omega); have := dp d hd; omega
  have fin : ∀ out : List Value, PySem.W.EachIs (fun v d => ∃ x, RelV x v ∧ Rp X.fw (hid O H) x d) out (ds.mergeSort (W.dataLe false id)) → out.length = ds.length → EP X pins σ Q (.ref (s.heap.objs.size + 1)) { s with heap := sortedAll s.heap its out.toArray } := fun out eo hol => by
    obtain ⟨ws, h1, h2⟩ := vals_out eo
    obtain ⟨c, hc⟩ := sortedAll_at s.heap its out.toArray
    have hn : H (s.heap.objs.size + 1) = none := I.hok.fresh (Nat.le_succ _)
    refine ⟨.ref (s.heap.objs.size + 1), upd H (s.heap.objs.size + 1) (.lst ws), I.laid (t' := s.toks) (fun b o e => sortedAll_old e) (Nat.le_succ _) ⟨?_, out, c, h1, hc⟩, rfl, n.lst dm h2 hn⟩
    have := h1.length
    omega
  rcases hk with hk | hk
  · refine sorted_data_tup (bs := ds) (R := fun v d => ∃ x, RelV x v ∧ Rp X.fw (hid O H) x d) pl e1 er (by simpa using hal) (by simpa using hk) hlen hu fun out ho eo => fin out eo ho
  · have er' : PySem.W.EachIs (fun v d => ∃ as, Reads (PySem.W.sortingHeap (PySem.W.copyHeap s.heap its) (s.heap.objs.size + 1) its) v d as) its ds := er.mono fun _ _ ⟨as, r⟩ => ⟨as, PyProof.Rows.Reads.keeps (fun _ _ => PySem.W.sorting_copy_old) r⟩
    refine sorted_vals_tup pl (sorts_one (s := { s with heap := PySem.W.sortingHeap (PySem.W.copyHeap s.heap its) (s.heap.objs.size + 1) its }) er' hal hk.2 hk.1 hu) (by rw [e1.length]; exact hlen) ?_
    refine fin _ ?_ (by rw [PySem.W.sortVals_length false rfl]; exact e1.length)
    have hq := PySem.W.sortVals_data (enc := id) (h' := PySem.W.sortingHeap (PySem.W.copyHeap s.heap its) (s.heap.objs.size + 1) its) false e1 er' (by simpa using hal)
    simpa using hq
theorem bi_sorted {k : Nat} (hr : Room k X.A) : CallR X (.builtin "sorted") (rD1 X.fw .sorted) := by
  intro pins s σ H xs us Q I r h
  obtain ⟨O, x, a, z, rfl, dm, ha, hz, n⟩ := h
  cases a <;> try (simp [dBi] at hz; done)
  case list ds =>
    obtain ⟨p, vs, e1, r1, q⟩ := ha.lst
    subst e1
    rw [Vals.ref1 r]
    simp only [dBi, dSort] at hz
    split at hz
    · rename_i hl
      rw [Bool.and_eq_true, Bool.and_eq_true] at hl
      obtain ⟨h1, h2, h3⟩ := hl
      have h1 := of_decide_eq_true h1
      have e : PyData.list ds = z := Option.some.inj hz
      subst e
      have hn : ∀ d ∈ ds, d ≠ .none := fun d hd e => by
        subst e
        have := List.all_eq_true.mp h3 _ hd
        simp [isN] at this
      have hal : PySem.W.AllAlike ds := fun d hd d' hd' => by
        match ds, h1, hd, hd' with
        | [y], _, hd, hd' =>
          rw [List.mem_singleton.mp hd, List.mem_singleton.mp hd']
          exact alike_refl_plain y ((shs_plain h2).1 y (by simp))
      exact sorted_list hr I dm r1 q h2 hal (.inr ⟨h1, hn⟩) (by rw [sort_le1 h1]; exact n)
    · split at hz
      · rename_i hl
        rw [Bool.and_eq_true, Bool.and_eq_true] at hl
        obtain ⟨h1, h2, h3⟩ := hl
        have e : PyData.list (ds.mergeSort (W.dataLe false id)) = z := Option.some.inj hz
        subst e
        exact sorted_list hr I dm r1 q h1 (fun x hx y hy => allAlike_of h2 x hx y hy) (.inl (sortable_of h3)) n
      · cases hz
  case tuple ds =>
    obtain ⟨p, vs, e1, r1, q, _⟩ := ha.tup
    subst e1
    rw [Vals.ref1 r]
    simp only [dBi, dSort] at hz
    split at hz
    · rename_i hl
      rw [Bool.and_eq_true, Bool.and_eq_true] at hl
      obtain ⟨h1, h2, h3⟩ := hl
      have h1 := of_decide_eq_true h1
      have e : PyData.list ds = z := Option.some.inj hz
      subst e
      have hn : ∀ d ∈ ds, d ≠ .none := fun d hd e => by
        subst e
        have := List.all_eq_true.mp h3 _ hd
        simp [isN] at this
      have hal : PySem.W.AllAlike ds := fun d hd d' hd' => by
        match ds, h1, hd, hd' with
        | [y], _, hd, hd' =>
          rw [List.mem_singleton.mp hd, List.mem_singleton.mp hd']
          exact alike_refl_plain y ((shs_plain h2).1 y (by simp))
      exact sorted_tup hr I dm r1 q h2 hal (.inr ⟨h1, hn⟩) (by rw [sort_le1 h1]; exact n)
    · split at hz
      · rename_i hl
        rw [Bool.and_eq_true, Bool.and_eq_true] at hl
        obtain ⟨h1, h2, h3⟩ := hl
        have e : PyData.list (ds.mergeSort (W.dataLe false id)) = z := Option.some.inj hz
        subst e
        exact sorted_tup hr I dm r1 q h1 (fun x hx y hy => allAlike_of h2 x hx y hy) (.inl (sortable_of h3)) n
      · cases hz
/-! ### isinstance, max, min of two -/
def tyN : Ty → String
  | .int => "int"
  | .bool => "bool"
  | .str => "str"
  | .tuple => "tuple"
  | .list => "list"
  | .dict => "dict"
def rIsD (K : Fw) (t : Ty) : List V → Hp → VK → Prop := fun xs H Q => ∃ O x a, xs = [x, .ty (tyN t)] ∧ Br K O H x a ∧ Q (.bl (dIs a t)) H
theorem bi_isin (t : Ty) : CallR X (.builtin "isinstance") (rIsD X.fw t) := by
  intro pins s σ H xs us Q I r h
  obtain ⟨O, x, a, rfl, ha, q⟩ := h
  obtain ⟨u1, u2, rfl, r1, r2⟩ := vals2 r
  cases (show u2 = Value.type (tyN t) from r2)
  obtain ⟨as, ra⟩ := ha.reads I r1
  cases t with
  | int => exact PySem.W.isinstance_int_data ra fun tk _ => ⟨.bl _, H, I.tok tk, by cases a <;> rfl, q⟩
  | bool => exact PySem.W.isinstance_bool_data ra fun tk _ => ⟨.bl _, H, I.tok tk, by cases a <;> rfl, q⟩
  | str => exact PySem.W.isinstance_str_data ra fun tk _ => ⟨.bl _, H, I.tok tk, by cases a <;> rfl, q⟩
  | tuple => exact PySem.W.isinstance_tuple_data ra fun tk _ => ⟨.bl _, H, I.tok tk, by cases a <;> rfl, q⟩
  | list => exact PySem.W.isinstance_list_data ra fun tk _ => ⟨.bl _, H, I.tok tk, by cases a <;> rfl, q⟩
  | dict => exact PySem.W.isinstance_dict_data ra fun tk _ => ⟨.bl _, H, I.tok tk, by cases a <;> rfl, q⟩
def rM2 (K : Fw) (g : D → D → Option D) : List V → Hp → VK → Prop := fun xs H Q => ∃ O x y a b z, xs = [x, y] ∧ Br K O H x a ∧ Br K O H y b ∧ g a b = some z ∧ Nw false K O H z Q
theorem bi_mx (hc : X.calm = true) : CallR X (.builtin "max") (rM2 X.fw dMx) := by
  intro pins s σ H xs us Q I r h
  obtain ⟨O, x, y, a, b, z, rfl, ha, hb, hz, n⟩ := h
  cases a <;> cases b <;> try (simp [dMx] at hz; done)
  case int.int i j =>
    have e : PyData.int (if j > i then j else i) = z := Option.some.inj hz
    subst e
    exact call_max2 hc pins s σ H _ us Q I r ⟨i, j, by rw [ha.int, hb.int], n.int⟩
theorem bi_mn (hc : X.calm = true) : CallR X (.builtin "min") (rM2 X.fw dMn) := by
  intro pins s σ H xs us Q I r h
  obtain ⟨O, x, y, a, b, z, rfl, ha, hb, hz, n⟩ := h
  cases a <;> cases b <;> try (simp [dMn] at hz; done)
  case int.int i j =>
    have e : PyData.int (if j < i then j else i) = z := Option.some.inj hz
    subst e
    exact call_min2 hc pins s σ H _ us Q I r ⟨i, j, by rw [ha.int, hb.int], n.int⟩
end
end PV

set_option maxHeartbeats 4000000
/-! PV: xs[::-1] of lists and tuples. -/
namespace PV
open PySem L2 PyProof.Rows HT
section
variable {prog : Program} {w : World} {A : Around} {E : Value → Shared → Prop} {s : Shared}
theorem adjust_rev (n : Nat) : Builtin.Slice.sliceAdjust none none (-1) (n : Int) = ((n : Int) - 1, -1) := by
  unfold Builtin.Slice.sliceAdjust
  simp
theorem places_rev (n : Nat) : Builtin.Slice.slicePlaces ((n : Int) - 1) (-1) (-1) = n := by
  unfold Builtin.Slice.slicePlaces
  have c : ¬ ((-1 : Int) > 0) := by decide
  rw [if_neg c]
  by_cases h : (n : Int) - 1 > -1
  · rw [if_pos h, show ((n : Int) - 1 - -1 - 1) / (- -1) = (n : Int) - 1 by rw [show (- -1 : Int) = 1 by decide, Int.ediv_one]; omega]
    omega
  · rw [if_neg h]
    omega
theorem applied_rev {sl : Addr} {vs : Value} {n : Nat} {Q : Int × Int × Nat → Shared → Prop} (hs : s.heap.IsSliceOf sl .none .none vs) (ps : IsPart vs (some (-1))) (q : Q ((n : Int) - 1, -1, n) s) :
    wpAny (model prog w) A (Builtin.Slice.sliceApplied (.ref sl) (pure (n : Int))) Q E s := by
  obtain ⟨ob, ho, hc, hd⟩ := id hs
  unfold Builtin.Slice.sliceApplied Builtin.Slice.sliceFields
  refine wpAny_bind (wpAny_bind (wpAny_field ho hd (x := .none) rfl (wpAny_bind (wpAny_field ho hd (x := .none) rfl (wpAny_bind (wpAny_field ho hd (x := vs) rfl (wpAny_pure ?_)))))))
  refine wpAny_bind (slicePart_ ps ?_)
  show wpAny _ _ (if ((-1 : Int) == 0) = true then _ else _) _ _ s
  rw [if_neg (by decide)]
  refine wpAny_bind (slicePart_none (wpAny_bind (slicePart_none (wpAny_bind (wpAny_pure ?_)))))
  show wpAny _ _ (match Builtin.Slice.sliceAdjust none none (-1) (n : Int) with | (a, b) => pure (a, (-1 : Int), Builtin.Slice.slicePlaces a b (-1))) _ _ s
  rw [adjust_rev n]
  show wpAny _ _ (pure ((n : Int) - 1, (-1 : Int), Builtin.Slice.slicePlaces ((n : Int) - 1) (-1) (-1))) _ _ s
  rw [places_rev]
  exact wpAny_pure q
theorem fm_congr {α β : Type} {f g : α → Option β} : ∀ xs : List α, (∀ x ∈ xs, f x = g x) → xs.filterMap f = xs.filterMap g
  | [], _ => rfl
  | x :: xs, h => by rw [List.filterMap_cons, List.filterMap_cons, h x (by simp), fm_congr xs fun y hy => h y (by simp [hy])]
theorem pick_rev (xs : Array Value) : ((List.range xs.size).filterMap fun (m : Nat) => xs[(((xs.size : Int) - 1) + (m : Int) * (-1)).toNat]?).toArray = xs.toList.reverse.toArray := by
  have e : (List.range xs.size).filterMap (fun (m : Nat) => xs[(((xs.size : Int) - 1) + (m : Int) * (-1)).toNat]?) = xs.toList.reverse := by
    have e1 : (List.range xs.size).filterMap (fun (m : Nat) => xs[(((xs.size : Int) - 1) + (m : Int) * (-1)).toNat]?) = ((List.range xs.size).map fun k => xs.size - 1 - k).filterMap (xs[·]?) := by
      rw [List.filterMap_map]
      refine fm_congr _ fun m hm => ?_
      have := List.mem_range.mp hm
      rw [show (((xs.size : Int) - 1) + (m : Int) * (-1)).toNat = xs.size - 1 - m by omega]
      rfl
    rw [e1, PySem.W.krv_range, List.filterMap_reverse, PySem.W.krv_all]
  rw [e]
theorem get_tuple_rev {t sl : Addr} {its : Array Value} {vs : Value} {Q : Value → Shared → Prop} (ht : IsTup s.heap t its) (hs : s.heap.IsSliceOf sl .none .none vs) (ps : IsPart vs (some (-1)))
    (q : Q (.ref s.heap.objs.size) { s with heap := s.heap.push { cls := .type "tuple", data := .seq its.toList.reverse.toArray } }) (hz : its.size ≤ sizeLine) : wpAny (model prog w) A (getItem (.ref t) (.ref sl)) Q E s := by
  have hk : sizeOk (.seq its.toList.reverse.toArray) := by
    show its.toList.reverse.toArray.size ≤ sizeLine
    rw [List.size_toArray, List.length_reverse, Array.length_toList]
    exact hz
  obtain ⟨ob, ho, hc, hd⟩ := id hs
  have ty : s.TypeIs (.ref sl) "slice" := ⟨ob, ho, hc⟩
  unfold getItem
  try (with_reducible refine wpAny_holding ?_)
  first | (refine wpAny_bind (wpAny_pure ?_)) | skip
  refine wpAny_bind (wpAny_sequenceKey ht.typeIs (by decide) (wpAny_bind (wpAny_callSpecial?_slot (name := Str.ofString "__getitem__") ht.typeIs PyProof.Rows.slot_tuple_getitem
    (wpAny_call_entry PyProof.Rows.slot_tuple_getitem ht.typeIs PyProof.Rows.entry_tuple_getitem ?_ (PyProof.Rows.args_tuple_getitem _ _)))))
  show wpAny _ _ (Builtin.Tuple.tupleItemsOf (.ref t) >>= _) _ _ s
  refine wpAny_bind (tupleItemsOf_ ht (wpAny_bind (wpAny_typeOf ty ?_)))
  rw [if_pos (by decide)]
  refine wpAny_bind (applied_rev hs ps ?_)
  have no : ¬ ((((its.size : Int) - 1) == 0 && (-1 : Int) == 1 && its.size == its.size) = true) := by
    rw [show ((-1 : Int) == 1) = false by decide]
    simp
  show wpAny _ _ (if (((its.size : Int) - 1) == 0 && (-1 : Int) == 1 && its.size == its.size) = true then _ else _) _ _ s
  rw [if_neg no, pick_rev]
  first
    | exact wpAny_bind (m := Builtin.Tuple.tupleExact _) (wpAny_newObj_type (wpAny_pure ⟨_, rfl, wpAny_pure q⟩) hk)
    | exact wpAny_bind (m := Builtin.Tuple.tupleExact _) (wpAny_newObj_type (wpAny_bind (wpAny_pure (wpAny_pure ⟨_, rfl, wpAny_pure q⟩))) hk)
    | exact wpAny_bind (wpAny_bind (m := Builtin.Tuple.tupleExact _) (wpAny_newObj_type (wpAny_pure (wpAny_pure ⟨_, rfl, wpAny_pure q⟩)) hk))
    | exact wpAny_bind (wpAny_bind (m := Builtin.Tuple.tupleExact _) (wpAny_newObj_type (wpAny_pure ⟨_, rfl, wpAny_pure q⟩) hk))
end
section
variable {X : Cx} {e : Expr} {te : TE}
def rRv (K : Fw) (x : V) (H : Hp) (Q : VK) : Prop := ∃ O a z, Dm O H ∧ Br K O H x a ∧ dRev a = some z ∧ Nw true K O H z Q
theorem pe_rv {k : Nat} {p1 p2 p3 pos : Pos} (he : PE X e te) : PE X (.Subscript e (.Slice none none (some (.UnaryOp .USub (.Constant (.int 1) k p1) p2)) p3) pos) (fun σ H Q => te σ H fun x H1 => rRv X.fw x H1 Q) := by
  refine ⟨fun pins s σ H Q I h => Subscript_ (thn (he.run pins s σ H _ I h) fun v s1 ⟨x, H1, I1, rx, q1⟩ => ?_)⟩
  obtain ⟨O, a, z, dm, ha, hz, nw⟩ := q1
  have hst : PO X (some (.UnaryOp .USub (.Constant (.int 1) k p1) p2)) (tPart (tUn (rU fun i => .int (-i)) (tC (.int 1)))) := po_some (pe_un un_neg pe_int)
  refine wpAny_Slice (thn (po_none.run pins s1 σ H1 (fun o G => o = none ∧ G = H1) I1 ⟨rfl, rfl⟩) fun vl s2 ⟨l, H2, I2, pl, el, e2⟩ => ?_)
  subst el e2
  refine thn (po_none.run pins s2 σ H2 (fun o G => o = none ∧ G = H2) I2 ⟨rfl, rfl⟩) fun vu s3 ⟨u, H3, I3, pu, eu, e3⟩ => ?_
  subst eu e3
  refine thn (hst.run pins s3 σ H3 (fun o G => o = some (-1) ∧ G = H3) I3 ⟨1, rfl, -1, rfl, rfl, rfl⟩) fun vs s4 ⟨o, H4, I4, ps, eo, e4⟩ => ?_
  subst eo e4
  cases pl
  cases pu
  have I5 : Inv X pins σ H4 { s4 with heap := s4.heap.push { cls := .type "slice", data := .fields #[.none, .none, vs] } } := I4.kept (t' := s4.toks) fun b ob q => Heap.get?_push_of_some _ q
  show wpAny (model X.prog X.w) X.A (subscriptTail e (.Slice none none (some (.UnaryOp .USub (.Constant (.int 1) k p1) p2)) p3) v (.ref s4.heap.objs.size)) (EP X pins σ Q) X.xe { s4 with heap := s4.heap.push { cls := .type "slice", data := .fields #[.none, .none, vs] } }
  cases a <;> try (simp [dRev] at hz; done)
  case list ds =>
    have ez : PyData.list ds.reverse = z := Option.some.inj hz
    subst ez
    obtain ⟨p, ws, e1, r1, h1⟩ := ha.lst
    subst e1
    cases rx
    obtain ⟨its, r, ht, hl⟩ := I5.list (.inl (.inl h1))
    have hlen := r.length
    refine tail_any (ops := [.ref p, .ref s4.heap.objs.size]) ht.isList.typeIs (PySem.slot_list_getitem.lookup) ?_ (by with_unfolding_all rfl)
    refine wpAny_getItem_list_slice ht.isList (Heap.IsSliceOf.new _ .none .none vs) .none .none ps (by decide) ?_ (by rw [List.size_toArray]; omega)
    rw [PySem.W.krv_pick]
    exact ⟨.ref _, _, I5.laid (t' := s4.toks) (o := .lst ws.reverse) (fun b ob q => Heap.get?_push_of_some _ q) (Nat.le_refl _) ⟨by rw [List.length_reverse]; exact hl, _, 0, r.reverse, Heap.get?_push_size _ rfl⟩, rfl, nw.lst dm r1.reverse (I5.hok.fresh (Nat.le_refl _))⟩
  case tuple ds =>
    have ez : PyData.tuple ds.reverse = z := Option.some.inj hz
    subst ez
    obtain ⟨p, ws, e1, r1, h1, _⟩ := ha.tup
    subst e1
    cases rx
    obtain ⟨its, r, ht, hl⟩ := I5.tuple h1
    have hlen := r.length
    refine tail_any (ops := [.ref p, .ref s4.heap.objs.size]) ht.typeIs PyProof.Rows.slot_tuple_getitem.lookup ?_ (by with_unfolding_all rfl)
    refine get_tuple_rev ht (Heap.IsSliceOf.new _ .none .none vs) ps ?_ (by rw [List.size_toArray]; omega)
    exact ⟨.ref _, _, I5.laid (t' := s4.toks) (o := .tup ws.reverse) (fun b ob q => Heap.get?_push_of_some _ q) (Nat.le_refl _) ⟨by rw [List.length_reverse]; exact hl, _, r.reverse, IsTup.new _ _⟩, rfl, nw.tup dm r1.reverse (I5.hok.fresh (Nat.le_refl _))⟩
end
end PV

set_option maxHeartbeats 4000000
/-! PV: views of the syntax, the checker. -/
namespace PV
open PySem L2

structure Ct where
  N : List Str
  sc : Scope
  own : Scope
  iw : Nat
  fs : List (Nat × Str × Nat × Bool)
  gl : List (Nat × Str)

def isGl (ct : Ct) (x : Str) : Bool := ct.sc.names.lookup x == some .globalImplicit
def isLoc (sc : Scope) (x : Str) : Bool := sc.names.lookup x == some .local || sc.names.lookup x == some .cell
def isVis (sc : Scope) (x : Str) : Bool := isLoc sc x || sc.names.lookup x == some .free
def notDbg (x : Str) : Bool := !(x == ("__debug__" : Str)) && !(x == ("__classdict__" : Str))
def notStar : Expr → Bool
  | .Starred .. => false
  | _ => true
def notSet : Expr → Bool
  | .Set .. => false
  | _ => true
/-- a test that is a value's truth -/
def notTest : Expr → Bool
  | .UnaryOp .Not _ _ => false
  | .BoolOp .. => false
  | .IfExp .. => false
  | .Compare .. => false
  | _ => true

/-! views -/
def vConst : Expr → Option Const
  | .Constant c _ _ => some c
  | _ => none
def vName : Expr → Option Str
  | .Name x _ => some x
  | _ => none
def vBin : Expr → Option (Expr × Operator × Expr)
  | .BinOp a o b _ => some (a, o, b)
  | _ => none
def vUn : Expr → Option (UnaryOp × Expr)
  | .UnaryOp o a _ => some (o, a)
  | _ => none
def vBool : Expr → Option (BoolOp × List Expr × Pos)
  | .BoolOp o vs p => some (o, vs, p)
  | _ => none
def vIf : Expr → Option (Expr × Expr × Expr)
  | .IfExp t a b _ => some (t, a, b)
  | _ => none
def vTup : Expr → Option (List Expr)
  | .Tuple es _ _ => some es
  | _ => none
def vLst : Expr → Option (List Expr)
  | .List es _ => some es
  | _ => none
def vCmp : Expr → Option (Expr × List CmpOp × List Expr)
  | .Compare a os bs _ => some (a, os, bs)
  | _ => none
def vSub : Expr → Option (Expr × Expr)
  | .Subscript a i _ => some (a, i)
  | _ => none
def vSli : Expr → Option (Option Expr × Option Expr × Option Expr)
  | .Slice a b c _ => some (a, b, c)
  | _ => none
/-- f(es), f a name -/
def vCall : Expr → Option (Str × List Expr)
  | .Call (.Name x _) es [] _ => some (x, es)
  | _ => none
/-- o.m(es) -/
def vMeth : Expr → Option (Expr × Str × Pos × List Expr × Pos)
  | .Call (.Attribute o m ap) es [] cp => some (o, m, ap, es, cp)
  | _ => none
def vDct : Expr → Option (List (Option Expr) × List Expr)
  | .Dict ks vs _ => some (ks, vs)
  | _ => none
theorem vDct_eq {e : Expr} {ks : List (Option Expr)} {vs : List Expr} (h : vDct e = some (ks, vs)) : ∃ p, e = .Dict ks vs p := by
  cases e <;> simp [vDct] at h
  obtain ⟨rfl, rfl⟩ := h
  exact ⟨_, rfl⟩
def plainBase : Expr → Bool
  | .Call (.Name _ _) [] [] _ => false
  | _ => true
def Es.isNil : Es → Bool
  | .nil => true
  | _ => false
def vLc1 : Expr → Option (Expr × Expr × Expr × List Expr × Scope)
  | .ListComp elt [⟨tg, it, ifs, 0⟩] sc _ => some (elt, tg, it, ifs, sc)
  | _ => none
def vLc2 : Expr → Option (Expr × (Expr × Expr × List Expr) × (Expr × Expr × List Expr) × Scope)
  | .ListComp elt [⟨tg, it, ifs, 0⟩, ⟨tg1, it1, ifs1, 0⟩] sc _ => some (elt, (tg, it, ifs), (tg1, it1, ifs1), sc)
  | _ => none

theorem vConst_eq {e : Expr} {c : Const} (h : vConst e = some c) : ∃ j p, e = .Constant c j p := by
  cases e <;> simp [vConst] at h
  subst h
  exact ⟨_, _, rfl⟩
theorem vName_eq {e : Expr} {c : Str} (h : vName e = some c) : ∃ p, e = .Name c p := by
  cases e <;> simp [vName] at h
  subst h
  exact ⟨_, rfl⟩
theorem vBin_eq {e : Expr} {a b : Expr} {o : Operator} (h : vBin e = some (a, o, b)) : ∃ p, e = .BinOp a o b p := by
  cases e <;> simp [vBin] at h
  obtain ⟨rfl, rfl, rfl⟩ := h
  exact ⟨_, rfl⟩
theorem vUn_eq {e : Expr} {a : Expr} {o : UnaryOp} (h : vUn e = some (o, a)) : ∃ p, e = .UnaryOp o a p := by
  cases e <;> simp [vUn] at h
  obtain ⟨rfl, rfl⟩ := h
  exact ⟨_, rfl⟩
theorem vBool_eq {e : Expr} {o : BoolOp} {vs : List Expr} {p : Pos} (h : vBool e = some (o, vs, p)) : e = .BoolOp o vs p := by
  cases e <;> simp [vBool] at h
  obtain ⟨rfl, rfl, rfl⟩ := h
  rfl
theorem vIf_eq {e : Expr} {t a b : Expr} (h : vIf e = some (t, a, b)) : ∃ p, e = .IfExp t a b p := by
  cases e <;> simp [vIf] at h
  obtain ⟨rfl, rfl, rfl⟩ := h
  exact ⟨_, rfl⟩
theorem vTup_eq {e : Expr} {es : List Expr} (h : vTup e = some es) : ∃ k p, e = .Tuple es k p := by
  cases e <;> simp [vTup] at h
  subst h
  exact ⟨_, _, rfl⟩
theorem vLst_eq {e : Expr} {es : List Expr} (h : vLst e = some es) : ∃ p, e = .List es p := by
  cases e <;> simp [vLst] at h
  subst h
  exact ⟨_, rfl⟩
theorem vCmp_eq {e : Expr} {a : Expr} {os : List CmpOp} {bs : List Expr} (h : vCmp e = some (a, os, bs)) : ∃ p, e = .Compare a os bs p := by
  cases e <;> simp [vCmp] at h
  obtain ⟨rfl, rfl, rfl⟩ := h
  exact ⟨_, rfl⟩
theorem vSub_eq {e : Expr} {a i : Expr} (h : vSub e = some (a, i)) : ∃ p, e = .Subscript a i p := by
  cases e <;> simp [vSub] at h
  obtain ⟨rfl, rfl⟩ := h
  exact ⟨_, rfl⟩
theorem vSli_eq {e : Expr} {a b c : Option Expr} (h : vSli e = some (a, b, c)) : ∃ p, e = .Slice a b c p := by
  cases e <;> simp [vSli] at h
  obtain ⟨rfl, rfl, rfl⟩ := h
  exact ⟨_, rfl⟩
theorem vCall_eq {e : Expr} {x : Str} {es : List Expr} (h : vCall e = some (x, es)) : ∃ p q, e = .Call (.Name x p) es [] q := by
  cases e with
  | Call f args kws pos =>
    cases f <;> simp [vCall] at h
    cases kws <;> simp [vCall] at h
    obtain ⟨rfl, rfl⟩ := h
    exact ⟨_, _, rfl⟩
  | _ => simp [vCall] at h
theorem vMeth_eq {e o : Expr} {m : Str} {ap cp : Pos} {es : List Expr} (h : vMeth e = some (o, m, ap, es, cp)) : e = .Call (.Attribute o m ap) es [] cp := by
  cases e with
  | Call f args kws pos =>
    cases f <;> simp [vMeth] at h
    cases kws <;> simp [vMeth] at h
    obtain ⟨rfl, rfl, rfl, rfl, rfl⟩ := h
    rfl
  | _ => simp [vMeth] at h
theorem vLc1_eq {e elt tg it : Expr} {ifs : List Expr} {sc : Scope} (h : vLc1 e = some (elt, tg, it, ifs, sc)) : ∃ p, e = .ListComp elt [⟨tg, it, ifs, 0⟩] sc p := by
  cases e with
  | ListComp el gs s p =>
    unfold vLc1 at h
    split at h
    · rename_i a b c d f g e1
      cases e1
      cases h
      exact ⟨_, rfl⟩
    · cases h
  | _ => simp [vLc1] at h
theorem vLc2_eq {e elt tg it tg1 it1 : Expr} {ifs ifs1 : List Expr} {sc : Scope} (h : vLc2 e = some (elt, (tg, it, ifs), (tg1, it1, ifs1), sc)) : ∃ p, e = .ListComp elt [⟨tg, it, ifs, 0⟩, ⟨tg1, it1, ifs1, 0⟩] sc p := by
  cases e with
  | ListComp el gs s p =>
    unfold vLc2 at h
    split at h
    · rename_i e1
      cases e1
      cases h
      exact ⟨_, rfl⟩
    · cases h
  | _ => simp [vLc2] at h

/-! the checker -/
def biN : Bi → Str
  | .len => "len"
  | .abs => "abs"
  | .sum => "sum"
  | .any => "any"
  | .all => "all"
  | .sorted => "sorted"
  | .min => "min"
  | .max => "max"
  | .tuple => "tuple"
  | .list => "list"
  | .int => "int"
  | .str => "str"
  | .dict => "dict"
  | .sset => "sorted"
  | .lset => "len"
/-- of a set that lasts no longer than the call -/
def biS : Bi → Bool
  | .sset => true
  | .lset => true
  | _ => false
/-- the scope of a block within -/
def Ct.blk (ct : Ct) (scope : Scope) : Ct := { ct with sc := relS scope ct.sc, own := scope }
def ownP (ct : Ct) (own : List Nat) : List (Str × Nat) := own.filterMap fun i => (ct.N[i]?).map fun x => (x, i)
def blkB (ct : Ct) (scope : Scope) (own : List Nat) : Bool :=
  (scope.kind == .function) && scope.names.all (fun y => scope.names.lookup y.1 == some y.2) && ((ownP ct own).map (·.2) == own)
    && scope.names.all (fun y => !(y.2 == .free) || (ct.sc.names.lookup y.1 == some .cell || ct.sc.names.lookup y.1 == some .free))
    && scope.names.all (fun y => !(y.2 == .local || y.2 == .cell) || ((ownP ct own).any (·.1 == y.1) || !ct.N.contains y.1))
    && !own.contains ct.iw
mutual
/-- a target: names of the block that runs, or tuples of such -/
def chkP (ct : Ct) : Pat → Expr → Bool
  | .nm i, e => match vName e with
    | some x => ct.N[i]? == some x && isLoc ct.own x && !(i == ct.iw)
    | none => false
  | .tp ps, e => match vTup e with
    | some es => chkPs ct ps es
    | none => false
def chkPs (ct : Ct) : Pats → List Expr → Bool
  | .nil, [] => true
  | .cons p ps, e :: es => notStar e && (chkP ct p e && chkPs ct ps es)
  | _, _ => false
end
def isTupE : Expr → Bool
  | .Tuple .. => true
  | _ => false
def isNo : E → Bool
  | .none => true
  | _ => false
def isYes : E → Bool
  | .yes => true
  | _ => false
mutual
def chkE (ct : Ct) : E → Expr → Bool
  | .none, e => match vConst e with
    | some .none => true
    | _ => false
  | .bl b, e => match vConst e with
    | some (.bool c) => b == c
    | _ => false
  | .int i, e => match vConst e with
    | some (.int j) => i == j
    | _ => false
  | .str s, e => match vConst e with
    | some (.str t) => s == t
    | _ => false
  | .var i, e => match vName e with
    | some x => ct.N[i]? == some x && (isVis ct.sc x && notDbg x)
    | none => false
  | .gl n, e => match vName e with
    | some x => ct.gl.contains (n, x) && (isGl ct x && notDbg x)
    | none => false
  | .bin o a b, e => match vBin e with
    | some (x, p, y) => decide (p = binOp o) && (chkE ct a x && chkE ct b y)
    | none => false
  | .neg a, e => match vUn e with
    | some (.USub, x) => chkE ct a x
    | _ => false
  | .not a, e => match vUn e with
    | some (.Not, x) => chkE ct a x
    | _ => false
  | .and a b, e => match vBool e with
    | some (.And, [x, y], _) => chkE ct a x && chkE ct b y
    | some (.And, x :: y :: z :: r, p) => chkE ct a x && chkE ct b (.BoolOp .And (y :: z :: r) p)
    | _ => false
  | .or a b, e => match vBool e with
    | some (.Or, [x, y], _) => chkE ct a x && chkE ct b y
    | some (.Or, x :: y :: z :: r, p) => chkE ct a x && chkE ct b (.BoolOp .Or (y :: z :: r) p)
    | _ => false
  | .cmp c a b, e => match vCmp e with
    | some (x, [o], [y]) => decide (o = cmOp c) && (notSet y && (chkE ct a x && chkE ct b y))
    | _ => false
  | .chain c c' a b d, e => match vCmp e with
    | some (x, [o, o'], [y, z]) => decide (o = cmOp c) && (decide (o' = cmOp c') && (notSet z && (chkE ct a x && (chkE ct b y && chkE ct d z))))
    | _ => false
  | .chain3 c c' c2 a b d g, e => match vCmp e with
    | some (x, [o, o', o2], [y, z, u]) => decide (o = cmOp c) && (decide (o' = cmOp c') && (decide (o2 = cmOp c2) && (notSet u && (chkE ct a x && (chkE ct b y && (chkE ct d z && chkE ct g u))))))
    | _ => false
  | .ife t a b, e => match vIf e with
    | some (x, y, z) => chkE ct t x && (chkE ct a y && chkE ct b z)
    | none => false
  | .tup es, e => match vTup e with
    | some xs => decide (es.len ≤ 1000) && chkEs ct es xs
    | none => false
  | .lst es, e => match vLst e with
    | some xs => decide (es.len ≤ 1000) && chkEs ct es xs
    | none => false
  | .dct es, e => match vDct e with
    | some (ks, vs) => if es.isNil = true then ks.isEmpty && vs.isEmpty else decide (ks.length ≤ 15) && (decide (es.len ≤ 1000) && chkD ct es ks vs)
    | none => false
  | .count a x, e => match vMeth e with
    | some (o, m, ap, [y], cp) => m == ("count" : Str) && (plainBase o && (ap.endLine == cp.line && (notStar y && (chkE ct a o && chkE ct x y))))
    | _ => false
  | .index a x, e => match vMeth e with
    | some (o, m, ap, [y], cp) => m == ("index" : Str) && (plainBase o && (ap.endLine == cp.line && (notStar y && (chkE ct a o && chkE ct x y))))
    | _ => false
  | .get1 a x, e => match vMeth e with
    | some (o, m, ap, [y], cp) => m == ("get" : Str) && (plainBase o && (ap.endLine == cp.line && (notStar y && (chkE ct a o && chkE ct x y))))
    | _ => false
  | .get2 a x d, e => match vMeth e with
    | some (o, m, ap, [y, z], cp) => m == ("get" : Str) && (plainBase o && (ap.endLine == cp.line && (notStar y && (notStar z && (chkE ct a o && (chkE ct x y && chkE ct d z))))))
    | _ => false
  | .ix a i, e => match vSub e with
    | some (x, y) => (vSli y).isNone && (chkE ct a x && chkE ct i y)
    | none => false
  | .sl a lo hi, e => match vSub e with
    | some (x, y) => match vSli y with
      | some (l, h, none) => chkE ct a x && ((match l with
        | none => isNo lo
        | some y => !isNo lo && chkE ct lo y) && (match h with
        | none => isNo hi
        | some y => !isNo hi && chkE ct hi y))
      | _ => false
    | none => false
  | .rev a, e => match vSub e with
    | some (x, y) => match vSli y with
      | some (none, none, some z) => match vUn z with
        | some (.USub, c) => match vConst c with
          | some (.int 1) => chkE ct a x
          | _ => false
        | _ => false
      | _ => false
    | none => false
  | .comp own p s t elt, e => match vLc1 e with
    | some (el, tg, it, ifs, scope) => blkB ct scope own && (p.ns.all own.contains && (chkS ct s tg it && (chkP (ct.blk scope) p tg && ((match ifs with
        | [] => isYes t
        | [y] => !isYes t && chkE (ct.blk scope) t y
        | _ => false) && chkE (ct.blk scope) elt el))))
    | none => false
  | .comp2 own own1 p s t p1 s1 t1 elt, e => match vLc2 e with
    | some (el, (tg, it, ifs), (tg1, it1, ifs1), scope) => blkB ct scope own && (own1.all own.contains && (p.ns.all own.contains && (p1.ns.all own1.contains && (chkS ct s tg it && (chkP (ct.blk scope) p tg && ((match ifs with
        | [] => isYes t
        | [y] => !isYes t && chkE (ct.blk scope) t y
        | _ => false) &&
        (chkS (ct.blk scope) s1 tg1 it1 && (chkP (ct.blk scope) p1 tg1 && ((match ifs1 with
        | [] => isYes t1
        | [y] => !isYes t1 && chkE (ct.blk scope) t1 y
        | _ => false) && chkE (ct.blk scope) elt el)))))))))
    | none => false
  | .call f es, e => match vCall e with
    | some (x, y :: ys) => ct.fs.contains (f, x, (y :: ys).length, false) && (isGl ct x && (notDbg x && chkEs ct es (y :: ys)))
    | _ => false
  | .callw f es, e => match vCall e with
    | some (x, y :: ys) => match vName y with
      | some z => ct.fs.contains (f, x, (y :: ys).length, true) && (isGl ct x && (notDbg x && (ct.N[ct.iw]? == some z && (isVis ct.sc z && (notDbg z && chkEs ct es ys)))))
      | none => false
    | _ => false
  | .bi b a, e => match vCall e with
    | some (x, [y]) => if biS b = true then (match vCall y with
      | some (x2, [y2]) => x == biN b && (x2 == ("set" : Str) && (isGl ct x && (isGl ct x2 && (notStar y2 && chkE ct a y2))))
      | _ => false) else biOk b && (x == biN b && (isGl ct x && (notStar y && chkE ct a y)))
    | _ => false
  | .bis b s, e => match vCall e with
    | some (x, [y]) => match b with
      | .tuple => x == ("tuple" : Str) && (isGl ct x && (notStar y && chkR ct s y))
      | .list => x == ("list" : Str) && (isGl ct x && (notStar y && chkR ct s y))
      | _ => false
    | _ => false
  | .mx a b, e => match vCall e with
    | some (x, [y, z]) => x == ("max" : Str) && (isGl ct x && (notStar y && (notStar z && (chkE ct a y && chkE ct b z))))
    | _ => false
  | .mn a b, e => match vCall e with
    | some (x, [y, z]) => x == ("min" : Str) && (isGl ct x && (notStar y && (notStar z && (chkE ct a y && chkE ct b z))))
    | _ => false
  | .isin a t, e => match vCall e with
    | some (x, [y, z]) => match vName z with
      | some n => x == ("isinstance" : Str) && (isGl ct x && (n == Str.ofString (tyN t) && (isGl ct n && (notStar y && chkE ct a y))))
      | none => false
    | _ => false
  | .yes, _ => false
  | .bad, _ => true
def chkD (ct : Ct) : Es → List (Option Expr) → List Expr → Bool
  | .nil, [], [] => true
  | .cons a (.cons b r), some x :: ks, y :: vs => chkE ct a x && (chkE ct b y && chkD ct r ks vs)
  | _, _, _ => false
def chkEs (ct : Ct) : Es → List Expr → Bool
  | .nil, [] => true
  | .cons c es, x :: xs => notStar x && (chkE ct c x && chkEs ct es xs)
  | _, _ => false
/-- what a loop walks, with its target -/
def chkS (ct : Ct) : Src → Expr → Expr → Bool
  | .val c, _, x => notSet x && chkE ct c x
  | .r1 a, _, e => match vCall e with
    | some (x, [y]) => x == ("range" : Str) && (isGl ct x && (notStar y && chkE ct a y))
    | _ => false
  | .r2 a b, _, e => match vCall e with
    | some (x, [y, z]) => x == ("range" : Str) && (isGl ct x && (notStar y && (notStar z && (chkE ct a y && chkE ct b z))))
    | _ => false
  | .r3 a b c, _, e => match vCall e with
    | some (x, [y, z, u]) => x == ("range" : Str) && (isGl ct x && (notStar y && (notStar z && (notStar u && (chkE ct a y && (chkE ct b z && chkE ct c u))))))
    | _ => false
  | .zip a b, tg, e => match vCall e with
    | some (x, [y, z]) => isTupE tg && (x == ("zip" : Str) && (isGl ct x && (notStar y && (notStar z && (chkE ct a y && chkE ct b z)))))
    | _ => false
/-- range(..) as an argument -/
def chkR (ct : Ct) : Src → Expr → Bool
  | .r1 a, e => match vCall e with
    | some (x, [y]) => x == ("range" : Str) && (isGl ct x && (notStar y && chkE ct a y))
    | _ => false
  | .r2 a b, e => match vCall e with
    | some (x, [y, z]) => x == ("range" : Str) && (isGl ct x && (notStar y && (notStar z && (chkE ct a y && chkE ct b z))))
    | _ => false
  | _, _ => false
end
/-- a bound of a slice: none where it is left out -/
def chkO (ct : Ct) (c : E) (o : Option Expr) : Bool := match o with
  | none => isNo c
  | some y => !isNo c && chkE ct c y
/-- the tests of a clause: one or none -/
def chkT (ct : Ct) (t : E) (ifs : List Expr) : Bool := match ifs with
  | [] => isYes t
  | [y] => !isYes t && chkE ct t y
  | _ => false
end PV

set_option maxHeartbeats 4000000
/-! PV: expressions: what the interpreter reckons the model gives. -/
namespace PV
open PySem L2

structure Pm where
  C : Nat → Option D
  F : Nat → List D → W D
  G : Nat → List D → W D
  w : Wp
  iw : Nat

/-- the promise of a def of n parameters that gives what f says -/
def spF (n : Nat) (f : List D → W D) (K : Fw) : Sp := fun vs H Q _ => vs.length = n ∧ ∃ O ds R, Dm O H ∧ Rps K (hid O H) vs ds ∧ f ds R ∧ ∀ d v H', R d → Le H H' → Rp K (hid O H') v d → Q v H'
/-- .. that draws: its first parameter is w -/
def spG (n : Nat) (f : List D → W D) (K : Fw) : Sp := fun vs H Q _ => vs.length = n ∧ ∃ t O ds R vs', vs = .ref t.1 :: vs' ∧ WOk (some t) H ∧ t.1 ∈ O ∧ Dm O H ∧ Rps K (hid O H) vs' ds ∧ f ds R ∧
  ∀ d v H', R d → Ext (some t) H H' → Rp K (hid O H') v d → Q v H'
def bltN : List Str := ["len", "abs", "sum", "any", "all", "sorted", "min", "max", "tuple", "list", "int", "str", "dict", "set", "range", "zip", "isinstance", "bool"]

/-- the context in which code of the checked form runs -/
structure Gd (P : Pm) (ct : Ct) (X : Cx) (k : Nat) : Prop where
  hN : X.N = ct.N
  nd : ct.N.Nodup
  hsc : X.env.scope = ct.sc
  hiw : ct.iw = P.iw
  calm : X.calm = true
  room : Room k X.A
  blt : ∀ x ∈ bltN, X.mg x = none
  sto : ∀ x, isLoc ct.own x = true → Loc X.env.scope x ∧ (X.fn x = true ∨ X.env.scope.names.lookup x = some .local)
  fns : ∀ f x n b, (f, x, n, b) ∈ ct.fs → ∃ a fd ps, X.mg x = some (.ref a) ∧ PySem.W.keepIn X.K (.ref a) = true ∧ Binds X.K fd ps [] ∧
    FnOk X.prog X.w X.K X.mg X.base CX0 k a fd ps (if b = true then spG n (P.G f) X.fw else spF n (P.F f) X.fw)
  hws : ∀ f x n, (f, x, n, true) ∈ ct.fs → P.w.isSome = true
  gls : ∀ n x, (n, x) ∈ ct.gl → ∃ v u d, X.mg x = some u ∧ RelV v u ∧ P.C n = some d ∧ ∀ H, Rp X.fw H v d

abbrev Pm.ev (P : Pm) (c : E) (ρ : Env) : W D := PV.ev wM P.C P.F P.G c ρ
abbrev Pm.evs (P : Pm) (c : Es) (ρ : Env) : W (List D) := PV.evs wM P.C P.F P.G c ρ
abbrev Pm.evS (P : Pm) (c : Src) (ρ : Env) : W (List D) := PV.evS wM P.C P.F P.G c ρ
abbrev NoOw (vs : List Nat) (ρ : Env) : Prop := ∀ i ∈ vs, getO ρ i = none
def Res (c : E) (K : Fw) (O : List Addr) (H H' : Hp) (v : V) (d : D) : Prop := Rp K (hid O H') v d ∧ (c.fresh = true → isMut d = true → FrP K O H H' v d)
def tE (P : Pm) (K : Fw) (c : E) : TE := fun σ H Q => ∃ O0 H0 O ρ R, Sim K P.w P.iw O0 H0 O H σ ρ ∧ NoOw (esc false c) ρ ∧ P.ev c ρ R ∧ ∀ d v H', R d → Ext P.w H H' → Res c K O H H' v d → Q v H'
def SlOw (σ : L2.St) (ρ : Env) (p : Addr) : Prop := ∃ (i : Nat) (d : D), ρ[i]? = some (.ow d) ∧ σ[i]? = some (some (.ref p))
/-- a list that some slot alone holds is that slot's -/
def LsOw (O : List Addr) (σ : L2.St) (ρ : Env) (v : V) (d : D) : Prop := ∀ p, v = .ref p → isMut d = true → p ∈ O → SlOw σ ρ p
theorem _root_.PV.Rp.out {K : Fw} {O : List Addr} {H : Hp} {p : Addr} {d : D} (h : Rp K (hid O H) (.ref p) d) (m : isMut d = true) : p ∉ O := by
  cases h with
  | lst hs _ => exact hid_out hs
  | tup _ _ => cases m
  | dct hs _ _ _ => exact hid_out hs
def tB (P : Pm) (K : Fw) (c : E) : TE := fun σ H Q => ∃ O0 H0 O ρ R, Sim K P.w P.iw O0 H0 O H σ ρ ∧ NoOw (esc true c) ρ ∧ P.ev c ρ R ∧ ∀ d v H', R d → Ext P.w H H' → Br K O H' v d → LsOw O σ ρ v d → Q v H'
def tT (P : Pm) (K : Fw) (c : E) : TT := fun σ H Q => ∃ O0 H0 O ρ R, Sim K P.w P.iw O0 H0 O H σ ρ ∧ NoOw (esc true c) ρ ∧ P.ev c ρ R ∧ ∀ d H', R d → Ext P.w H H' → ∃ b, bool? d = some b ∧ Q b H'
def tEs (P : Pm) (K : Fw) (c : Es) : TA := fun σ H Q => ∃ O0 H0 O ρ R, Sim K P.w P.iw O0 H0 O H σ ρ ∧ NoOw (escs c) ρ ∧ P.evs c ρ R ∧ ∀ ds vs H', R ds → Ext P.w H H' → Rps K (hid O H') vs ds → vs.length = c.len → Q vs H'

theorem _root_.L2.PE.imp {X : Cx} {e : Expr} {t t' : TE} (h : PE X e t') (k : ∀ σ H Q, t σ H Q → t' σ H Q) : PE X e t := ⟨fun pins s σ H Q I q => h.run pins s σ H Q I (k σ H Q q)⟩
theorem _root_.L2.PT.imp {X : Cx} {e : Expr} {t t' : TT} (h : PT X e t') (k : ∀ σ H Q, t σ H Q → t' σ H Q) : PT X e t := ⟨fun pins s σ H Q I q => h.run pins s σ H Q I (k σ H Q q)⟩
theorem _root_.L2.PW.imp {X : Cx} {e : Expr} {t t' : TT} (h : PW X e t') (k : ∀ σ H Q, t σ H Q → t' σ H Q) : PW X e t := ⟨fun wh pins s σ H Q I q => h.run wh pins s σ H Q I (k σ H Q q)⟩
theorem _root_.L2.PA.imp {X : Cx} {es : List Expr} {t t' : TA} (h : PA X es t') (k : ∀ σ H Q, t σ H Q → t' σ H Q) : PA X es t := ⟨fun pos pins s σ H Q I q => h.run pos pins s σ H Q I (k σ H Q q)⟩
theorem wlift {α : Type} {o : Option α} {R : α → Prop} (h : wM.lift o R) : ∃ z, o = some z ∧ R z := by
  cases o with
  | none => exact False.elim h
  | some z => exact ⟨z, rfl, h⟩
theorem FrP.back {w : Wp} {K : Fw} {O : List Addr} {H H1 H2 : Hp} {v : V} {z : D} (h : FrP K O H1 H2 v z) (e : Ext w H H1) : FrP K O H H2 v z := by
  obtain ⟨p, u, e1, n, hp, r⟩ := h
  refine ⟨p, u, e1, ?_, hp, r⟩
  cases q : H p with
  | none => rfl
  | some o =>
    by_cases hw : w.is p
    · obtain ⟨t, ht, rfl⟩ := hw
      have wk := e.2
      rw [ht] at wk
      obtain ⟨j, _, h1, _⟩ := wk
      rw [h1] at n
      cases n
    · rw [e.1 p o hw q] at n
      cases n
theorem noOw_l {a b : List Nat} {ρ : Env} (h : NoOw (a ++ b) ρ) : NoOw a ρ := fun i hi => h i (List.mem_append_left _ hi)
theorem noOw_r {a b : List Nat} {ρ : Env} (h : NoOw (a ++ b) ρ) : NoOw b ρ := fun i hi => h i (List.mem_append_right _ hi)

section
variable {P : Pm} {ct : Ct} {X : Cx} {k : Nat} {K : Fw} {O0 O : List Addr} {H0 H : Hp} {σ : L2.St} {ρ : Env}
theorem Sim.dm (S : Sim K P.w P.iw O0 H0 O H σ ρ) : Dm O H := S.dom
theorem Gd.gl (g : Gd P ct X k) {x : Str} (h : isGl ct x = true) : Gl X x := by
  unfold isGl at h
  show X.env.scope.names.lookup x = _
  rw [g.hsc]
  exact beq_iff_eq.mp h
theorem Gd.vis (g : Gd P ct X k) {x : Str} (h : isVis ct.sc x = true) : Vis X.env.scope x := by
  unfold isVis isLoc at h
  rw [g.hsc]
  simp only [Bool.or_eq_true, beq_iff_eq] at h
  rcases h with (h | h) | h
  · exact .inl h
  · exact .inr (.inl h)
  · exact .inr (.inr h)
theorem dbg {x : Str} (h : notDbg x = true) : (x == ("__debug__" : Str)) = false ∧ (x == ("__classdict__" : Str)) = false := by
  unfold notDbg at h
  simpa using h
theorem star_cons {e : Expr} {es : List Expr} {env : PySem.Env} (h : notStar e = true) : starEach (e :: es) env = (false, eval e env) :: starEach es env := by
  cases e <;> first | rfl | (simp [notStar] at h)

/-- a name, as a value that others may hold -/
theorem pe_nm (g : Gd P ct X k) {i : Nat} {x : Str} {pos : Pos} (h : (ct.N[i]? == some x && (isVis ct.sc x && notDbg x)) = true) : PE X (.Name x pos) (tVar i) := by
  rw [Bool.and_eq_true, Bool.and_eq_true] at h
  obtain ⟨h1, h2, h3⟩ := h
  obtain ⟨d1, d2⟩ := dbg h3
  exact pe_var (by rw [g.hN]; exact beq_iff_eq.mp h1) (g.vis h2) d1 d2
theorem snd_var {i : Nat} {e : Expr} (h : PE X e (tVar i)) : PE X e (tE P X.fw (.var i)) := h.imp fun σ H Q q => by
  obtain ⟨O0, H0, O, ρ, R, S, es, hv, q⟩ := q
  obtain ⟨d, hd, r⟩ := wlift (show wM.lift (getV ρ i) R by unfold Pm.ev ev at hv; exact hv)
  obtain ⟨v, e1, b, f⟩ := S.var hd
  exact ⟨v, e1, q d v H r (Ext.refl S.wok) ⟨f (es i (by simp [esc])), fun z => by cases z⟩⟩
theorem sndB_var {i : Nat} {e : Expr} (h : PE X e (tVar i)) : PE X e (tB P X.fw (.var i)) := h.imp fun σ H Q q => by
  obtain ⟨O0, H0, O, ρ, R, S, es, hv, q⟩ := q
  obtain ⟨d, hd, r⟩ := wlift (show wM.lift (getV ρ i) R by unfold Pm.ev ev at hv; exact hv)
  obtain ⟨v, e1, b, f⟩ := S.var hd
  refine ⟨v, e1, q d v H r (Ext.refl S.wok) b fun p z1 z2 z3 => ?_⟩
  subst z1
  rcases getV_sh hd with z | z
  · obtain ⟨v', e2, r⟩ := S.slot i _ z
    rw [e1] at e2
    cases e2
    exact absurd z3 (r.out z2)
  · exact ⟨i, _, z, e1⟩
def E.isVar : E → Bool
  | .var _ => true
  | _ => false
theorem esc_eq {c : E} (h : c.isVar = false) : esc true c = esc false c := by
  cases c <;> first | rfl | (simp [E.isVar] at h)
/-- only looked at -/
theorem snd_B (g : Gd P ct X k) {c : E} {e : Expr} (hc : chkE ct c e = true) (h : PE X e (tE P X.fw c)) : PE X e (tB P X.fw c) := by
  cases hv : c.isVar with
  | true =>
    cases c <;> simp [E.isVar] at hv
    rename_i i
    unfold chkE at hc
    cases hn : vName e with
    | none => rw [hn] at hc; cases hc
    | some x =>
      rw [hn] at hc
      obtain ⟨p, rfl⟩ := vName_eq hn
      exact sndB_var (pe_nm g hc)
  | false =>
    refine h.imp fun σ H Q q => ?_
    obtain ⟨O0, H0, O, ρ, R, S, es, ev, q⟩ := q
    exact ⟨O0, H0, O, ρ, R, S, by rw [← esc_eq hv]; exact es, ev, fun d v H' hr he r => q d v H' hr he (.inl r.1) fun p z1 z2 z3 => by subst z1; exact absurd z3 (r.1.out z2)⟩
/-- a constant -/
theorem snd_const {v : V} {d : D} {c : E} {e : Expr} (h : PE X e (tC v)) (hv : ∀ ρ, P.ev c ρ = fun R => R d) (hr : ∀ H, Rp X.fw H v d) (hf : c.fresh = false) : PE X e (tE P X.fw c) := h.imp fun σ H Q q => by
  obtain ⟨O0, H0, O, ρ, R, S, es, ev, q⟩ := q
  rw [hv] at ev
  exact q d v H ev (Ext.refl S.wok) ⟨hr _, fun z => by rw [hf] at z; cases z⟩
theorem snd_gl (g : Gd P ct X k) {n : Nat} {x : Str} {pos : Pos} (h1 : ct.gl.contains (n, x) = true) (h2 : isGl ct x = true) (h3 : notDbg x = true) : PE X (.Name x pos) (tE P X.fw (.gl n)) := by
  obtain ⟨v, u, d, hm, r, hC, hr⟩ := g.gls n x (by simpa using h1)
  refine (pe_glob (g.gl h2) hm r (dbg h3).1).imp fun σ H Q q => ?_
  obtain ⟨O0, H0, O, ρ, R, S, es, ev, q⟩ := q
  obtain ⟨d', hd, rr⟩ := wlift (show wM.lift (P.C n) R by unfold Pm.ev PV.ev at ev; exact ev)
  rw [hC] at hd
  cases hd
  exact q d v H rr (Ext.refl S.wok) ⟨hr _, fun z => by cases z⟩

section
variable {a b c' : E} {x y z : Expr} {pos : Pos}
/-- two operands, then an operation by values that gives a datum -/
theorem two {f : Bool} {gg : D → D → Option D} {c : E} {r : R2} (hr : ∀ x y H Q, rD2 f X.fw gg x y H Q → r x y H Q) (he : esc false c = esc true a ++ esc true b) (hf : c.fresh = true → f = true)
    (hv : ∀ ρ R, P.ev c ρ R → P.ev a ρ fun u => P.ev b ρ fun v => wM.lift (gg u v) R) {σ : L2.St} {H : Hp} {Q : VK} (q : tE P X.fw c σ H Q) : tOp r (tB P X.fw a) (tB P X.fw b) σ H Q := by
  obtain ⟨O0, H0, O, ρ, R, S, es, ev, q⟩ := q
  rw [he] at es
  refine ⟨O0, H0, O, ρ, _, S, noOw_l es, hv ρ R ev, fun d u H1 hd e1 ba _ => ⟨O0, H0, O, ρ, _, S.ext e1, noOw_r es, hd, fun d' u' H2 hd' e2 bb _ => ?_⟩⟩
  obtain ⟨w, hw, hR⟩ := wlift hd'
  have S2 := (S.ext e1).ext e2
  refine hr _ _ _ _ ⟨O, d, d', w, S2.dom, ba.ext e2 S.wo e1.2, bb, hw, fun v H3 le rp fr => q w v H3 hR ((e1.trans e2).trans (Ext.of_le S2.wok le)) ⟨rp, fun z1 z2 => ?_⟩⟩
  exact (fr (hf z1) z2).back (e1.trans e2)
theorem snd_bin {o : Op2} (ha : PE X x (tB P X.fw a)) (hb : PE X y (tB P X.fw b)) : PE X (.BinOp x (binOp o) y pos) (tE P X.fw (.bin o a b)) :=
  (pe_op (op_bin o) ha hb).imp fun σ H Q q => two (f := true) (gg := dBin o) (fun _ _ _ _ h => h) (by simp [esc]) (fun _ => rfl) (fun ρ R h => by unfold Pm.ev PV.ev at h; exact h) q
theorem snd_ix (hr : Room k X.A) (ha : PE X x (tB P X.fw a)) (hb : PE X y (tB P X.fw b)) (hs : vSli y = none) : PE X (.Subscript x y pos) (tE P X.fw (.ix a b)) :=
  (pe_ix (op_ix hr) ha hb (fun _ _ => by cases y <;> first | rfl | (simp [vSli] at hs))).imp fun σ H Q q => two (f := false) (gg := dIx) (fun _ _ _ _ h => h) (by simp [esc]) (fun h => by cases h) (fun ρ R h => by unfold Pm.ev PV.ev at h; exact h) q
theorem nomk {op : CmpOp} (h : notSet y = true) : behindInMarks op y = false := by
  cases y <;> first | rfl | (simp [notSet] at h)
/-- two operands, then a comparison -/
theorem twoC {gg : D → D → Option Bool} {ρ : Env} {R : Bool → Prop} {σ : L2.St} {H H0 : Hp} {O0 O : List Addr} {Q : VK} (S : Sim X.fw P.w P.iw O0 H0 O H σ ρ) (es : NoOw (esc true a ++ esc true b) ρ)
    (ev : P.ev a ρ fun u => P.ev b ρ fun v => wM.lift (gg u v) R) (q : ∀ t H', R t → Ext P.w H H' → Q (.bl t) H') : tOp (rC2 X.fw gg) (tB P X.fw a) (tB P X.fw b) σ H Q := by
  refine ⟨O0, H0, O, ρ, _, S, noOw_l es, ev, fun d u H1 hd e1 ba _ => ⟨O0, H0, O, ρ, _, S.ext e1, noOw_r es, hd, fun d' u' H2 hd' e2 bb _ => ?_⟩⟩
  obtain ⟨w, hw, hR⟩ := wlift hd'
  exact ⟨O, d, d', w, ba.ext e2 S.wo e1.2, bb, hw, q w H2 hR (e1.trans e2)⟩
theorem cmp_ev {c : Cm} {ρ : Env} {R : D → Prop} (h : P.ev (.cmp c a b) ρ R) : P.ev a ρ fun u => P.ev b ρ fun v => wM.lift (dCmp c u v) fun t => R (.bool t) := by
  unfold Pm.ev PV.ev at h
  have e : (fun u => PV.ev wM P.C P.F P.G b ρ fun v => wM.lift ((dCmp c u v).map PyData.bool) R) = fun u => PV.ev wM P.C P.F P.G b ρ fun v => wM.lift (dCmp c u v) fun t => R (.bool t) := by
    funext u
    exact congrArg (PV.ev wM P.C P.F P.G b ρ) (funext fun v => by cases dCmp c u v <;> rfl)
  have h' : PV.ev wM P.C P.F P.G a ρ (fun u => PV.ev wM P.C P.F P.G b ρ fun v => wM.lift ((dCmp c u v).map PyData.bool) R) := h
  rw [e] at h'
  exact h'
theorem snd_cmp (hr : Room k X.A) {c : Cm} (ha : PE X x (tB P X.fw a)) (hb : PE X y (tB P X.fw b)) (hs : notSet y = true) : PE X (.Compare x [cmOp c] [y] pos) (tE P X.fw (.cmp c a b)) :=
  (pe_cmpR (op_cmp hr c) ha hb (nomk hs)).imp fun σ H Q q => by
    obtain ⟨O0, H0, O, ρ, R, S, es, ev, q⟩ := q
    exact twoC S (by simpa [esc] using es) (cmp_ev ev) fun t H' hR e => q (.bool t) (.bl t) H' hR e ⟨.bl t, fun _ z => by cases z⟩
theorem sndT_cmp (hr : Room k X.A) {c : Cm} (ha : PE X x (tB P X.fw a)) (hb : PE X y (tB P X.fw b)) (hs : notSet y = true) : PT X (.Compare x [cmOp c] [y] pos) (tT P X.fw (.cmp c a b)) :=
  (pt_cmpR (op_cmp hr c) ha hb (nomk hs)).imp fun σ H Q q => by
    obtain ⟨O0, H0, O, ρ, R, S, es, ev, q⟩ := q
    refine twoC S (by simpa [esc] using es) (cmp_ev ev) fun t H' hR e => ?_
    obtain ⟨b, hb, q⟩ := q (.bool t) H' hR e
    cases hb
    exact ⟨_, rfl, q⟩
end
end
end PV

set_option maxHeartbeats 4000000
/-! PV: the small forms of expressions. -/
namespace PV
open PySem L2

theorem wbool {β : Type} {o : Option Bool} {f : Bool → W β} {R : β → Prop} (h : wM.bind (wM.lift o) f R) : ∃ b, o = some b ∧ f b R := wlift h
theorem wbind {α β : Type} {o : Option α} {f : α → W β} {R : β → Prop} (h : wM.bind (wM.lift o) f R) : ∃ b, o = some b ∧ f b R := wlift h
theorem wmap {α β : Type} {o : Option α} {g : α → β} {R : β → Prop} (h : wM.lift (o.map g) R) : ∃ b, o = some b ∧ R (g b) := by
  cases o with
  | none => exact False.elim h
  | some b => exact ⟨b, rfl, h⟩
theorem bool_some {d : D} {b : Bool} (h : bool? d = some b) : d = .bool b := by
  cases d <;> simp [bool?] at h
  subst h
  rfl
theorem int_some {d : D} {b : Int} (h : int? d = some b) : d = .int b := by
  cases d <;> simp [int?] at h
  subst h
  rfl
theorem noOw_B {c : E} {ρ : Env} (h : NoOw (esc false c) ρ) : NoOw (esc true c) ρ := by
  cases hv : c.isVar with
  | true =>
    cases c <;> simp [E.isVar] at hv
    intro i hi
    simp [esc] at hi
  | false =>
    rw [esc_eq hv]
    exact h
section
variable {P : Pm} {ct : Ct} {X : Cx} {k : Nat} {a b c d : E} {x y z u : Expr} {pos : Pos}
/-- as a test -/
theorem pt_of_B (h : PE X x (tB P X.fw a)) (hn : ∀ whole, isTrue x X.env whole = (do let v ← whole; standAt x.pos; holding [v] (truthy v))) : PT X x (tT P X.fw a) := by
  refine ⟨fun pins s σ H Q I q => ?_⟩
  refine (pt_val h hn).run pins s σ H Q I ?_
  obtain ⟨O0, H0, O, ρ, R, S, es, ev, q⟩ := q
  refine ⟨O0, H0, O, ρ, R, S, es, ev, fun d v H' hd e ba _ => ?_⟩
  obtain ⟨b, hb, q⟩ := q d H' hd e
  rw [bool_some hb] at ba
  exact ⟨b, ba.bl, q⟩
theorem notTest_eq {env : PySem.Env} (h : notTest x = true) (whole : Sem Value) : isTrue x env whole = (do let v ← whole; standAt x.pos; holding [v] (truthy v)) := by
  cases x with
  | UnaryOp op y p =>
    cases op with
    | Not => cases h
    | _ => rfl
  | BoolOp _ _ _ => cases h
  | IfExp _ _ _ _ => cases h
  | Compare _ _ _ _ => cases h
  | _ => rfl
theorem snd_neg (ha : PE X x (tB P X.fw a)) : PE X (.UnaryOp .USub x pos) (tE P X.fw (.neg a)) :=
  (pe_un un_neg ha).imp fun σ H Q q => by
    obtain ⟨O0, H0, O, ρ, R, S, es, ev, q⟩ := q
    have ev : P.ev a ρ fun x => wM.lift ((int? x).map fun i => PyData.int (-i)) R := by unfold Pm.ev PV.ev at ev; exact ev
    refine ⟨O0, H0, O, ρ, _, S, by simpa [esc] using es, ev, fun d v H' hd e ba _ => ?_⟩
    obtain ⟨i, hi, hR⟩ := wmap hd
    rw [int_some hi] at ba
    exact ⟨i, ba.int, q _ _ H' hR e ⟨.int _, fun _ z => by cases z⟩⟩
theorem ev_not {ρ : Env} {R : D → Prop} (ev : P.ev (.not a) ρ R) : P.ev a ρ fun x => ∃ b, bool? x = some b ∧ R (.bool (!b)) := by
  have h : P.ev a ρ fun x => wM.lift ((bool? x).map fun b => PyData.bool (!b)) R := by unfold Pm.ev PV.ev at ev; exact ev
  have e : (fun x => wM.lift ((bool? x).map fun b => PyData.bool (!b)) R) = fun x => ∃ b, bool? x = some b ∧ R (.bool (!b)) := by
    funext x
    cases hb : bool? x with
    | none => exact propext ⟨fun z => False.elim z, fun ⟨b, e, _⟩ => by cases e⟩
    | some b => exact propext ⟨fun z => ⟨b, rfl, z⟩, fun ⟨c, e, z⟩ => by cases e; exact z⟩
  rw [e] at h
  exact h
theorem snd_not (ha : PE X x (tB P X.fw a)) : PE X (.UnaryOp .Not x pos) (tE P X.fw (.not a)) :=
  (pe_not ha).imp fun σ H Q q => by
    obtain ⟨O0, H0, O, ρ, R, S, es, ev, q⟩ := q
    refine ⟨O0, H0, O, ρ, _, S, by simpa [esc] using es, ev_not ev, fun d v H' hd e ba _ => ?_⟩
    obtain ⟨i, hi, hR⟩ := hd
    rw [bool_some hi] at ba
    exact ⟨i, ba.bl, q _ _ H' hR e ⟨.bl _, fun _ z => by cases z⟩⟩
theorem sndT_not (ha : PT X x (tT P X.fw a)) : PT X (.UnaryOp .Not x pos) (tT P X.fw (.not a)) :=
  (pt_not ha).imp fun σ H Q q => by
    obtain ⟨O0, H0, O, ρ, R, S, es, ev, q⟩ := q
    refine ⟨O0, H0, O, ρ, _, S, by simpa [esc] using es, ev_not ev, fun d H' hd e => ?_⟩
    obtain ⟨i, hi, hR⟩ := hd
    obtain ⟨b, hb, q⟩ := q _ H' hR e
    cases hb
    exact ⟨i, hi, q⟩
/-! and, or -/
theorem ev_and {ρ : Env} {R : D → Prop} (ev : P.ev (.and a b) ρ R) : P.ev a ρ fun x => ∃ t, bool? x = some t ∧ if t = true then P.ev b ρ R else R (.bool false) := by
  have h : P.ev a ρ fun x => wM.bind (wM.lift (bool? x)) (fun t => if t = true then PV.ev wM P.C P.F P.G b ρ else wM.pure (.bool false)) R := by unfold Pm.ev PV.ev at ev; exact ev
  have e : (fun x => wM.bind (wM.lift (bool? x)) (fun t => if t = true then PV.ev wM P.C P.F P.G b ρ else wM.pure (.bool false)) R) = fun x => ∃ t, bool? x = some t ∧ if t = true then P.ev b ρ R else R (.bool false) := by
    funext x
    cases hb : bool? x with
    | none => exact propext ⟨fun z => False.elim z, fun ⟨b, e, _⟩ => by cases e⟩
    | some b => exact propext ⟨fun z => ⟨b, rfl, by cases b <;> exact z⟩, fun ⟨c, e, z⟩ => by cases e; cases b <;> exact z⟩
  rw [e] at h
  exact h
theorem ev_or {ρ : Env} {R : D → Prop} (ev : P.ev (.or a b) ρ R) : P.ev a ρ fun x => ∃ t, bool? x = some t ∧ if t = true then R (.bool true) else P.ev b ρ R := by
  have h : P.ev a ρ fun x => wM.bind (wM.lift (bool? x)) (fun t => if t = true then wM.pure (.bool true) else PV.ev wM P.C P.F P.G b ρ) R := by unfold Pm.ev PV.ev at ev; exact ev
  have e : (fun x => wM.bind (wM.lift (bool? x)) (fun t => if t = true then wM.pure (.bool true) else PV.ev wM P.C P.F P.G b ρ) R) = fun x => ∃ t, bool? x = some t ∧ if t = true then R (.bool true) else P.ev b ρ R := by
    funext x
    cases hb : bool? x with
    | none => exact propext ⟨fun z => False.elim z, fun ⟨b, e, _⟩ => by cases e⟩
    | some b => exact propext ⟨fun z => ⟨b, rfl, by cases b <;> exact z⟩, fun ⟨c, e, z⟩ => by cases e; cases b <;> exact z⟩
  rw [e] at h
  exact h
theorem ev_ife {t : E} {ρ : Env} {R : D → Prop} (ev : P.ev (.ife t a b) ρ R) : P.ev t ρ fun x => ∃ t, bool? x = some t ∧ if t = true then P.ev a ρ R else P.ev b ρ R := by
  have h : P.ev t ρ fun x => wM.bind (wM.lift (bool? x)) (fun t => if t = true then PV.ev wM P.C P.F P.G a ρ else PV.ev wM P.C P.F P.G b ρ) R := by unfold Pm.ev PV.ev at ev; exact ev
  have e : (fun x => wM.bind (wM.lift (bool? x)) (fun t => if t = true then PV.ev wM P.C P.F P.G a ρ else PV.ev wM P.C P.F P.G b ρ) R) = fun x => ∃ t, bool? x = some t ∧ if t = true then P.ev a ρ R else P.ev b ρ R := by
    funext x
    cases hb : bool? x with
    | none => exact propext ⟨fun z => False.elim z, fun ⟨b, e, _⟩ => by cases e⟩
    | some b => exact propext ⟨fun z => ⟨b, rfl, by cases b <;> exact z⟩, fun ⟨c, e, z⟩ => by cases e; cases b <;> exact z⟩
  rw [e] at h
  exact h
theorem snd_and {rest : List Expr} (ha : PE X x (tE P X.fw a)) (hb : PE X (.BoolOp .And (y :: rest) pos) (tE P X.fw b)) : PE X (.BoolOp .And (x :: y :: rest) pos) (tE P X.fw (.and a b)) :=
  (pe_and ha hb).imp fun σ H Q q => by
    obtain ⟨O0, H0, O, ρ, R, S, es, ev, q⟩ := q
    have es : NoOw (esc false a ++ esc false b) ρ := by simpa [esc] using es
    refine ⟨O0, H0, O, ρ, _, S, noOw_l es, ev_and ev, fun d v H' hd e ba => ?_⟩
    obtain ⟨t, ht, hR⟩ := hd
    obtain ⟨r, _⟩ := ba
    rw [bool_some ht] at r
    cases r
    refine ⟨t, rfl, ?_⟩
    cases t with
    | false => exact q _ _ H' hR e ⟨.bl _, fun z => by cases z⟩
    | true => exact ⟨O0, H0, O, ρ, R, S.ext e, noOw_r es, hR, fun d v H2 hd e2 r => q d v H2 hd (e.trans e2) ⟨r.1, fun z => by cases z⟩⟩
theorem snd_or {rest : List Expr} (ha : PE X x (tE P X.fw a)) (hb : PE X (.BoolOp .Or (y :: rest) pos) (tE P X.fw b)) : PE X (.BoolOp .Or (x :: y :: rest) pos) (tE P X.fw (.or a b)) :=
  (pe_or ha hb).imp fun σ H Q q => by
    obtain ⟨O0, H0, O, ρ, R, S, es, ev, q⟩ := q
    have es : NoOw (esc false a ++ esc false b) ρ := by simpa [esc] using es
    refine ⟨O0, H0, O, ρ, _, S, noOw_l es, ev_or ev, fun d v H' hd e ba => ?_⟩
    obtain ⟨t, ht, hR⟩ := hd
    obtain ⟨r, _⟩ := ba
    rw [bool_some ht] at r
    cases r
    refine ⟨t, rfl, ?_⟩
    cases t with
    | true => exact q _ _ H' hR e ⟨.bl _, fun z => by cases z⟩
    | false => exact ⟨O0, H0, O, ρ, R, S.ext e, noOw_r es, hR, fun d v H2 hd e2 r => q d v H2 hd (e.trans e2) ⟨r.1, fun z => by cases z⟩⟩
theorem sndT_and {rest : List Expr} (ha : PT X x (tT P X.fw a)) (hb : PW X (.BoolOp .And (y :: rest) pos) (tT P X.fw b)) : PW X (.BoolOp .And (x :: y :: rest) pos) (tT P X.fw (.and a b)) :=
  (pw_and ha hb).imp fun σ H Q q => by
    obtain ⟨O0, H0, O, ρ, R, S, es, ev, q⟩ := q
    have es : NoOw (esc false a ++ esc false b) ρ := by simpa [esc] using es
    refine ⟨O0, H0, O, ρ, _, S, noOw_B (noOw_l es), ev_and ev, fun d H' hd e => ?_⟩
    obtain ⟨t, ht, hR⟩ := hd
    refine ⟨t, ht, ?_⟩
    cases t with
    | false =>
      obtain ⟨b, hb, q⟩ := q _ H' hR e
      cases hb
      exact q
    | true => exact ⟨O0, H0, O, ρ, R, S.ext e, noOw_B (noOw_r es), hR, fun d H2 hd e2 => q d H2 hd (e.trans e2)⟩
theorem sndT_or {rest : List Expr} (ha : PT X x (tT P X.fw a)) (hb : PW X (.BoolOp .Or (y :: rest) pos) (tT P X.fw b)) : PW X (.BoolOp .Or (x :: y :: rest) pos) (tT P X.fw (.or a b)) :=
  (pw_or ha hb).imp fun σ H Q q => by
    obtain ⟨O0, H0, O, ρ, R, S, es, ev, q⟩ := q
    have es : NoOw (esc false a ++ esc false b) ρ := by simpa [esc] using es
    refine ⟨O0, H0, O, ρ, _, S, noOw_B (noOw_l es), ev_or ev, fun d H' hd e => ?_⟩
    obtain ⟨t, ht, hR⟩ := hd
    refine ⟨t, ht, ?_⟩
    cases t with
    | true =>
      obtain ⟨b, hb, q⟩ := q _ H' hR e
      cases hb
      exact q
    | false => exact ⟨O0, H0, O, ρ, R, S.ext e, noOw_B (noOw_r es), hR, fun d H2 hd e2 => q d H2 hd (e.trans e2)⟩
theorem pw_of {o : BoolOp} {vs : List Expr} {t : TT} (h : PT X (.BoolOp o vs pos) t) : PW X (.BoolOp o vs pos) t := ⟨fun wh pins s σ H Q I q => by
  have e : isTrue (.BoolOp o vs pos) X.env wh = isTrue (.BoolOp o vs pos) X.env (eval (.BoolOp o vs pos) X.env) := rfl
  rw [e]
  exact h.run pins s σ H Q I q⟩
theorem snd_ife {t : E} (ht : PT X z (tT P X.fw t)) (ha : PE X x (tE P X.fw a)) (hb : PE X y (tE P X.fw b)) : PE X (.IfExp z x y pos) (tE P X.fw (.ife t a b)) :=
  (pe_ifExp ht ha hb).imp fun σ H Q q => by
    obtain ⟨O0, H0, O, ρ, R, S, es, ev, q⟩ := q
    have es : NoOw (esc true t ++ (esc false a ++ esc false b)) ρ := by simpa [esc] using es
    refine ⟨O0, H0, O, ρ, _, S, noOw_l es, ev_ife ev, fun d H' hd e => ?_⟩
    obtain ⟨t, ht, hR⟩ := hd
    refine ⟨t, ht, ?_⟩
    cases t with
    | true => exact ⟨O0, H0, O, ρ, R, S.ext e, noOw_l (noOw_r es), hR, fun d v H2 hd e2 r => q d v H2 hd (e.trans e2) ⟨r.1, fun z => by cases z⟩⟩
    | false => exact ⟨O0, H0, O, ρ, R, S.ext e, noOw_r (noOw_r es), hR, fun d v H2 hd e2 r => q d v H2 hd (e.trans e2) ⟨r.1, fun z => by cases z⟩⟩
theorem pt_ife {tA tB' tC' : TT} (ht : PT X z tA) (ha : PT X x tB') (hb : PT X y tC') : PT X (.IfExp z x y pos) (fun σ H Q => tA σ H fun t H1 => if t = true then tB' σ H1 Q else tC' σ H1 Q) := by
  refine ⟨fun pins s σ H Q I q => ?_⟩
  have e : ∀ wh, isTrue (.IfExp z x y pos) X.env wh = (do if ← isTrue z X.env (eval z X.env) then isTrue x X.env (eval x X.env) else isTrue y X.env (eval y X.env)) := fun wh => rfl
  rw [e]
  refine wpAny_bind (thn (ht.run pins s σ H _ I q) fun t s1 ⟨H1, I1, q1⟩ => ?_)
  cases t with
  | true => exact ha.run pins s1 σ H1 Q I1 q1
  | false => exact hb.run pins s1 σ H1 Q I1 q1
theorem sndT_ife {t : E} (ht : PT X z (tT P X.fw t)) (ha : PT X x (tT P X.fw a)) (hb : PT X y (tT P X.fw b)) : PT X (.IfExp z x y pos) (tT P X.fw (.ife t a b)) :=
  (pt_ife ht ha hb).imp fun σ H Q q => by
    obtain ⟨O0, H0, O, ρ, R, S, es, ev, q⟩ := q
    have es : NoOw (esc true t ++ (esc false a ++ esc false b)) ρ := by simpa [esc] using es
    refine ⟨O0, H0, O, ρ, _, S, noOw_l es, ev_ife ev, fun d H' hd e => ?_⟩
    obtain ⟨t, ht, hR⟩ := hd
    refine ⟨t, ht, ?_⟩
    cases t with
    | true => exact ⟨O0, H0, O, ρ, R, S.ext e, noOw_B (noOw_l (noOw_r es)), hR, fun d H2 hd e2 => q d H2 hd (e.trans e2)⟩
    | false => exact ⟨O0, H0, O, ρ, R, S.ext e, noOw_B (noOw_r (noOw_r es)), hR, fun d H2 hd e2 => q d H2 hd (e.trans e2)⟩
/-! a op b op c -/
theorem ev_chain {c1 c2 : Cm} {ρ : Env} {R : D → Prop} (ev : P.ev (.chain c1 c2 a b d) ρ R) : P.ev a ρ fun x => P.ev b ρ fun y => ∃ t, dCmp c1 x y = some t ∧ if t = true then P.ev d ρ fun z => ∃ t, dCmp c2 y z = some t ∧ R (.bool t) else R (.bool false) := by
  have h : P.ev a ρ fun x => P.ev b ρ fun y => wM.bind (wM.lift (dCmp c1 x y)) (fun t => if t = true then wM.bind (PV.ev wM P.C P.F P.G d ρ) (fun z => wM.lift ((dCmp c2 y z).map .bool)) else wM.pure (.bool false)) R := by unfold Pm.ev PV.ev at ev; exact ev
  have e2 : ∀ y, (fun z => wM.lift ((dCmp c2 y z).map PyData.bool) R) = fun z => ∃ t, dCmp c2 y z = some t ∧ R (.bool t) := fun y => by
    funext x
    cases hb : dCmp c2 y x with
    | none => exact propext ⟨fun z => False.elim z, fun ⟨b, e, _⟩ => by cases e⟩
    | some b => exact propext ⟨fun z => ⟨b, rfl, z⟩, fun ⟨c, e, z⟩ => by cases e; exact z⟩
  have e : (fun x => P.ev b ρ fun y => wM.bind (wM.lift (dCmp c1 x y)) (fun t => if t = true then wM.bind (PV.ev wM P.C P.F P.G d ρ) (fun z => wM.lift ((dCmp c2 y z).map .bool)) else wM.pure (.bool false)) R) =
      fun x => P.ev b ρ fun y => ∃ t, dCmp c1 x y = some t ∧ if t = true then P.ev d ρ fun z => ∃ t, dCmp c2 y z = some t ∧ R (.bool t) else R (.bool false) := by
    funext x
    refine congrArg (P.ev b ρ) (funext fun y => ?_)
    rw [← e2 y]
    cases hb : dCmp c1 x y with
    | none => exact propext ⟨fun z => False.elim z, fun ⟨b, e, _⟩ => by cases e⟩
    | some b => exact propext ⟨fun z => ⟨b, rfl, by cases b <;> exact z⟩, fun ⟨c, e, z⟩ => by cases e; cases b <;> exact z⟩
  rw [e] at h
  exact h
theorem chain_q {c1 c2 : Cm} {σ : L2.St} {H H0 : Hp} {O0 O : List Addr} {Q : VK} {ρ : Env} {R : D → Prop} (S : Sim X.fw P.w P.iw O0 H0 O H σ ρ) (es : NoOw (esc true a ++ (esc true b ++ esc true d)) ρ) (ev : P.ev (.chain c1 c2 a b d) ρ R)
    (q : ∀ t H', R (.bool t) → Ext P.w H H' → Q (.bl t) H') : tChain (rC2 X.fw (dCmp c1)) (rC2 X.fw (dCmp c2)) (tB P X.fw a) (tB P X.fw b) (tB P X.fw d) σ H Q := by
  refine ⟨O0, H0, O, ρ, _, S, noOw_l es, ev_chain ev, fun d1 v1 H1 hd e1 b1 _ => ⟨O0, H0, O, ρ, _, S.ext e1, noOw_l (noOw_r es), hd, fun d2 v2 H2 hd e2 b2 _ => ?_⟩⟩
  obtain ⟨t, ht, hR⟩ := hd
  refine ⟨O, d1, d2, t, b1.ext e2 S.wo e1.2, b2, ht, t, rfl, ?_⟩
  cases t with
  | false => exact q false H2 hR (e1.trans e2)
  | true =>
    refine ⟨O0, H0, O, ρ, _, (S.ext e1).ext e2, noOw_r (noOw_r es), hR, fun d3 v3 H3 hd e3 b3 _ => ?_⟩
    obtain ⟨t, ht, hR⟩ := hd
    exact ⟨O, d2, d3, t, b2.ext e3 S.wo e2.2, b3, ht, q t H3 hR ((e1.trans e2).trans e3)⟩
theorem lastM {o o' : CmpOp} (h : notSet z = true) : lastMarks [o, o'] [y, z] = false := by
  show behindInMarks o' z = false
  exact nomk h
theorem snd_chain (hr : Room k X.A) {c1 c2 : Cm} (ha : PE X x (tB P X.fw a)) (hb : PE X y (tB P X.fw b)) (hd : PE X z (tB P X.fw d)) (hs : notSet z = true) : PE X (.Compare x [cmOp c1, cmOp c2] [y, z] pos) (tE P X.fw (.chain c1 c2 a b d)) :=
  (pe_chain (op_cmp hr c1) (op_cmp hr c2) ha hb hd (lastM hs)).imp fun σ H Q q => by
    obtain ⟨O0, H0, O, ρ, R, S, es, ev, q⟩ := q
    exact chain_q S (by simpa [esc] using es) ev fun t H' hR e => q _ _ H' hR e ⟨.bl t, fun _ z => by cases z⟩
theorem sndT_chain (hr : Room k X.A) {c1 c2 : Cm} (ha : PE X x (tB P X.fw a)) (hb : PE X y (tB P X.fw b)) (hd : PE X z (tB P X.fw d)) (hs : notSet z = true) : PT X (.Compare x [cmOp c1, cmOp c2] [y, z] pos) (tT P X.fw (.chain c1 c2 a b d)) :=
  (pt_chain (op_cmp hr c1) (op_cmp hr c2) ha hb hd (lastM hs)).imp fun σ H Q q => by
    obtain ⟨O0, H0, O, ρ, R, S, es, ev, q⟩ := q
    refine chain_q S (by simpa [esc] using es) ev fun t H' hR e => ?_
    obtain ⟨b, hb, q⟩ := q _ H' hR e
    cases hb
    exact ⟨_, rfl, q⟩
/-! a op b op c op d -/
def tChain3 (r r' r2 : R2) (ta tb tc td : TE) : TE := fun σ H Q => ta σ H fun x H1 => tb σ H1 fun y H2 => r x y H2 fun z H3 => ∃ k, z = .bl k ∧
  (if k = true then tc σ H3 fun w' H4 => r' y w' H4 fun z2 H5 => ∃ k2, z2 = .bl k2 ∧ (if k2 = true then td σ H5 fun w2 H6 => r2 w' w2 H6 Q else Q (.bl false) H5) else Q (.bl false) H3)
theorem pe_chain3 {op op' op2 : CmpOp} {r r' r2 : R2} {xa xb xc xd : Expr} {ta tb tc td : TE} {pos : Pos} (ho : OpR X (compareOp op) r) (ho' : OpR X (compareOp op') r') (ho2 : OpR X (compareOp op2) r2) (ha : PE X xa ta) (hb : PE X xb tb) (hc : PE X xc tc) (hd : PE X xd td)
    (hm : lastMarks [op, op', op2] [xb, xc, xd] = false) : PE X (.Compare xa [op, op', op2] [xb, xc, xd] pos) (tChain3 r r' r2 ta tb tc td) := by
  refine ⟨fun pins s σ H Q I h => ?_⟩
  refine PyProof.Rows.Compare_chain (thn (ha.run pins s σ H _ I h) fun v s1 ⟨x, H1, I1, r1, q1⟩ => PyProof.Rows.chain_link (thn (hb.run pins s1 σ H1 _ I1 q1) fun u s2 ⟨y, H2, I2, r2, q2⟩ =>
    thn (ho pins s2 σ H2 x y v u _ I2 r1 r2 q2) fun d s3 ⟨z, H3, I3, r3, k, e, q3⟩ => ?_)) hm
  subst e
  cases r3
  refine wpAny_truthy_bool ?_
  cases k with
  | false => exact PyProof.Rows.ite_ff ⟨.bl false, H3, I3, rfl, q3⟩
  | true =>
    refine PyProof.Rows.ite_tt (PyProof.Rows.chain_link (thn (hc.run pins s3 σ H3 _ I3 q3) fun w' s4 ⟨z', H4, I4, r4, q4⟩ => thn (ho' pins s4 σ H4 y z' u w' _ I4 r2 r4 q4) fun d2 s5 ⟨z2, H5, I5, r5, k2, e2, q5⟩ => ?_))
    subst e2
    cases r5
    refine wpAny_truthy_bool ?_
    cases k2 with
    | false => exact PyProof.Rows.ite_ff ⟨.bl false, H5, I5, rfl, q5⟩
    | true => exact PyProof.Rows.ite_tt (PyProof.Rows.chain_last (thn (hd.run pins s5 σ H5 _ I5 q5) fun w2 s6 ⟨z3, H6, I6, r6, q6⟩ => ho2 pins s6 σ H6 z' z3 w' w2 Q I6 r4 r6 q6))
theorem pt_chain3 {op op' op2 : CmpOp} {r r' r2 : R2} {xa xb xc xd : Expr} {ta tb tc td : TE} {pos : Pos} (ho : OpR X (compareOp op) r) (ho' : OpR X (compareOp op') r') (ho2 : OpR X (compareOp op2) r2) (ha : PE X xa ta) (hb : PE X xb tb) (hc : PE X xc tc) (hd : PE X xd td)
    (hm : lastMarks [op, op', op2] [xb, xc, xd] = false) : PT X (.Compare xa [op, op', op2] [xb, xc, xd] pos) (tTest (tChain3 r r' r2 ta tb tc td)) := by
  refine ⟨fun pins s σ H Q I h => ?_⟩
  refine PyProof.Rows.isTrue_chain (thn (ha.run pins s σ H _ I h) fun v s1 ⟨x, H1, I1, r1, q1⟩ => PyProof.Rows.test_link (thn (hb.run pins s1 σ H1 _ I1 q1) fun u s2 ⟨y, H2, I2, r2, q2⟩ =>
    thn (ho pins s2 σ H2 x y v u _ I2 r1 r2 q2) fun d s3 ⟨z, H3, I3, r3, k, e, q3⟩ => ?_)) hm
  subst e
  cases r3
  refine wpAny_truthy_bool ?_
  cases k with
  | false =>
    obtain ⟨k', e', q'⟩ := q3
    cases e'
    exact PyProof.Rows.ite_ff ⟨H3, I3, q'⟩
  | true =>
    refine PyProof.Rows.ite_tt (PyProof.Rows.test_link (thn (hc.run pins s3 σ H3 _ I3 q3) fun w' s4 ⟨z', H4, I4, r4, q4⟩ => thn (ho' pins s4 σ H4 y z' u w' _ I4 r2 r4 q4) fun d2 s5 ⟨z2, H5, I5, r5, k2, e2, q5⟩ => ?_))
    subst e2
    cases r5
    refine wpAny_truthy_bool ?_
    cases k2 with
    | false =>
      obtain ⟨k', e', q'⟩ := q5
      cases e'
      exact PyProof.Rows.ite_ff ⟨H5, I5, q'⟩
    | true =>
      refine PyProof.Rows.ite_tt (PyProof.Rows.test_last (thn (hd.run pins s5 σ H5 _ I5 q5) fun w2 s6 ⟨z3, H6, I6, r6, q6⟩ => thn (ho2 pins s6 σ H6 z' z3 w' w2 _ I6 r4 r6 q6) fun d3 s7 ⟨z4, H7, I7, r7, k3, e3, q7⟩ => ?_))
      subst e3
      cases r7
      exact wpAny_truthy_bool ⟨H7, I7, q7⟩
theorem ev_chain3 {c1 c2 c3 : Cm} {ρ : Env} {R : D → Prop} {g : E} (ev : P.ev (.chain3 c1 c2 c3 a b d g) ρ R) : P.ev a ρ fun x => P.ev b ρ fun y => ∃ t, dCmp c1 x y = some t ∧ if t = true then P.ev d ρ fun z => ∃ t, dCmp c2 y z = some t ∧ if t = true then P.ev g ρ fun u => ∃ t, dCmp c3 z u = some t ∧ R (.bool t) else R (.bool false) else R (.bool false) := by
  have h : P.ev a ρ fun x => P.ev b ρ fun y => wM.bind (wM.lift (dCmp c1 x y)) (fun t => if t = true then wM.bind (PV.ev wM P.C P.F P.G d ρ) (fun z => wM.bind (wM.lift (dCmp c2 y z)) fun t => if t = true then wM.bind (PV.ev wM P.C P.F P.G g ρ) (fun u => wM.lift ((dCmp c3 z u).map .bool)) else wM.pure (.bool false)) else wM.pure (.bool false)) R := by unfold Pm.ev PV.ev at ev; exact ev
  have l3 : ∀ z, (fun u => wM.lift ((dCmp c3 z u).map PyData.bool) R) = fun u => ∃ t, dCmp c3 z u = some t ∧ R (.bool t) := fun y => by
    funext x
    cases hb : dCmp c3 y x with
    | none => exact propext ⟨fun z => False.elim z, fun ⟨b, e, _⟩ => by cases e⟩
    | some b => exact propext ⟨fun z => ⟨b, rfl, z⟩, fun ⟨c, e, z⟩ => by cases e; exact z⟩
  have lf : ∀ (o : Option Bool) (f : Bool → W D), wM.bind (wM.lift o) f R = ∃ t, o = some t ∧ f t R := fun o f => by
    cases o with
    | none => exact propext ⟨fun z => False.elim z, fun ⟨b, e, _⟩ => by cases e⟩
    | some b => exact propext ⟨fun z => ⟨b, rfl, z⟩, fun ⟨c, e, z⟩ => by cases e; exact z⟩
  have e : (fun x => P.ev b ρ fun y => wM.bind (wM.lift (dCmp c1 x y)) (fun t => if t = true then wM.bind (PV.ev wM P.C P.F P.G d ρ) (fun z => wM.bind (wM.lift (dCmp c2 y z)) fun t => if t = true then wM.bind (PV.ev wM P.C P.F P.G g ρ) (fun u => wM.lift ((dCmp c3 z u).map .bool)) else wM.pure (.bool false)) else wM.pure (.bool false)) R) =
      fun x => P.ev b ρ fun y => ∃ t, dCmp c1 x y = some t ∧ if t = true then P.ev d ρ fun z => ∃ t, dCmp c2 y z = some t ∧ if t = true then P.ev g ρ fun u => ∃ t, dCmp c3 z u = some t ∧ R (.bool t) else R (.bool false) else R (.bool false) := by
    funext x
    refine congrArg (P.ev b ρ) (funext fun y => ?_)
    rw [lf]
    refine congrArg Exists (funext fun t => ?_)
    cases t with
    | false => rfl
    | true =>
      refine congrArg (And _) ?_
      show P.ev d ρ (fun z => wM.bind (wM.lift (dCmp c2 y z)) (fun t => if t = true then wM.bind (PV.ev wM P.C P.F P.G g ρ) (fun u => wM.lift ((dCmp c3 z u).map .bool)) else wM.pure (.bool false)) R) = P.ev d ρ _
      refine congrArg (P.ev d ρ) (funext fun z => ?_)
      rw [lf]
      refine congrArg Exists (funext fun t => ?_)
      cases t with
      | false => rfl
      | true =>
        refine congrArg (And _) ?_
        show P.ev g ρ (fun u => wM.lift ((dCmp c3 z u).map PyData.bool) R) = P.ev g ρ _
        rw [l3]
  rw [e] at h
  exact h
theorem chain3_q {c1 c2 c3 : Cm} {σ : L2.St} {H H0 : Hp} {O0 O : List Addr} {Q : VK} {ρ : Env} {R : D → Prop} {g : E} (S : Sim X.fw P.w P.iw O0 H0 O H σ ρ) (es : NoOw (esc true a ++ (esc true b ++ (esc true d ++ esc true g))) ρ) (ev : P.ev (.chain3 c1 c2 c3 a b d g) ρ R)
    (q : ∀ t H', R (.bool t) → Ext P.w H H' → Q (.bl t) H') : tChain3 (rC2 X.fw (dCmp c1)) (rC2 X.fw (dCmp c2)) (rC2 X.fw (dCmp c3)) (tB P X.fw a) (tB P X.fw b) (tB P X.fw d) (tB P X.fw g) σ H Q := by
  refine ⟨O0, H0, O, ρ, _, S, noOw_l es, ev_chain3 ev, fun d1 v1 H1 hd e1 b1 _ => ⟨O0, H0, O, ρ, _, S.ext e1, noOw_l (noOw_r es), hd, fun d2 v2 H2 hd e2 b2 _ => ?_⟩⟩
  obtain ⟨t, ht, hR⟩ := hd
  refine ⟨O, d1, d2, t, b1.ext e2 S.wo e1.2, b2, ht, t, rfl, ?_⟩
  cases t with
  | false => exact q false H2 hR (e1.trans e2)
  | true =>
    refine ⟨O0, H0, O, ρ, _, (S.ext e1).ext e2, noOw_l (noOw_r (noOw_r es)), hR, fun d3 v3 H3 hd e3 b3 _ => ?_⟩
    obtain ⟨t, ht, hR⟩ := hd
    refine ⟨O, d2, d3, t, b2.ext e3 S.wo e2.2, b3, ht, t, rfl, ?_⟩
    cases t with
    | false => exact q false H3 hR ((e1.trans e2).trans e3)
    | true =>
      refine ⟨O0, H0, O, ρ, _, ((S.ext e1).ext e2).ext e3, noOw_r (noOw_r (noOw_r es)), hR, fun d4 v4 H4 hd e4 b4 _ => ?_⟩
      obtain ⟨t, ht, hR⟩ := hd
      exact ⟨O, d3, d4, t, b3.ext e4 S.wo e3.2, b4, ht, q t H4 hR (((e1.trans e2).trans e3).trans e4)⟩
theorem lastM3 {o o' o2 : CmpOp} {u : Expr} (h : notSet u = true) : lastMarks [o, o', o2] [y, z, u] = false := by
  show behindInMarks o2 u = false
  exact nomk h
theorem snd_chain3 (hr : Room k X.A) {c1 c2 c3 : Cm} {g : E} {u : Expr} (ha : PE X x (tB P X.fw a)) (hb : PE X y (tB P X.fw b)) (hd : PE X z (tB P X.fw d)) (hg : PE X u (tB P X.fw g)) (hs : notSet u = true) : PE X (.Compare x [cmOp c1, cmOp c2, cmOp c3] [y, z, u] pos) (tE P X.fw (.chain3 c1 c2 c3 a b d g)) :=
  (pe_chain3 (op_cmp hr c1) (op_cmp hr c2) (op_cmp hr c3) ha hb hd hg (lastM3 hs)).imp fun σ H Q q => by
    obtain ⟨O0, H0, O, ρ, R, S, es, ev, q⟩ := q
    exact chain3_q S (by simpa [esc] using es) ev fun t H' hR e => q _ _ H' hR e ⟨.bl t, fun _ z => by cases z⟩
theorem sndT_chain3 (hr : Room k X.A) {c1 c2 c3 : Cm} {g : E} {u : Expr} (ha : PE X x (tB P X.fw a)) (hb : PE X y (tB P X.fw b)) (hd : PE X z (tB P X.fw d)) (hg : PE X u (tB P X.fw g)) (hs : notSet u = true) : PT X (.Compare x [cmOp c1, cmOp c2, cmOp c3] [y, z, u] pos) (tT P X.fw (.chain3 c1 c2 c3 a b d g)) :=
  (pt_chain3 (op_cmp hr c1) (op_cmp hr c2) (op_cmp hr c3) ha hb hd hg (lastM3 hs)).imp fun σ H Q q => by
    obtain ⟨O0, H0, O, ρ, R, S, es, ev, q⟩ := q
    refine chain3_q S (by simpa [esc] using es) ev fun t H' hR e => ?_
    obtain ⟨b, hb, q⟩ := q _ H' hR e
    cases hb
    exact ⟨_, rfl, q⟩
/-! several -/
theorem snd_nil : PA X [] (tEs P X.fw .nil) := pa_nil.imp fun σ H Q q => by
  obtain ⟨O0, H0, O, ρ, R, S, es, ev, q⟩ := q
  have ev : R [] := by unfold Pm.evs PV.evs at ev; exact ev
  exact q [] [] H ev (Ext.refl S.wok) .nil rfl
theorem snd_cons {xs : List Expr} {cs : Es} (hn : notStar x = true) (ha : PE X x (tE P X.fw a)) (hb : PA X xs (tEs P X.fw cs)) : PA X (x :: xs) (tEs P X.fw (.cons a cs)) :=
  (pa_cons ha hb (star_cons hn)).imp fun σ H Q q => by
    obtain ⟨O0, H0, O, ρ, R, S, es, ev, q⟩ := q
    have es : NoOw (esc false a ++ escs cs) ρ := by simpa [escs] using es
    have ev : P.ev a ρ fun d => P.evs cs ρ fun ds => R (d :: ds) := by unfold Pm.evs PV.evs at ev; exact ev
    refine ⟨O0, H0, O, ρ, _, S, noOw_l es, ev, fun d v H1 hd e1 r => ⟨O0, H0, O, ρ, _, S.ext e1, noOw_r es, hd, fun ds vs H2 hd e2 rs hl => ?_⟩⟩
    exact q _ _ H2 hd (e1.trans e2) (.cons (r.1.mono (e2.hid S.wo)) rs) (by simp [Es.len, hl])
theorem snd_tup {xs : List Expr} {cs : Es} {j : Nat} (h : PA X xs (tEs P X.fw cs)) (hl : cs.len ≤ 1000) : PE X (.Tuple xs j pos) (tE P X.fw (.tup cs)) :=
  (pe_tup h).imp fun σ H Q q => by
    obtain ⟨O0, H0, O, ρ, R, S, es, ev, q⟩ := q
    have ev : P.evs cs ρ fun ds => R (.tuple ds) := by unfold Pm.ev PV.ev at ev; exact ev
    refine ⟨O0, H0, O, ρ, _, S, by simpa [esc] using es, ev, fun ds vs H1 hd e1 rs hv => ⟨by rw [hv, sizeLine_eq]; omega, fun p hp => ?_⟩⟩
    have S1 := S.ext e1
    refine q _ _ _ hd (e1.trans (Ext.new S1.wok hp)) ⟨?_, fun z => by cases z⟩
    exact .tup (.inl (.inl (hid_in (fun hm => S1.dom p hm hp) (by simp [upd])))) (rs.mono (hid_le_mono (Le.new hp)))
theorem snd_lst {xs : List Expr} {cs : Es} (h : PA X xs (tEs P X.fw cs)) (hl : cs.len ≤ 1000) : PE X (.List xs pos) (tE P X.fw (.lst cs)) :=
  (pe_lst h).imp fun σ H Q q => by
    obtain ⟨O0, H0, O, ρ, R, S, es, ev, q⟩ := q
    have ev : P.evs cs ρ fun ds => R (.list ds) := by unfold Pm.ev PV.ev at ev; exact ev
    refine ⟨O0, H0, O, ρ, _, S, by simpa [esc] using es, ev, fun ds vs H1 hd e1 rs hv => ⟨by rw [hv, sizeLine_eq]; omega, fun p hp => ?_⟩⟩
    have S1 := S.ext e1
    refine q _ _ _ hd (e1.trans (Ext.new S1.wok hp)) ⟨?_, fun _ _ => ?_⟩
    · exact .lst (hid_in (fun hm => S1.dom p hm hp) (by simp [upd])) (rs.mono (hid_le_mono (Le.new hp)))
    · exact FrP.back (H1 := H1) ⟨p, _, rfl, hp, upd_same, .lst (rs.mono (hid_cons_new hp))⟩ e1
/-! slices -/
def tO (P : Pm) (K : Fw) (c : E) : TO := fun σ H Q => ∃ O0 H0 O ρ R, Sim K P.w P.iw O0 H0 O H σ ρ ∧ NoOw (esc true c) ρ ∧ P.ev c ρ R ∧ ∀ d H', R d → Ext P.w H H' → ∃ o, bound? c d = some o ∧ Q o H'
theorem po_imp {e : Option Expr} {t t' : TO} (h : PO X e t') (k : ∀ σ H Q, t σ H Q → t' σ H Q) : PO X e t := ⟨fun pins s σ H Q I q => h.run pins s σ H Q I (k σ H Q q)⟩
theorem po_no : PO X none (tO P X.fw .none) := po_imp po_none fun σ H Q q => by
  obtain ⟨O0, H0, O, ρ, R, S, es, ev, q⟩ := q
  have ev : R .none := by unfold Pm.ev PV.ev at ev; exact ev
  obtain ⟨o, ho, q⟩ := q _ H ev (Ext.refl S.wok)
  cases ho
  exact q
theorem po_yes (h : PE X x (tB P X.fw a)) (hn : ∀ d o, bound? a d = some o → ∃ i, d = .int i ∧ o = some i) : PO X (some x) (tO P X.fw a) := po_imp (po_some h) fun σ H Q q => by
  obtain ⟨O0, H0, O, ρ, R, S, es, ev, q⟩ := q
  refine ⟨O0, H0, O, ρ, R, S, es, ev, fun d v H' hd e ba _ => ?_⟩
  obtain ⟨o, ho, q⟩ := q _ H' hd e
  obtain ⟨i, rfl, rfl⟩ := hn d o ho
  exact ⟨i, ba.int, q⟩
theorem bnd_int {c : E} (hc : (match c with | .none => false | _ => true) = true) {d : D} {o : Option Int} (h : bound? c d = some o) : ∃ i, d = .int i ∧ o = some i := by
  cases c with
  | none => cases hc
  | _ => cases d <;> simp [bound?] at h <;> exact ⟨_, rfl, h.symm⟩
theorem snd_sl {lo hi : E} {l h' : Option Expr} {p2 : Pos} (ha : PE X x (tB P X.fw a)) (hl : PO X l (tO P X.fw lo)) (hh : PO X h' (tO P X.fw hi)) : PE X (.Subscript x (.Slice l h' none p2) pos) (tE P X.fw (.sl a lo hi)) :=
  (pe_slice op_sl ha hl hh).imp fun σ H Q q => by
    obtain ⟨O0, H0, O, ρ, R, S, es, ev, q⟩ := q
    have es : NoOw (esc true a ++ (esc true lo ++ esc true hi)) ρ := by simpa [esc] using es
    have ev : P.ev a ρ fun x => P.ev lo ρ fun y => wM.bind (wM.lift (bound? lo y)) (fun l => wM.bind (PV.ev wM P.C P.F P.G hi ρ) fun z => wM.bind (wM.lift (bound? hi z)) fun h => wM.lift (dSl x l h)) R := by unfold Pm.ev PV.ev at ev; exact ev
    refine ⟨O0, H0, O, ρ, _, S, noOw_l es, ev, fun d1 v1 H1 hd e1 b1 _ => ⟨O0, H0, O, ρ, _, S.ext e1, noOw_l (noOw_r es), hd, fun d2 H2 hd e2 => ?_⟩⟩
    obtain ⟨l, hl, hd⟩ := wbind hd
    refine ⟨l, hl, O0, H0, O, ρ, _, (S.ext e1).ext e2, noOw_r (noOw_r es), hd, fun d3 H3 hd e3 => ?_⟩
    obtain ⟨h, hh, hd⟩ := wbind hd
    obtain ⟨w, hw, hR⟩ := wlift hd
    have S3 := ((S.ext e1).ext e2).ext e3
    refine ⟨h, hh, O, d1, w, S3.dom, b1.ext (e2.trans e3) S.wo e1.2, hw, fun v H4 le rp fr => q w v H4 hR (((e1.trans e2).trans e3).trans (Ext.of_le S3.wok le)) ⟨rp, fun _ z2 => ?_⟩⟩
    exact (fr rfl z2).back ((e1.trans e2).trans e3)
theorem snd_rev {k : Nat} {p1 p2 p3 : Pos} (ha : PE X x (tB P X.fw a)) : PE X (.Subscript x (.Slice none none (some (.UnaryOp .USub (.Constant (.int 1) k p1) p2)) p3) pos) (tE P X.fw (.rev a)) :=
  (pe_rv ha).imp fun σ H Q q => by
    obtain ⟨O0, H0, O, ρ, R, S, es, ev, q⟩ := q
    have es : NoOw (esc true a) ρ := by simpa [esc] using es
    have ev : P.ev a ρ fun x => wM.lift (dRev x) R := by unfold Pm.ev PV.ev at ev; exact ev
    refine ⟨O0, H0, O, ρ, _, S, es, ev, fun d1 v1 H1 hd e1 b1 _ => ?_⟩
    obtain ⟨w, hw, hR⟩ := wlift hd
    have S1 := S.ext e1
    refine ⟨O, d1, w, S1.dom, b1, hw, fun v H4 le rp fr => q w v H4 hR (e1.trans (Ext.of_le S1.wok le)) ⟨rp, fun _ z2 => ?_⟩⟩
    exact (fr rfl z2).back e1
/-! calls -/
theorem snd_call (g : Gd P ct X k) {xs : List Expr} {cs : Es} {f n : Nat} {nm : Str} {p : Pos} (hf : ct.fs.contains (f, nm, n, false) = true) (hg : isGl ct nm = true) (hd : notDbg nm = true) (hs : notStar x = true) (hp : (backTo pos (starEach xs X.env)).any (·.1) = false)
    (h : PA X (x :: xs) (tEs P X.fw cs)) (hn : cs.len = n) : PE X (.Call (.Name nm p) (x :: xs) [] pos) (tE P X.fw (.call f cs)) := by
  obtain ⟨a, fd, ps, hm, hk, hb, F⟩ := g.fns f nm n false (by simpa using hf)
  rw [if_neg (by simp)] at F
  refine (pe_call (dvs := []) (E := E0) F g.room (g.gl hg) hm hk hb .nil pass0 h (dbg hd).1 (star_cons hs) hp).imp fun σ H Q q => ?_
  obtain ⟨O0, H0, O, ρ, R, S, es, ev, q⟩ := q
  have ev : P.evs cs ρ fun ds => P.F f ds R := by unfold Pm.ev PV.ev at ev; exact ev
  refine ⟨O0, H0, O, ρ, _, S, by simpa [esc] using es, ev, fun ds vs H1 hd e1 rs hv => ?_⟩
  have S1 := S.ext e1
  show spF n (P.F f) X.fw (vs ++ []) H1 Q E0
  rw [List.append_nil]
  exact ⟨by rw [hv, hn], O, ds, R, S1.dom, rs, hd, fun d v H' hR le r => q d v H' hR (e1.trans (Ext.of_le S1.wok le)) ⟨r, fun z => by cases z⟩⟩
theorem snd_callw (g : Gd P ct X k) {xs : List Expr} {cs : Es} {f n : Nat} {nm zn : Str} {p pz : Pos} (hf : ct.fs.contains (f, nm, n, true) = true) (hg : isGl ct nm = true) (hd : notDbg nm = true) (hp : (backTo pos (starEach xs X.env)).any (·.1) = false)
    (hz : (ct.N[ct.iw]? == some zn && (isVis ct.sc zn && notDbg zn)) = true) (h : PA X xs (tEs P X.fw cs)) (hn : cs.len + 1 = n) : PE X (.Call (.Name nm p) (.Name zn pz :: xs) [] pos) (tE P X.fw (.callw f cs)) := by
  obtain ⟨a, fd, ps, hm, hk, hb, F⟩ := g.fns f nm n true (by simpa using hf)
  rw [if_pos rfl] at F
  refine (pe_call (dvs := []) (E := E0) F g.room (g.gl hg) hm hk hb .nil pass0 (pa_cons (pe_nm g hz) h) (dbg hd).1 rfl hp).imp fun σ H Q q => ?_
  obtain ⟨O0, H0, O, ρ, R, S, es, ev, q⟩ := q
  have ev : P.evs cs ρ fun ds => P.G f ds R := by unfold Pm.ev PV.ev at ev; exact ev
  obtain ⟨t, ht⟩ := Option.isSome_iff_exists.mp (g.hws f nm n (by simpa using hf))
  refine ⟨.ref t.1, by rw [g.hiw]; exact (S.wS t ht).1, O0, H0, O, ρ, _, S, by simpa [esc] using es, ev, fun ds vs H1 hd e1 rs hv => ?_⟩
  have S1 := S.ext e1
  show spG n (P.G f) X.fw ((V.ref t.1 :: vs) ++ []) H1 Q E0
  rw [List.append_nil]
  refine ⟨by rw [List.length_cons, hv, hn], t, O, ds, R, vs, rfl, ?_, S1.wo t.1 ⟨t, ht, rfl⟩, S1.dom, rs, hd, fun d v H' hR e r => q d v H' hR (e1.trans ?_) ⟨r, fun z => by cases z⟩⟩
  · rw [← ht]; exact S1.wok
  · rw [ht]; exact e
end
end PV

set_option maxHeartbeats 4000000
/-! PV: built-in functions, what a loop walks, targets. -/
namespace PV
open PySem L2 RZ

section
variable {P : Pm} {ct : Ct} {X : Cx} {k : Nat} {a b c d : E} {x y z u : Expr} {pos : Pos}
/-! one argument -/
theorem bi_q {bb : Bi} {σ : L2.St} {H : Hp} {Q : VK} (q : tE P X.fw (.bi bb a) σ H Q) : tCB (rD1 X.fw bb) (tCons (tB P X.fw a) tNil) σ H Q := by
  obtain ⟨O0, H0, O, ρ, R, S, es, ev, q⟩ := q
  have ev : P.ev a ρ fun x => wM.lift (dBi bb x) R := by unfold Pm.ev PV.ev at ev; exact ev
  refine ⟨O0, H0, O, ρ, _, S, by simpa [esc] using es, ev, fun d v H1 hd e1 ba _ => ?_⟩
  obtain ⟨w, hw, hR⟩ := wlift hd
  have S1 := S.ext e1
  refine ⟨O, v, d, w, rfl, S1.dom, ba, hw, fun v' H2 le rp fr => q w v' H2 hR (e1.trans (Ext.of_le S1.wok le)) ⟨rp, fun z1 z2 => ?_⟩⟩
  exact (fr (by cases bb <;> first | rfl | (simp [E.fresh] at z1)) z2).back e1
theorem bi_f {bb : Bi} {nm : Str} {p : Pos} {id : String} (g : Gd P ct X k) (hc : CallR X (.builtin id) (rD1 X.fw bb)) (hg : isGl ct nm = true) (hm : nm ∈ bltN) (hv : bootBuiltins nm = some (.builtin id)) (hn : nm ≠ "__name__") (hdb : (nm == ("__debug__" : Str)) = false)
    (ha : PE X x (tB P X.fw a)) (hs : notStar x = true) : PE X (.Call (.Name nm p) [x] [] pos) (tE P X.fw (.bi bb a)) :=
  (pe_callB hc (g.gl hg) (g.blt nm hm) hv (pa_cons ha pa_nil (star_cons hs)) hn hdb (star_cons hs) rfl).imp fun σ H Q q => bi_q q
theorem bi_t {bb : Bi} {nm : Str} {p : Pos} {id : String} (g : Gd P ct X k) (hc : CallR X (.type id) (rD1 X.fw bb)) (hg : isGl ct nm = true) (hm : nm ∈ bltN) (hv : bootBuiltins nm = some (.type id)) (hn : nm ≠ "__name__") (hdb : (nm == ("__debug__" : Str)) = false)
    (ha : PE X x (tB P X.fw a)) (hs : notStar x = true) : PE X (.Call (.Name nm p) [x] [] pos) (tE P X.fw (.bi bb a)) :=
  (pe_callTy hc (g.gl hg) (g.blt nm hm) hv (pa_cons ha pa_nil (star_cons hs)) hn hdb (star_cons hs) rfl).imp fun σ H Q q => bi_q q
theorem snd_bi (g : Gd P ct X k) {bb : Bi} {nm : Str} {p : Pos} (hb : biOk bb = true) (hx : (nm == biN bb) = true) (hg : isGl ct nm = true) (hs : notStar x = true) (ha : PE X x (tB P X.fw a)) : PE X (.Call (.Name nm p) [x] [] pos) (tE P X.fw (.bi bb a)) := by
  obtain rfl : nm = biN bb := beq_iff_eq.mp hx
  cases bb with
  | len => exact bi_f g bi_len hg (by decide) rfl (by decide) (by decide) ha hs
  | abs => exact bi_f g bi_abs hg (by decide) rfl (by decide) (by decide) ha hs
  | sum => exact bi_f g (bi_sum g.calm) hg (by decide) rfl (by decide) (by decide) ha hs
  | any => exact bi_f g (bi_any g.calm) hg (by decide) rfl (by decide) (by decide) ha hs
  | all => exact bi_f g (bi_all g.calm) hg (by decide) rfl (by decide) (by decide) ha hs
  | tuple => exact bi_t g bi_tuple hg (by decide) rfl (by decide) (by decide) ha hs
  | list => exact bi_t g (bi_list g.calm) hg (by decide) rfl (by decide) (by decide) ha hs
  | sorted => exact bi_f g (bi_sorted g.room) hg (by decide) rfl (by decide) (by decide) ha hs
  | min => exact bi_f g (bi_min g.room g.calm) hg (by decide) rfl (by decide) (by decide) ha hs
  | max => exact bi_f g (bi_max g.room g.calm) hg (by decide) rfl (by decide) (by decide) ha hs
  | int => exact bi_t g bi_int hg (by decide) rfl (by decide) (by decide) ha hs
  | str => cases hb
  | dict => exact bi_t g (bi_dict g.room g.calm) hg (by decide) rfl (by decide) (by decide) ha hs
  | sset => cases hb
  | lset => cases hb
/-! two arguments -/
theorem pa_two (ha : PE X x (tB P X.fw a)) (hb : PE X y (tB P X.fw b)) (hs : notStar x = true) (hs2 : notStar y = true) : PA X [x, y] (tCons (tB P X.fw a) (tCons (tB P X.fw b) tNil)) :=
  pa_cons ha (pa_cons hb pa_nil (star_cons hs2)) (star_cons hs)
theorem plain1 {env : PySem.Env} (hs : notStar y = true) : (backTo pos (starEach [y] env)).any (·.1) = false := by
  rw [star_cons hs]
  rfl
theorem mm_q {gg : D → D → Option D} {cc : E} (hf : cc.fresh = false) (he : esc false cc = esc true a ++ esc true b) (hv : ∀ ρ R, P.ev cc ρ R → P.ev a ρ fun u => P.ev b ρ fun v => wM.lift (gg u v) R) {σ : L2.St} {H : Hp} {Q : VK} (q : tE P X.fw cc σ H Q) :
    tCB (rM2 X.fw gg) (tCons (tB P X.fw a) (tCons (tB P X.fw b) tNil)) σ H Q := by
  obtain ⟨O0, H0, O, ρ, R, S, es, ev, q⟩ := q
  rw [he] at es
  refine ⟨O0, H0, O, ρ, _, S, noOw_l es, hv ρ R ev, fun d u H1 hd e1 ba _ => ⟨O0, H0, O, ρ, _, S.ext e1, noOw_r es, hd, fun d' u' H2 hd' e2 bb _ => ?_⟩⟩
  obtain ⟨w, hw, hR⟩ := wlift hd'
  have S2 := (S.ext e1).ext e2
  exact ⟨O, u, u', d, d', w, rfl, ba.ext e2 S.wo e1.2, bb, hw, fun v H3 le rp fr => q w v H3 hR ((e1.trans e2).trans (Ext.of_le S2.wok le)) ⟨rp, fun z1 => by rw [hf] at z1; cases z1⟩⟩
theorem snd_mx (g : Gd P ct X k) {p : Pos} (hg : isGl ct "max" = true) (hs : notStar x = true) (hs2 : notStar y = true) (ha : PE X x (tB P X.fw a)) (hb : PE X y (tB P X.fw b)) : PE X (.Call (.Name "max" p) [x, y] [] pos) (tE P X.fw (.mx a b)) :=
  (pe_callB (bi_mx g.calm) (g.gl hg) (g.blt _ (by decide)) rfl (pa_two ha hb hs hs2) (by decide) (by decide) (star_cons hs) (plain1 hs2)).imp fun σ H Q q =>
    mm_q (cc := .mx a b) rfl (by simp [esc]) (fun ρ R h => by unfold Pm.ev PV.ev at h; exact h) q
theorem snd_mn (g : Gd P ct X k) {p : Pos} (hg : isGl ct "min" = true) (hs : notStar x = true) (hs2 : notStar y = true) (ha : PE X x (tB P X.fw a)) (hb : PE X y (tB P X.fw b)) : PE X (.Call (.Name "min" p) [x, y] [] pos) (tE P X.fw (.mn a b)) :=
  (pe_callB (bi_mn g.calm) (g.gl hg) (g.blt _ (by decide)) rfl (pa_two ha hb hs hs2) (by decide) (by decide) (star_cons hs) (plain1 hs2)).imp fun σ H Q q =>
    mm_q (cc := .mn a b) rfl (by simp [esc]) (fun ρ R h => by unfold Pm.ev PV.ev at h; exact h) q
theorem pe_tyn {nm : Str} {T : String} (hg : Gl X nm) (hm : X.mg nm = none) (hv : bootBuiltins nm = some (.type T)) (hn : nm ≠ "__name__") (hd : (nm == ("__debug__" : Str)) = false) : PE X (.Name nm pos) (tC (.ty T)) :=
  ⟨fun pins s σ H Q I h => ld_blt I hg hm hv ⟨.ty T, H, I, rfl, h⟩ hn hd⟩
theorem ty_facts (t : Ty) : Str.ofString (tyN t) ∈ bltN ∧ bootBuiltins (Str.ofString (tyN t)) = some (.type (tyN t)) ∧ Str.ofString (tyN t) ≠ "__name__" ∧ (Str.ofString (tyN t) == ("__debug__" : Str)) = false := by
  cases t <;> exact ⟨by decide, rfl, by decide, by decide⟩
theorem snd_isin (g : Gd P ct X k) {t : Ty} {p p2 : Pos} {n : Str} (hg : isGl ct "isinstance" = true) (hn : (n == Str.ofString (tyN t)) = true) (hg2 : isGl ct n = true) (hs : notStar x = true) (ha : PE X x (tB P X.fw a)) : PE X (.Call (.Name "isinstance" p) [x, .Name n p2] [] pos) (tE P X.fw (.isin a t)) := by
  obtain rfl : n = Str.ofString (tyN t) := beq_iff_eq.mp hn
  obtain ⟨f1, f2, f3, f4⟩ := ty_facts t
  refine (pe_callB (bi_isin t) (g.gl hg) (g.blt _ (by decide)) rfl (pa_cons ha (pa_cons (pe_tyn (g.gl hg2) (g.blt _ f1) f2 f3 f4) pa_nil) (star_cons hs)) (by decide) (by decide) (star_cons hs) rfl).imp fun σ H Q q => ?_
  obtain ⟨O0, H0, O, ρ, R, S, es, ev, q⟩ := q
  have ev : P.ev a ρ fun x => R (.bool (dIs x t)) := by unfold Pm.ev PV.ev at ev; exact ev
  exact ⟨O0, H0, O, ρ, _, S, by simpa [esc] using es, ev, fun d v H1 hd e1 ba _ => ⟨O, v, d, rfl, ba, q _ _ H1 hd e1 ⟨.bl _, fun _ z => by cases z⟩⟩⟩

/-! ranges -/
theorem rps_rng (K : Fw) (H : Hp) (i j : Int) : Rps K H (rgV i j) (rng i j) := by
  unfold rgV rng
  generalize List.range (j - i).toNat = l
  induction l with
  | nil => exact .nil
  | cons n l ih => exact .cons (.int _) ih
theorem okR_of {i j : Int} (h : okR i j = true) : RgOk i j := by
  unfold okR at h
  have h := of_decide_eq_true h
  unfold RgOk
  have e : LINE = 2 ^ 24 := by decide
  omega
theorem snd_bis_t {s : Src} {te : L2.St → Hp → (Int → Int → Hp → Prop) → Prop} {p : Pos} (g : Gd P ct X k) (hg : isGl ct "tuple" = true) (hs : notStar x = true) (he : PRg X x te)
    (hq : ∀ σ H O0 H0 O ρ S', Sim X.fw P.w P.iw O0 H0 O H σ ρ → NoOw (escS s) ρ → P.evS s ρ S' → ∀ Q : Int → Int → Hp → Prop, (∀ i j H', S' (rng i j) → okR i j = true → Ext P.w H H' → Q i j H') → te σ H Q) :
    PE X (.Call (.Name "tuple" p) [x] [] pos) (tE P X.fw (.bis .tuple s)) :=
  (pe_tupRg g.calm (g.gl hg) (g.blt _ (by decide)) he (star_cons hs)).imp fun σ H Q q => by
    obtain ⟨O0, H0, O, ρ, R, S, es, ev, q⟩ := q
    have ev : P.evS s ρ fun xs => R (.tuple xs) := by unfold Pm.ev PV.ev at ev; exact ev
    refine hq σ H O0 H0 O ρ _ S (by simpa [esc] using es) ev _ fun i j H' hR hk e => ⟨okR_of hk, fun p hp => ?_⟩
    have S1 := S.ext e
    refine q _ _ _ hR (e.trans (Ext.new S1.wok hp)) ⟨?_, fun z => by cases z⟩
    exact .tup (.inl (.inl (hid_in (fun hm => S1.dom p hm hp) (by simp [upd])))) (rps_rng _ _ i j)
theorem snd_bis_l {s : Src} {te : L2.St → Hp → (Int → Int → Hp → Prop) → Prop} {p : Pos} (g : Gd P ct X k) (hg : isGl ct "list" = true) (hs : notStar x = true) (he : PRg X x te)
    (hq : ∀ σ H O0 H0 O ρ S', Sim X.fw P.w P.iw O0 H0 O H σ ρ → NoOw (escS s) ρ → P.evS s ρ S' → ∀ Q : Int → Int → Hp → Prop, (∀ i j H', S' (rng i j) → okR i j = true → Ext P.w H H' → Q i j H') → te σ H Q) :
    PE X (.Call (.Name "list" p) [x] [] pos) (tE P X.fw (.bis .list s)) :=
  (pe_listRg g.calm (g.gl hg) (g.blt _ (by decide)) he (star_cons hs)).imp fun σ H Q q => by
    obtain ⟨O0, H0, O, ρ, R, S, es, ev, q⟩ := q
    have ev : P.evS s ρ fun xs => R (.list xs) := by unfold Pm.ev PV.ev at ev; exact ev
    refine hq σ H O0 H0 O ρ _ S (by simpa [esc] using es) ev _ fun i j H' hR hk e => ⟨okR_of hk, fun p hp => ?_⟩
    have S1 := S.ext e
    refine q _ _ _ hR (e.trans (Ext.new S1.wok hp)) ⟨?_, fun _ _ => ?_⟩
    · exact .lst (hid_in (fun hm => S1.dom p hm hp) (by simp [upd])) (rps_rng _ _ i j)
    · exact FrP.back (H1 := H') ⟨p, _, rfl, hp, upd_same, .lst (rps_rng _ _ i j)⟩ e
theorem wite {α : Type} {b : Bool} {o : W α} {R : α → Prop} (h : (if b = true then o else wM.fail) R) : b = true ∧ o R := by
  cases b with
  | true => exact ⟨rfl, h⟩
  | false => exact False.elim h
theorem rg1_q {σ : L2.St} {H : Hp} {O0 : List Addr} {H0 : Hp} {O : List Addr} {ρ : Env} {S' : List D → Prop} (S : Sim X.fw P.w P.iw O0 H0 O H σ ρ) (es : NoOw (escS (.r1 a)) ρ) (ev : P.evS (.r1 a) ρ S') (Q : Int → Int → Hp → Prop)
    (q : ∀ i j H', S' (rng i j) → okR i j = true → Ext P.w H H' → Q i j H') : tRg1 (tB P X.fw a) σ H Q := by
  have ev : P.ev a ρ fun x => wM.bind (wM.lift (int? x)) (fun i => if okR 0 i then wM.pure (rng 0 i) else wM.fail) S' := by unfold Pm.evS PV.evS at ev; exact ev
  refine ⟨O0, H0, O, ρ, _, S, by simpa [escS] using es, ev, fun d v H1 hd e1 ba _ => ?_⟩
  obtain ⟨i, hi, hd⟩ := wbind hd
  obtain ⟨hk, hd⟩ := wite hd
  rw [int_some hi] at ba
  exact ⟨i, ba.int, q 0 i H1 hd hk e1⟩
theorem rg2_q {σ : L2.St} {H : Hp} {O0 : List Addr} {H0 : Hp} {O : List Addr} {ρ : Env} {S' : List D → Prop} (S : Sim X.fw P.w P.iw O0 H0 O H σ ρ) (es : NoOw (escS (.r2 a b)) ρ) (ev : P.evS (.r2 a b) ρ S') (Q : Int → Int → Hp → Prop)
    (q : ∀ i j H', S' (rng i j) → okR i j = true → Ext P.w H H' → Q i j H') : tRg2 (tB P X.fw a) (tB P X.fw b) σ H Q := by
  have ev : P.ev a ρ fun x => wM.bind (wM.lift (int? x)) (fun i => wM.bind (PV.ev wM P.C P.F P.G b ρ) fun y => wM.bind (wM.lift (int? y)) fun j => if okR i j then wM.pure (rng i j) else wM.fail) S' := by unfold Pm.evS PV.evS at ev; exact ev
  have es : NoOw (esc true a ++ esc true b) ρ := by simpa [escS] using es
  refine ⟨O0, H0, O, ρ, _, S, noOw_l es, ev, fun d v H1 hd e1 ba _ => ?_⟩
  obtain ⟨i, hi, hd⟩ := wbind hd
  rw [int_some hi] at ba
  refine ⟨O0, H0, O, ρ, _, S.ext e1, noOw_r es, hd, fun d2 v2 H2 hd e2 bb _ => ?_⟩
  obtain ⟨j, hj, hd⟩ := wbind hd
  obtain ⟨hk, hd⟩ := wite hd
  rw [int_some hj] at bb
  exact ⟨i, j, ba.int, bb.int, q i j H2 hd hk (e1.trans e2)⟩

/-! ### what a loop walks -/
/-- J walks ds where G holds -/
def Wk (K : Fw) (J : It) (ds : List D) (G : List Addr → Hp → Prop) : Prop := ∀ O' H', G O' H' → ∀ i : Nat, (∀ d, ds[i]? = some d → J.go i H' ∧ ∀ x H'', J.yld i H' x H'' → Le H' H'' ∧ Rp K (hid O' H'') x d) ∧ (ds.length ≤ i → J.stop i H')
/-- fz: the source is frozen; else it may be a list that a slot holds alone and that stays as it is -/
def Gk (fz : Bool) (σ : L2.St) (ρ : Env) (O : List Addr) (H1 : Hp) : List Addr → Hp → Prop := fun O' H' => Dm O' H' ∧ Le (hid O H1) (hid O' H') ∧ (fz = false → ∀ p, SlOw σ ρ p → H' p = H1 p)
def escW (fz : Bool) (s : Src) : List Nat := if fz = true then escF s else escS s
def tI (P : Pm) (K : Fw) (fz : Bool) (c : Src) : TI := fun σ H R => ∃ O0 H0 O ρ S', Sim K P.w P.iw O0 H0 O H σ ρ ∧ NoOw (escW fz c) ρ ∧ P.evS c ρ S' ∧ ∀ ds J H', S' ds → ds.length ≤ LINE → Ext P.w H H' → Wk K J ds (Gk fz σ ρ O H') → R J H'
theorem pi_imp {tg e : Expr} {t t' : TI} (h : PI X tg e t') (k : ∀ σ H R, t σ H R → t' σ H R) : PI X tg e t := ⟨fun pins s σ H R I q => h.run pins s σ H R I (k σ H R q)⟩
theorem rng_get {i j : Int} {n : Nat} {d : D} (h : (rng i j)[n]? = some d) : n < (j - i).toNat ∧ d = .int (i + n) := by
  unfold rng at h
  rw [List.getElem?_map] at h
  by_cases hn : n < (j - i).toNat
  · rw [List.getElem?_range hn] at h
    exact ⟨hn, (Option.some.inj h).symm⟩
  · rw [List.getElem?_eq_none (by simpa using hn)] at h
    cases h
theorem rngD_get {i j : Int} {n : Nat} {d : D} (h : (rngD i j)[n]? = some d) : n < (i - j).toNat ∧ d = .int (i - n) := by
  unfold rngD at h
  rw [List.getElem?_map] at h
  by_cases hn : n < (i - j).toNat
  · rw [List.getElem?_range hn] at h
    exact ⟨hn, (Option.some.inj h).symm⟩
  · rw [List.getElem?_eq_none (by simpa using hn)] at h
    cases h
theorem wk_rng (K : Fw) (i j : Int) (G : List Addr → Hp → Prop) : Wk K (Itr i (j - i).toNat) (rng i j) G := fun O' H' _ n => by
  refine ⟨fun d hd => ?_, fun h => ?_⟩
  · obtain ⟨h1, rfl⟩ := rng_get hd
    refine ⟨h1, fun x H'' hy => ?_⟩
    obtain ⟨rfl, rfl⟩ := hy
    exact ⟨Le.refl _, .int _⟩
  · show (j - i).toNat ≤ n
    rw [show (rng i j).length = (j - i).toNat by simp [rng]] at h
    exact h
theorem wk_rngD (K : Fw) (i j : Int) (G : List Addr → Hp → Prop) : Wk K (Itc i (-1) (i - j).toNat) (rngD i j) G := fun O' H' _ n => by
  refine ⟨fun d hd => ?_, fun h => ?_⟩
  · obtain ⟨h1, rfl⟩ := rngD_get hd
    refine ⟨h1, fun x H'' hy => ?_⟩
    obtain ⟨rfl, rfl⟩ := hy
    have e : i + (n : Nat) * (-1) = i - n := by omega
    rw [e]
    exact ⟨Le.refl _, .int _⟩
  · show (i - j).toNat ≤ n
    rw [show (rngD i j).length = (i - j).toNat by simp [rngD]] at h
    exact h
theorem rng_len {i j : Int} (h : okR i j = true) : (rng i j).length ≤ LINE := by
  unfold okR at h
  have h := of_decide_eq_true h
  simpa [rng] using h.2.2
theorem snd_r1 (g : Gd P ct X k) {fz : Bool} {tg : Expr} {p : Pos} (hg : isGl ct "range" = true) (hs : notStar x = true) (ha : PE X x (tB P X.fw a)) : PI X tg (.Call (.Name "range" p) [x] [] pos) (tI P X.fw fz (.r1 a)) :=
  pi_imp (pi_range1 (g.gl hg) (g.blt _ (by decide)) (pa_cons ha pa_nil (star_cons hs)) (by rw [star_cons hs]; rfl)) fun σ H R q => by
    obtain ⟨O0, H0, O, ρ, S', S, es, ev, q⟩ := q
    have ev : P.ev a ρ fun x => wM.bind (wM.lift (int? x)) (fun i => if okR 0 i then wM.pure (rng 0 i) else wM.fail) S' := by unfold Pm.evS PV.evS at ev; exact ev
    refine ⟨O0, H0, O, ρ, _, S, by cases fz <;> simpa [escW, escF, escS] using es, ev, fun d v H1 hd e1 ba _ => ?_⟩
    obtain ⟨j, hj, hd⟩ := wbind hd
    obtain ⟨hk, hd⟩ := wite hd
    rw [int_some hj] at ba
    obtain ⟨_, _, k1, k2, _⟩ := okR_of hk
    have w := wk_rng X.fw 0 j (Gk fz σ ρ O H1)
    rw [Int.sub_zero] at w
    exact ⟨j, by rw [ba.int], k1, k2, q _ _ H1 hd (rng_len hk) e1 w⟩
theorem snd_r2 (g : Gd P ct X k) {fz : Bool} {tg : Expr} {p : Pos} (hg : isGl ct "range" = true) (hs : notStar x = true) (hs2 : notStar y = true) (ha : PE X x (tB P X.fw a)) (hb : PE X y (tB P X.fw b)) : PI X tg (.Call (.Name "range" p) [x, y] [] pos) (tI P X.fw fz (.r2 a b)) :=
  pi_imp (pi_range2 (g.gl hg) (g.blt _ (by decide)) (pa_two ha hb hs hs2) (by rw [star_cons hs, star_cons hs2]; rfl) (by rw [star_cons hs2]; rfl)) fun σ H R q => by
    obtain ⟨O0, H0, O, ρ, S', S, es, ev, q⟩ := q
    have h := rg2_q (X := X) (Q := fun i j H' => (-(2 ^ 62) ≤ i ∧ i < 2 ^ 62 ∧ -(2 ^ 62) ≤ j ∧ j < 2 ^ 62) ∧ R (Itr i (j - i).toNat) H') S (by cases fz <;> simpa [escW, escF, escS] using es) ev fun i j H' hS hk e => by
      obtain ⟨k0, k01, k1, k2, _⟩ := okR_of hk
      exact ⟨⟨k0, k01, k1, k2⟩, q _ _ H' hS (rng_len hk) e (wk_rng X.fw i j _)⟩
    obtain ⟨O0, H0, O, ρ, R', S, es, ev, h⟩ := h
    refine ⟨O0, H0, O, ρ, R', S, es, ev, fun d v H' hd e ba lo => ?_⟩
    obtain ⟨O0, H0, O, ρ, R', S, es, ev, h⟩ := h d v H' hd e ba lo
    refine ⟨O0, H0, O, ρ, R', S, es, ev, fun d v H' hd e ba lo => ?_⟩
    obtain ⟨i, j, h1, h2, h3, h4⟩ := h d v H' hd e ba lo
    exact ⟨i, j, by rw [h1, h2], h3, h4⟩
theorem snd_r3 (g : Gd P ct X k) {fz : Bool} {tg : Expr} {p : Pos} (hg : isGl ct "range" = true) (hs : notStar x = true) (hs2 : notStar y = true) (hs3 : notStar z = true) (ha : PE X x (tB P X.fw a)) (hb : PE X y (tB P X.fw b)) (hc : PE X z (tB P X.fw c)) :
    PI X tg (.Call (.Name "range" p) [x, y, z] [] pos) (tI P X.fw fz (.r3 a b c)) :=
  pi_imp (pi_range3 (g.gl hg) (g.blt _ (by decide)) (pa_cons ha (pa_two hb hc hs2 hs3) (star_cons hs)) (star_cons hs) (by rw [star_cons hs2, star_cons hs3]; rfl)) fun σ H R q => by
    obtain ⟨O0, H0, O, ρ, S', S, es, ev, q⟩ := q
    have es : NoOw (esc true a ++ (esc true b ++ esc true c)) ρ := by cases fz <;> simpa [escW, escF, escS] using es
    have ev : P.ev a ρ fun x => wM.bind (wM.lift (int? x)) (fun i => wM.bind (PV.ev wM P.C P.F P.G b ρ) fun y => wM.bind (wM.lift (int? y)) fun j => wM.bind (PV.ev wM P.C P.F P.G c ρ) fun z => wM.bind (wM.lift (int? z)) fun k => if okR j i && k == -1 then wM.pure (rngD i j) else wM.fail) S' := by unfold Pm.evS PV.evS at ev; exact ev
    refine ⟨O0, H0, O, ρ, _, S, noOw_l es, ev, fun d v H1 hd e1 ba _ => ?_⟩
    obtain ⟨i, hi, hd⟩ := wbind hd
    rw [int_some hi] at ba
    refine ⟨O0, H0, O, ρ, _, S.ext e1, noOw_l (noOw_r es), hd, fun d2 v2 H2 hd e2 bb _ => ?_⟩
    obtain ⟨j, hj, hd⟩ := wbind hd
    rw [int_some hj] at bb
    refine ⟨O0, H0, O, ρ, _, (S.ext e1).ext e2, noOw_r (noOw_r es), hd, fun d3 v3 H3 hd e3 bc _ => ?_⟩
    obtain ⟨kk, hk, hd⟩ := wbind hd
    rw [int_some hk] at bc
    obtain ⟨ho, hd'⟩ := wite hd
    rw [Bool.and_eq_true, beq_iff_eq] at ho
    obtain ⟨ho, rfl⟩ := ho
    obtain ⟨k0, k01, k1, k2, k3⟩ := okR_of ho
    refine ⟨i, j, -1, (i - j).toNat, by rw [ba.int, bb.int, bc.int], RgC.neg k1 k2 k0 k01, q _ _ H3 hd' ?_ ((e1.trans e2).trans e3) (wk_rngD X.fw i j _)⟩
    simpa [rngD, LINE] using k3
/-! the keys of a dict -/
def Ity (d : Addr) (o : Obj) (kv : List V) : It :=
  ⟨fun i H => H d = some (dcO d o) ∧ i < kv.length, fun i H x H' => H' = H ∧ kv[i]? = some x, fun i H => H d = some (dcO d o) ∧ kv.length ≤ i⟩
theorem vals_at : ∀ {vs : List V} {us : List Value} {i : Nat} {v : V}, Vals vs us → vs[i]? = some v → ∃ u, us[i]? = some u ∧ RelV v u := fun r e => Vals.get r e
theorem turn_dk {P : Program} {w : World} {K : PySem.W.Frag} {tg : Expr} {d : Addr} {o : Obj} {kv : List V} {es : Array DictEntry} {ep : Nat} (it : Addr) (hod : o.data = .dict es ep) (hv : Vals kv (es.toList.map (·.key))) : Turn P w K tg (Ity d o kv) [it] it (fun i h => h.IsKeyIter it d i kv.length ep) where
  mem := by simp
  obj := fun i h st b hb => by
    have e : b = it := by simpa using hb
    subst e
    obtain ⟨oi, e, c, dd⟩ := st
    exact ⟨oi, e, fun v z => by rw [dd] at z; cases z⟩
  keep := fun i h h' st k => st.at fun oi e => k it (by simp) oi e
  item := by
    intro X hP hw hK hc i pins s σ H E I hf st hg
    subst hP hw hK
    obtain ⟨hd, hi⟩ := hg
    obtain ⟨f0, f1, f2, f3, f4, f5⟩ := hf it (by simp)
    have hgd : s.heap.get? d = some o := (I.hok d _ hd).1
    have hsz : es.size = kv.length := by rw [hv.length, List.length_map, Array.length_toList]
    obtain ⟨v, hkv⟩ : ∃ v, kv[i]? = some v := ⟨kv[i], List.getElem?_eq_getElem hi⟩
    obtain ⟨u, hu, ru⟩ := vals_at hv hkv
    rw [List.getElem?_map, Array.getElem?_toList] at hu
    cases hen : es[i]? with
    | none => rw [hen] at hu; cases hu
    | some en =>
      rw [hen] at hu
      have hkey : en.key = u := Option.some.inj hu
      refine next_key_item st hgd hod hsz hen fun h' st' sb => ?_
      have I1 : Inv X pins σ H { s with heap := h' } := I.turned (t' := s.toks) (fun b ob hb e => (sb.2 b hb).trans e) f0 f1 f3 f4 f5
      obtain ⟨oi, e, c, dd⟩ := id st'
      exact ⟨en.key, rfl, go_of (s := { s with heap := h' }) e c dd (by decide) ⟨v, H, I1, by rw [hkey]; exact ru, ⟨rfl, hkv⟩, st', fun b hb => (hf b hb).1⟩⟩
  done := by
    intro X hP hw hK hc i pins s σ H E I hf st hg
    subst hP hw hK
    obtain ⟨hd, hi⟩ := hg
    obtain ⟨f0, f1, f2, f3, f4, f5⟩ := hf it (by simp)
    have hgd : s.heap.get? d = some o := (I.hok d _ hd).1
    have hsz : es.size = kv.length := by rw [hv.length, List.length_map, Array.length_toList]
    exact next_key_end (I.ok.hd hc) st hgd hod hsz hi fun h' eb => ⟨rfl, I.turned (t' := s.toks) (fun b ob hb e => eb b ob hb e) f0 f1 f3 f4 f5⟩
  self := fun A i s Q E st h => by
    refine wpAny_pyIter_slot st.typeIs PySem.F.slot_dict_keyiterator_iter (wpAny_call_entry PySem.F.slot_dict_keyiterator_iter st.typeIs PySem.F.entry_dict_keyiterator_iter ?_ (PySem.F.args_dict_keyiterator_iter_1 _))
    show wpAny _ _ (ret (.ref it)) _ _ s
    exact wpAny_pure ⟨_, rfl, "dict_keyiterator", _, st.typeIs, PySem.F.slot_dict_keyiterator_next.lookup, h⟩
/-! a list or a tuple, or a dict -/
theorem pi_seq {tg l : Expr} {tl : TE} (hl : PE X l tl) : PI X tg l (fun σ H R => tl σ H fun v H1 => ∃ a xs, v = .ref a ∧ ((SqL X.fw H1 a xs ∧ (xs.length ≤ sizeLine → R (Itl X.fw a) H1)) ∨ (SqT X.fw H1 a xs ∧ (xs.length ≤ sizeLine → R (Itt X.fw a) H1)) ∨
    ∃ (o : Obj) (kvs : List (PV.D × PV.D)) (kv vv : List V) (Ho : Hp), H1 a = some (dcO a o) ∧ Le Ho H1 ∧ DOk X.w a o (kvs.map (·.1)) kv vv ∧ Rps X.fw Ho kv (kvs.map (·.1)) ∧ Rps X.fw Ho vv (kvs.map (·.2)) ∧ ∀ kv', Rps X.fw Ho kv' (kvs.map (·.1)) → kvs.length ≤ sizeLine → R (Ity a o kv') H1)) := by
  refine ⟨fun pins s σ H R I q => ?_⟩
  refine thn (hl.run pins s σ H _ I q) fun w s1 ⟨v, H1, I1, rv, a, xs, ev, q1⟩ => ?_
  subst ev
  cases rv
  have ap : ∀ b, b ∈ [s1.heap.objs.size] → FpOk X pins H1 b := fun b hb => by
    rw [List.mem_singleton.mp hb]
    exact I1.fpOk (Nat.le_refl _) (I1.hok.fresh (Nat.le_refl _))
  rcases q1 with ⟨hs, q1⟩ | ⟨hs, q1⟩ | ⟨o, kvs, kv, vv, Ho, ho, le, ok, r1, r2, q1⟩
  · obtain ⟨us, ru, pl, hz⟩ := I1.list hs
    exact wpAny_pyIter_list pl.isList ⟨_, [s1.heap.objs.size], _, _, H1, rfl, I1.kept (t' := s1.toks) (fun b o e => Heap.get?_push_of_some _ e), turn_list a _, ⟨_, Heap.get?_push_size _ rfl, rfl, rfl⟩, ap, q1 hz⟩
  · obtain ⟨us, ru, pl, hz⟩ := I1.tuple hs
    exact wpAny_pyIter_tuple (show s1.heap.IsTuple a us.toArray from pl) ⟨_, [s1.heap.objs.size], _, _, H1, rfl, I1.kept (t' := s1.toks) (fun b o e => Heap.get?_push_of_some _ e), turn_tuple a _, ⟨_, Heap.get?_push_size _ rfl, rfl, rfl⟩, ap, q1 hz⟩
  · have va := dvw I1 le ho ok r1 r2
    obtain ⟨es, ep, kv', hr, hsz, rv, rk⟩ := dict_keys va
    obtain ⟨o2, g1, g2, g3⟩ := hr
    have hgd : s1.heap.get? a = some o := (I1.hok a _ ho).1
    rw [hgd] at g1
    cases g1
    refine iter_keys va.low hgd g2 g3 (pi_one (tk := s1.toks) I1 _ (turn_dk _ g3 rv) ⟨_, Heap.get?_push_size _ rfl, rfl, ?_⟩ (q1 kv' rk va.len))
    have : es.size = kv'.length := by rw [rv.length, List.length_map, Array.length_toList]
    rw [this] <;> rfl
theorem wk_list {K : Fw} {aa : Addr} {vs : List V} {ds : List D} {O : List Addr} {H1 : Hp} {G : List Addr → Hp → Prop} (r : Rps K (hid O H1) vs ds) (hs : ∀ O' H', G O' H' → SqL K H' aa vs ∧ Le (hid O H1) (hid O' H')) : Wk K (Itl K aa) ds G := fun O' H' hG n => by
  obtain ⟨h1, h2⟩ := hs O' H' hG
  refine ⟨fun d hd => ?_, fun h => ⟨vs, h1, by rw [r.length]; exact h⟩⟩
  obtain ⟨v, hv, rv⟩ := r.getD hd
  refine ⟨⟨vs, v, h1, hv⟩, fun x H'' hy => ?_⟩
  obtain ⟨rfl, hy⟩ := hy
  have e := hy vs h1
  rw [hv] at e
  cases e
  exact ⟨Le.refl _, rv.mono h2⟩
end
end PV

set_option maxHeartbeats 4000000
/-! PV: sorted(set(xs)), len(set(xs)) of ints. -/
namespace PV
open PySem L2 RZ PyProof.Rows
theorem setR_count {w : World} {h : Heap} {a : Addr} {ns : List Int} {c : Nat} (R : SetR w h a (fun j => decide (j ∈ ns)) c) : c = (uniqS ns).length := by
  obtain ⟨o, es, ep, t, _, _, _, _, nd, hm, _, _, hn, _⟩ := R
  have pm : (es.toList.map keyOf).Perm (uniqS ns) := (List.perm_ext_iff_of_nodup nd (asc_nodup _ (uniq_asc ns))).mpr fun k => by
    rw [← hm k, mem_uniq]
    simp
  have := pm.length_eq
  rw [List.length_map, Array.length_toList] at this
  omega
section
variable {P : Pm} {ct : Ct} {X : Cx} {k : Nat} {a : E} {x : Expr}
/-- set(xs), then what is asked of the set -/
theorem set_go {pins : List (Addr × Obj)} {s : Shared} {σ : L2.St} {H : Hp} {v : Value} {x' : V} {d : D} {O : List Addr} {ds : List D} {ns : List Int} {Q : Value → Shared → Prop} {E : Value → Shared → Prop} (hc : X.calm = true) (I : Inv X pins σ H s) (r1 : RelV x' v) (hbr : Br X.fw O H x' d) (hi : items d = some ds) (hn : ints? ds = some ns) (hl : ns.length ≤ 1000)
    (q : ∀ (h' : Heap) (tk : Nat) (p : Addr), Inv X pins σ H { s with heap := h', toks := tk } → SetR X.w h' p (fun j => decide (j ∈ ns)) (uniqS ns).length → Q (.ref p) { s with heap := h', toks := tk }) :
    wpAny (model X.prog X.w) X.A (call (.type "set") [v]) Q E s := by
  obtain ⟨p, vs, e1, r, h⟩ := hbr.items hi
  have e2 := r.ints hn
  subst e1 e2
  cases r1
  have sb : ns.length + 1 < scanBound := by unfold scanBound; omega
  rcases h with ⟨_, h⟩ | ⟨_, h⟩
  · obtain ⟨its, rv, pl, _⟩ := I.list (.inl (.inl h))
    refine call_set_listR ns (I.ok.hd hc) pl.isList (by simpa using Vals.ints rv) sb fun g tk c R _ hk => ?_
    rw [setR_count R] at R
    exact q g tk _ (I.kept hk) R
  · obtain ⟨its, rv, pt, _⟩ := I.tuple h
    refine call_set_tupI ns (I.ok.hd hc) pt (by simpa using Vals.ints rv) sb fun g tk c R _ hk => ?_
    rw [setR_count R] at R
    exact q g tk _ (I.kept hk) R
theorem snd_sset (g : Gd P ct X k) {p p2 p3 p4 : Pos} (hg : isGl ct "sorted" = true) (hg2 : isGl ct "set" = true) (hs : notStar x = true) (ha : PE X x (tB P X.fw a)) : PE X (.Call (.Name "sorted" p) [.Call (.Name "set" p2) [x] [] p3] [] p4) (tE P X.fw (.bi .sset a)) := by
  refine ⟨fun pins s σ H Q I h => ?_⟩
  have h : tB P X.fw a σ H (fun x H1 => rD1 X.fw .sset [x] H1 Q) := bi_q h
  refine Call_ (ld_blt I (g.gl hg) (g.blt "sorted" (by decide)) boot_sorted (callWith_builtin1 (args_cons ?_ rfl) rfl rfl))
  refine Call_ (ld_blt I (g.gl hg2) (g.blt "set" (by decide)) PyProof.Rows.boot_set (callWith_type1 (args_cons (thn (ha.run pins s σ H _ I h) fun v s1 ⟨x', H1, I1, r1, q1⟩ => args_nil ?_) (star_cons hs)) (star_cons hs) rfl))
  obtain ⟨O, x0, d, z, e, dm, hbr, hz, n⟩ := q1
  obtain rfl : x' = x0 := (List.cons.inj e).1
  simp only [dBi] at hz
  cases hi : items d with
  | none => rw [hi] at hz; cases hz
  | some ds =>
    rw [hi] at hz
    cases hn : ints? ds with
    | none => simp [hn] at hz
    | some ns =>
      simp only [hn, Option.bind_some] at hz
      split at hz
      · rename_i hl
        obtain rfl := Option.some.inj hz
        refine set_go g.calm I1 r1 hbr hi hn hl.1 fun h' tk pa I2 R => args_nil ?_
        refine sorted_set R (I2.ok.hd g.calm) hl.2 fun s' q out c ms kp gg oo hp hq hI asc mem len => ?_
        have em : ms = uniqS ns := asc_eq _ _ asc (uniq_asc ns) fun j => by rw [mem j, mem_uniq]; simp
        subst em
        have fr : H1 q = none := I2.hok.fresh hp
        have nl : ((uniqS ns).map V.int).length ≤ sizeLine := by
          rw [List.length_map, sizeLine_eq]
          omega
        have J : Inv X pins σ (upd H1 q (.lst ((uniqS ns).map V.int))) s' := I2.call' (ch := []) oo (Un.laid kp hp fr) (I2.hok.laid kp hp ⟨nl, out.toList, c, vals_of_ints hI, hq⟩) (by rw [gg]; exact I2.bare) (fun _ z => nomatch z)
        refine ⟨.ref q, _, J, rfl, n.lst dm ?_ fr⟩
        have key : ∀ l : List Int, Rps X.fw (hid O H1) (l.map V.int) (l.map PyData.int) := fun l => by
          induction l with
          | nil => exact .nil
          | cons y l ih => exact .cons (.int y) ih
        exact key _
      · cases hz
theorem snd_lset (g : Gd P ct X k) {p p2 p3 p4 : Pos} (hg : isGl ct "len" = true) (hg2 : isGl ct "set" = true) (hs : notStar x = true) (ha : PE X x (tB P X.fw a)) : PE X (.Call (.Name "len" p) [.Call (.Name "set" p2) [x] [] p3] [] p4) (tE P X.fw (.bi .lset a)) := by
  refine ⟨fun pins s σ H Q I h => ?_⟩
  have h : tB P X.fw a σ H (fun x H1 => rD1 X.fw .lset [x] H1 Q) := bi_q h
  refine Call_ (ld_blt I (g.gl hg) (g.blt "len" (by decide)) boot_len (callWith_builtin1 (args_cons ?_ rfl) rfl rfl))
  refine Call_ (ld_blt I (g.gl hg2) (g.blt "set" (by decide)) PyProof.Rows.boot_set (callWith_type1 (args_cons (thn (ha.run pins s σ H _ I h) fun v s1 ⟨x', H1, I1, r1, q1⟩ => args_nil ?_) (star_cons hs)) (star_cons hs) rfl))
  obtain ⟨O, x0, d, z, e, dm, hbr, hz, n⟩ := q1
  obtain rfl : x' = x0 := (List.cons.inj e).1
  simp only [dBi] at hz
  cases hi : items d with
  | none => rw [hi] at hz; cases hz
  | some ds =>
    rw [hi] at hz
    cases hn : ints? ds with
    | none => simp [hn] at hz
    | some ns =>
      simp only [hn, Option.bind_some] at hz
      split at hz
      · rename_i hl
        obtain rfl := Option.some.inj hz
        refine set_go g.calm I1 r1 hbr hi hn hl fun h' tk pa I2 R => args_nil ?_
        obtain ⟨o, es, ep, t, ho, hex, hd, _, _, _, hsb, hf, hcn, _⟩ := R
        refine call_len_set ho hex hd hf (by unfold scanBound at hsb; omega) ⟨.int (uniqS ns).length, H1, I2.tok _, ⟨_, by rw [hcn]⟩, n.int⟩
      · cases hz
theorem snd_set (g : Gd P ct X k) {bb : Bi} {nm n2 : Str} {p p2 p3 p4 : Pos} (hb : biS bb = true) (hx : (nm == biN bb) = true) (hx2 : (n2 == ("set" : Str)) = true) (hg : isGl ct nm = true) (hg2 : isGl ct n2 = true) (hs : notStar x = true) (ha : PE X x (tB P X.fw a)) : PE X (.Call (.Name nm p) [.Call (.Name n2 p2) [x] [] p3] [] p4) (tE P X.fw (.bi bb a)) := by
  obtain rfl : nm = biN bb := beq_iff_eq.mp hx
  obtain rfl : n2 = "set" := beq_iff_eq.mp hx2
  cases bb <;> try (cases hb; done)
  · exact snd_sset g hg hg2 hs ha
  · exact snd_lset g hg hg2 hs ha
end
end PV

set_option maxHeartbeats 4000000
/-! PV: zip of a list and a tuple: sides of any kind. -/
namespace PV
open PySem PySem.Spec PyProof.Rows L2 RZ
open PySem.Sem (wp)
/-- how one side of a zip steps -/
structure Side (it l : Addr) (P P' : Heap → Prop) (x : Option Value) : Prop where
  keep : ∀ {c : Addr} {h h' : Heap}, it ≠ c → l ≠ c → Heap.ExtBut c h h' → P h → P h'
  keep' : ∀ {c : Addr} {h h' : Heap}, it ≠ c → l ≠ c → Heap.ExtBut c h h' → P' h → P' h'
  has' : ∀ {h : Heap}, P' h → ∃ o, h.get? it = some o
  next : ∀ {pr : Program} {wd : World} {B : Around} {E Q : Value → Shared → Prop} {s : Shared} {v : Value}, x = some v → P s.heap → (∀ g, P' g → Heap.SameBut it s.heap g → Q v { s with heap := g }) → wpAny (model pr wd) B (Builtin.SmallTypes.nextOf (.ref it)) Q E s
  stop : ∀ {pr : Program} {wd : World} {B : Around} {E Q : Value → Shared → Prop} {s : Shared}, x = none → B.handled = none → P s.heap → (∀ g e, Heap.ExtBut it s.heap g → (∃ o, g.get? e = some o ∧ o.cls = .type "StopIteration") → E (.ref e) { s with heap := g }) → wpAny (model pr wd) B (Builtin.SmallTypes.nextOf (.ref it)) Q E s
theorem side_list {it l : Addr} {i : Nat} {xs : Array Value} (ne : l ≠ it) : Side it l (fun h => h.IsListIter it l i ∧ h.IsList l xs) (fun h => h.IsListIter it l (i + 1) ∧ h.IsList l xs) xs[i]? where
  keep := fun a b e p => ⟨p.1.extBut e a, p.2.extBut e b⟩
  keep' := fun a b e p => ⟨p.1.extBut e a, p.2.extBut e b⟩
  has' := fun p => p.1.imp fun _ q => q.1
  next := fun hx p k => wpAny_nextOf_list_item p.1 p.2 hx fun g q sb => k g ⟨q, p.2.extBut sb.extBut ne⟩ sb
  stop := fun hx hh p k => wpAny_nextOf_list_end hh p.1 p.2 hx k
theorem side_tuple {it l : Addr} {i : Nat} {xs : Array Value} (ne : l ≠ it) : Side it l (fun h => h.IsTupleIter it l i ∧ h.IsTuple l xs) (fun h => h.IsTupleIter it l (i + 1) ∧ h.IsTuple l xs) xs[i]? where
  keep := fun a b e p => ⟨p.1.extBut e a, p.2.extBut e b⟩
  keep' := fun a b e p => ⟨p.1.extBut e a, p.2.extBut e b⟩
  has' := fun p => p.1.imp fun _ q => q.1
  next := fun hx p k => nextOf_tuple_item p.1 p.2 hx fun g q sb => k g ⟨q, p.2.extBut sb.extBut ne⟩ sb
  stop := fun hx hh p k => nextOf_tuple_end hh p.1 p.2 hx k
section
variable {pr : Program} {wd : World} {B : Around} {E : Value → Shared → Prop} {s : Shared}
variable {z ti out ia ib la lb : Addr} {Pa Pa' Pb Pb' : Heap → Prop} {ox oy : Option Value} {x y p q : Value}
/-- the next pair of any two sides -/
theorem sides_item {Q : Value → Shared → Prop} (D : ZipApart z ti out ia ib la lb) (Sa : Side ia la Pa Pa' (some x)) (Sb : Side ib lb Pb Pb' (some y))
    (e1 : IsZip s.heap z ti out .none) (e2 : IsPair s.heap ti (.ref ia) (.ref ib)) (e3 : IsPair s.heap out p q) (pa : Pa s.heap) (pb : Pb s.heap)
    (k : ∀ g, IsZip g z ti out (rawInt s.heap.objs.size) → IsPair g out x y → Pa' g → Pb' g → IsPair g s.heap.objs.size x y → g.objs.size = s.heap.objs.size + 1 → (∀ c o, c ≠ z → c ≠ out → c ≠ ia → c ≠ ib → s.heap.get? c = some o → g.get? c = some o) → Q (.ref s.heap.objs.size) { s with heap := g }) :
    wpAny (model pr wd) B (Builtin.«zip.__next__» ⟨[.ref z], []⟩) (fun f s' => ∃ v, f = .done (.ret v) ∧ Q v s') E s := by
  show wpAny _ _ (field (.ref z) 2 >>= _) _ _ _; refine wpAny_bind (wpAny_field e1 rfl (x := .bool false) rfl ?_)
  show wpAny _ _ (field (.ref z) 3 >>= _) _ _ _; refine wpAny_bind (wpAny_field e1 rfl (x := .ref ti) rfl (wpAny_bind (wpAny_seqItems e2 rfl ?_)))
  show wpAny _ _ (Builtin.SmallTypes.ownedTupleIsFree (.ref z) >>= _) _ _ _; refine wpAny_bind ?_
  unfold Builtin.SmallTypes.ownedTupleIsFree; refine wpAny_bind (wpAny_field e1 rfl (x := .none) rfl (wpAny_pure ?_))
  simp only [if_true]; refine wpAny_bind (wpAny_rule (wpAny_bind (wpAny_field e1 rfl (x := .ref out) rfl (wpAny_bind (wpAny_setField_rec e1 (by simp) fun ga za sa => ?_)))))
  have za : IsZip ga z ti out .ellipsis := za; refine wpAny_bind ?_
  simp only [List.zipIdx_cons, List.zipIdx_nil, List.forIn_cons, List.forIn_nil]; refine wpAny_bind (wpAny_bind (wpAny_onRaise ?_))
  show wpAny _ _ (Builtin.SmallTypes.nextOf (.ref ia) >>= _) _ _ _; refine wpAny_bind (Sa.next rfl (Sa.keep D.i1z D.l1z sa.extBut pa) fun gb pa2 sb => wpAny_pure ?_)
  have ob : IsPair gb out p q := sb.extBut _ _ D.TOi1 (sa.extBut _ _ D.TOz e3)
  refine wpAny_bind (wpAny_seqItems ob rfl (wpAny_bind (wpAny_updateSeq_pair ob fun gc oc sc => ?_)))
  have oc : IsPair gc out x q := oc; refine wpAny_bind (wpAny_letGo (wpAny_pure (wpAny_bind (wpAny_bind (wpAny_onRaise ?_)))))
  show wpAny _ _ (Builtin.SmallTypes.nextOf (.ref ib) >>= _) _ _ _
  refine wpAny_bind (Sb.next rfl (Sb.keep D.TOi2.symm D.l2TO sc.extBut (Sb.keep D.i12.symm D.l2i1 sb.extBut (Sb.keep D.i2z D.l2z sa.extBut pb))) fun gd pb2 sd => wpAny_pure ?_)
  have od : IsPair gd out x q := sd.extBut _ _ D.TOi2 oc
  refine wpAny_bind (wpAny_seqItems od rfl (wpAny_bind (wpAny_updateSeq_pair od fun ge oe se => ?_)))
  have oe : IsPair ge out x y := oe; refine wpAny_bind (wpAny_letGo (wpAny_pure (wpAny_pure (wpAny_bind (wpAny_seqItems oe rfl (wpAny_bind (wpAny_newTuple ?_)))))))
  have hn : ge.objs.size = s.heap.objs.size := by rw [se.1, sd.1, sc.1, sb.1, sa.1]
  have ze : IsZip ge z ti out .ellipsis := se.extBut _ _ D.TOz.symm (sd.extBut _ _ D.i2z.symm (sc.extBut _ _ D.TOz.symm (sb.extBut _ _ D.i1z.symm za)))
  have ke : ∀ c o, c ≠ z → c ≠ out → c ≠ ia → c ≠ ib → s.heap.get? c = some o → ge.get? c = some o := fun c o n1 n2 n3 n4 e => se.extBut _ _ n2 (sd.extBut _ _ n4 (sc.extBut _ _ n2 (sb.extBut _ _ n3 (sa.extBut _ _ n1 e))))
  have pa3 : Pa' ge := Sa.keep' D.TOi1.symm D.l1TO se.extBut (Sa.keep' D.i12 D.l1i2 sd.extBut (Sa.keep' D.TOi1.symm D.l1TO sc.extBut pa2))
  have pb3 : Pb' ge := Sb.keep' D.TOi2.symm D.l2TO se.extBut pb2
  have zl : z < ge.objs.size := Heap.lt_size ze
  show wpAny _ _ (Builtin.SmallTypes.ownedTupleHandOut (.ref z) (.ref ge.objs.size) >>= _) _ _ _; refine wpAny_bind ?_
  have zf : IsZip (ge.push { cls := .type "tuple", data := .seq #[x, y] }) z ti out .ellipsis := Heap.get?_push_of_some _ ze
  unfold Builtin.SmallTypes.ownedTupleHandOut; refine wpAny_bind (wpAny_setField_rec zf (by simp) fun gg zg sg => ?_)
  have zg : IsZip gg z ti out (rawInt ge.objs.size) := zg; refine wpAny_setField_rec zg (by simp) fun gh zh sh => ?_
  have zh : IsZip gh z ti out (rawInt ge.objs.size) := zh
  have up : Heap.ExtBut z ge gh := fun c o n e => sh.extBut _ _ n (sg.extBut _ _ n (Heap.get?_push_of_some _ e))
  have th : IsPair gh ge.objs.size x y := sh.extBut _ _ (Nat.ne_of_gt zl) (sg.extBut _ _ (Nat.ne_of_gt zl) (Heap.get?_push_size _ rfl))
  have hn2 : gh.objs.size = ge.objs.size + 1 := by rw [sh.1, sg.1, Heap.size_push]
  rw [hn] at zh th hn2
  refine wpAny_pure ⟨_, rfl, ?_⟩
  show Q (.ref ge.objs.size) _; rw [hn]
  exact k gh zh (up _ _ D.TOz oe) (Sa.keep' D.i1z D.l1z up pa3) (Sb.keep' D.i2z D.l2z up pb3) th hn2 fun c o n1 n2 n3 n4 e => up c o n1 (ke c o n1 n2 n3 n4 e)
/-- the end of any two sides -/
theorem sides_end {Q : Fin → Shared → Prop} (hh : B.handled = none) (D : ZipApart z ti out ia ib la lb) (Sa : Side ia la Pa Pa' ox) (Sb : Side ib lb Pb Pb' oy)
    (e1 : IsZip s.heap z ti out .none) (e2 : IsPair s.heap ti (.ref ia) (.ref ib)) (e3 : IsPair s.heap out p q) (pa : Pa s.heap) (pb : Pb s.heap) (en : ox = none ∨ oy = none)
    (k : ∀ g e, (∀ c o, c ≠ z → c ≠ out → c ≠ ia → c ≠ ib → s.heap.get? c = some o → g.get? c = some o) → (∃ o, g.get? e = some o ∧ o.cls = .type "StopIteration") → E (.ref e) { s with heap := g }) :
    wpAny (model pr wd) B (Builtin.«zip.__next__» ⟨[.ref z], []⟩) Q E s := by
  show wpAny _ _ (field (.ref z) 2 >>= _) _ _ _; refine wpAny_bind (wpAny_field e1 rfl (x := .bool false) rfl ?_)
  show wpAny _ _ (field (.ref z) 3 >>= _) _ _ _; refine wpAny_bind (wpAny_field e1 rfl (x := .ref ti) rfl (wpAny_bind (wpAny_seqItems e2 rfl ?_)))
  show wpAny _ _ (Builtin.SmallTypes.ownedTupleIsFree (.ref z) >>= _) _ _ _; refine wpAny_bind ?_
  unfold Builtin.SmallTypes.ownedTupleIsFree; refine wpAny_bind (wpAny_field e1 rfl (x := .none) rfl (wpAny_pure ?_))
  simp only [if_true]; refine wpAny_bind (wpAny_rule (wpAny_bind (wpAny_field e1 rfl (x := .ref out) rfl (wpAny_bind (wpAny_setField_rec e1 (by simp) fun ga za sa => ?_)))))
  have za : IsZip ga z ti out .ellipsis := za; refine wpAny_bind ?_
  simp only [List.zipIdx_cons, List.zipIdx_nil, List.forIn_cons, List.forIn_nil]; refine wpAny_bind (wpAny_bind (wpAny_onRaise ?_))
  have last : ∀ (i : Addr) (gy gz : Heap) (e : Addr), i ≠ z → IsZip gy z ti out .ellipsis → (∀ c o, c ≠ z → c ≠ out → c ≠ ia → c ≠ ib → s.heap.get? c = some o → gy.get? c = some o) → (i = ia ∨ i = ib) → Heap.ExtBut i gy gz → (∃ o, gz.get? e = some o ∧ o.cls = .type "StopIteration") → ∀ {m : Value}, ∀ gw, Heap.SameBut z gz gw → IsZip gz z ti out .ellipsis → E (.ref e) { s with heap := gw } := by
    intro i gy gz e hi hy ky hc xz he m gw sw hz
    obtain ⟨oe, h1, h2⟩ := he
    have ez : e ≠ z := fun h => by rw [h, hz] at h1; cases h1; simp at h2
    refine k gw e (fun c o n1 n2 n3 n4 g => sw.extBut _ _ n1 (xz _ _ ?_ (ky c o n1 n2 n3 n4 g))) ⟨oe, sw.extBut _ _ ez h1, h2⟩
    rcases hc with h | h
    · rw [h]; exact n3
    · rw [h]; exact n4
  show wpAny _ _ (Builtin.SmallTypes.nextOf (.ref ia) >>= _) _ _ _
  cases ox with
  | none =>
    refine wpAny_bind (Sa.stop rfl hh (Sa.keep D.i1z D.l1z sa.extBut pa) fun gb e sb he => ?_)
    have zb : IsZip gb z ti out .ellipsis := sb _ _ D.i1z.symm za
    exact wpAny_setField_rec zb (by simp) fun gc _ sc => last ia ga gb e D.i1z za (fun c o n1 _ _ _ g => sa.extBut _ _ n1 g) (.inl rfl) sb he (m := .none) gc sc zb
  | some x =>
    have hy : oy = none := by
      rcases en with h | h
      · cases h
      · exact h
    refine wpAny_bind (Sa.next rfl (Sa.keep D.i1z D.l1z sa.extBut pa) fun gb pa2 sb => wpAny_pure ?_)
    have ob : IsPair gb out p q := sb.extBut _ _ D.TOi1 (sa.extBut _ _ D.TOz e3)
    refine wpAny_bind (wpAny_seqItems ob rfl (wpAny_bind (wpAny_updateSeq_pair ob fun gc oc sc => ?_)))
    refine wpAny_bind (wpAny_letGo (wpAny_pure (wpAny_bind (wpAny_bind (wpAny_onRaise ?_)))))
    show wpAny _ _ (Builtin.SmallTypes.nextOf (.ref ib) >>= _) _ _ _
    refine wpAny_bind (Sb.stop hy hh (Sb.keep D.TOi2.symm D.l2TO sc.extBut (Sb.keep D.i12.symm D.l2i1 sb.extBut (Sb.keep D.i2z D.l2z sa.extBut pb))) fun gd e sd he => ?_)
    have zc : IsZip gc z ti out .ellipsis := sc.extBut _ _ D.TOz.symm (sb.extBut _ _ D.i1z.symm za)
    have zd : IsZip gd z ti out .ellipsis := sd _ _ D.i2z.symm zc
    exact wpAny_setField_rec zd (by simp) fun ge _ se => last ib gc gd e D.i2z zc (fun c o n1 n2 n3 _ g => sc.extBut _ _ n2 (sb.extBut _ _ n3 (sa.extBut _ _ n1 g))) (.inr rfl) sd he (m := .none) ge se zd
theorem sides_next {Q : Option Value → Shared → Prop} (D : ZipApart z ti out ia ib la lb) (Sa : Side ia la Pa Pa' (some x)) (Sb : Side ib lb Pb Pb' (some y))
    (e1 : IsZip s.heap z ti out .none) (e2 : IsPair s.heap ti (.ref ia) (.ref ib)) (e3 : IsPair s.heap out p q) (pa : Pa s.heap) (pb : Pb s.heap)
    (k : ∀ g, IsZip g z ti out (rawInt s.heap.objs.size) → IsPair g out x y → Pa' g → Pb' g → IsPair g s.heap.objs.size x y → g.objs.size = s.heap.objs.size + 1 → (∀ c o, c ≠ z → c ≠ out → c ≠ ia → c ≠ ib → s.heap.get? c = some o → g.get? c = some o) → Q (some (.ref s.heap.objs.size)) { s with heap := g }) :
    wpAny (model pr wd) B (pyNext (.ref z)) Q E s := by
  have ty : s.TypeIs (.ref z) "zip" := ⟨_, e1, rfl⟩
  unfold pyNext
  refine wpAny_bind (wpAny_attempt (wpAny_callSpecial?_slot (name := Str.ofString "__next__") ty F.slot_zip_next (wpAny_call_entry F.slot_zip_next ty F.entry_zip_next ?_ (F.args_zip_next_1 _))))
  exact sides_item D Sa Sb e1 e2 e3 pa pb fun g a1 a2 a3 a4 a5 a6 a7 => wpAny_pure (k g a1 a2 a3 a4 a5 a6 a7)
theorem sides_done {Q : Option Value → Shared → Prop} (hh : B.handled = none) (D : ZipApart z ti out ia ib la lb) (Sa : Side ia la Pa Pa' ox) (Sb : Side ib lb Pb Pb' oy)
    (e1 : IsZip s.heap z ti out .none) (e2 : IsPair s.heap ti (.ref ia) (.ref ib)) (e3 : IsPair s.heap out p q) (pa : Pa s.heap) (pb : Pb s.heap) (en : ox = none ∨ oy = none)
    (k : ∀ g, (∀ c o, c ≠ z → c ≠ out → c ≠ ia → c ≠ ib → s.heap.get? c = some o → g.get? c = some o) → Q none { s with heap := g }) : wpAny (model pr wd) B (pyNext (.ref z)) Q E s := by
  have ty : s.TypeIs (.ref z) "zip" := ⟨_, e1, rfl⟩
  unfold pyNext
  refine wpAny_bind (wpAny_attempt (wpAny_callSpecial?_slot (name := Str.ofString "__next__") ty F.slot_zip_next (wpAny_call_entry F.slot_zip_next ty F.entry_zip_next (sides_end hh D Sa Sb e1 e2 e3 pa pb en fun g e kp he => ?_) (F.args_zip_next_1 _))))
  obtain ⟨o, h1, h2⟩ := he
  exact wpAny_bind (wpAny_isInstance (T := "StopIteration") (b := true) ⟨o, h1, h2⟩ isSubtype_stop (wpAny_pure (k _ kp)))
end
end PV

set_option maxHeartbeats 4000000
/-! PV: zip of a list and a tuple, as a turn and as a call. -/
namespace PV
open PySem PySem.Spec PyProof.Rows L2 RZ
open PySem.Sem (wp)
/-- the list at a and the tuple at b, in new pairs -/
def ItzM (K : PySem.W.Frag) (a b : Addr) : It where
  go := fun i H => ∃ (vs ws : List V) (v w : V), SqL K H a vs ∧ SqT K H b ws ∧ vs[i]? = some v ∧ ws[i]? = some w
  yld := fun i H r H' => ∃ N v w, r = .ref N ∧ H N = none ∧ H' = upd H N (.tup [v, w]) ∧ (∀ vs, SqL K H a vs → vs[i]? = some v) ∧ ∀ ws, SqT K H b ws → ws[i]? = some w
  stop := fun i H => ∃ vs ws : List V, SqL K H a vs ∧ SqT K H b ws ∧ (vs.length ≤ i ∨ ws.length ≤ i)
theorem five {z ti out ia ib c : Addr} (h : c ∈ [z, ti, out, ia, ib]) : c = z ∨ c = ti ∨ c = out ∨ c = ia ∨ c = ib := by simpa using h
theorem turn_zipM {P : Program} {w : World} {K : PySem.W.Frag} {es : List Expr} {kk : Nat} {tp : Pos} {a b z ti out ia ib : Addr} (D : ZipApart z ti out ia ib a b) :
    Turn P w K (.Tuple es kk tp) (ItzM K a b) [z, ti, out, ia, ib] z (fun i h => IsZip h z ti out .none ∧ IsPair h ti (.ref ia) (.ref ib) ∧ (∃ x y, IsPair h out x y) ∧ h.IsListIter ia a i ∧ h.IsTupleIter ib b i) where
  mem := by simp
  obj := fun i h q c hc => by
    obtain ⟨q1, q2, ⟨x, y, q3⟩, ⟨o1, f1, _, d1⟩, ⟨o2, f2, _, d2⟩⟩ := q
    rcases five hc with e | e | e | e | e <;> subst e
    · exact ⟨_, q1, fun v r => nomatch r⟩
    · exact ⟨_, q2, fun v r => nomatch r⟩
    · exact ⟨_, q3, fun v r => nomatch r⟩
    · exact ⟨o1, f1, fun v r => by rw [d1] at r; cases r⟩
    · exact ⟨o2, f2, fun v r => by rw [d2] at r; cases r⟩
  keep := fun i h g q k => by
    obtain ⟨q1, q2, ⟨x, y, q3⟩, q4, q5⟩ := q
    refine ⟨k z (by simp) _ q1, k ti (by simp) _ q2, ⟨x, y, k out (by simp) _ q3⟩, q4.at fun o r => ?_, q5.at fun o r => ?_⟩
    · exact k ia (by simp) o r
    · exact k ib (by simp) o r
  item := by
    intro X e1 e2 e3 hc i pins s σ H E I hf q hg
    subst e1 e2 e3
    obtain ⟨q1, q2, ⟨x0, y0, q3⟩, q4, q5⟩ := q
    obtain ⟨vs, ws, v, u, sv, sw, hv, hu⟩ := hg
    obtain ⟨ls, rv, pv, _⟩ := I.list sv
    obtain ⟨lt, rw', pt, _⟩ := I.tuple sw
    obtain ⟨m, hm, rm⟩ := rv.get hv
    obtain ⟨n, hn, rn⟩ := rw'.get hu
    have zl : z < s.heap.objs.size := Heap.lt_size q1
    have em : ls.toArray[i]? = some m := by simpa using hm
    have en : lt.toArray[i]? = some n := by simpa using hn
    have Sa := side_list (it := ia) (l := a) (i := i) (xs := ls.toArray) D.l1i1
    have Sb := side_tuple (it := ib) (l := b) (i := i) (xs := lt.toArray) D.l2i2
    rw [em] at Sa
    rw [en] at Sb
    refine sides_next D Sa Sb q1 q2 q3 ⟨q4, pv.isList⟩ ⟨q5, pt⟩ fun g z1 o1 pa pb nw _ hk => ⟨_, rfl, wpAny_letOwnedTupleGo_zip (s := { s with heap := g }) z1 fun g2 z2 sb => ?_⟩
    have nw2 : g2.get? s.heap.objs.size = some { cls := .type "tuple", data := .seq #[m, n] } := (sb.2 _ (Nat.ne_of_gt zl)).trans nw
    have ok : ObjOk X.prog X.w (upd H s.heap.objs.size (.tup [v, u])) g2 s.heap.objs.size (.tup [v, u]) := ⟨by show 2 ≤ sizeLine; decide, [m, n], .cons rm (.cons rn .nil), ⟨_, nw2, rfl, _, rfl⟩⟩
    have kp : ∀ c o, c ∉ [z, ti, out, ia, ib] → s.heap.get? c = some o → g2.get? c = some o := fun c o nb r => by
      have nb := (not_congr (show c ∈ [z, ti, out, ia, ib] ↔ c = z ∨ c = ti ∨ c = out ∨ c = ia ∨ c = ib by simp)).mp nb
      simp only [not_or] at nb
      exact (sb.2 _ nb.1).trans (hk c o nb.1 nb.2.2.1 nb.2.2.2.1 nb.2.2.2.2 r)
    have I1 := I.turnedNew (t' := s.toks) (ch := [z, ti, out, ia, ib]) kp hf (Nat.le_refl _) ok
    refine ⟨.ref s.heap.objs.size, _, I1, rfl, ⟨_, v, u, rfl, I.hok.fresh (Nat.le_refl _), rfl, fun l hl => ?_, fun l hl => ?_⟩, ⟨z2, ?_, ⟨m, n, ?_⟩, ?_, ?_⟩, fun c hcm => ?_⟩
    · rw [I.list_inj hl sv]; exact hv
    · rw [I.tuple_inj hl sw]; exact hu
    · exact (sb.2 _ D.TIz).trans (hk _ _ D.TIz D.TITO D.TIi1 D.TIi2 q2)
    · exact (sb.2 _ D.TOz).trans o1
    · exact pa.1.at fun o r => (sb.2 _ D.i1z).trans r
    · exact pb.1.at fun o r => (sb.2 _ D.i2z).trans r
    · have lc : c < s.heap.objs.size := by
        rcases five hcm with e | e | e | e | e <;> rw [e]
        · exact zl
        · exact Heap.lt_size q2
        · exact Heap.lt_size q3
        · obtain ⟨_, r, _⟩ := q4; exact Heap.lt_size r
        · obtain ⟨_, r, _⟩ := q5; exact Heap.lt_size r
      rw [upd_ne (Nat.ne_of_lt lc)]
      exact (hf c hcm).1
  done := by
    intro X e1 e2 e3 hc i pins s σ H E I hf q hg
    subst e1 e2 e3
    obtain ⟨q1, q2, ⟨x0, y0, q3⟩, q4, q5⟩ := q
    obtain ⟨vs, ws, sv, sw, hend⟩ := hg
    obtain ⟨ls, rv, pv, _⟩ := I.list sv
    obtain ⟨lt, rw', pt, _⟩ := I.tuple sw
    have n1 := rv.length
    have n2 := rw'.length
    have en : ls.toArray[i]? = none ∨ lt.toArray[i]? = none := by
      rcases hend with r | r
      · left; simp; omega
      · right; simp; omega
    refine sides_done (I.ok.hd hc) D (side_list (i := i) D.l1i1) (side_tuple (i := i) D.l2i2) q1 q2 q3 ⟨q4, pv.isList⟩ ⟨q5, pt⟩ en fun g hk => ⟨rfl, I.turnedL (t' := s.toks) (ch := [z, ti, out, ia, ib]) (fun c o nb r => ?_) hf⟩
    have nb := (not_congr (show c ∈ [z, ti, out, ia, ib] ↔ c = z ∨ c = ti ∨ c = out ∨ c = ia ∨ c = ib by simp)).mp nb
    simp only [not_or] at nb
    exact hk c o nb.1 nb.2.2.1 nb.2.2.2.1 nb.2.2.2.2 r
  self := fun A i s Q E q h => wpAny_pyIter_zip q.1 h
/-! the heap after zip(..) of a list and a tuple -/
def zo (c : String) (fs : Array Value) : Obj := { cls := .type c, data := .fields fs }
def zs (xs : Array Value) : Obj := { cls := .type "tuple", data := .seq xs }
def zm1 (h : Heap) (a : Addr) : Heap := h.push { cls := .type "list_iterator", data := .fields #[.ref a, .int 0 0] }
def zm2 (h : Heap) (a b : Addr) : Heap := (zm1 h a).push { cls := .type "tuple_iterator", data := .fields #[.ref b, .int 0 0] }
def zm3 (h : Heap) (a b : Addr) : Heap := (zm2 h a b).push (zs #[.ref h.objs.size, .ref (zm1 h a).objs.size])
def zm4 (h : Heap) (a b : Addr) : Heap := (zm3 h a b).push (zs #[.none, .none])
def zm5 (h : Heap) (a b : Addr) : Heap := (zm4 h a b).push (zo "zip" #[.none, .bool false, .bool false, .ref (zm2 h a b).objs.size, .ref (zm3 h a b).objs.size])
theorem meets_zipM (a b : Addr) (xs ys : Array Value) :
    Meets (Builtin.«zip.__new__» ⟨[.type "zip", .ref a, .ref b], []⟩) (fun _ R s => s.heap.IsList a xs ∧ s.heap.IsTuple b ys ∧ R (.ok (.ret (.ref (zm4 s.heap a b).objs.size))) { s with heap := zm5 s.heap a b }) :=
  .of_wp fun pr wd A R s k => by
    obtain ⟨hp, gg, dd, tk, os⟩ := s
    obtain ⟨ha, hb, k⟩ := k
    have sub := sub_zip
    have la : Heap.IsList (Shared.heap ⟨hp, gg, dd, tk, os⟩) a xs := ha
    have lb : Heap.IsTuple (Shared.heap ⟨hp.push { cls := .type "list_iterator", data := .fields #[.ref a, .int 0 0] }, gg, dd, tk, os⟩) b ys := Heap.IsTuple.push hb _
    wp_walk using wpAny_pyIter_list la, wpAny_pyIter_tuple lb
    exact ⟨_, rfl, k⟩
section
variable {pr : Program} {wd : World} {A : Around} {E : Value → Shared → Prop} {s : Shared}
theorem call_zipM {a b : Addr} {xs ys : Array Value} {Q : Value → Shared → Prop} (ha : s.heap.IsList a xs) (hb : s.heap.IsTuple b ys)
    (k : ∀ g, IsZip g (s.heap.objs.size + 4) (s.heap.objs.size + 2) (s.heap.objs.size + 3) .none → IsPair g (s.heap.objs.size + 2) (.ref s.heap.objs.size) (.ref (s.heap.objs.size + 1)) → IsPair g (s.heap.objs.size + 3) .none .none → g.IsListIter s.heap.objs.size a 0 → g.IsTupleIter (s.heap.objs.size + 1) b 0 → (∀ c o, s.heap.get? c = some o → g.get? c = some o) → Q (.ref (s.heap.objs.size + 4)) { s with heap := g }) :
    wpAny (model pr wd) A (call (.type "zip") [.ref a, .ref b]) Q E s := by
  refine callType_new F.called_zip (by decide) (F.typeCall_zip_2 _ _) (F.newCall_zip_2 _ _) (fun obj => F.args_object_init_3 obj _ _) F.entry_zip_new (meets_zipM a b xs ys) ⟨ha, hb, ?_⟩
  have n1 : (zm1 s.heap a).objs.size = s.heap.objs.size + 1 := Heap.size_push ..
  have n2 : (zm2 s.heap a b).objs.size = s.heap.objs.size + 2 := by unfold zm2; rw [Heap.size_push, n1]
  have n3 : (zm3 s.heap a b).objs.size = s.heap.objs.size + 3 := by unfold zm3; rw [Heap.size_push, n2]
  have n4 : (zm4 s.heap a b).objs.size = s.heap.objs.size + 4 := by unfold zm4; rw [Heap.size_push, n3]
  have up : ∀ {h : Heap} {c : Addr} {o o' : Obj}, h.get? c = some o → (h.push o').get? c = some o := fun q => Heap.get?_push_of_some _ q
  have g5 : (zm5 s.heap a b).get? (zm4 s.heap a b).objs.size = some _ := Heap.get?_push_size _ rfl
  have g4 : (zm5 s.heap a b).get? (zm3 s.heap a b).objs.size = some _ := up (Heap.get?_push_size _ rfl)
  have g3 : (zm5 s.heap a b).get? (zm2 s.heap a b).objs.size = some _ := up (up (Heap.get?_push_size _ rfl))
  have g2 : (zm5 s.heap a b).get? (zm1 s.heap a).objs.size = some _ := up (up (up (Heap.get?_push_size _ rfl)))
  have g1 : (zm5 s.heap a b).get? s.heap.objs.size = some _ := up (up (up (up (Heap.get?_push_size _ rfl))))
  show _ ∧ _
  simp only [n1, n2, n3, n4, zo, zs] at g5 g4 g3 g2 g1 ⊢
  exact ⟨⟨_, g5, rfl⟩, k _ g5 g3 g4 ⟨_, g1, rfl, rfl⟩ ⟨_, g2, rfl, rfl⟩ fun c o q => up (up (up (up (up q))))⟩
end
/-- zip of two lists, two tuples, a list and a tuple -/
def iZipM (K : PySem.W.Frag) (ta : TA) : TI := fun σ H R => ta σ H fun vs H1 => ∃ a b xs ys, vs = [.ref a, .ref b] ∧ ((SqL K H1 a xs ∧ SqL K H1 b ys ∧ R (Itz K a b) H1) ∨ (SqT K H1 a xs ∧ SqT K H1 b ys ∧ R (ItzT K a b) H1) ∨ (SqL K H1 a xs ∧ SqT K H1 b ys ∧ R (ItzM K a b) H1))
theorem pi_zipM {X : Cx} {e e2 : Expr} {ta : TA} {p pos tpos : Pos} {es : List Expr} {kk : Nat} (hg : Gl X "zip") (hm : X.mg "zip" = none) (ha : PA X [e, e2] ta)
    (hs : starEach [e, e2] X.env = (false, eval e X.env) :: starEach [e2] X.env := by rfl) (hpl : (backTo pos (starEach [e2] X.env)).any (·.1) = false := by rfl) :
    PI X (.Tuple es kk tpos) (.Call (.Name "zip" p) [e, e2] [] pos) (iZipM X.K ta) := by
  refine ⟨fun pins s σ H R I h => Call_ (ld_blt I hg hm PyProof.Rows.boot_zip (PyProof.Rows.callWith_type1 (thn (ha.run pos pins s σ H _ I h) fun us s1 ⟨vs, H1, I1, r1, q1⟩ => ?_) hs hpl))⟩
  obtain ⟨a, b, xs, ys, rfl, q1⟩ := q1
  obtain ⟨u1, us, rfl, r, r1⟩ : ∃ u1 us', us = u1 :: us' ∧ RelV (.ref a) u1 ∧ Vals [.ref b] us' := by cases r1 with | cons r rr => exact ⟨_, _, rfl, r, rr⟩
  obtain ⟨u2, rfl, r2⟩ := vals1 r1
  cases r
  cases r2
  generalize hN : s1.heap.objs.size = N
  have fr : ∀ c, c ∈ [N + 4, N + 2, N + 3, N, N + 1] → FpOk X pins H1 c := fun c hcm => by
    have le : s1.heap.objs.size ≤ c := by rw [hN]; rcases five hcm with e | e | e | e | e <;> rw [e] <;> first | exact Nat.le_add_right _ _ | exact Nat.le_refl _
    exact I1.fpOk le (I1.hok.fresh le)
  have ap : ∀ c d : Addr, c < N → d < N → ZipApart (N + 4) (N + 2) (N + 3) N (N + 1) c d := fun c d h1 h2 => PySem.W.ktu_apart N c d h1 h2
  rcases q1 with ⟨sx, sy, q⟩ | ⟨sx, sy, q⟩ | ⟨sx, sy, q⟩
  · obtain ⟨l1, _, p1, _⟩ := I1.list sx
    obtain ⟨l2, _, p2, _⟩ := I1.list sy
    refine call_zip_2 p1.isList p2.isList fun g h1 h2 h3 h4 h5 _ hk => ?_
    rw [hN] at h1 h2 h3 h4 h5 ⊢
    exact wpAny_pyIter_zip h1 ⟨N + 4, [N + 4, N + 2, N + 3, N, N + 1], _, _, H1, rfl, I1.kept (t' := s1.toks) hk, turn_zip (ap a b (hN ▸ p1.lt) (hN ▸ p2.lt)), ⟨h1, h2, ⟨_, _, h3⟩, h4, h5⟩, fr, q⟩
  · obtain ⟨l1, _, p1, _⟩ := I1.tuple sx
    obtain ⟨l2, _, p2, _⟩ := I1.tuple sy
    obtain ⟨o1, f1, _⟩ := id p1
    obtain ⟨o2, f2, _⟩ := id p2
    refine call_zipT (show s1.heap.IsTuple a l1.toArray from p1) (show s1.heap.IsTuple b l2.toArray from p2) fun g h1 h2 h3 h4 h5 _ hk => ?_
    rw [hN] at h1 h2 h3 h4 h5 ⊢
    exact wpAny_pyIter_zip h1 ⟨N + 4, [N + 4, N + 2, N + 3, N, N + 1], _, _, H1, rfl, I1.kept (t' := s1.toks) hk, turn_zipT (ap a b (hN ▸ Heap.lt_size f1) (hN ▸ Heap.lt_size f2)), ⟨h1, h2, ⟨_, _, h3⟩, h4, h5⟩, fr, q⟩
  · obtain ⟨l1, _, p1, _⟩ := I1.list sx
    obtain ⟨l2, _, p2, _⟩ := I1.tuple sy
    obtain ⟨o2, f2, _⟩ := id p2
    refine call_zipM p1.isList (show s1.heap.IsTuple b l2.toArray from p2) fun g h1 h2 h3 h4 h5 hk => ?_
    rw [hN] at h1 h2 h3 h4 h5 ⊢
    exact wpAny_pyIter_zip h1 ⟨N + 4, [N + 4, N + 2, N + 3, N, N + 1], _, _, H1, rfl, I1.kept (t' := s1.toks) hk, turn_zipM (ap a b (hN ▸ p1.lt) (hN ▸ Heap.lt_size f2)), ⟨h1, h2, ⟨_, _, h3⟩, h4, h5⟩, fr, q⟩
end PV

set_option maxHeartbeats 4000000
/-! PV: sources that are lists or tuples, zip; targets; blocks. -/
namespace PV
open PySem L2 RZ

theorem wk_tup {K : Fw} {aa : Addr} {vs : List V} {ds : List D} {O : List Addr} {H1 : Hp} {G : List Addr → Hp → Prop} (r : Rps K (hid O H1) vs ds) (hs : ∀ O' H', G O' H' → SqT K H' aa vs ∧ Le (hid O H1) (hid O' H')) : Wk K (Itt K aa) ds G := fun O' H' hG n => by
  obtain ⟨h1, h2⟩ := hs O' H' hG
  refine ⟨fun d hd => ?_, fun h => ⟨vs, h1, by rw [r.length]; exact h⟩⟩
  obtain ⟨v, hv, rv⟩ := r.getD hd
  refine ⟨⟨vs, v, h1, hv⟩, fun x H'' hy => ?_⟩
  obtain ⟨rfl, hy⟩ := hy
  have e := hy vs h1
  rw [hv] at e
  cases e
  exact ⟨Le.refl _, rv.mono h2⟩
theorem wk_dk {K : Fw} {aa : Addr} {o : Obj} {vs : List V} {ds : List D} {O : List Addr} {H1 : Hp} {G : List Addr → Hp → Prop} (r : Rps K (hid O H1) vs ds) (hs : ∀ O' H', G O' H' → H' aa = some (dcO aa o) ∧ Le (hid O H1) (hid O' H')) : Wk K (Ity aa o vs) ds G := fun O' H' hG n => by
  obtain ⟨h1, h2⟩ := hs O' H' hG
  refine ⟨fun d hd => ?_, fun h => ⟨h1, by rw [r.length]; exact h⟩⟩
  obtain ⟨v, hv, rv⟩ := r.getD hd
  refine ⟨⟨h1, (List.getElem?_eq_some_iff.mp hv).1⟩, fun x H'' hy => ?_⟩
  obtain ⟨rfl, hy⟩ := hy
  rw [hv] at hy
  cases hy
  exact ⟨Le.refl _, rv.mono h2⟩
theorem zip_get : ∀ {xs ys : List D} {n : Nat} {d : D}, (zip2 xs ys)[n]? = some d → ∃ x y, xs[n]? = some x ∧ ys[n]? = some y ∧ d = .tuple [x, y]
  | [], _, _, _, h => by simp [zip2] at h
  | _ :: _, [], _, _, h => by simp [zip2] at h
  | x :: xs, y :: ys, 0, d, h => ⟨x, y, rfl, rfl, by
    have h : some (PyData.tuple [x, y]) = some d := by simpa [zip2] using h
    exact (Option.some.inj h).symm⟩
  | x :: xs, y :: ys, n + 1, d, h => zip_get (xs := xs) (ys := ys) (n := n) (by
    have h : ((xs.zip ys).map fun p => PyData.tuple [p.1, p.2])[n]? = some d := by simpa [zip2] using h
    exact h)
theorem zip_len (xs ys : List D) : (zip2 xs ys).length = min xs.length ys.length := by simp [zip2]
/-- a value that a loop may walk: its items stay where G holds -/
def SrcV (K : Fw) (G : List Addr → Hp → Prop) (O : List Addr) (H1 : Hp) (v : V) (d : D) (ds : List D) : Prop := ∃ a vs, v = .ref a ∧ Rps K (hid O H1) vs ds ∧
  ((d = .list ds ∧ SqL K H1 a vs ∧ ∀ O' H', G O' H' → SqL K H' a vs ∧ Le (hid O H1) (hid O' H')) ∨ (d = .tuple ds ∧ SqT K H1 a vs ∧ ∀ O' H', G O' H' → SqT K H' a vs ∧ Le (hid O H1) (hid O' H')))
theorem srcv {K : Fw} {fz : Bool} {σ : L2.St} {ρ : Env} {O : List Addr} {H1 : Hp} {v : V} {d : D} {ds : List D} (b : Br K O H1 v d) (lo : LsOw O σ ρ v d) (rp : fz = true → Rp K (hid O H1) v d) (h : items d = some ds) : SrcV K (Gk fz σ ρ O H1) O H1 v d ds := by
  rcases items_some h with rfl | rfl
  · obtain ⟨a, vs, rfl, r, e⟩ := b.lst
    refine ⟨a, vs, rfl, r, .inl ⟨rfl, SqL.of e, fun O' H' hG => ⟨SqL.of ?_, hG.2.1⟩⟩⟩
    by_cases hm : a ∈ O
    · cases fz with
      | false => rw [hG.2.2 rfl a (lo a rfl rfl hm)]; exact e
      | true => cases rp rfl with | lst hs _ => exact absurd hm (hid_out hs)
    · exact hid_le O' H' _ _ (hG.2.1 _ _ (hid_in hm e))
  · obtain ⟨a, vs, rfl, r, e, rr⟩ := b.tup
    cases rr with
    | @tup a2 vs2 _ hs r2 =>
      exact ⟨a, vs2, rfl, r2, .inr ⟨rfl, (hid_le O H1).st hs, fun O' H' hG => ⟨(hid_le O' H').st (hG.2.1.st hs), hG.2.1⟩⟩⟩
/-- a dict that a loop may walk: its object stays where G holds -/
theorem srcd {K : Fw} {fz : Bool} {σ : L2.St} {ρ : Env} {O : List Addr} {H1 : Hp} {v : V} {kvs : List (PV.D × PV.D)} (b : Br K O H1 v (.dict kvs)) (lo : LsOw O σ ρ v (.dict kvs)) (rp : fz = true → Rp K (hid O H1) v (.dict kvs)) :
    ∃ a o kv vv, v = .ref a ∧ H1 a = some (dcO a o) ∧ DOk K.w a o (kvs.map (·.1)) kv vv ∧ Rps K (hid O H1) kv (kvs.map (·.1)) ∧ Rps K (hid O H1) vv (kvs.map (·.2)) ∧ ∀ O' H', Gk fz σ ρ O H1 O' H' → H' a = some (dcO a o) ∧ Le (hid O H1) (hid O' H') := by
  obtain ⟨a, rfl, o, kv, vv, e, ok, r1, r2⟩ := b.dct
  refine ⟨a, o, kv, vv, rfl, e, ok, r1, r2, fun O' H' hG => ⟨?_, hG.2.1⟩⟩
  by_cases hm : a ∈ O
  · cases fz with
    | false => rw [hG.2.2 rfl a (lo a rfl rfl hm)]; exact e
    | true => exact absurd hm ((rp rfl).out rfl)
  · exact hid_le O' H' _ _ (hG.2.1 _ _ (hid_in hm e))
section
variable {P : Pm} {ct : Ct} {X : Cx} {k : Nat} {a b c d : E} {x y z u : Expr} {pos : Pos}
def tM (P : Pm) (K : Fw) (fz : Bool) (c : E) : TE := fun σ H Q => ∃ O0 H0 O ρ R, Sim K P.w P.iw O0 H0 O H σ ρ ∧ NoOw (esc (!fz) c) ρ ∧ P.ev c ρ R ∧ ∀ d v H', R d → Ext P.w H H' → Br K O H' v d → LsOw O σ ρ v d → (fz = true → Rp K (hid O H') v d) → Q v H'
theorem snd_M {fz : Bool} (hE : PE X x (tE P X.fw a)) (hB : PE X x (tB P X.fw a)) : PE X x (tM P X.fw fz a) := by
  cases fz with
  | true =>
    refine hE.imp fun σ H Q q => ?_
    obtain ⟨O0, H0, O, ρ, R, S, es, ev, q⟩ := q
    exact ⟨O0, H0, O, ρ, R, S, es, ev, fun d v H' hr he r => q d v H' hr he (.inl r.1) (fun p z1 z2 z3 => by subst z1; exact absurd z3 (r.1.out z2)) fun _ => r.1⟩
  | false =>
    refine hB.imp fun σ H Q q => ?_
    obtain ⟨O0, H0, O, ρ, R, S, es, ev, q⟩ := q
    exact ⟨O0, H0, O, ρ, R, S, es, ev, fun d v H' hr he r lo => q d v H' hr he r lo fun z => by cases z⟩
theorem escW_val (fz : Bool) : escW fz (.val a) = esc (!fz) a := by cases fz <;> simp [escW, escF, escS]
theorem escW_zip (fz : Bool) : escW fz (.zip a b) = esc (!fz) a ++ esc (!fz) b := by cases fz <;> simp [escW, escF, escS]
theorem snd_val {fz : Bool} {tg : Expr} (h : PE X x (tM P X.fw fz a)) : PI X tg x (tI P X.fw fz (.val a)) :=
  pi_imp (pi_seq h) fun σ H R q => by
    obtain ⟨O0, H0, O, ρ, S', S, es, ev, q⟩ := q
    have ev : P.ev a ρ fun x => wM.lift (iter? x) S' := by unfold Pm.evS PV.evS at ev; exact ev
    rw [escW_val] at es
    refine ⟨O0, H0, O, ρ, _, S, es, ev, fun d v H1 hd e1 ba lo rp => ?_⟩
    obtain ⟨ds, hds, hS⟩ := wlift hd
    by_cases hdd : ∃ kvs, d = .dict kvs
    · obtain ⟨kvs, rfl⟩ := hdd
      have hds : kvs.map (·.1) = ds := Option.some.inj hds
      subst hds
      obtain ⟨p, o, kv, vv, rfl, ho, ok, r1, r2, hG⟩ := srcd ba lo rp
      exact ⟨p, [], rfl, .inr (.inr ⟨o, kvs, kv, vv, _, ho, hid_le O H1, ok, r1, r2, fun kv' rk hz => q _ _ H1 hS (by rw [List.length_map, line_eq]; exact hz) e1 (wk_dk rk hG)⟩)⟩
    have hds : items d = some ds := by
      cases d <;> first | exact hds | exact absurd ⟨_, rfl⟩ hdd | (simp [iter?] at hds; done)
    obtain ⟨p, vs, rfl, r, h⟩ := srcv ba lo rp hds
    have hl := r.length
    refine ⟨p, vs, rfl, ?_⟩
    rcases h with ⟨_, h1, h2⟩ | ⟨_, h1, h2⟩
    · exact .inl ⟨h1, fun hz => q ds _ H1 hS (by rw [← hl, line_eq]; exact hz) e1 (wk_list r h2)⟩
    · exact .inr (.inl ⟨h1, fun hz => q ds _ H1 hS (by rw [← hl, line_eq]; exact hz) e1 (wk_tup r h2)⟩)
/-- with the bound of a line -/
theorem pe_bnd {e : Expr} {t : TE} (h : PE X e t) : PE X e (fun σ H Q => t σ H fun v H' => (∀ p xs, v = .ref p → SqL X.fw H' p xs ∨ SqT X.fw H' p xs → xs.length ≤ sizeLine) → Q v H') :=
  ⟨fun pins s σ H Q I q => thn (h.run pins s σ H _ I q) fun w s1 ⟨v, H1, I1, rv, q1⟩ => ⟨v, H1, I1, rv, q1 fun p xs _ hs => by
    rcases hs with hs | hs
    · exact (I1.list hs).elim fun _ z => z.2.2
    · exact (I1.tuple hs).elim fun _ z => z.2.2⟩⟩
theorem wk_zip {K : Fw} {p1 p2 : Addr} {vs ws : List V} {ds es : List D} {O : List Addr} {H1 : Hp} {G : List Addr → Hp → Prop} (hG : ∀ O' H', G O' H' → Dm O' H') (r : Rps K (hid O H1) vs ds) (r2 : Rps K (hid O H1) ws es)
    (hs : ∀ O' H', G O' H' → SqL K H' p1 vs ∧ Le (hid O H1) (hid O' H')) (hs2 : ∀ O' H', G O' H' → SqL K H' p2 ws ∧ Le (hid O H1) (hid O' H')) : Wk K (Itz K p1 p2) (zip2 ds es) G := fun O' H' g n => by
  obtain ⟨h1, l1⟩ := hs O' H' g
  obtain ⟨h2, l2⟩ := hs2 O' H' g
  refine ⟨fun d hd => ?_, fun h => ⟨vs, ws, h1, h2, ?_⟩⟩
  · obtain ⟨x, y, hx, hy, rfl⟩ := zip_get hd
    obtain ⟨v, hv, rv⟩ := r.getD hx
    obtain ⟨v2, hv2, rv2⟩ := r2.getD hy
    refine ⟨⟨vs, ws, v, v2, h1, h2, hv, hv2⟩, fun x H'' hy => ?_⟩
    obtain ⟨T, a, b, rfl, hT, rfl, k1, k2⟩ := hy
    have e1 := k1 vs h1
    have e2 := k2 ws h2
    rw [hv] at e1
    rw [hv2] at e2
    cases e1
    cases e2
    have l3 : Le (hid O' H') (hid O' (upd H' T (.tup [v, v2]))) := hid_le_mono (Le.new hT)
    exact ⟨Le.new hT, .tup (.inl (.inl (hid_in (fun hm => hG O' H' g T hm hT) (by simp [upd])))) (.cons (rv.mono (l1.trans l3)) (.cons (rv2.mono (l2.trans l3)) .nil))⟩
  · rw [zip_len, ← r.length, ← r2.length] at h
    omega
theorem wk_zipT {K : Fw} {p1 p2 : Addr} {vs ws : List V} {ds es : List D} {O : List Addr} {H1 : Hp} {G : List Addr → Hp → Prop} (hG : ∀ O' H', G O' H' → Dm O' H') (r : Rps K (hid O H1) vs ds) (r2 : Rps K (hid O H1) ws es)
    (hs : ∀ O' H', G O' H' → SqT K H' p1 vs ∧ Le (hid O H1) (hid O' H')) (hs2 : ∀ O' H', G O' H' → SqT K H' p2 ws ∧ Le (hid O H1) (hid O' H')) : Wk K (ItzT K p1 p2) (zip2 ds es) G := fun O' H' g n => by
  obtain ⟨h1, l1⟩ := hs O' H' g
  obtain ⟨h2, l2⟩ := hs2 O' H' g
  refine ⟨fun d hd => ?_, fun h => ⟨vs, ws, h1, h2, ?_⟩⟩
  · obtain ⟨x, y, hx, hy, rfl⟩ := zip_get hd
    obtain ⟨v, hv, rv⟩ := r.getD hx
    obtain ⟨v2, hv2, rv2⟩ := r2.getD hy
    refine ⟨⟨vs, ws, v, v2, h1, h2, hv, hv2⟩, fun x H'' hy => ?_⟩
    obtain ⟨T, a, b, rfl, hT, rfl, k1, k2⟩ := hy
    have e1 := k1 vs h1
    have e2 := k2 ws h2
    rw [hv] at e1
    rw [hv2] at e2
    cases e1
    cases e2
    have l3 : Le (hid O' H') (hid O' (upd H' T (.tup [v, v2]))) := hid_le_mono (Le.new hT)
    exact ⟨Le.new hT, .tup (.inl (.inl (hid_in (fun hm => hG O' H' g T hm hT) (by simp [upd])))) (.cons (rv.mono (l1.trans l3)) (.cons (rv2.mono (l2.trans l3)) .nil))⟩
  · rw [zip_len, ← r.length, ← r2.length] at h
    omega
theorem wk_zipM {K : Fw} {p1 p2 : Addr} {vs ws : List V} {ds es : List D} {O : List Addr} {H1 : Hp} {G : List Addr → Hp → Prop} (hG : ∀ O' H', G O' H' → Dm O' H') (r : Rps K (hid O H1) vs ds) (r2 : Rps K (hid O H1) ws es)
    (hs : ∀ O' H', G O' H' → SqL K H' p1 vs ∧ Le (hid O H1) (hid O' H')) (hs2 : ∀ O' H', G O' H' → SqT K H' p2 ws ∧ Le (hid O H1) (hid O' H')) : Wk K (ItzM K p1 p2) (zip2 ds es) G := fun O' H' g n => by
  obtain ⟨h1, l1⟩ := hs O' H' g
  obtain ⟨h2, l2⟩ := hs2 O' H' g
  refine ⟨fun d hd => ?_, fun h => ⟨vs, ws, h1, h2, ?_⟩⟩
  · obtain ⟨x, y, hx, hy, rfl⟩ := zip_get hd
    obtain ⟨v, hv, rv⟩ := r.getD hx
    obtain ⟨v2, hv2, rv2⟩ := r2.getD hy
    refine ⟨⟨vs, ws, v, v2, h1, h2, hv, hv2⟩, fun x H'' hy => ?_⟩
    obtain ⟨T, a, b, rfl, hT, rfl, k1, k2⟩ := hy
    have e1 := k1 vs h1
    have e2 := k2 ws h2
    rw [hv] at e1
    rw [hv2] at e2
    cases e1
    cases e2
    have l3 : Le (hid O' H') (hid O' (upd H' T (.tup [v, v2]))) := hid_le_mono (Le.new hT)
    exact ⟨Le.new hT, .tup (.inl (.inl (hid_in (fun hm => hG O' H' g T hm hT) (by simp [upd])))) (.cons (rv.mono (l1.trans l3)) (.cons (rv2.mono (l2.trans l3)) .nil))⟩
  · rw [zip_len, ← r.length, ← r2.length] at h
    omega
theorem zipD_some {d1 d2 : D} {ds : List D} (h : zipD d1 d2 = some ds) : ∃ xs ys, ds = zip2 xs ys ∧ ((d1 = .list xs ∧ d2 = .list ys) ∨ (d1 = .tuple xs ∧ d2 = .tuple ys) ∨ (d1 = .list xs ∧ d2 = .tuple ys)) := by
  cases d1 <;> cases d2 <;> simp [zipD] at h
  · exact ⟨_, _, h.symm, .inl ⟨rfl, rfl⟩⟩
  · exact ⟨_, _, h.symm, .inr (.inr ⟨rfl, rfl⟩)⟩
  · exact ⟨_, _, h.symm, .inr (.inl ⟨rfl, rfl⟩)⟩
theorem snd_zip (g : Gd P ct X k) {fz : Bool} {es : List Expr} {kk : Nat} {p tp : Pos} (hg : isGl ct "zip" = true) (hs : notStar x = true) (hs2 : notStar y = true) (ha : PE X x (tM P X.fw fz a)) (hb : PE X y (tM P X.fw fz b)) :
    PI X (.Tuple es kk tp) (.Call (.Name "zip" p) [x, y] [] pos) (tI P X.fw fz (.zip a b)) :=
  pi_imp (pi_zipM (g.gl hg) (g.blt _ (by decide)) (pa_cons ha (pa_cons (pe_bnd hb) pa_nil (star_cons hs2)) (star_cons hs)) (star_cons hs) (plain1 hs2)) fun σ H R q => by
    obtain ⟨O0, H0, O, ρ, S', S, es, ev, q⟩ := q
    have ev : P.ev a ρ fun x => P.ev b ρ fun y => wM.lift (zipD x y) S' := by unfold Pm.evS PV.evS at ev; exact ev
    rw [escW_zip] at es
    refine ⟨O0, H0, O, ρ, _, S, noOw_l es, ev, fun d v H1 hd e1 ba lo rp => ⟨O0, H0, O, ρ, _, S.ext e1, noOw_r es, hd, fun d2 v2 H2 hd e2 ba2 lo2 rp2 bnd => ?_⟩⟩
    obtain ⟨ds, hds, hS⟩ := wlift hd
    have ba1 := ba.ext e2 S.wo e1.2
    obtain ⟨xs, ys, rfl, h⟩ := zipD_some hds
    rcases h with ⟨rfl, rfl⟩ | ⟨rfl, rfl⟩ | ⟨rfl, rfl⟩
    · obtain ⟨p1, vs, rfl, r1, h1⟩ := srcv (fz := fz) (ds := xs) ba1 lo (fun z => (rp z).mono (e2.hid S.wo)) rfl
      obtain ⟨p2, ws, rfl, r2, h2⟩ := srcv (fz := fz) (ds := ys) ba2 lo2 rp2 rfl
      rcases h1 with ⟨_, h1, g1⟩ | ⟨z, _⟩
      · rcases h2 with ⟨_, h2, g2⟩ | ⟨z, _⟩
        · have hz := bnd p2 ws rfl (.inl h2)
          refine ⟨p1, p2, vs, ws, rfl, .inl ⟨h1, h2, q _ _ H2 hS ?_ (e1.trans e2) (wk_zip (fun _ _ z => z.1) r1 r2 g1 g2)⟩⟩
          rw [zip_len, ← r2.length, line_eq]
          omega
        · cases z
      · cases z
    · obtain ⟨p1, vs, rfl, r1, h1⟩ := srcv (fz := fz) (ds := xs) ba1 lo (fun z => (rp z).mono (e2.hid S.wo)) rfl
      obtain ⟨p2, ws, rfl, r2, h2⟩ := srcv (fz := fz) (ds := ys) ba2 lo2 rp2 rfl
      rcases h1 with ⟨z, _⟩ | ⟨_, h1, g1⟩
      · cases z
      · rcases h2 with ⟨z, _⟩ | ⟨_, h2, g2⟩
        · cases z
        · have hz := bnd p2 ws rfl (.inr h2)
          refine ⟨p1, p2, vs, ws, rfl, .inr (.inl ⟨h1, h2, q _ _ H2 hS ?_ (e1.trans e2) (wk_zipT (fun _ _ z => z.1) r1 r2 g1 g2)⟩)⟩
          rw [zip_len, ← r2.length, line_eq]
          omega
    · obtain ⟨p1, vs, rfl, r1, h1⟩ := srcv (fz := fz) (ds := xs) ba1 lo (fun z => (rp z).mono (e2.hid S.wo)) rfl
      obtain ⟨p2, ws, rfl, r2, h2⟩ := srcv (fz := fz) (ds := ys) ba2 lo2 rp2 rfl
      rcases h1 with ⟨_, h1, g1⟩ | ⟨z, _⟩
      · rcases h2 with ⟨z, _⟩ | ⟨_, h2, g2⟩
        · cases z
        · have hz := bnd p2 ws rfl (.inr h2)
          refine ⟨p1, p2, vs, ws, rfl, .inr (.inr ⟨h1, h2, q _ _ H2 hS ?_ (e1.trans e2) (wk_zipM (fun _ _ z => z.1) r1 r2 g1 g2)⟩)⟩
          rw [zip_len, ← r2.length, line_eq]
          omega
      · cases z
end

/-! ### slots -/
section
variable {K : Fw} {w : Wp} {iw : Nat} {O0 O : List Addr} {H0 H : Hp} {σ : L2.St} {ρ : Env}
/-- a slot is set to a value that others may hold -/
theorem Sim.setSh (S : Sim K w iw O0 H0 O H σ ρ) {i : Nat} {v : V} {d : D} (r : Rp K (hid O H) v d) (hi : i ≠ iw) : Sim K w iw O0 H0 O H (σ.set i (some v)) (ρ.set i (.sh d)) where
  len := by simp [S.len]
  slot := fun j s h => by
    by_cases e : i = j
    · subst e
      by_cases hl : i < ρ.length
      · rw [List.getElem?_set_self hl] at h
        cases h
        refine ⟨v, ?_, r⟩
        rw [List.getElem?_set_self (by rw [S.len]; exact hl)]
        rfl
      · rw [List.getElem?_eq_none (by simpa using hl)] at h
        cases h
    · rw [List.getElem?_set_ne e] at h ⊢
      exact S.slot j s h
  inj := fun j l d1 d2 p h1 h2 h3 h4 => by
    by_cases e : i = j
    · subst e
      by_cases hl : i < ρ.length
      · rw [List.getElem?_set_self hl] at h1
        cases h1
      · rw [List.getElem?_eq_none (by simpa using hl)] at h1
        cases h1
    · by_cases e2 : i = l
      · subst e2
        by_cases hl : i < ρ.length
        · rw [List.getElem?_set_self hl] at h2
          cases h2
        · rw [List.getElem?_eq_none (by simpa using hl)] at h2
          cases h2
      · rw [List.getElem?_set_ne e] at h1 h3
        rw [List.getElem?_set_ne e2] at h2 h4
        exact S.inj j l d1 d2 p h1 h2 h3 h4
  dom := S.dom
  dom0 := S.dom0
  sub := S.sub
  fresh := S.fresh
  ent := S.ent
  w0 := S.w0
  wO := S.wO
  wS := fun t ht => by
    rw [List.getElem?_set_ne hi, List.getElem?_set_ne hi]
    exact S.wS t ht
  own := fun j d p h1 h2 => by
    by_cases e : i = j
    · subst e
      by_cases hl : i < ρ.length
      · rw [List.getElem?_set_self hl] at h1
        cases h1
      · rw [List.getElem?_eq_none (by simpa using hl)] at h1
        cases h1
    · rw [List.getElem?_set_ne e] at h1 h2
      exact S.own j d p h1 h2
theorem wip_get {vs : List Nat} {ρ : Env} {j : Nat} : (wip vs ρ)[j]? = (ρ[j]?).map fun s => if vs.contains j then Slot.no else s := by
  unfold wip
  rw [List.getElem?_mapIdx]
theorem wipe_get {σ : L2.St} {j : Nat} : ∀ {vs : List Nat}, (wipe σ vs)[j]? = if j ∈ vs then (σ[j]?).map fun _ => none else σ[j]?
  | [] => by simp [wipe]
  | v :: vs => by
    unfold wipe
    by_cases e : v = j
    · subst e
      rw [if_pos (by simp)]
      by_cases hl : v < σ.length
      · rw [List.getElem?_set_self (by rw [wipe_length]; exact hl), List.getElem?_eq_getElem hl]
        rfl
      · rw [List.getElem?_eq_none (by rw [List.length_set, wipe_length]; omega), List.getElem?_eq_none (by omega)]
        rfl
    · rw [List.getElem?_set_ne e, wipe_get]
      have e' : ¬ j = v := fun z => e z.symm
      simp [e']
theorem wipe_idem {σ : L2.St} {vs : List Nat} : wipe (wipe σ vs) vs = wipe σ vs := by
  refine List.ext_getElem? fun j => ?_
  rw [wipe_get, wipe_get]
  by_cases h : j ∈ vs
  · rw [if_pos h, if_pos h]
    cases σ[j]? <;> rfl
  · rw [if_neg h, if_neg h]
theorem wipe_set {σ : L2.St} {vs : List Nat} {i : Nat} {x : Option V} (h : i ∈ vs) : wipe (σ.set i x) vs = wipe σ vs := by
  refine List.ext_getElem? fun j => ?_
  rw [wipe_get, wipe_get]
  by_cases hj : j ∈ vs
  · rw [if_pos hj, if_pos hj]
    by_cases e : i = j
    · subst e
      by_cases hl : i < σ.length
      · rw [List.getElem?_set_self hl, List.getElem?_eq_getElem hl]
        rfl
      · rw [List.getElem?_eq_none (by simpa using hl), List.getElem?_eq_none (by simpa using hl)]
    · rw [List.getElem?_set_ne e]
  · rw [if_neg hj, if_neg hj, List.getElem?_set_ne]
    intro e
    exact hj (by rw [← e]; exact h)
/-- names of a block forgotten -/
theorem Sim.wip (S : Sim K w iw O0 H0 O H σ ρ) {vs : List Nat} (hw : iw ∉ vs) : Sim K w iw O0 H0 O H (wipe σ vs) (PV.wip vs ρ) where
  len := by rw [wipe_length, S.len]; simp [PV.wip]
  slot := fun j s h => by
    rw [wip_get] at h
    rw [wipe_get]
    cases e : ρ[j]? with
    | none => rw [e] at h; cases h
    | some t =>
      rw [e] at h
      by_cases hj : j ∈ vs
      · have : Slot.no = s := by simpa [hj] using h
        subst this
        trivial
      · have : t = s := by simpa [hj] using h
        subst this
        rw [if_neg hj]
        exact S.slot j t e
  inj := fun j l d1 d2 p h1 h2 h3 h4 => by
    obtain ⟨q1, _⟩ := wipe_some h3
    obtain ⟨q2, _⟩ := wipe_some h4
    have k1 : ρ[j]? = some (.ow d1) := by
      rw [wip_get] at h1
      cases e : ρ[j]? with
      | none => rw [e] at h1; cases h1
      | some t =>
        rw [e] at h1
        by_cases hj : j ∈ vs
        · simp [hj] at h1
        · simpa [hj] using h1
    have k2 : ρ[l]? = some (.ow d2) := by
      rw [wip_get] at h2
      cases e : ρ[l]? with
      | none => rw [e] at h2; cases h2
      | some t =>
        rw [e] at h2
        by_cases hj : l ∈ vs
        · simp [hj] at h2
        · simpa [hj] using h2
    exact S.inj j l d1 d2 p k1 k2 q1 q2
  dom := S.dom
  dom0 := S.dom0
  sub := S.sub
  fresh := S.fresh
  ent := S.ent
  w0 := S.w0
  wO := S.wO
  wS := fun t ht => by
    obtain ⟨h1, h2⟩ := S.wS t ht
    rw [wipe_get, if_neg hw, wip_get, h2]
    exact ⟨h1, by simp⟩
  own := fun j d p h1 h2 => by
    obtain ⟨q1, _⟩ := wipe_some h2
    have k1 : ρ[j]? = some (.ow d) := by
      rw [wip_get] at h1
      cases e : ρ[j]? with
      | none => rw [e] at h1; cases h1
      | some t =>
        rw [e] at h1
        by_cases hj : j ∈ vs
        · simp [hj] at h1
        · simpa [hj] using h1
    exact S.own j d p k1 q1
theorem noOw_wip {vs us : List Nat} (h : NoOw us ρ) : NoOw us (wip vs ρ) := fun i hi => by
  have q := h i hi
  unfold getO at q ⊢
  rw [wip_get]
  cases e : ρ[i]? with
  | none => rfl
  | some t =>
    rw [e] at q
    by_cases hj : i ∈ vs
    · simp [hj, Slot.own?]
    · simpa [hj] using q
theorem noOw_set {us : List Nat} {i : Nat} {d : D} (h : NoOw us ρ) : NoOw us (ρ.set i (.sh d)) := fun j hj => by
  have q := h j hj
  unfold getO at q ⊢
  by_cases e : i = j
  · subst e
    by_cases hl : i < ρ.length
    · rw [List.getElem?_set_self hl]
      rfl
    · rw [List.getElem?_eq_none (by simpa using hl)]
      rfl
  · rw [List.getElem?_set_ne e]
    exact q
mutual
theorem noOw_bind {us : List Nat} : ∀ {p : Pat} {d : D} {ρ ρ' : Env}, bindP p d ρ = some ρ' → NoOw us ρ → NoOw us ρ'
  | .nm i, d, ρ, ρ', e, h => by
    unfold bindP at e
    cases e
    exact noOw_set h
  | .tp ps, d, ρ, ρ', e, h => by
    cases d <;> unfold bindP at e <;> first | cases e | exact noOw_binds e h
theorem noOw_binds {us : List Nat} : ∀ {ps : Pats} {ds : List D} {ρ ρ' : Env}, bindPs ps ds ρ = some ρ' → NoOw us ρ → NoOw us ρ'
  | .nil, ds, ρ, ρ', e, h => by
    cases ds <;> unfold bindPs at e <;> cases e
    exact h
  | .cons p ps, ds, ρ, ρ', e, h => by
    cases ds with
    | nil => unfold bindPs at e; cases e
    | cons d ds =>
      unfold bindPs at e
      cases q : bindP p d ρ with
      | none => rw [q] at e; cases e
      | some ρ1 => rw [q] at e; exact noOw_binds e (noOw_bind q h)
end
end

/-! ### targets -/
section
variable {P : Pm} {ct : Ct} {X : Cx} {k : Nat} {pos : Pos}
def tG (P : Pm) (K : Fw) (p : Pat) : TG := fun v σ H Q => ∃ O0 H0 O ρ d ρ', Sim K P.w P.iw O0 H0 O H σ ρ ∧ Rp K (hid O H) v d ∧ bindP p d ρ = some ρ' ∧ ∀ σ', Sim K P.w P.iw O0 H0 O H σ' ρ' → (∀ vs, (∀ i ∈ p.ns, i ∈ vs) → wipe σ' vs = wipe σ vs) → Q σ' H
def tGs (P : Pm) (K : Fw) (ps : Pats) : TGs := fun us σ H Q => ∃ O0 H0 O ρ ds ρ', Sim K P.w P.iw O0 H0 O H σ ρ ∧ Rps K (hid O H) us ds ∧ bindPs ps ds ρ = some ρ' ∧ ∀ σ', Sim K P.w P.iw O0 H0 O H σ' ρ' → (∀ vs, (∀ i ∈ ps.ns, i ∈ vs) → wipe σ' vs = wipe σ vs) → Q σ' H
theorem pg_imp {e : Expr} {t t' : TG} (h : PG X e t') (k : ∀ v σ H Q, t v σ H Q → t' v σ H Q) : PG X e t := ⟨fun pins s σ H v u Q I r q => h.run pins s σ H v u Q I r (k v σ H Q q)⟩
theorem pgs_imp {es : List Expr} {t t' : TGs} (h : PGs X es t') (k : ∀ v σ H Q, t v σ H Q → t' v σ H Q) : PGs X es t := ⟨fun pins s σ H v u Q I r q => h.run pins s σ H v u Q I r (k v σ H Q q)⟩
theorem as_cons {e : Expr} {es : List Expr} {env : PySem.Env} (h : notStar e = true) : assignEach (e :: es) env = (false, assign e env) :: assignEach es env := by
  cases e <;> first | rfl | (simp [notStar] at h)
theorem as_len {ct : Ct} {env : PySem.Env} : ∀ {ps : Pats} {es : List Expr}, chkPs ct ps es = true → (assignEach es env).findIdx? (·.1) = none ∧ ∀ ds ρ ρ', bindPs ps ds ρ = some ρ' → ds.length = (assignEach es env).length
  | .nil, [], _ => ⟨rfl, fun ds ρ ρ' h => by cases ds <;> unfold bindPs at h <;> first | rfl | cases h⟩
  | .nil, _ :: _, h => by unfold chkPs at h; cases h
  | .cons p ps, [], h => by unfold chkPs at h; cases h
  | .cons p ps, e :: es, h => by
    unfold chkPs at h
    rw [Bool.and_eq_true, Bool.and_eq_true] at h
    obtain ⟨h1, h2, h3⟩ := h
    obtain ⟨k1, k2⟩ := as_len (env := env) h3
    rw [as_cons h1]
    refine ⟨by rw [List.findIdx?_cons, k1]; rfl, fun ds ρ ρ' hb => ?_⟩
    cases ds with
    | nil => unfold bindPs at hb; cases hb
    | cons d ds =>
      unfold bindPs at hb
      cases q : bindP p d ρ with
      | none => rw [q] at hb; cases hb
      | some ρ1 =>
        rw [q] at hb
        simp [k2 ds ρ1 ρ' hb]
mutual
theorem snd_pat (g : Gd P ct X k) : ∀ {p : Pat} {e : Expr}, chkP ct p e = true → PG X e (tG P X.fw p)
  | .nm i, e, h => by
    unfold chkP at h
    cases hv : vName e with
    | none => rw [hv] at h; cases h
    | some x =>
      rw [hv] at h
      obtain ⟨p, rfl⟩ := vName_eq hv
      simp only [Bool.and_eq_true, beq_iff_eq, Bool.not_eq_true', beq_eq_false_iff_ne] at h
      obtain ⟨⟨h1, h2⟩, h3⟩ := h
      obtain ⟨l, hf⟩ := g.sto x h2
      refine pg_imp (pg_name (by rw [g.hN]; exact g.nd) (by rw [g.hN]; exact h1) l hf) fun v σ H Q q => ?_
      obtain ⟨O0, H0, O, ρ, d, ρ', S, r, hb, q⟩ := q
      unfold bindP at hb
      cases hb
      exact q _ (S.setSh r (by rw [← g.hiw]; exact h3)) fun vs hvs => wipe_set (hvs i (by simp [Pat.ns]))
  | .tp ps, e, h => by
    unfold chkP at h
    cases hv : vTup e with
    | none => rw [hv] at h; cases h
    | some es =>
      rw [hv] at h
      obtain ⟨j, p, rfl⟩ := vTup_eq hv
      obtain ⟨k1, k2⟩ := as_len (env := X.env) h
      refine pg_imp (pg_tup g.calm (snd_pats g h) rfl k1) fun v σ H Q q => ?_
      obtain ⟨O0, H0, O, ρ, d, ρ', S, r, hb, q⟩ := q
      cases r with
      | @tup a xs ds hs rs =>
        have hb : bindPs ps ds ρ = some ρ' := by unfold bindP at hb; exact hb
        exact ⟨a, xs, rfl, (hid_le O H).st hs, by rw [rs.length]; exact k2 ds ρ ρ' hb, O0, H0, O, ρ, ds, ρ', S, rs, hb, fun σ' S' hw => q σ' S' fun vs hvs => hw vs (by simpa [Pat.ns] using hvs)⟩
      | _ => unfold bindP at hb; cases hb
theorem snd_pats (g : Gd P ct X k) : ∀ {ps : Pats} {es : List Expr}, chkPs ct ps es = true → PGs X es (tGs P X.fw ps)
  | .nil, [], _ => pgs_imp pgs_nil fun v σ H Q q => by
    obtain ⟨O0, H0, O, ρ, d, ρ', S, r, hb, q⟩ := q
    cases r with
    | nil =>
      unfold bindPs at hb
      cases hb
      exact ⟨rfl, q σ S fun _ _ => rfl⟩
    | cons _ _ => unfold bindPs at hb; cases hb
  | .nil, _ :: _, h => by unfold chkPs at h; cases h
  | .cons p ps, [], h => by unfold chkPs at h; cases h
  | .cons p ps, e :: es, h => by
    unfold chkPs at h
    rw [Bool.and_eq_true, Bool.and_eq_true] at h
    obtain ⟨h1, h2, h3⟩ := h
    refine pgs_imp (pgs_cons (snd_pat g h2) (snd_pats g h3) (by rw [as_cons h1]; rfl)) fun v σ H Q q => ?_
    obtain ⟨O0, H0, O, ρ, d, ρ', S, r, hb, q⟩ := q
    cases r with
    | nil => unfold bindPs at hb; cases hb
    | cons r rs =>
      unfold bindPs at hb
      rename_i dd ds
      cases hq : bindP p dd ρ with
      | none => rw [hq] at hb; cases hb
      | some ρ1 =>
        rw [hq] at hb
        refine ⟨_, _, rfl, O0, H0, O, ρ, _, ρ1, S, r, hq, fun σ1 S1 hw1 => ⟨O0, H0, O, ρ1, _, ρ', S1, rs, hb, fun σ2 S2 hw2 => q σ2 S2 fun vs hvs => ?_⟩⟩
        rw [hw2 vs fun i hi => hvs i (by simp [Pats.ns, hi]), hw1 vs fun i hi => hvs i (by simp [Pats.ns, hi])]
end
end
end PV

set_option maxHeartbeats 4000000
/-! PV: comprehensions. -/
namespace PV
open PySem L2 RZ

theorem lookup_rel {k : NameKind} {sc : Scope} {x : Str} (hk : k ≠ .free) : ∀ {l : List (Str × NameKind)}, l.lookup x = some k → (l.map fun (n, k) => if (k == .free && sc.kind == .function && sc.names.lookup n == some .cell) then (n, NameKind.cell) else (n, k)).lookup x = some k
  | [], h => by cases h
  | (n, j) :: r, h => by
    rw [List.lookup_cons] at h
    rw [List.map_cons]
    cases hb : x == n with
    | true =>
      rw [hb] at h
      cases h
      have e : (k == NameKind.free) = false := by cases k <;> first | rfl | exact absurd rfl hk
      simp only [e, Bool.false_and, Bool.false_eq_true, if_false]
      rw [List.lookup_cons, hb]
    | false =>
      rw [hb] at h
      have ih := lookup_rel (sc := sc) hk (l := r) h
      by_cases hc : (j == NameKind.free && sc.kind == .function && sc.names.lookup n == some .cell) = true
      · simp only [hc, if_true]
        rw [List.lookup_cons, hb]
        exact ih
      · simp only [Bool.not_eq_true] at hc
        simp only [hc, Bool.false_eq_true, if_false]
        rw [List.lookup_cons, hb]
        exact ih
section
variable {P : Pm} {ct : Ct} {X : Cx} {k : Nat}
theorem Gd.blk (g : Gd P ct X k) (scope : Scope) (s : Shared) (H : Hp) (C : Addr) (cl : List (Str × Addr)) (fp : List Addr) : Gd P (ct.blk scope) (X.blk s H scope (compEnvC scope cl C X.env) fp) k where
  hN := g.hN
  nd := g.nd
  hsc := by
    show relS scope X.env.scope = relS scope ct.sc
    rw [g.hsc]
  hiw := g.hiw
  calm := g.calm
  room := g.room
  blt := g.blt
  sto := fun x hx => by
    have hx : isLoc scope x = true := hx
    unfold isLoc at hx
    rw [Bool.or_eq_true, beq_iff_eq, beq_iff_eq] at hx
    rcases hx with h | h
    · exact ⟨.inl (lookup_rel (by decide) h), .inr (lookup_rel (by decide) h)⟩
    · refine ⟨.inr (lookup_rel (by decide) h), .inl ?_⟩
      show (scope.names.lookup x == some .cell) = true
      rw [h]
      rfl
  fns := g.fns
  hws := g.hws
  gls := g.gls
theorem ownP_ix {own : List Nat} {p : Str × Nat} (h : p ∈ ownP ct own) : ct.N[p.2]? = some p.1 := by
  unfold ownP at h
  obtain ⟨i, _, h⟩ := List.mem_filterMap.mp h
  cases e : ct.N[i]? with
  | none => rw [e] at h; cases h
  | some x =>
    rw [e] at h
    cases h
    exact e
theorem blk_ok (g : Gd P ct X k) {scope : Scope} {own : List Nat} (h : blkB ct scope own = true) : BlkOk X.N X.env.scope scope (ownP ct own) ∧ (ownP ct own).map (·.2) = own ∧ P.iw ∉ own := by
  unfold blkB at h
  simp only [Bool.and_eq_true] at h
  obtain ⟨⟨⟨⟨⟨h1, h2⟩, h3⟩, h4⟩, h5⟩, h6⟩ := h
  refine ⟨⟨by simpa using h1, fun y hy => ?_, fun p hp => by rw [g.hN]; exact ownP_ix hp, fun y hy e => ?_, fun y hy e => ?_⟩, by simpa using h3, ?_⟩
  · exact beq_iff_eq.mp (List.all_eq_true.mp h2 y hy)
  · have q := List.all_eq_true.mp h4 y hy
    rw [e] at q
    rw [g.hsc]
    simpa using q
  · have q := List.all_eq_true.mp h5 y hy
    rw [g.hN]
    have e2 : (y.2 == NameKind.local || y.2 == NameKind.cell) = true := by rcases e with e | e <;> rw [e] <;> rfl
    rw [e2] at q
    have q : ((ownP ct own).any (fun p => p.1 == y.1) || !ct.N.contains y.1) = true := by simpa using q
    rw [Bool.or_eq_true] at q
    rcases q with q | q
    · obtain ⟨p, hp, e3⟩ := List.any_eq_true.mp q
      exact .inl (List.mem_map.mpr ⟨p, hp, beq_iff_eq.mp e3⟩)
    · exact .inr (by simpa using q)
  · rw [← g.hiw]
    simpa using h6
end

/-! ### a loop that fills the list at D -/
def XD (w : Wp) (D : Addr) (Hs H' : Hp) : Prop := (∀ a o, ¬ w.is a → a ≠ D → Hs a = some o → H' a = some o) ∧ WOk w H'
theorem XD.ext {w : Wp} {D : Addr} {Hs H H' : Hp} (x : XD w D Hs H) (e : Ext w H H') : XD w D Hs H' := ⟨fun a o h1 h2 h3 => e.1 a o h1 (x.1 a o h1 h2 h3), e.2⟩
theorem is_dK {w : Wp} {H : Hp} {a : Addr} (wk : WOk w H) (h : w.is a) : ∃ kvs, H a = some (.dK kvs) := by
  obtain ⟨t, ht, rfl⟩ := h
  rw [ht] at wk
  obtain ⟨j, _, h1, _⟩ := wk
  exact ⟨_, h1⟩
theorem XD.upd {w : Wp} {D : Addr} {Hs H : Hp} {o : HO} (x : XD w D Hs H) (hD : ∀ t, w = some t → D ≠ t.1 ∧ D ≠ t.2.1) : XD w D Hs (upd H D o) := by
  refine ⟨fun a u h1 h2 h3 => ?_, ?_⟩
  · rw [upd_ne h2]
    exact x.1 a u h1 h2 h3
  · have wk := x.2
    cases w with
    | none => trivial
    | some t =>
      obtain ⟨pw, pd, ns⟩ := t
      obtain ⟨k1, k2⟩ := hD _ rfl
      obtain ⟨j, h0, h1, h2⟩ := wk
      exact ⟨j, h0, by rw [upd_ne (fun z => k1 z.symm)]; exact h1, by rw [upd_ne (fun z => k2 z.symm)]; exact h2⟩
theorem lc_loop {K : Fw} {w : Wp} {O : List Addr} {J : It} {ds : List D} {G : List Addr → Hp → Prop} {Hs : Hp} {D : Addr} (F : List PV.D → List PV.D → Prop) (Fin : Hp → Prop) (B : V → Hp → (Hp → Prop) → Prop)
    (wk : Wk K J ds G) (hG : ∀ H', XD w D Hs H' → Dm O H' → G O H') (dm : Dm O Hs) (wok : WOk w Hs) {acc0 : List V} {as0 : List PV.D} (h0 : Hs D = some (.lst acc0)) (r0 : Rps K (hid O Hs) acc0 as0) (f0 : F ds as0)
    (fin : ∀ H' acc as, XD w D Hs H' → Dm O H' → H' D = some (.lst acc) → Rps K (hid O H') acc as → F [] as → Fin H')
    (body : ∀ d rest H' acc as x, XD w D Hs H' → Dm O H' → H' D = some (.lst acc) → Rps K (hid O H') acc as → Rp K (hid O H') x d → F (d :: rest) as → ∀ Nx : Hp → Prop, (∀ H'' acc' as', XD w D Hs H'' → H'' D = some (.lst acc') → Rps K (hid O H'') acc' as' → F rest as' → Nx H'') → B x H' Nx) :
    ∃ W : Nat → Nat → Hp → Prop, (∃ m, W 0 m Hs) ∧ ∀ i m H, W i m H → (J.stop i H ∧ Fin H) ∨ (J.go i H ∧ ∃ Nx : Hp → Prop, (∀ H', Nx H' → ∃ m', m' < m ∧ W (i + 1) m' H') ∧ ∀ x H', J.yld i H x H' → B x H' Nx) := by
  have dmX : ∀ {H' : Hp} {acc : List V}, XD w D Hs H' → H' D = some (.lst acc) → Dm O H' := fun {H' acc} x hd p hp hn => by
    by_cases e : p = D
    · subst e
      rw [hd] at hn
      cases hn
    · by_cases hw : w.is p
      · obtain ⟨kvs, z⟩ := is_dK x.2 hw
        rw [z] at hn
        cases hn
      · cases q : Hs p with
        | none => exact dm p hp q
        | some o => rw [x.1 p o hw e q] at hn; cases hn
  refine ⟨fun i m H' => i + m = ds.length ∧ ∃ acc as, XD w D Hs H' ∧ H' D = some (.lst acc) ∧ Rps K (hid O H') acc as ∧ F (ds.drop i) as, ⟨ds.length, by omega, acc0, as0, ⟨fun _ _ _ _ q => q, wok⟩, h0, r0, f0⟩, fun i m H' h => ?_⟩
  obtain ⟨hm, acc, as, x, hd, r, f⟩ := h
  have dm' := dmX x hd
  obtain ⟨wk1, wk2⟩ := wk O H' (hG H' x dm') i
  by_cases hi : i < ds.length
  · have hget : ds[i]? = some ds[i] := List.getElem?_eq_getElem hi
    obtain ⟨go, yl⟩ := wk1 _ hget
    refine .inr ⟨go, fun H'' => ∃ acc as, XD w D Hs H'' ∧ H'' D = some (.lst acc) ∧ Rps K (hid O H'') acc as ∧ F (ds.drop (i + 1)) as, fun H'' h => ⟨m - 1, by omega, by omega, h⟩, fun v H'' hy => ?_⟩
    obtain ⟨le, rp⟩ := yl v H'' hy
    have x2 : XD w D Hs H'' := x.ext (Ext.of_le x.2 le)
    rw [List.drop_eq_getElem_cons hi] at f
    exact body _ _ H'' acc as v x2 (dmX x2 (le _ _ hd)) (le _ _ hd) (r.mono (hid_le_mono le)) rp f _ fun H3 acc' as' x3 d3 r3 f3 => ⟨acc', as', x3, d3, r3, f3⟩
  · refine .inl ⟨wk2 (by omega), ?_⟩
    rw [List.drop_eq_nil_of_le (by omega)] at f
    exact fin H' acc as x dm' hd r f

section
variable {P : Pm} {ct : Ct} {X : Cx} {k : Nat} {K : Fw} {O0 O : List Addr} {H0 H : Hp} {σ : L2.St} {ρ : Env}
theorem Sim.grow {w : Wp} {iw : Nat} {D : Addr} {H1 H' : Hp} (S : Sim K w iw O0 H0 O H1 σ ρ) (hD : H1 D = none) (e : Ext w H1 H') (hD' : H' D ≠ none) : Sim K w iw O0 H0 (D :: O) H' σ ρ := by
  have le : Le (hid O H1) (hid (D :: O) H') := fun a o h => by
    have h1 := hid_out h
    have h2 := hid_le O H1 _ _ h
    have ne : a ≠ D := fun z => by subst z; rw [hD] at h2; cases h2
    exact hid_in (by simp [ne, h1]) (e.1 a o (fun z => h1 (S.wo a z)) h2)
  refine ⟨S.len, fun i s h => ?_, S.inj, fun p hp => ?_, S.dom0, fun p hp => List.mem_cons_of_mem _ (S.sub p hp), fun p hp => ?_, S.ent.trans e, S.w0, S.wO, S.wS, S.own⟩
  · have q := S.slot i s h
    cases s with
    | no => trivial
    | fx v => exact q
    | sh d =>
      obtain ⟨v, e1, r⟩ := q
      exact ⟨v, e1, r.mono le⟩
    | ow d =>
      obtain ⟨p, e1, hp, u, hH, r⟩ := q
      refine ⟨p, e1, List.mem_cons_of_mem _ hp, u, e.1 p _ (fun hw => ?_) hH, r.mono le⟩
      obtain ⟨kvs, z⟩ := is_dK S.wok hw
      rw [z] at hH
      exact r.ndK _ (Option.some.inj hH).symm
  · rcases List.mem_cons.mp hp with rfl | hp
    · exact hD'
    · exact (S.ext e).dom p hp
  · rcases List.mem_cons.mp hp with rfl | hp
    · cases q : H0 p with
      | none => exact .inr rfl
      | some o =>
        by_cases hw : w.is p
        · exact .inl (S.wO p hw)
        · rw [S.ent.1 p o hw q] at hD
          cases hD
    · exact S.fresh p hp
/-- the heap goes on, the object at D (no slot's) changes -/
theorem Sim.xd {w : Wp} {iw : Nat} {D : Addr} {Hs H' : Hp} (S : Sim K w iw O0 H0 O Hs σ ρ) (hDO : D ∈ O) (hn : ¬ SlOw σ ρ D) (x : XD w D Hs H') (hD' : H' D ≠ none) (h0 : H0 D = none) : Sim K w iw O0 H0 O H' σ ρ := by
  have le : Le (hid O Hs) (hid O H') := fun a o h => by
    have h1 := hid_out h
    exact hid_in h1 (x.1 a o (fun z => h1 (S.wo a z)) (fun z => h1 (by rw [z]; exact hDO)) (hid_le O Hs _ _ h))
  refine ⟨S.len, fun i s h => ?_, S.inj, fun p hp => ?_, S.dom0, S.sub, S.fresh, ⟨fun a o h1 h2 => ?_, x.2⟩, S.w0, S.wO, S.wS, S.own⟩
  · have q := S.slot i s h
    cases s with
    | no => trivial
    | fx v => exact q
    | sh d =>
      obtain ⟨v, e1, r⟩ := q
      exact ⟨v, e1, r.mono le⟩
    | ow d =>
      obtain ⟨p, e1, hp, u, hH, r⟩ := q
      refine ⟨p, e1, hp, u, x.1 p _ (fun hw => ?_) (fun z => hn ⟨i, d, h, by rw [← z]; exact join_some e1⟩) hH, r.mono le⟩
      obtain ⟨kvs, z⟩ := is_dK S.wok hw
      rw [z] at hH
      exact r.ndK _ (Option.some.inj hH).symm
  · intro hz
    by_cases e : p = D
    · subst e
      exact hD' hz
    · by_cases hw : w.is p
      · obtain ⟨kvs, z⟩ := is_dK x.2 hw
        rw [z] at hz
        cases hz
      · cases q : Hs p with
        | none => exact S.dom p hp q
        | some o => rw [x.1 p o hw e q] at hz; cases hz
  · exact x.1 a o h1 (fun z => by rw [z, h0] at h2; cases h2) (S.ent.1 a o h1 h2)
mutual
theorem ow_bind {i : Nat} {z : D} : ∀ {p : Pat} {d : D} {ρ ρ' : Env}, bindP p d ρ = some ρ' → ρ'[i]? = some (.ow z) → ρ[i]? = some (.ow z)
  | .nm j, d, ρ, ρ', e, h => by
    unfold bindP at e
    cases e
    by_cases hj : j = i
    · subst hj
      by_cases hl : j < ρ.length
      · rw [List.getElem?_set_self hl] at h
        cases h
      · rw [List.getElem?_eq_none (by simpa using hl)] at h
        cases h
    · rw [List.getElem?_set_ne hj] at h
      exact h
  | .tp ps, d, ρ, ρ', e, h => by
    cases d <;> unfold bindP at e <;> first | cases e | exact ow_binds e h
theorem ow_binds {i : Nat} {z : D} : ∀ {ps : Pats} {ds : List D} {ρ ρ' : Env}, bindPs ps ds ρ = some ρ' → ρ'[i]? = some (.ow z) → ρ[i]? = some (.ow z)
  | .nil, ds, ρ, ρ', e, h => by
    cases ds <;> unfold bindPs at e <;> cases e
    exact h
  | .cons p ps, ds, ρ, ρ', e, h => by
    cases ds with
    | nil => unfold bindPs at e; cases e
    | cons d ds =>
      unfold bindPs at e
      cases q : bindP p d ρ with
      | none => rw [q] at e; cases e
      | some ρ1 => rw [q] at e; exact ow_bind q (ow_binds e h)
end
theorem slOw_bind {p : Pat} {d : D} {vs : List Nat} {ρ ρ1 : Env} {σ σ2 : L2.St} (hb : bindP p d (wip vs ρ) = some ρ1) (hw : wipe σ2 vs = wipe (wipe σ vs) vs) {q : Addr} (h : SlOw σ2 ρ1 q) : SlOw σ ρ q := by
  obtain ⟨i, z, h1, h2⟩ := h
  have h3 := ow_bind hb h1
  rw [wip_get] at h3
  have hi : i ∉ vs := fun hm => by
    cases e : ρ[i]? with
    | none => rw [e] at h3; cases h3
    | some t => rw [e] at h3; simp [hm] at h3
  refine ⟨i, z, ?_, ?_⟩
  · cases e : ρ[i]? with
    | none => rw [e] at h3; cases h3
    | some t => rw [e] at h3; simpa [hi] using h3
  · have e := congrArg (fun l : L2.St => l[i]?) hw
    simp only [wipe_get, if_neg hi] at e
    rw [← e]
    exact h2
/-- a slot's own list stays -/
theorem slOw_keep {w : Wp} {iw : Nat} {D : Addr} {H1 H' : Hp} (S : Sim K w iw O0 H0 O H1 σ ρ) {p : Addr} (h : SlOw σ ρ p) (hn : p ≠ D) (x : ∀ a o, ¬ w.is a → a ≠ D → H1 a = some o → H' a = some o) : H' p = H1 p := by
  obtain ⟨i, z, h1, h2⟩ := h
  obtain ⟨q, e1, hp, u, hH, r⟩ := S.slot i _ h1
  rw [h2] at e1
  cases e1
  rw [hH]
  refine x p _ (fun hw => ?_) hn hH
  obtain ⟨kvs, z⟩ := is_dK S.wok hw
  rw [z] at hH
  exact r.ndK _ (Option.some.inj hH).symm
theorem slOw_some {w : Wp} {iw : Nat} {H1 : Hp} (S : Sim K w iw O0 H0 O H1 σ ρ) {p : Addr} (h : SlOw σ ρ p) : H1 p ≠ none := by
  obtain ⟨i, z, h1, h2⟩ := h
  obtain ⟨q, e1, hp, u, hH, r⟩ := S.slot i _ h1
  rw [h2] at e1
  cases e1
  rw [hH]
  simp
theorem wD {w : Wp} {H1 : Hp} {D : Addr} (wk : WOk w H1) (h : H1 D = none) : ∀ t, w = some t → D ≠ t.1 ∧ D ≠ t.2.1 := fun t ht => by
  subst ht
  obtain ⟨pw, pd, ns⟩ := t
  obtain ⟨j, h0, h1, h2⟩ := wk
  exact ⟨fun z => (show False from by rw [z, h1] at h; cases h), fun z => (show False from by rw [z, h2] at h; cases h)⟩

/-- one turn: target, test, element -/
abbrev gStep (P : Pm) (p : Pat) (t elt : E) (ρb : Env) (d : D) : W (Option D) := wM.bind (wM.lift (bindP p d ρb)) fun ρ1 => wM.bind (PV.ev wM P.C P.F P.G t ρ1) fun x => wM.bind (wM.lift (bool? x)) fun b => if b = true then wM.bind (PV.ev wM P.C P.F P.G elt ρ1) fun y => wM.pure (some y) else wM.pure none
theorem body_of {p : Pat} {t elt : E} {vs : List Nat} {H' : Hp} {x : V} {d : D} {R : Option D → Prop} {D : Addr} {Nx : Hp → Prop} (S : Sim K P.w P.iw O0 H0 O H' (wipe σ vs) ρ) (rp : Rp K (hid O H') x d) (hc : gStep P p t elt ρ d R)
    (hns : NoOw (esc true t ++ esc false elt) ρ) (hw : ∀ i ∈ p.ns, i ∈ vs) (n0 : ∀ H3, Ext P.w H' H3 → R none → Nx H3)
    (n1 : ∀ H4 v y, Ext P.w H' H4 → Rp K (hid O H4) v y → R (some y) → ∃ acc, H4 D = some (.lst acc) ∧ acc.length < sizeLine ∧ Nx (upd H4 D (.lst (acc ++ [v])))) :
    tG P K p x (wipe σ vs) H' fun σ2 H2 => wipe σ2 vs = wipe σ vs ∧ tT P K t σ2 H2 fun b H3 => if b = true then tE P K elt σ2 H3 fun y H4 => ∃ acc, H4 D = some (.lst acc) ∧ acc.length < sizeLine ∧ Nx (upd H4 D (.lst (acc ++ [y]))) else Nx H3 := by
  obtain ⟨ρ1, hb, hc⟩ := wbind hc
  refine ⟨O0, H0, O, ρ, d, ρ1, S, rp, hb, fun σ2 S2 hw2 => ⟨(hw2 vs hw).trans wipe_idem, O0, H0, O, ρ1, _, S2, noOw_bind hb (noOw_l hns), hc, fun d2 H3 hd e3 => ?_⟩⟩
  obtain ⟨b, hb2, hd⟩ := wbind hd
  refine ⟨b, hb2, ?_⟩
  cases b with
  | false => exact n0 H3 e3 hd
  | true => exact ⟨O0, H0, O, ρ1, _, S2.ext e3, noOw_bind hb (noOw_r hns), hd, fun y v H4 hy e4 res => n1 H4 v y (e3.trans e4) res.1 hy⟩
def ol (o : Option D) (ys : List D) : List D := match o with
  | some y => y :: ys
  | none => ys
theorem compL_cons {g : D → W (Option D)} {d : D} {rest : List D} {R : List D → Prop} (h : compL wM g (d :: rest) R) : g d fun o => compL wM g rest fun ys => R (ol o ys) := by
  unfold compL at h
  have e : (fun (o : Option D) (ys : List D) => wM.pure (match o with
    | some y => y :: ys
    | none => ys)) = fun o ys => wM.pure (ol o ys) := by
    funext o ys
    cases o <;> rfl
  have h' : wM.bind (g d) (fun o => wM.bind (compL wM g rest) ((fun (o : Option D) (ys : List D) => wM.pure (match o with
    | some y => y :: ys
    | none => ys)) o)) R := h
  rw [e] at h'
  exact h'
theorem comp_q {own : List Nat} {p : Pat} {s : Src} {t elt : E} (hp : ∀ i ∈ p.ns, i ∈ own) (hiw : P.iw ∉ own) {σ : L2.St} {H : Hp} {Q : VK} (q : tE P X.fw (.comp own p s t elt) σ H Q) : tLc (tI P X.fw false s) (tG P X.fw p) (tT P X.fw t) (tE P X.fw elt) own σ H Q := by
  obtain ⟨O0, H0, O, ρ, R, S, es, ev, q⟩ := q
  have es : NoOw (escS s ++ (esc true t ++ esc false elt)) ρ := by simpa [esc] using es
  have ev : P.evS s ρ fun xs => compL wM (gStep P p t elt (PV.wip own ρ)) xs fun ys => R (.list ys) := by unfold Pm.ev PV.ev at ev; exact ev
  refine ⟨O0, H0, O, ρ, _, S, noOw_l es, ev, fun ds J H1 hd hl e1 wk D hD => ?_⟩
  have S1 := S.ext e1
  have hDO : D ∉ O := fun hm => S1.dom D hm hD
  have hu : (upd H1 D (.lst [])) D = some (.lst []) := by simp [upd]
  have xx : ∀ {H'}, XD P.w D (upd H1 D (.lst [])) H' → Ext P.w H1 H' := fun {H'} x => ⟨fun a o h1 h2 => by
    have ne : a ≠ D := fun z => by rw [z, hD] at h2; cases h2
    exact x.1 a o h1 ne (by rw [upd_ne ne]; exact h2), x.2⟩
  have dm0 : Dm (D :: O) (upd H1 D (.lst [])) := fun a ha hn => by
    by_cases e : a = D
    · subst e; rw [hu] at hn; cases hn
    · rw [upd_ne e] at hn
      rcases List.mem_cons.mp ha with z | z
      · exact e z
      · exact S1.dom a z hn
  refine lc_loop (K := X.fw) (w := P.w) (O := D :: O) (G := Gk false σ ρ O H1) (fun rest as => as.length + rest.length ≤ LINE ∧ compL wM (gStep P p t elt (PV.wip own ρ)) rest fun ys => R (.list (as ++ ys))) (fun H' => Q (.ref D) H')
    (fun x H' Nx => tG P X.fw p x (wipe σ own) H' fun σ2 H2 => wipe σ2 own = wipe σ own ∧ tT P X.fw t σ2 H2 fun b H3 => if b = true then tE P X.fw elt σ2 H3 fun y H4 => ∃ acc, H4 D = some (.lst acc) ∧ acc.length < sizeLine ∧ Nx (upd H4 D (.lst (acc ++ [y]))) else Nx H3)
    wk (fun H' x dm => ⟨dm, fun a o h => ?_, fun _ p hp => ?_⟩) dm0 ((Ext.new S1.wok hD).2) hu .nil ⟨by simpa using hl, hd⟩ (fun H' acc as x dm hd' r f => ?_) (fun d rest H' acc as x xd dm hd' r rp f Nx nx => ?_)
  · have h1 := hid_out h
    have h2 := hid_le O H1 _ _ h
    have ne : a ≠ D := fun z => by rw [z, hD] at h2; cases h2
    exact hid_in (by simp [ne, h1]) ((xx x).1 a o (fun z => h1 (S1.wo a z)) h2)
  · exact slOw_keep (D := D) S1 hp (fun z => slOw_some S1 hp (by rw [z]; exact hD)) fun a o h1 h2 h3 => (xx x).1 a o h1 h3
  · have hR : R (.list (as ++ [])) := f.2
    rw [List.append_nil] at hR
    refine q _ _ _ hR (e1.trans (xx x)) ⟨.lst (hid_in hDO hd') (r.mono (hid_sub fun a ha => List.mem_cons_of_mem _ ha)), fun _ _ => ?_⟩
    exact FrP.back (H1 := H1) ⟨D, _, rfl, hD, hd', .lst r⟩ e1
  · obtain ⟨fl, fc⟩ := f
    have SD : Sim X.fw P.w P.iw O0 H0 (D :: O) H' (wipe σ own) (PV.wip own ρ) := (S1.grow hD (xx xd) (by rw [hd']; simp)).wip hiw
    have hwD := wD S1.wok hD
    refine body_of (R := fun o => compL wM (gStep P p t elt (PV.wip own ρ)) rest fun ys => R (.list (as ++ ol o ys))) SD rp (compL_cons fc) (noOw_wip (noOw_r es)) hp (fun H3 e3 h => ?_) (fun H4 v y e4 ry h => ?_)
    · refine nx H3 acc as (xd.ext e3) (e3.1 D _ (fun z => ?_) hd') (r.mono (e3.hid SD.wo)) ⟨by simp only [List.length_cons] at fl; omega, h⟩
      obtain ⟨kvs, q⟩ := is_dK xd.2 z
      rw [hd'] at q
      cases q
    · have h4 : H4 D = some (.lst acc) := e4.1 D _ (fun z => by
        obtain ⟨kvs, q⟩ := is_dK xd.2 z
        rw [hd'] at q
        cases q) hd'
      have hal := r.length
      refine ⟨acc, h4, by rw [← line_eq, hal]; simp only [List.length_cons] at fl; omega, nx _ (acc ++ [v]) (as ++ [y]) ((xd.ext e4).upd hwD) (by simp [upd]) ?_ ⟨by simp only [List.length_cons, List.length_append, List.length_nil] at fl ⊢; omega, ?_⟩⟩
      · rw [hid_upd (by simp)]
        exact (r.mono (e4.hid SD.wo)).append (.cons ry .nil)
      · have e : (fun ys => R (.list (as ++ ol (some y) ys))) = fun ys => R (.list ((as ++ [y]) ++ ys)) := by
          funext ys
          simp [ol]
        rw [← e]
        exact h
theorem snd_comp (g : Gd P ct X k) {own : List Nat} {p : Pat} {s : Src} {t elt : E} {el tg it : Expr} {ifs : List Expr} {scope : Scope} {pos : Pos} (hb : blkB ct scope own = true) (hp : ∀ i ∈ p.ns, i ∈ own) (hi : PI X tg it (tI P X.fw false s)) (hs : ∀ x, foldedSetIterable it X.env x = pure x)
    (hg : ∀ X, Gd P (ct.blk scope) X k → PG X tg (tG P X.fw p)) (ht : ∀ X, Gd P (ct.blk scope) X k → PTs X ifs (tT P X.fw t)) (he : ∀ X, Gd P (ct.blk scope) X k → PE X el (tE P X.fw elt)) :
    PE X (.ListComp el [⟨tg, it, ifs, 0⟩] scope pos) (tE P X.fw (.comp own p s t elt)) := by
  obtain ⟨ok, hown, hiw⟩ := blk_ok g hb
  refine (pe_lc (te := tE P X.fw elt) (tt := tT P X.fw t) (g := tG P X.fw p) g.calm (by rw [g.hN]; exact g.nd) hi ok (fun s H C cl fp => hg _ (g.blk scope s H C cl fp)) (fun s H C cl fp => ht _ (g.blk scope s H C cl fp)) (fun s H C cl fp => he _ (g.blk scope s H C cl fp)) hs).imp fun σ H Q q => ?_
  rw [hown]
  exact comp_q hp hiw q
/-- name = [..] on one line -/
theorem set_comp (g : Gd P ct X k) {i : Nat} {y : Str} {own : List Nat} {p : Pat} {s : Src} {t elt : E} {el tg it : Expr} {ifs : List Expr} {scope : Scope} {pos py spos : Pos} (hy : X.N[i]? = some y) (hyl : X.env.scope.names.lookup y = some .local) (hsw : swapsWith (.ListComp el [⟨tg, it, ifs, 0⟩] scope pos) (some (.Name y py)) spos.line X.env = pure true)
    (hb : blkB ct scope own = true) (hp : ∀ i ∈ p.ns, i ∈ own) (hi : PI X tg it (tI P X.fw false s)) (hs : ∀ x, foldedSetIterable it X.env x = pure x)
    (hg : ∀ X, Gd P (ct.blk scope) X k → PG X tg (tG P X.fw p)) (ht : ∀ X, Gd P (ct.blk scope) X k → PTs X ifs (tT P X.fw t)) (he : ∀ X, Gd P (ct.blk scope) X k → PE X el (tE P X.fw elt)) :
    PS X (.Assign [.Name y py] (.ListComp el [⟨tg, it, ifs, 0⟩] scope pos) spos) (tAsg (tE P X.fw (.comp own p s t elt)) (gName i)) := by
  obtain ⟨ok, hown, hiw⟩ := blk_ok g hb
  have h := ps_setLc (te := tE P X.fw elt) (tt := tT P X.fw t) (g := tG P X.fw p) g.calm (by rw [g.hN]; exact g.nd) hy hyl hsw hi ok (fun s H C cl fp => hg _ (g.blk scope s H C cl fp)) (fun s H C cl fp => ht _ (g.blk scope s H C cl fp)) (fun s H C cl fp => he _ (g.blk scope s H C cl fp)) hs
  rw [hown] at h
  exact ⟨fun pins s σ H D I q => h.run pins s σ H D I (comp_q hp hiw q)⟩
end
end PV

set_option maxHeartbeats 4000000
/-! PV: comprehensions of two clauses; all expressions. -/
namespace PV
open PySem L2 RZ

section
variable {P : Pm} {ct : Ct} {X : Cx} {k : Nat}
abbrev gSrc (P : Pm) (p : Pat) (t : E) (s1 : Src) (own1 : List Nat) (ρb : Env) (d : D) : W (Option (Env × List D)) := wM.bind (wM.lift (bindP p d ρb)) fun ρ1 => wM.bind (PV.ev wM P.C P.F P.G t ρ1) fun x => wM.bind (wM.lift (bool? x)) fun b => if b = true then wM.bind (PV.evS wM P.C P.F P.G s1 ρ1) fun zs => wM.pure (some (PV.wip own1 ρ1, zs)) else wM.pure none
abbrev gIn (P : Pm) (p1 : Pat) (t1 elt : E) (ρ1 : Env) (d : D) : W (Option D) := gStep P p1 t1 elt ρ1 d
theorem compLL_cons {src : D → W (Option (Env × List D))} {gg : Env → D → W (Option D)} {acc rest : List D} {d : D} {R : List D → Prop} (h : compLL wM src gg acc (d :: rest) R) : src d fun o => match o with
    | none => compLL wM src gg acc rest R
    | some (ρ, zs) => acc.length + zs.length ≤ LINE ∧ compL wM (gg ρ) zs fun ys => compLL wM src gg (acc ++ ys) rest R := by
  unfold compLL at h
  have e : (fun (o : Option (Env × List D)) => (match o with
      | none => compLL wM src gg acc rest
      | some (ρ, zs) => if acc.length + zs.length ≤ LINE then wM.bind (compL wM (gg ρ) zs) fun ys => compLL wM src gg (acc ++ ys) rest else wM.fail) R) =
      fun o => match o with
    | none => compLL wM src gg acc rest R
    | some (ρ, zs) => acc.length + zs.length ≤ LINE ∧ compL wM (gg ρ) zs fun ys => compLL wM src gg (acc ++ ys) rest R := by
    funext o
    cases o with
    | none => rfl
    | some q =>
      obtain ⟨ρ, zs⟩ := q
      show (if acc.length + zs.length ≤ LINE then wM.bind (compL wM (gg ρ) zs) fun ys => compLL wM src gg (acc ++ ys) rest else wM.fail) R = _
      by_cases hl : acc.length + zs.length ≤ LINE
      · rw [if_pos hl]
        exact propext ⟨fun z => ⟨hl, z⟩, fun z => z.2⟩
      · rw [if_neg hl]
        exact propext ⟨fun z => False.elim z, fun z => hl z.1⟩
  have h' : src d (fun o => (match o with
      | none => compLL wM src gg acc rest
      | some (ρ, zs) => if acc.length + zs.length ≤ LINE then wM.bind (compL wM (gg ρ) zs) fun ys => compLL wM src gg (acc ++ ys) rest else wM.fail) R) := h
  rw [e] at h'
  exact h'
theorem comp2_q {own own1 : List Nat} {p p1 : Pat} {s s1 : Src} {t t1 elt : E} (h1o : ∀ i ∈ own1, i ∈ own) (hp : ∀ i ∈ p.ns, i ∈ own) (hp1 : ∀ i ∈ p1.ns, i ∈ own1) (hiw : P.iw ∉ own) {σ : L2.St} {H : Hp} {Q : VK} (q : tE P X.fw (.comp2 own own1 p s t p1 s1 t1 elt) σ H Q) :
    tLc2 (tI P X.fw false s) (tG P X.fw p) (tT P X.fw t) (tI P X.fw false s1) (tG P X.fw p1) (tT P X.fw t1) (tE P X.fw elt) own own1 σ H Q := by
  obtain ⟨O0, H0, O, ρ, R, S, es, ev, q⟩ := q
  have es : NoOw (escS s ++ (esc true t ++ (escS s1 ++ (esc true t1 ++ esc false elt)))) ρ := by simpa [esc] using es
  have ev : P.evS s ρ fun xs => compLL wM (gSrc P p t s1 own1 (PV.wip own ρ)) (gIn P p1 t1 elt) [] xs fun ys => R (.list ys) := by unfold Pm.ev PV.ev at ev; exact ev
  refine ⟨O0, H0, O, ρ, _, S, noOw_l es, ev, fun ds J H1 hd hl e1 wk D hD => ?_⟩
  have S1 := S.ext e1
  have hDO : D ∉ O := fun hm => S1.dom D hm hD
  have hu : (upd H1 D (.lst [])) D = some (.lst []) := by simp [upd]
  have xx : ∀ {H'}, XD P.w D (upd H1 D (.lst [])) H' → Ext P.w H1 H' := fun {H'} x => ⟨fun a o h1 h2 => by
    have ne : a ≠ D := fun z => by rw [z, hD] at h2; cases h2
    exact x.1 a o h1 ne (by rw [upd_ne ne]; exact h2), x.2⟩
  have dm0 : Dm (D :: O) (upd H1 D (.lst [])) := fun a ha hn => by
    by_cases e : a = D
    · subst e; rw [hu] at hn; cases hn
    · rw [upd_ne e] at hn
      rcases List.mem_cons.mp ha with z | z
      · exact e z
      · exact S1.dom a z hn
  have hwD := wD S1.wok hD
  have nwD : ∀ {H' : Hp} {acc : List V}, WOk P.w H' → H' D = some (.lst acc) → ¬ P.w.is D := fun {H' acc} wk h z => by
    obtain ⟨kvs, q⟩ := is_dK wk z
    rw [h] at q
    cases q
  refine lc_loop (K := X.fw) (w := P.w) (O := D :: O) (G := Gk false σ ρ O H1) (fun rest as => compLL wM (gSrc P p t s1 own1 (PV.wip own ρ)) (gIn P p1 t1 elt) as rest fun ys => R (.list ys)) (fun H' => Q (.ref D) H')
    (fun x H' Nx => tG P X.fw p x (wipe σ own) H' fun σ2 H2 => wipe σ2 own = wipe σ own ∧ tT P X.fw t σ2 H2 fun b H3 =>
      if b = true then tI P X.fw false s1 σ2 H3 fun J1 H4 => ∃ W1 : Nat → Nat → Hp → Prop, (∃ m, W1 0 m H4) ∧ ∀ j k H, W1 j k H →
        (J1.stop j H ∧ Nx H) ∨ (J1.go j H ∧ ∃ Nx1 : Hp → Prop, (∀ H', Nx1 H' → ∃ k', k' < k ∧ W1 (j + 1) k' H') ∧ ∀ x H', J1.yld j H x H' → tG P X.fw p1 x (wipe σ2 own1) H' fun σ3 H5 => wipe σ3 own1 = wipe σ2 own1 ∧ tT P X.fw t1 σ3 H5 fun b H6 =>
          if b = true then tE P X.fw elt σ3 H6 fun y H7 => ∃ acc, H7 D = some (.lst acc) ∧ acc.length < sizeLine ∧ Nx1 (upd H7 D (.lst (acc ++ [y]))) else Nx1 H6)
      else Nx H3)
    wk (fun H' x dm => ⟨dm, fun a o h => ?_, fun _ p hp => ?_⟩) dm0 ((Ext.new S1.wok hD).2) hu .nil hd (fun H' acc as x dm hd' r f => ?_) (fun d rest H' acc as x xd dm hd' r rp f Nx nx => ?_)
  · have h1 := hid_out h
    have h2 := hid_le O H1 _ _ h
    have ne : a ≠ D := fun z => by rw [z, hD] at h2; cases h2
    exact hid_in (by simp [ne, h1]) ((xx x).1 a o (fun z => h1 (S1.wo a z)) h2)
  · exact slOw_keep (D := D) S1 hp (fun z => slOw_some S1 hp (by rw [z]; exact hD)) fun a o h1 h2 h3 => (xx x).1 a o h1 h3
  · have hR : R (.list as) := by unfold compLL at f; exact f
    refine q _ _ _ hR (e1.trans (xx x)) ⟨.lst (hid_in hDO hd') (r.mono (hid_sub fun a ha => List.mem_cons_of_mem _ ha)), fun _ _ => ?_⟩
    exact FrP.back (H1 := H1) ⟨D, _, rfl, hD, hd', .lst r⟩ e1
  · have SD0 := S1.grow hD (xx xd) (by rw [hd']; simp)
    have SD : Sim X.fw P.w P.iw O0 H0 (D :: O) H' (wipe σ own) (PV.wip own ρ) := SD0.wip hiw
    have h0D : H0 D = none := by
      cases z : H0 D with
      | none => rfl
      | some o =>
        by_cases hw : P.w.is D
        · exact absurd hw (nwD xd.2 hd')
        · have z2 := S1.ent.1 D o hw z
          rw [hD] at z2
          cases z2
    have f := compLL_cons f
    obtain ⟨ρ1, hbd, f⟩ := wbind (f := fun ρ1 => wM.bind (PV.ev wM P.C P.F P.G t ρ1) fun x => wM.bind (wM.lift (bool? x)) fun b => if b = true then wM.bind (PV.evS wM P.C P.F P.G s1 ρ1) fun zs => wM.pure (some (PV.wip own1 ρ1, zs)) else wM.pure none) f
    have esb := noOw_bind hbd (noOw_wip (noOw_r es))
    refine ⟨O0, H0, D :: O, PV.wip own ρ, d, ρ1, SD, rp, hbd, fun σ2 S2 hw2 => ⟨(hw2 own hp).trans wipe_idem, O0, H0, D :: O, ρ1, _, S2, noOw_l esb, f, fun d2 H3 hd2 e3 => ?_⟩⟩
    obtain ⟨b, hb2, hd2⟩ := wbind hd2
    refine ⟨b, hb2, ?_⟩
    have h3 : H3 D = some (.lst acc) := e3.1 D _ (nwD xd.2 hd') hd'
    cases b with
    | false => exact nx H3 acc as (xd.ext e3) h3 (r.mono (e3.hid SD.wo)) hd2
    | true =>
      refine ⟨O0, H0, D :: O, ρ1, _, S2.ext e3, noOw_l (noOw_r esb), hd2, fun zs J1 H4 hz hzl e4 wk1 => ?_⟩
      obtain ⟨hlen, hz⟩ := hz
      have S4 := (S2.ext e3).ext e4
      have h4 : H4 D = some (.lst acc) := e4.1 D _ (nwD e3.2 h3) h3
      have r4 := (r.mono (e3.hid SD.wo)).mono (e4.hid SD.wo)
      have xd4 := (xd.ext e3).ext e4
      have hnS : ¬ SlOw σ2 ρ1 D := fun z => slOw_some S1 (slOw_bind hbd (hw2 own hp) z) hD
      have tr : ∀ {H'}, XD P.w D H4 H' → XD P.w D (upd H1 D (.lst [])) H' := fun {H'} y => ⟨fun a o k1 k2 k3 => y.1 a o k1 k2 (xd4.1 a o k1 k2 k3), y.2⟩
      refine lc_loop (K := X.fw) (w := P.w) (O := D :: O) (G := Gk false σ2 ρ1 (D :: O) H4) (fun rest1 as1 => as1.length + rest1.length ≤ LINE ∧ compL wM (gIn P p1 t1 elt (PV.wip own1 ρ1)) rest1 fun ys => compLL wM (gSrc P p t s1 own1 (PV.wip own ρ)) (gIn P p1 t1 elt) (as1 ++ ys) rest fun ys => R (.list ys)) Nx
        (fun x H' Nx1 => tG P X.fw p1 x (wipe σ2 own1) H' fun σ3 H5 => wipe σ3 own1 = wipe σ2 own1 ∧ tT P X.fw t1 σ3 H5 fun b H6 =>
          if b = true then tE P X.fw elt σ3 H6 fun y H7 => ∃ acc, H7 D = some (.lst acc) ∧ acc.length < sizeLine ∧ Nx1 (upd H7 D (.lst (acc ++ [y]))) else Nx1 H6)
        wk1 (fun H' x dm => ⟨dm, fun a o h => ?_, fun _ p hp => ?_⟩) S4.dom S4.wok h4 r4 ⟨hlen, hz⟩ (fun H' acc as x dm hd' r f => ?_) (fun d rest1 H' acc as x xd1 dm hd' r rp f Nx1 nx1 => ?_)
      · have h1 := hid_out h
        exact hid_in h1 (x.1 a o (fun z => h1 (S4.wo a z)) (fun z => h1 (by rw [z]; simp)) (hid_le _ _ _ _ h))
      · exact slOw_keep (D := D) S4 hp (fun z => hnS (by rw [← z]; exact hp)) x.1
      · have hR := f.2
        have hR : compLL wM (gSrc P p t s1 own1 (PV.wip own ρ)) (gIn P p1 t1 elt) (as ++ []) rest fun ys => R (.list ys) := hR
        rw [List.append_nil] at hR
        exact nx H' acc as (tr x) hd' r hR
      · obtain ⟨fl, fc⟩ := f
        have SI : Sim X.fw P.w P.iw O0 H0 (D :: O) H' (wipe σ2 own1) (PV.wip own1 ρ1) := (S4.xd (by simp) hnS xd1 (by rw [hd']; simp) h0D).wip fun z => hiw (h1o _ z)
        refine body_of (R := fun o => compL wM (gIn P p1 t1 elt (PV.wip own1 ρ1)) rest1 fun ys => compLL wM (gSrc P p t s1 own1 (PV.wip own ρ)) (gIn P p1 t1 elt) (as ++ ol o ys) rest fun ys => R (.list ys)) SI rp (compL_cons fc) (noOw_wip (noOw_r (noOw_r esb))) hp1 (fun H3 e3 h => ?_) (fun H4 v y e4 ry h => ?_)
        · exact nx1 H3 acc as (xd1.ext e3) (e3.1 D _ (nwD xd1.2 hd') hd') (r.mono (e3.hid SI.wo)) ⟨by simp only [List.length_cons] at fl; omega, h⟩
        · have h4' : H4 D = some (.lst acc) := e4.1 D _ (nwD xd1.2 hd') hd'
          have hal := r.length
          refine ⟨acc, h4', by rw [← line_eq, hal]; simp only [List.length_cons] at fl; omega, nx1 _ (acc ++ [v]) (as ++ [y]) ((xd1.ext e4).upd hwD) (by simp [upd]) ?_ ⟨by simp only [List.length_cons, List.length_append, List.length_nil] at fl ⊢; omega, ?_⟩⟩
          · rw [hid_upd (by simp)]
            exact (r.mono (e4.hid SI.wo)).append (.cons ry .nil)
          · have e : (fun ys => compLL wM (gSrc P p t s1 own1 (PV.wip own ρ)) (gIn P p1 t1 elt) (as ++ ol (some y) ys) rest fun ys => R (.list ys)) = fun ys => compLL wM (gSrc P p t s1 own1 (PV.wip own ρ)) (gIn P p1 t1 elt) ((as ++ [y]) ++ ys) rest fun ys => R (.list ys) := by
              funext ys
              simp [ol]
            rw [← e]
            exact h
theorem snd_comp2 (g : Gd P ct X k) {own own1 : List Nat} {p p1 : Pat} {s s1 : Src} {t t1 elt : E} {el tg it tg1 it1 : Expr} {ifs ifs1 : List Expr} {scope : Scope} {pos : Pos} (hb : blkB ct scope own = true) (h1o : ∀ i ∈ own1, i ∈ own) (hp : ∀ i ∈ p.ns, i ∈ own) (hp1 : ∀ i ∈ p1.ns, i ∈ own1)
    (hi : PI X tg it (tI P X.fw false s)) (hs : ∀ x, foldedSetIterable it X.env x = pure x) (hs1 : ∀ env x, foldedSetIterable it1 env x = pure x)
    (hg : ∀ X, Gd P (ct.blk scope) X k → PG X tg (tG P X.fw p)) (ht : ∀ X, Gd P (ct.blk scope) X k → PTs X ifs (tT P X.fw t)) (hi1 : ∀ X, Gd P (ct.blk scope) X k → PI X tg1 it1 (tI P X.fw false s1))
    (hg1 : ∀ X, Gd P (ct.blk scope) X k → PG X tg1 (tG P X.fw p1)) (ht1 : ∀ X, Gd P (ct.blk scope) X k → PTs X ifs1 (tT P X.fw t1)) (he : ∀ X, Gd P (ct.blk scope) X k → PE X el (tE P X.fw elt)) :
    PE X (.ListComp el [⟨tg, it, ifs, 0⟩, ⟨tg1, it1, ifs1, 0⟩] scope pos) (tE P X.fw (.comp2 own own1 p s t p1 s1 t1 elt)) := by
  obtain ⟨ok, hown, hiw⟩ := blk_ok g hb
  refine (pe_lc2 (vs1 := own1) (te := tE P X.fw elt) (tt := tT P X.fw t) (g := tG P X.fw p) (tt1 := tT P X.fw t1) (g1 := tG P X.fw p1) (wi1 := tI P X.fw false s1) g.calm (by rw [g.hN]; exact g.nd) hi ok (fun i hi => by rw [hown]; exact h1o i hi) (fun s H C cl fp => hg _ (g.blk scope s H C cl fp))
    (fun s H C cl fp => ht _ (g.blk scope s H C cl fp)) (fun s H C cl fp => hi1 _ (g.blk scope s H C cl fp)) (fun s H C cl fp => hg1 _ (g.blk scope s H C cl fp)) (fun s H C cl fp => ht1 _ (g.blk scope s H C cl fp)) (fun s H C cl fp => he _ (g.blk scope s H C cl fp)) hs hs1).imp fun σ H Q q => ?_
  rw [hown]
  exact comp2_q h1o hp hp1 hiw q
theorem set_comp2 (g : Gd P ct X k) {i : Nat} {y : Str} {own own1 : List Nat} {p p1 : Pat} {s s1 : Src} {t t1 elt : E} {el tg it tg1 it1 : Expr} {ifs ifs1 : List Expr} {scope : Scope} {pos py spos : Pos} (hy : X.N[i]? = some y) (hyl : X.env.scope.names.lookup y = some .local)
    (hsw : swapsWith (.ListComp el [⟨tg, it, ifs, 0⟩, ⟨tg1, it1, ifs1, 0⟩] scope pos) (some (.Name y py)) spos.line X.env = pure true) (hb : blkB ct scope own = true) (h1o : ∀ i ∈ own1, i ∈ own) (hp : ∀ i ∈ p.ns, i ∈ own) (hp1 : ∀ i ∈ p1.ns, i ∈ own1)
    (hi : PI X tg it (tI P X.fw false s)) (hs : ∀ x, foldedSetIterable it X.env x = pure x) (hs1 : ∀ env x, foldedSetIterable it1 env x = pure x)
    (hg : ∀ X, Gd P (ct.blk scope) X k → PG X tg (tG P X.fw p)) (ht : ∀ X, Gd P (ct.blk scope) X k → PTs X ifs (tT P X.fw t)) (hi1 : ∀ X, Gd P (ct.blk scope) X k → PI X tg1 it1 (tI P X.fw false s1))
    (hg1 : ∀ X, Gd P (ct.blk scope) X k → PG X tg1 (tG P X.fw p1)) (ht1 : ∀ X, Gd P (ct.blk scope) X k → PTs X ifs1 (tT P X.fw t1)) (he : ∀ X, Gd P (ct.blk scope) X k → PE X el (tE P X.fw elt)) :
    PS X (.Assign [.Name y py] (.ListComp el [⟨tg, it, ifs, 0⟩, ⟨tg1, it1, ifs1, 0⟩] scope pos) spos) (tAsg (tE P X.fw (.comp2 own own1 p s t p1 s1 t1 elt)) (gName i)) := by
  obtain ⟨ok, hown, hiw⟩ := blk_ok g hb
  have h := ps_setLc2 (vs1 := own1) (te := tE P X.fw elt) (tt := tT P X.fw t) (g := tG P X.fw p) (tt1 := tT P X.fw t1) (g1 := tG P X.fw p1) (wi1 := tI P X.fw false s1) g.calm (by rw [g.hN]; exact g.nd) hy hyl hsw hi ok (fun i hi => by rw [hown]; exact h1o i hi) (fun s H C cl fp => hg _ (g.blk scope s H C cl fp))
    (fun s H C cl fp => ht _ (g.blk scope s H C cl fp)) (fun s H C cl fp => hi1 _ (g.blk scope s H C cl fp)) (fun s H C cl fp => hg1 _ (g.blk scope s H C cl fp)) (fun s H C cl fp => ht1 _ (g.blk scope s H C cl fp)) (fun s H C cl fp => he _ (g.blk scope s H C cl fp)) hs hs1
  rw [hown] at h
  exact ⟨fun pins s σ H D I q => h.run pins s σ H D I (comp2_q h1o hp hp1 hiw q)⟩
end
end PV

set_option maxHeartbeats 4000000
/-! PV: methods of dicts, lists, tuples. -/
namespace PV
open PySem PyProof.Rows L2 RZ

section
variable {P : Pm} {ct : Ct} {X : Cx} {k : Nat} {a b c d : E} {x y z u : Expr} {pos : Pos}
theorem hfew_ok {cpos : Pos} {e : Expr} {es : List Expr} {env : PySem.Env} (h1 : notStar e = true) (h2 : starEach es env = es.map fun x => (false, eval x env)) (hl : es.length < 20) : ((backTo cpos (starEach (e :: es) env)).all (fun x => !x.1) && (backToKw cpos (keywordEach [] env)).all (fun x => x.1.isSome)
      && decide ((e :: es).length + ([] : List Keyword).length + (if ([] : List Keyword).isEmpty then 0 else 1) < 30)) = true := by
  rw [star_cons h1, h2]
  have : decide ((e :: es).length + ([] : List Keyword).length + (if ([] : List Keyword).isEmpty then 0 else 1) < 30) = true := by
    refine decide_eq_true ?_
    show es.length + 1 + 0 + 0 < 30
    omega
  rw [this]
  simp [backTo, keywordEach, backToKw]
theorem base_of {o : Expr} {m : Str} {env : PySem.Env} (h : plainBase o = true) : attributeBase o m env (eval o env) = eval o env := by
  cases o with
  | Call f args kws p =>
    cases f with
    | Name x q =>
      cases args with
      | nil => cases kws with
        | nil => simp [plainBase] at h
        | cons _ _ => rfl
      | cons _ _ => rfl
    | _ => rfl
  | _ => rfl
/-- the receiver is of a type that has the method -/
def Rcv (X : Cx) (name : Str) (r : V → List V → Hp → VK → Prop) (x : V) (v : Value) (s : Shared) : Prop := ∃ T id, PlainAttrs T ∧ PySem.Slot T name id ∧ typeOf (.builtin id) = pure (.type "method_descriptor") ∧ s.TypeIs v T ∧ (∀ a, v = .ref a → ∃ ob, s.heap.get? a = some ob ∧ ob.dict = none) ∧
  ∀ (pins : List (Addr × Obj)) (s' : Shared) (σ : L2.St) (H' : Hp) (xs : List V) (us : List Value) (Q : VK), Inv X pins σ H' s' → Vals xs us → r x xs H' Q → wpAny (model X.prog X.w) X.A (call (.builtin id) (v :: us)) (EP X pins σ Q) X.xe s'
def tMe {ι : Type} (ty : ι → V → Hp → Prop) (r : ι → V → List V → Hp → VK → Prop) (to : TE) (t : TA) : TE := fun σ H Q => to σ H fun x H1 => ∃ i, ty i x H1 ∧ t σ H1 fun xs H2 => r i x xs H2 Q
theorem pe_me {ι : Type} {name : Str} {ty : ι → V → Hp → Prop} {r : ι → V → List V → Hp → VK → Prop} {to : TE} {t : TA} {o e : Expr} {es : List Expr} {apos cpos : Pos} (hty : ∀ i pins s σ H x v, Inv X pins σ H s → RelV x v → ty i x H → Rcv X name (r i) x v s) (ho : PE X o to) (ha : PA X (e :: es) t)
    (hbase : attributeBase o name X.env (eval o X.env) = eval o X.env)
    (hfew : ((backTo cpos (starEach (e :: es) X.env)).all (fun x => !x.1) && (backToKw cpos (keywordEach [] X.env)).all (fun x => x.1.isSome)
      && decide ((e :: es).length + ([] : List Keyword).length + (if ([] : List Keyword).isEmpty then 0 else 1) < 30)) = true)
    (hline : (apos.endLine == cpos.line) = true) (hs : starEach (e :: es) X.env = (false, eval e X.env) :: starEach es X.env) (hplain : (backTo cpos (starEach es X.env)).any (·.1) = false) :
    PE X (.Call (.Attribute o name apos) (e :: es) [] cpos) (tMe ty r to t) := by
  refine ⟨fun pins s σ H Q I h => ?_⟩
  refine wpAny_Call_method_late hbase hfew hline rfl (thn (ho.run pins s σ H _ I h) fun v s1 ⟨x, H1, I1, r1, i, ty, q1⟩ => ?_)
  obtain ⟨T, id, pa, slot, hty, h1, h2, hm⟩ := hty i pins s1 σ H1 x v I1 r1 ty
  refine ⟨T, id, pa, slot, hty, h1, h2, ?_⟩
  have hA := ha.run cpos pins s1 σ H1 _ I1 q1
  rw [hs] at hA ⊢
  refine Calls.callWith_builtin (by show (false || (backTo cpos (starEach es X.env)).any (·.1)) = false; rw [hplain] <;> rfl) (Calls.evalArgs_plain ?_)
  exact thn hA fun us s2 ⟨vs, H2, I2, r2, q2⟩ => hm pins s2 σ H2 vs us Q I2 r2 q2

/-! d.get(..) -/
def tyD (K : Fw) (x : V) (H : Hp) : Prop := ∃ a o, x = .ref a ∧ H a = some (dcO a o) ∧ o.ExactDict
theorem Br.tyD {K : Fw} {O : List Addr} {H : Hp} {v : V} {kvs : List (PV.D × PV.D)} {pins : List (Addr × Obj)} {σ : L2.St} {s : Shared} (h : Br X.fw O H v (.dict kvs)) (I : Inv X pins σ H s) : PV.tyD K v H := by
  obtain ⟨a, rfl, va⟩ := h.view I
  obtain ⟨es, ep, hr, _⟩ := dict_raw va
  obtain ⟨b, e, o, kv, vv, ho, _⟩ := h.dct
  cases e
  obtain ⟨o2, g1, g2, g3⟩ := hr
  have hgd : s.heap.get? a = some o := (I.hok a _ ho).1
  rw [hgd] at g1
  cases g1
  exact ⟨a, o, rfl, ho, g2⟩
def rGet1 (K : Fw) : V → List V → Hp → VK → Prop := fun x xs H Q => ∃ O y kvs k z, xs = [y] ∧ Br K O H x (.dict kvs) ∧ Br K O H y k ∧ dGet k .none (.dict kvs) = some z ∧ ∀ v, Rp K (hid O H) v z → Q v H
def rGet2 (K : Fw) : V → List V → Hp → VK → Prop := fun x xs H Q => ∃ O y w kvs k d z, xs = [y, w] ∧ Br K O H x (.dict kvs) ∧ Br K O H y k ∧ Rp K (hid O H) w d ∧ dGet k d (.dict kvs) = some z ∧ ∀ v, Rp K (hid O H) v z → Q v H
theorem rcv_get1 {k0 : Nat} (hr : Room k0 X.A) {pins : List (Addr × Obj)} {s : Shared} {σ : L2.St} {H : Hp} {x : V} {v : Value} (I : Inv X pins σ H s) (rx : RelV x v) (ty : tyD X.fw x H) : Rcv X "get" (rGet1 X.fw) x v s := by
  obtain ⟨a, o, rfl, ho, ex⟩ := ty
  cases (show v = .ref a from rx)
  have hg : s.heap.get? a = some o := (I.hok a _ ho).1
  refine ⟨"dict", "dict.get", PySem.F.plainAttrs_dict, PySem.F.slot_dict_get, PySem.F.type_dict_get, ⟨o, hg, ex.1⟩, fun b e => by cases e; exact ⟨o, hg, ex.2.1⟩, fun pins s' σ H' xs us Q I' rv h => ?_⟩
  obtain ⟨O, y, kvs, k, z, rfl, hx, hy, hz, q⟩ := h
  obtain ⟨u, rfl, ru⟩ := vals1 rv
  obtain ⟨b, e, va⟩ := hx.view I'
  cases e
  simp only [dGet] at hz
  split at hz
  · rename_i hk
    exact dict_get1 hr I' (hid_le O H') va (hy.key hk) ru hk fun v' u' t r1 r2 => ⟨v', H', I'.tok t, r1, q v' (by rw [← Option.some.inj hz]; exact r2)⟩
  · cases hz
theorem rcv_get2 {k0 : Nat} (hr : Room k0 X.A) {pins : List (Addr × Obj)} {s : Shared} {σ : L2.St} {H : Hp} {x : V} {v : Value} (I : Inv X pins σ H s) (rx : RelV x v) (ty : tyD X.fw x H) : Rcv X "get" (rGet2 X.fw) x v s := by
  obtain ⟨a, o, rfl, ho, ex⟩ := ty
  cases (show v = .ref a from rx)
  have hg : s.heap.get? a = some o := (I.hok a _ ho).1
  refine ⟨"dict", "dict.get", PySem.F.plainAttrs_dict, PySem.F.slot_dict_get, PySem.F.type_dict_get, ⟨o, hg, ex.1⟩, fun b e => by cases e; exact ⟨o, hg, ex.2.1⟩, fun pins s' σ H' xs us Q I' rv h => ?_⟩
  obtain ⟨O, y, w, kvs, k, d, z, rfl, hx, hy, hw, hz, q⟩ := h
  obtain ⟨u1, u2, rfl, ru, rw'⟩ := vals2 rv
  obtain ⟨b, e, va⟩ := hx.view I'
  cases e
  simp only [dGet] at hz
  split at hz
  · rename_i hk
    exact dict_get2 hr I' (hid_le O H') va (hy.key hk) ru hw rw' hk fun v' u' t r1 r2 => ⟨v', H', I'.tok t, r1, q v' (by rw [← Option.some.inj hz]; exact r2)⟩
  · cases hz
/-- with the datum a dict: known when the receiver is there -/
theorem pe_invB {e : Expr} {t : TE} (h : PE X e t) (G : V → Hp → Prop) (hg : ∀ pins s σ H v, Inv X pins σ H s → (∃ O kvs, Br X.fw O H v (.dict kvs)) → G v H) : PE X e (fun σ H Q => t σ H fun v H' => ((∃ O kvs, Br X.fw O H' v (.dict kvs)) → G v H') → Q v H') :=
  ⟨fun pins s σ H Q I q => thn (h.run pins s σ H _ I q) fun w s1 ⟨v, H1, I1, rv, q1⟩ => ⟨v, H1, I1, rv, q1 fun z => hg pins s1 σ H1 v I1 z⟩⟩
theorem snd_get1 (hr : Room k X.A) {o e : Expr} {apos cpos : Pos} (hb : plainBase o = true) (hl : (apos.endLine == cpos.line) = true) (ho : PE X o (tB P X.fw a)) (he : PE X e (tB P X.fw b)) (hs : notStar e = true) : PE X (.Call (.Attribute o "get" apos) [e] [] cpos) (tE P X.fw (.get1 a b)) :=
  (pe_me (ι := Unit) (ty := fun _ => tyD X.fw) (r := fun _ => rGet1 X.fw) (fun _ pins s σ H x v I rx ty => rcv_get1 hr I rx ty) (pe_invB ho (tyD X.fw) fun pins s σ H v I ⟨O, kvs, h⟩ => h.tyD I) (pa_cons he pa_nil (star_cons hs)) (base_of hb) (hfew_ok hs rfl (by decide)) hl (star_cons hs) rfl).imp fun σ H Q q => by
    obtain ⟨O0, H0, O, ρ, R, S, es, ev, q⟩ := q
    have es : NoOw (esc true a ++ esc true b) ρ := by simpa [esc] using es
    have ev : P.ev a ρ fun d => wM.bind (wM.lift (dct? d)) (fun _ => wM.bind (PV.ev wM P.C P.F P.G b ρ) fun y => wM.lift (dGet y .none d)) R := by unfold Pm.ev PV.ev at ev; exact ev
    refine ⟨O0, H0, O, ρ, _, S, noOw_l es, ev, fun d v H1 hd e1 ba _ hG => ?_⟩
    obtain ⟨_, hdd, hd⟩ := wbind hd
    cases d with
    | dict kvs =>
      refine ⟨(), hG ⟨O, kvs, ba⟩, O0, H0, O, ρ, _, S.ext e1, noOw_r es, hd, fun d2 v2 H2 hd2 e2 bb _ => ?_⟩
      obtain ⟨z, hz, hR⟩ := wlift hd2
      exact ⟨O, v2, kvs, d2, z, rfl, ba.ext e2 S.wo e1.2, bb, hz, fun v3 r3 => q z v3 H2 hR (e1.trans e2) ⟨r3, fun z => by cases z⟩⟩
    | _ => cases hdd
theorem snd_get2 (hr : Room k X.A) {o e f : Expr} {apos cpos : Pos} (hb : plainBase o = true) (hl : (apos.endLine == cpos.line) = true) (ho : PE X o (tB P X.fw a)) (he : PE X e (tB P X.fw b)) (hf : PE X f (tE P X.fw c)) (hs : notStar e = true) (hs2 : notStar f = true) : PE X (.Call (.Attribute o "get" apos) [e, f] [] cpos) (tE P X.fw (.get2 a b c)) :=
  (pe_me (ι := Unit) (ty := fun _ => tyD X.fw) (r := fun _ => rGet2 X.fw) (fun _ pins s σ H x v I rx ty => rcv_get2 hr I rx ty) (pe_invB ho (tyD X.fw) fun pins s σ H v I ⟨O, kvs, h⟩ => h.tyD I) (pa_cons he (pa_cons hf pa_nil (star_cons hs2)) (star_cons hs)) (base_of hb) (hfew_ok hs (star_cons hs2) (by simp)) hl (star_cons hs) (plain1 hs2)).imp fun σ H Q q => by
    obtain ⟨O0, H0, O, ρ, R, S, es, ev, q⟩ := q
    have es : NoOw (esc true a ++ (esc true b ++ esc false c)) ρ := by simpa [esc] using es
    have ev : P.ev a ρ fun d => wM.bind (wM.lift (dct? d)) (fun _ => wM.bind (PV.ev wM P.C P.F P.G b ρ) fun y => wM.bind (PV.ev wM P.C P.F P.G c ρ) fun z => wM.lift (dGet y z d)) R := by unfold Pm.ev PV.ev at ev; exact ev
    refine ⟨O0, H0, O, ρ, _, S, noOw_l es, ev, fun d v H1 hd e1 ba _ hG => ?_⟩
    obtain ⟨_, hdd, hd⟩ := wbind hd
    cases d with
    | dict kvs =>
      refine ⟨(), hG ⟨O, kvs, ba⟩, O0, H0, O, ρ, _, S.ext e1, noOw_l (noOw_r es), hd, fun d2 v2 H2 hd2 e2 bb _ => ⟨O0, H0, O, ρ, _, (S.ext e1).ext e2, noOw_r (noOw_r es), hd2, fun d3 v3 H3 hd3 e3 rr => ?_⟩⟩
      obtain ⟨z, hz, hR⟩ := wlift hd3
      exact ⟨O, v2, v3, kvs, d2, d3, z, rfl, (ba.ext e2 S.wo e1.2).ext e3 S.wo e2.2, bb.ext e3 S.wo e2.2, rr.1, hz, fun v4 r4 => q z v4 H3 hR ((e1.trans e2).trans e3) ⟨r4, fun z => by cases z⟩⟩
    | _ => cases hdd

/-! xs.count(y), xs.index(y) -/
def isL : D → Bool
  | .list _ => true
  | _ => false
def tyS (K : Fw) (b : Bool) (x : V) (H : Hp) : Prop := b = true ∧ ∃ a vs, x = .ref a ∧ SqL K H a vs
def rCnt (K : Fw) (g : D → D → Option D) (b : Bool) : V → List V → Hp → VK → Prop := fun x xs H Q => ∃ O y c d n, xs = [y] ∧ isL c = b ∧ Br K O H x c ∧ Br K O H y d ∧ g d c = some (.int n) ∧ Q (.int n) H
theorem Br.seq {O : List Addr} {H : Hp} {v : V} {c : D} {ds : List D} {pins : List (Addr × Obj)} {σ : L2.St} {s : Shared} {u : Value} (h : Br X.fw O H v c) (hi : PV.items c = some ds) (I : Inv X pins σ H s) (r : RelV v u) : ∃ (l : Addr) (vs : Array Value) (as : List Addr), u = .ref l ∧ ReadsAll s.heap vs.toList ds as ∧ vs.size ≤ sizeLine ∧ ((isL c = true ∧ s.heap.IsList l vs) ∨ (isL c = false ∧ s.heap.IsTuple l vs)) := by
  obtain ⟨p, vs, e1, r1, q⟩ := h.items hi
  subst e1
  cases (show u = .ref p from r)
  rcases q with ⟨e, q⟩ | ⟨e, q⟩
  · obtain ⟨its, rv, pl, hz⟩ := I.list (.inl (.inl q))
    obtain ⟨as, ra⟩ := (r1.mono (hid_le O H)).reads I rv
    exact ⟨p, its.toArray, as, rfl, by simpa using ra, by rw [List.size_toArray, ← rv.length]; exact hz, .inl ⟨by rw [e]; rfl, pl.isList⟩⟩
  · obtain ⟨its, rv, pl, hz⟩ := I.tuple q
    obtain ⟨as, ra⟩ := (r1.mono (hid_le O H)).reads I rv
    exact ⟨p, its.toArray, as, rfl, by simpa using ra, by rw [List.size_toArray, ← rv.length]; exact hz, .inr ⟨by rw [e]; rfl, pl⟩⟩
theorem Br.tyS {O : List Addr} {H : Hp} {v : V} {c : D} {K : Fw} (h : Br K O H v c) (hi : ∃ z, lst? c = some z) : PV.tyS K (isL c) v H ∧ ∃ ds, PV.items c = some ds := by
  cases c with
  | list ds =>
    obtain ⟨p, vs, e1, r1, q⟩ := h.lst
    exact ⟨⟨rfl, p, vs, e1, .inl (.inl q)⟩, ds, rfl⟩
  | _ => obtain ⟨_, hi⟩ := hi; cases hi
theorem sh_both {d : D} {ds : List D} (h : (sh d && shs ds) = true) : d.plain = true ∧ d.depth ≤ 20 ∧ PyData.plainAll ds = true ∧ PyData.depthAll ds ≤ 20 := by
  rw [Bool.and_eq_true] at h
  obtain ⟨p1, p2⟩ := plain_shal d 20 h.1
  obtain ⟨p3, p4⟩ := plain_shals ds 20 h.2
  exact ⟨p1, p2, p3, p4⟩
theorem tyS_at {pins : List (Addr × Obj)} {s : Shared} {σ : L2.St} {H : Hp} {b : Bool} {x : V} {v : Value} (I : Inv X pins σ H s) (rx : RelV x v) (ty : tyS X.fw b x H) : s.TypeIs v "list" ∧ ∀ a, v = .ref a → ∃ ob, s.heap.get? a = some ob ∧ ob.dict = none := by
  obtain ⟨_, a, vs, rfl, hq⟩ := ty
  cases (show v = .ref a from rx)
  obtain ⟨its, _, pl, _⟩ := I.list (show SqL X.K H a vs from hq)
  refine ⟨pl.isList.typeIs, fun b e => ?_⟩
  cases e
  obtain ⟨o, n, e, c, hd, _⟩ := pl
  exact ⟨o, e, hd⟩
theorem rcv_cnt {k0 : Nat} (hr : Room k0 X.A) {b : Bool} {pins : List (Addr × Obj)} {s : Shared} {σ : L2.St} {H : Hp} {x : V} {v : Value} (I : Inv X pins σ H s) (rx : RelV x v) (ty : tyS X.fw b x H) : Rcv X "count" (rCnt X.fw dCount b) x v s := by
  obtain ⟨t1, t2⟩ := tyS_at I rx ty
  have go : ∀ (pins : List (Addr × Obj)) (s' : Shared) (σ : L2.St) (H' : Hp) (xs : List V) (us : List Value) (Q : VK), Inv X pins σ H' s' → Vals xs us → rCnt X.fw dCount b x xs H' Q → wpAny (model X.prog X.w) X.A (call (.builtin (if b = true then "list.count" else "tuple.count")) (v :: us)) (EP X pins σ Q) X.xe s' := by
    intro pins s' σ H' xs us Q I' rv h
    obtain ⟨O, y, c, d, n, rfl, hb, hx, hy, hz, q⟩ := h
    obtain ⟨u, rfl, ru⟩ := vals1 rv
    unfold dCount at hz
    cases hi : items c with
    | none => rw [hi] at hz; cases hz
    | some ds =>
      rw [hi] at hz
      have hz : (if (sh d && shs ds) = true then some (PyData.int (ds.countP fun y => PyData.eqv y d)) else none) = some (.int n) := hz
      split at hz
      · rename_i hs
        obtain ⟨p1, p2, p3, p4⟩ := sh_both hs
        have e : ((ds.countP fun y => PyData.eqv y d : Nat) : Int) = n := by injection hz with hz; injection hz
        obtain ⟨l, vs, as, rfl, ra, hl, hk⟩ := hx.seq hi I' rx
        obtain ⟨bs, rb⟩ := hy.reads I' ru
        have room : X.A.units + 1 + min (PyData.depthAll ds) d.depth < cLine := by have := room_le hr (n := 50) (by omega); omega
        rcases hk with ⟨e2, hk⟩ | ⟨e2, hk⟩
        · rw [← hb, e2]
          exact PySem.SeqAt.count_list_data hk ra rb p3 p1 room ⟨.int n, H', I'.tok _, ⟨_, by rw [e]⟩, q⟩
        · rw [← hb, e2]
          exact PySem.SeqAt.count_tuple_data hk ra rb p3 p1 room ⟨.int n, H', I'.tok _, ⟨_, by rw [e]⟩, q⟩
      · cases hz
  obtain ⟨rfl, _⟩ := ty
  exact ⟨"list", "list.count", PySem.F.plainAttrs_list, PySem.F.slot_list_count, PySem.F.type_list_count, t1, t2, go⟩
theorem rcv_idx {k0 : Nat} (hr : Room k0 X.A) {b : Bool} {pins : List (Addr × Obj)} {s : Shared} {σ : L2.St} {H : Hp} {x : V} {v : Value} (I : Inv X pins σ H s) (rx : RelV x v) (ty : tyS X.fw b x H) : Rcv X "index" (rCnt X.fw dIndex b) x v s := by
  obtain ⟨t1, t2⟩ := tyS_at I rx ty
  have go : ∀ (pins : List (Addr × Obj)) (s' : Shared) (σ : L2.St) (H' : Hp) (xs : List V) (us : List Value) (Q : VK), Inv X pins σ H' s' → Vals xs us → rCnt X.fw dIndex b x xs H' Q → wpAny (model X.prog X.w) X.A (call (.builtin (if b = true then "list.index" else "tuple.index")) (v :: us)) (EP X pins σ Q) X.xe s' := by
    intro pins s' σ H' xs us Q I' rv h
    obtain ⟨O, y, c, d, n, rfl, hb, hx, hy, hz, q⟩ := h
    obtain ⟨u, rfl, ru⟩ := vals1 rv
    unfold dIndex at hz
    cases hi : items c with
    | none => rw [hi] at hz; cases hz
    | some ds =>
      rw [hi] at hz
      have hz : (if (sh d && shs ds) = true then (ds.findIdx? fun y => PyData.eqv y d).map fun n => PyData.int n else none) = some (.int n) := hz
      split at hz
      · rename_i hs
        obtain ⟨p1, p2, p3, p4⟩ := sh_both hs
        cases hf : ds.findIdx? fun y => PyData.eqv y d with
        | none => rw [hf] at hz; cases hz
        | some j =>
          rw [hf] at hz
          have e : ((j : Nat) : Int) = n := by injection hz with hz; injection hz
          obtain ⟨l, vs, as, rfl, ra, hl, hk⟩ := hx.seq hi I' rx
          obtain ⟨bs, rb⟩ := hy.reads I' ru
          obtain ⟨f1, f2, f3⟩ := List.findIdx?_eq_some_iff_getElem.mp hf
          have hlen : vs.size = ds.length := by have := PySem.SeqAt.ReadsAll.length _ _ _ ra; simpa using this
          have heq : ∀ i (hi : i < vs.size), PySem.SeqAt.EqAt X.A.in1 s' vs[i] u (PyData.eqv (ds[i]'(by omega)) d) := fun i hi => by
            obtain ⟨di, bs', h1, h2, h3⟩ := PySem.SeqAt.readsAll_mem_plain ds vs.toList as p3 ra vs[i] (by simp)
            obtain ⟨_, e2⟩ := PySem.SeqAt.readOf_at ra p3 i hi
            rw [PySem.SeqAt.readOf_plain h2 h1] at e2
            rw [← e2]
            exact PySem.SeqAt.eqAt_plain di d X.A.in1 s' _ _ bs' bs h1 rb h2 p1 (by have := room_le hr (n := 50) (by omega); show X.A.units + 1 + min di.depth d.depth < cLine; omega)
          have heq' : ∀ i (hi : i < vs.size), PySem.SeqAt.EqAt X.A.in1 s' vs[i] u ((fun i => match ds[i]? with | some y => PyData.eqv y d | none => false) i) := fun i hi => by
            have := heq i hi
            have e3 : ds[i]? = some (ds[i]'(by omega)) := List.getElem?_eq_getElem _
            simpa [e3] using this
          have hj : j < vs.size := by omega
          have hit : (fun i => match ds[i]? with | some y => PyData.eqv y d | none => false) j = true := by
            have e3 : ds[j]? = some (ds[j]'(by omega)) := List.getElem?_eq_getElem _
            simpa [e3] using f2
          have hno : ∀ m (hm : m < vs.size), 0 ≤ m → m < j → (fun i => match ds[i]? with | some y => PyData.eqv y d | none => false) m = false := fun m hm _ hmj => by
            have e3 : ds[m]? = some (ds[m]'(by omega)) := List.getElem?_eq_getElem _
            have := f3 m hmj
            simpa [e3] using this
          have fin : EP X pins σ Q (.int j s'.toks) { s' with toks := s'.toks + 1 } := ⟨.int n, H', I'.tok _, ⟨_, by rw [e]⟩, q⟩
          rw [sizeLine_eq] at hl
          rcases hk with ⟨e2, hk⟩ | ⟨e2, hk⟩
          · rw [← hb, e2]
            obtain ⟨⟨cls, dd, data, sl⟩, ho, hc, n', hd'⟩ := id hk
            simp only at hc hd'
            subst hc hd'
            exact call_meets PySem.F.slot_list_index ⟨_, ho, rfl⟩ PySem.F.entry_list_index (PySem.F.args_list_index_2 _ _) (PySem.SeqAt.list_index2_found l vs n' dd sl u _ j hj (Nat.zero_le _) (by omega) hit hno) ⟨ho, heq', fin⟩
          · rw [← hb, e2]
            obtain ⟨⟨cls, dd, data, sl⟩, ho, hc, n', hd'⟩ := id hk
            simp only at hc hd'
            subst hc hd'
            exact call_meets PySem.F.slot_tuple_index ⟨_, ho, rfl⟩ PySem.F.entry_tuple_index (PySem.F.args_tuple_index_2 _ _) (PySem.SeqAt.tuple_index2_found l vs n' dd sl u _ j hj (Nat.zero_le _) hj hit hno) ⟨ho, heq', fin⟩
      · cases hz
  obtain ⟨rfl, _⟩ := ty
  exact ⟨"list", "list.index", PySem.F.plainAttrs_list, PySem.F.slot_list_index, PySem.F.type_list_index, t1, t2, go⟩
theorem cnt_q {g : D → D → Option D} {cc : E} (he : esc false cc = esc true a ++ esc true b) (hf : cc.fresh = false) (hn : ∀ d c z, g d c = some z → ∃ n, z = .int n) (hv : ∀ ρ R, P.ev cc ρ R → P.ev a ρ fun d => wM.bind (wM.lift (lst? d)) (fun _ => wM.bind (PV.ev wM P.C P.F P.G b ρ) fun y => wM.lift (g y d)) R) {σ : L2.St} {H : Hp} {Q : VK} (q : tE P X.fw cc σ H Q) :
    tMe (tyS X.fw) (rCnt X.fw g) (tB P X.fw a) (tCons (tB P X.fw b) tNil) σ H Q := by
  obtain ⟨O0, H0, O, ρ, R, S, es, ev, q⟩ := q
  rw [he] at es
  refine ⟨O0, H0, O, ρ, _, S, noOw_l es, hv ρ R ev, fun d v H1 hd e1 ba _ => ?_⟩
  obtain ⟨z0, hz0, hd⟩ := wbind hd
  obtain ⟨ts, ds, hds⟩ := ba.tyS ⟨z0, hz0⟩
  refine ⟨isL d, ts, O0, H0, O, ρ, _, S.ext e1, noOw_r es, hd, fun d2 v2 H2 hd2 e2 bb _ => ?_⟩
  obtain ⟨z, hz, hR⟩ := wlift hd2
  obtain ⟨n, rfl⟩ := hn _ _ _ hz
  exact ⟨O, v2, d, d2, n, rfl, rfl, ba.ext e2 S.wo e1.2, bb, hz, q _ _ H2 hR (e1.trans e2) ⟨.int n, fun z => by rw [hf] at z; cases z⟩⟩
theorem dCount_int {d c z : D} (h : dCount d c = some z) : ∃ n, z = .int n := by
  unfold dCount at h
  cases hi : items c with
  | none => rw [hi] at h; cases h
  | some ds =>
    rw [hi] at h
    have h : (if (sh d && shs ds) = true then some (PyData.int (ds.countP fun y => PyData.eqv y d)) else none) = some z := h
    split at h
    · exact ⟨_, (Option.some.inj h).symm⟩
    · cases h
theorem dIndex_int {d c z : D} (h : dIndex d c = some z) : ∃ n, z = .int n := by
  unfold dIndex at h
  cases hi : items c with
  | none => rw [hi] at h; cases h
  | some ds =>
    rw [hi] at h
    have h : (if (sh d && shs ds) = true then (ds.findIdx? fun y => PyData.eqv y d).map fun n => PyData.int n else none) = some z := h
    split at h
    · cases hf : ds.findIdx? fun y => PyData.eqv y d with
      | none => rw [hf] at h; cases h
      | some j => rw [hf] at h; exact ⟨_, (Option.some.inj h).symm⟩
    · cases h
theorem snd_count (hr : Room k X.A) {o e : Expr} {apos cpos : Pos} (hb : plainBase o = true) (hl : (apos.endLine == cpos.line) = true) (ho : PE X o (tB P X.fw a)) (he : PE X e (tB P X.fw b)) (hs : notStar e = true) : PE X (.Call (.Attribute o "count" apos) [e] [] cpos) (tE P X.fw (.count a b)) :=
  (pe_me (ty := tyS X.fw) (r := rCnt X.fw dCount) (fun i pins s σ H x v I rx ty => rcv_cnt hr I rx ty) ho (pa_cons he pa_nil (star_cons hs)) (base_of hb) (hfew_ok hs rfl (by decide)) hl (star_cons hs) rfl).imp fun σ H Q q =>
    cnt_q (cc := .count a b) (by simp [esc]) rfl (fun _ _ _ h => dCount_int h) (fun ρ R h => by unfold Pm.ev PV.ev at h; exact h) q
theorem snd_index (hr : Room k X.A) {o e : Expr} {apos cpos : Pos} (hb : plainBase o = true) (hl : (apos.endLine == cpos.line) = true) (ho : PE X o (tB P X.fw a)) (he : PE X e (tB P X.fw b)) (hs : notStar e = true) : PE X (.Call (.Attribute o "index" apos) [e] [] cpos) (tE P X.fw (.index a b)) :=
  (pe_me (ty := tyS X.fw) (r := rCnt X.fw dIndex) (fun i pins s σ H x v I rx ty => rcv_idx hr I rx ty) ho (pa_cons he pa_nil (star_cons hs)) (base_of hb) (hfew_ok hs rfl (by decide)) hl (star_cons hs) rfl).imp fun σ H Q q =>
    cnt_q (cc := .index a b) (by simp [esc]) rfl (fun _ _ _ h => dIndex_int h) (fun ρ R h => by unfold Pm.ev PV.ev at h; exact h) q
end
end PV

set_option maxHeartbeats 4000000
/-! PV: {k: v, ..}. -/
namespace PV
open PySem PyProof.Rows L2 RZ

section
variable {prog : Program} {w : World} {A : Around} {E : Value → Shared → Prop} {s : Shared}
/-- the storing of what was made, by value or by place -/
theorem subDict_x {pairs : List (Sem Value × Sem Value)} {Q : Addr → Shared → Prop} (hu : (nestedKind prog w).room A) (hlen : pairs.length ≤ 15)
    (h : wpAny (model prog w) A (evalPairs pairs) (fun vs s₁ =>
      (∃ kvs, Carries (mixKind prog w) vs kvs ∧ s₁.heap.DictOf (mixKind prog w) s.heap.objs.size [] ∧ ∀ h' t, h'.DictOf (mixKind prog w) s.heap.objs.size (merged [] kvs) → Heap.SameBut s.heap.objs.size s₁.heap h' → Q s.heap.objs.size { s₁ with heap := h', toks := t }) ∨
      (∃ ps, CarriesH (nestedKind prog w) s₁.heap vs ps ∧ s₁.heap.DictOfH (nestedKind prog w) s.heap.objs.size [] ∧ ∀ h' tk, h'.DictOfH (nestedKind prog w) s.heap.objs.size (storedAllH [] ps) → Heap.SameBut s.heap.objs.size s₁.heap h' → Q s.heap.objs.size { s₁ with heap := h', toks := tk })) E
      { s with heap := s.heap.push { cls := .type "dict", data := .dict #[] } }) :
    wpAny (model prog w) A (subDict pairs) Q E s := by
  unfold subDict
  refine wpAny_bind (wpAny_alloc ?_)
  refine wpAny_bind (wpAny_holding ?_)
  rw [if_pos hlen]
  refine wpAny_bind (wpAny_mono (wpAny_evalPairs_len h) (fun vs s₁ h₁ => ?_) fun _ _ e => e)
  obtain ⟨hvl, h₁⟩ := h₁
  refine wpAny_holding ?_
  rcases h₁ with ⟨kvs, hc, hm, hQ⟩ | ⟨ps, hc, hm, hQ⟩
  · have hsz : ([] : List (Key × Value)).length + kvs.length ≤ sizeLine := by
      have e := hc.length
      rw [sizeLine_eq, List.length_nil]; omega
    exact wpAny_bind (wpAny_storeAll (knd := mixKind prog w) vs kvs [] s₁ _ hc hm hsz fun h' hm' hs' => wpAny_pure (wpAny_pure (hQ h' _ hm' hs')))
  · have hsz : ([] : List (NestedKey × Addr × Value)).length + ps.length ≤ sizeLine := by
      have e := hc.length
      rw [sizeLine_eq, List.length_nil]; omega
    exact wpAny_bind (wpAny_storeAllH hu vs ps [] s₁ _ hc hm hsz fun h' tk hm' hs' => wpAny_pure (wpAny_pure (hQ h' tk hm' hs')))
end

section
variable {P : Pm} {ct : Ct} {X : Cx} {k : Nat} {a b c d : E} {x y z u : Expr} {pos : Pos}
def o0D : Obj := { cls := .type "dict", data := .dict #[] }
abbrev PrR (K : Fw) (H : Hp) : List (V × V) → List (PV.D × PV.D) → Prop := Paired fun p q => Rp K H p.1 q.1 ∧ Rp K H p.2 q.2
def tDct (w : World) (K : Fw) (trs : List (TE × TE)) : TE := fun σ H Q => ∀ p, H p = none → tPairs trs σ (upd H p (dcO p o0D)) fun ps H3 => H3 p = some (dcO p o0D) ∧ ∃ (Ho : Hp) (l r : List (PV.D × PV.D)), Le Ho H3 ∧ PrR K Ho ps l ∧ l.length ≤ 1000 ∧ dPairs (l.map fun q => .tuple [q.1, q.2]) [] = some r ∧
  ∀ o', Dnew w K Ho p o' r → Q (.ref p) (upd H3 p (dcO p o'))
theorem prs_leaf {K : Fw} {H : Hp} : ∀ {ps : List (V × V)} {ws : List (Value × Value)} {l : List (PV.D × PV.D)}, VV ps ws → PrR K H ps l → (∀ p ∈ l.map (fun q => PyData.tuple [q.1, q.2]), ∃ k z, p = .tuple [kD k, z]) →
    ∃ L : List PL, (∀ p ∈ L, p.Ok0 K H) ∧ l = L.map (fun p => (kD p.k, p.z)) ∧ ws = L.map fun p => (p.key, p.y)
  | [], _, _, .nil, .nil, _ => ⟨[], by simp, rfl, rfl⟩
  | p :: ps, w :: ws, q :: l, .cons hw t, .cons hq u, f => by
    obtain ⟨L, h1, h2, h3⟩ := prs_leaf t u (fun p hp => f p (by simp only [List.map_cons, List.mem_cons]; exact .inr hp))
    obtain ⟨k, z, e⟩ := f (.tuple [q.1, q.2]) (by simp)
    injection e with e
    injection e with e1 e2
    have r := hq.1
    rw [e1] at r
    have r2 := hw.1
    rw [rp_kD r] at r2
    refine ⟨⟨0, k, w.1, p.2, w.2, q.2⟩ :: L, fun p' hp => ?_, by rw [h2, List.map_cons]; exact congrArg (· :: _) (Prod.ext e1 rfl), by rw [h3]; rfl⟩
    rcases List.mem_cons.mp hp with rfl | hp
    · exact ⟨kV_is (P := default) (w := K.w) r2, hw.2, hq.2⟩
    · exact h1 p' hp
theorem prs_tup {K : Fw} {H : Hp} : ∀ {ps : List (V × V)} {ws : List (Value × Value)} {l : List (PV.D × PV.D)}, VV ps ws → PrR K H ps l → (∀ p ∈ l.map (fun q => PyData.tuple [q.1, q.2]), ∃ k z j, p = .tuple [k, z] ∧ nkOf k = some j ∧ nkTup j = true ∧ j.depth ≤ 8) →
    ∃ L : List PT', (∀ p ∈ L, p.Ok0 K H) ∧ l = L.map (fun p => (p.kd, p.z)) ∧ ws = L.map fun p => (.ref p.b, p.y)
  | [], _, _, .nil, .nil, _ => ⟨[], by simp, rfl, rfl⟩
  | p :: ps, w :: ws, q :: l, .cons hw t, .cons hq u, f => by
    obtain ⟨L, h1, h2, h3⟩ := prs_tup t u (fun p hp => f p (by simp only [List.map_cons, List.mem_cons]; exact .inr hp))
    obtain ⟨k, z, j, e, j1, j2, j3⟩ := f (.tuple [q.1, q.2]) (by simp)
    injection e with e
    injection e with e1 e2
    rw [← e1] at j1
    obtain ⟨p1, p2⟩ := p
    obtain ⟨w1, w2⟩ := w
    obtain ⟨hq1, hq2⟩ := hq
    obtain ⟨hw1, hw2⟩ := hw
    have hb : ∃ b, p1 = .ref b := by
      rw [nk_of_tup j1] at j2
      have hq1 : Rp K H p1 q.1 := hq1
      generalize q.1 = d at hq1 j2
      cases hq1 <;> first | exact ⟨_, rfl⟩ | simp [isTup] at j2
    obtain ⟨b, rfl⟩ := hb
    cases (show w1 = .ref b from hw1)
    refine ⟨⟨0, q.1, j, b, p2, w2, q.2⟩ :: L, fun p' hp => ?_, by rw [h2]; rfl, by rw [h3]; rfl⟩
    rcases List.mem_cons.mp hp with rfl | hp
    · exact ⟨j1, j2, j3, hq1, hw2, hq2⟩
    · exact h1 p' hp
theorem carries_leaf {P : Program} {w : World} {K : Fw} {H : Hp} : ∀ {L : List PL}, (∀ p ∈ L, p.Ok0 K H) → Carries (mixKind P w) (L.map fun p => (p.key, p.y)) (L.map fun p => (p.k, p.y))
  | [], _ => trivial
  | p :: L, h => ⟨(h p (by simp)).1, rfl, carries_leaf fun q hq => h q (by simp [hq])⟩
theorem carries_tup {pins : List (Addr × Obj)} {σ : L2.St} {H Ho : Hp} {s : Shared} (I : Inv X pins σ H s) (le : Le Ho H) : ∀ {L : List PT'}, (∀ p ∈ L, p.Ok0 X.fw Ho) → CarriesH (nestedKind X.prog X.w) s.heap (L.map fun p => (.ref p.b, p.y)) (L.map fun p => (p.k, p.b, p.y))
  | [], _ => trivial
  | p :: L, h => by
    obtain ⟨e2, e3, e4, e5, _⟩ := h p (by simp)
    obtain ⟨b, eb, _, hb⟩ := tup_is (u := .ref p.b) I le e5 rfl e2 e3 e4
    cases eb
    exact ⟨rfl, rfl, hb, carries_tup I le fun q hq => h q (by simp [hq])⟩
theorem pe_dsp (hr : Room k X.A) {keys : List (Option Expr)} {values : List Expr} {trs : List (TE × TE)} (hps : PPs X pos keys values trs) (hall : keys.all (·.isSome) = true) (hl : keys.length = values.length) (h0 : keys ≠ [])
    (h15 : keys.length ≤ 15) : PE X (.Dict keys values pos) (tDct X.w X.fw trs) := by
  refine ⟨fun pins s σ H Q I q => ?_⟩
  have hn := I.hok.fresh (Nat.le_refl s.heap.objs.size)
  have I1 := I.laid (a := s.heap.objs.size) (o := dcO s.heap.objs.size o0D) (h' := s.heap.push o0D) (t' := s.toks) (fun _ _ q => Heap.get?_push_of_some _ q) (Nat.le_refl _) (ok_dcO (Heap.get?_push_size _ rfl))
  have hnn := pairTrees_length keys values X.env pos hall hl
  rw [arm_eval_Dict, zip_pairTrees keys values X.env pos hall hl, dictDisplay_pairs (pairTrees keys values X.env pos) (fun he => by
    rw [he] at hnn
    exact h0 (List.length_eq_zero_iff.mp hnn.symm)) (by omega)]
  refine wpAny_bind (wpAny_standAt (wpAny_bind (subDict_x (by show X.A.units + 8 < cLine; have := hr.un; omega) (by omega) (thn (hps.run pins _ σ _ _ I1 (q _ hn)) fun ws s2 ⟨ps, H2, I2, rel, e, Ho, l, r, le, pr, hlen, hd, q2⟩ => ?_))))
  have hg : s2.heap.get? s.heap.objs.size = some o0D := (I2.hok _ _ e).1
  have fin : ∀ (h' : Heap) (t : Nat), Heap.SameBut s.heap.objs.size s2.heap h' → (∃ o', h'.get? s.heap.objs.size = some o' ∧ Dnew X.w X.fw Ho s.heap.objs.size o' r) → wpAny (model X.prog X.w) X.A (pure (Value.ref s.heap.objs.size)) (EP X pins σ Q) X.xe { s2 with heap := h', toks := t } := fun h' t hs ⟨o', ho', dn⟩ =>
    wpAny_pure ⟨.ref s.heap.objs.size, _, d_write I2 (by rw [e]; exact mut_dcO) hs ⟨_, ho'⟩ (ok_dcO ho'), rfl, q2 o' dn⟩
  rcases dPairs_kind hd with hk | hk
  · obtain ⟨L, l1, l2, l3⟩ := prs_leaf rel pr hk
    subst l2 l3
    obtain ⟨rV, lr, kv⟩ := fold_leaf l1 .nil .nil (by simp) (by rw [List.map_map] at hd; exact hd)
    refine .inl ⟨_, carries_leaf l1, ⟨o0D, #[], 0, hg, ⟨rfl, rfl, rfl⟩, rfl, (fun e he => by simp at he), .nil, by simp⟩, fun h' t dd hs => ?_⟩
    refine fin h' t hs (dnew_leaf lr kv ?_ (low_of I) dd)
    have := merged_length_le ([] : List (Key × Value)) (L.map fun p => (p.k, p.y))
    simp only [List.length_nil, List.length_map] at this hlen
    rw [sizeLine_eq]
    omega
  · obtain ⟨L, l1, l2, l3⟩ := prs_tup rel pr hk
    subst l2 l3
    obtain ⟨rV, tr, xr, hdp⟩ := fold_tup l1 .nil .nil (by simp) (fun x hx => by cases hx) (by rw [List.map_map] at hd; exact hd)
    refine .inr ⟨_, carries_tup I2 le l1, ⟨o0D, #[], 0, hg, ⟨rfl, rfl, rfl⟩, rfl, rfl, (fun x hx => by cases hx), by simp⟩, fun h' t dd hs => ?_⟩
    refine fin h' t hs (dnew_tup tr xr ?_ (low_of I) hdp dd)
    have := storedAllH_length (L.map fun p => (p.k, p.b, p.y)) []
    simp only [List.length_nil, List.length_map] at this hlen
    rw [sizeLine_eq]
    omega
/-! what is written, as the core has it -/
def trsOf (P : Pm) (K : Fw) : Es → List (TE × TE)
  | .cons a (.cons b r) => (tE P K a, tE P K b) :: trsOf P K r
  | _ => []
def prsOf : List PV.D → List (PV.D × PV.D)
  | a :: b :: r => (a, b) :: prsOf r
  | _ => []
def evenE : Es → Bool
  | .nil => true
  | .cons _ .nil => false
  | .cons _ (.cons _ r) => evenE r
theorem tPairs_of {O0 : List Addr} {H0 : Hp} {O : List Addr} {ρ : Env} {σ : L2.St} : ∀ {es : Es} {H : Hp} {R : List PV.D → Prop} {Q : List (V × V) → Hp → Prop}, evenE es = true → Sim X.fw P.w P.iw O0 H0 O H σ ρ → NoOw (escs es) ρ → P.evs es ρ R →
    (∀ ds ps H', R ds → Ext P.w H H' → PrR X.fw (hid O H') ps (prsOf ds) → ds.length = es.len → Q ps H') → tPairs (trsOf P X.fw es) σ H Q
  | .nil, H, R, Q, _, S, _, ev, q => by
    have ev : R [] := by unfold Pm.evs PV.evs at ev; exact ev
    exact q [] [] H ev (Ext.refl S.wok) .nil rfl
  | .cons _ .nil, _, _, _, h, _, _, _, _ => by cases h
  | .cons a (.cons b r), H, R, Q, h, S, no, ev, q => by
    have no : NoOw (esc false a ++ (esc false b ++ escs r)) ρ := by simpa [escs] using no
    have ev : P.ev a ρ fun x => P.ev b ρ fun y => P.evs r ρ fun ds => R (x :: y :: ds) := by
      unfold Pm.evs PV.evs at ev
      unfold PV.evs at ev
      exact ev
    refine ⟨O0, H0, O, ρ, _, S, noOw_l no, ev, fun d v H1 hd e1 r1 => ⟨O0, H0, O, ρ, _, S.ext e1, noOw_l (noOw_r no), hd, fun d2 v2 H2 hd e2 r2 => ?_⟩⟩
    have S2 := (S.ext e1).ext e2
    refine tPairs_of (es := r) h S2 (noOw_r (noOw_r no)) hd fun ds ps H3 hR e3 pr hl => q _ _ H3 hR ((e1.trans e2).trans e3) (.cons ⟨(r1.1.mono (e2.hid S.wo)).mono (e3.hid S.wo), r2.1.mono (e3.hid S.wo)⟩ pr) (by simp [Es.len, hl])
theorem dDisp_pairs : ∀ {ds : List PV.D} {acc r : List (PV.D × PV.D)}, dDisp ds acc = some r → dPairs ((prsOf ds).map fun q => .tuple [q.1, q.2]) acc = some r
  | [], _, _, h => by cases h; rfl
  | [_], _, _, h => by cases h
  | k :: v :: ds, acc, r, h => by
    unfold dDisp at h
    split at h
    · rename_i hk
      have ih := dDisp_pairs h
      show dPairs (.tuple [k, v] :: (prsOf ds).map fun q => .tuple [q.1, q.2]) acc = some r
      unfold dPairs
      rw [if_pos hk]
      exact ih
    · cases h
theorem prs_len : ∀ ds : List PV.D, (prsOf ds).length ≤ ds.length
  | [] => by simp [prsOf]
  | [_] => by simp [prsOf]
  | _ :: _ :: ds => by have := prs_len ds; simp [prsOf]; omega
theorem dct_q {es : Es} (he : evenE es = true) (hl : es.len ≤ 1000) {σ : L2.St} {H : Hp} {Q : VK} (q : tE P X.fw (.dct es) σ H Q) : tDct X.w X.fw (trsOf P X.fw es) σ H Q := by
  obtain ⟨O0, H0, O, ρ, R, S, no, ev, q⟩ := q
  have no : NoOw (escs es) ρ := by simpa [esc] using no
  have ev : P.evs es ρ fun ds => wM.lift ((dDisp ds []).map .dict) R := by unfold Pm.ev PV.ev at ev; exact ev
  intro p hp
  have e1 : Ext P.w H (upd H p (dcO p o0D)) := Ext.new S.wok hp
  have S1 := S.grow hp e1 (by simp [upd])
  refine tPairs_of he S1 no ev fun ds ps H3 hd e3 pr hlen => ?_
  obtain ⟨z, hz, hR⟩ := wlift hd
  cases hdd : dDisp ds [] with
  | none => rw [hdd] at hz; cases hz
  | some r =>
    rw [hdd] at hz
    cases hz
    have nw : ¬ P.w.is p := fun z => by
      obtain ⟨kvs, q⟩ := is_dK S.wok z
      rw [hp] at q
      cases q
    have h3 : H3 p = some (dcO p o0D) := e3.1 p _ nw (by simp [upd])
    refine ⟨h3, hid (p :: O) H3, _, r, hid_le _ _, pr, by have := prs_len ds; omega, dDisp_pairs hdd, fun o' dn => ?_⟩
    obtain ⟨kv, vv, ok, r1, r2⟩ := dn
    have hh : hid (p :: O) (upd H3 p (dcO p o')) = hid (p :: O) H3 := hid_upd (by simp)
    have hpO : p ∉ O := fun hm => S.dom p hm hp
    have hwD := wD S.wok hp
    have eX : Ext P.w H (upd H3 p (dcO p o')) := by
      have xd : XD P.w p H H3 := ⟨fun a o h1 h2 h4 => e3.1 a o h1 (by rw [upd_ne h2]; exact h4), e3.2⟩
      have xu := xd.upd (o := dcO p o') hwD
      refine ⟨fun a o h1 h4 => xu.1 a o h1 (fun z => ?_) h4, xu.2⟩
      subst z
      rw [hp] at h4
      cases h4
    have sub : Le (hid (p :: O) (upd H3 p (dcO p o'))) (hid O (upd H3 p (dcO p o'))) := hid_sub fun a ha => List.mem_cons_of_mem _ ha
    refine q _ _ _ hR eX ⟨.dct (hid_in hpO (by simp [upd])) ok ((by rw [hh]; exact r1 : Rps X.fw (hid (p :: O) (upd H3 p (dcO p o'))) kv _).mono sub) ((by rw [hh]; exact r2 : Rps X.fw (hid (p :: O) (upd H3 p (dcO p o'))) vv _).mono sub), fun _ _ => ?_⟩
    exact ⟨p, _, rfl, hp, by simp [upd], .dct ok (by rw [hh]; exact r1) (by rw [hh]; exact r2)⟩
/-- {} -/
theorem dct0_q {σ : L2.St} {H : Hp} {Q : VK} (q : tE P X.fw (.dct .nil) σ H Q) : ∀ p o, H p = none → Dnew X.w X.fw H p o [] → Q (.ref p) (upd H p (dcO p o)) := by
  obtain ⟨O0, H0, O, ρ, R, S, no, ev, q⟩ := q
  have ev : R (.dict []) := by unfold Pm.ev PV.ev PV.evs at ev; exact ev
  intro p o hp dn
  obtain ⟨kv, vv, ok, r1, r2⟩ := dn
  cases r1
  cases r2
  refine q _ _ _ ev (Ext.new S.wok hp) ⟨.dct (kvs := []) (hid_in (fun hm => S.dom p hm hp) (by simp [upd])) ok .nil .nil, fun _ _ => ⟨p, _, rfl, hp, by simp [upd], .dct (kvs := []) ok .nil .nil⟩⟩
theorem snd_dct0 : PE X (.Dict [] [] pos) (tE P X.fw (.dct .nil)) := ⟨fun pins s σ H Q I q => by
  have q := dct0_q q
  refine wpAny_Dict_empty ?_
  obtain ⟨o, ho, dn⟩ := dnew_leaf (K := X.fw) (Ho := H) (P := X.prog) (w := X.w) (a := s.heap.objs.size) (h' := s.heap.push { cls := .type "dict", data := .dict #[] }) (kvs := []) (kvV := []) (us := []) .nil .nil (by simp) (low_of I) (Heap.DictOf.new s.heap)
  have hn := I.hok.fresh (Nat.le_refl s.heap.objs.size)
  exact ⟨.ref s.heap.objs.size, _, I.laid (t' := s.toks) (o := dcO _ o) (fun _ _ q => Heap.get?_push_of_some _ q) (Nat.le_refl _) (ok_dcO ho), rfl, q _ o hn dn⟩⟩
end
end PV

set_option maxHeartbeats 4000000
/-! PV: every expression of the checked form. -/
namespace PV
open PySem L2 RZ

theorem fsi {x : Expr} (h : notSet x = true) (env : PySem.Env) (v : Value) : foldedSetIterable x env v = pure v := by
  cases x <;> first | rfl | (simp [notSet] at h)
theorem chkT_eq {ct : Ct} {t : E} {ifs : List Expr} (h : chkT ct t ifs = true) : (t = .yes ∧ ifs = []) ∨ ∃ x, ifs = [x] ∧ chkE ct t x = true := by
  rcases ifs with _ | ⟨x, _ | ⟨y, r⟩⟩
  · cases t <;> first | exact .inl ⟨rfl, rfl⟩ | cases h
  · have h : (!isYes t && chkE ct t x) = true := h
    rw [Bool.and_eq_true] at h
    exact .inr ⟨x, rfl, h.2⟩
  · cases h
theorem chkO_eq {ct : Ct} {c : E} {o : Option Expr} (h : chkO ct c o = true) : (c = .none ∧ o = none) ∨ ∃ x, o = some x ∧ chkE ct c x = true ∧ ∀ d o, bound? c d = some o → ∃ i, d = .int i ∧ o = some i := by
  cases o with
  | none => cases c <;> first | exact .inl ⟨rfl, rfl⟩ | cases h
  | some x =>
    have h : (!isNo c && chkE ct c x) = true := h
    rw [Bool.and_eq_true] at h
    exact .inr ⟨x, rfl, h.2, fun d o z => bnd_int (by cases c <;> first | rfl | (simp [isNo] at h)) z⟩
theorem chkD_shape {ct : Ct} : ∀ {cs : Es} {ks : List (Option Expr)} {vs : List Expr}, chkD ct cs ks vs = true → ks.all (·.isSome) = true ∧ ks.length = vs.length ∧ evenE cs = true ∧ (cs.isNil = false → ks ≠ [])
  | .nil, [], [], _ => ⟨rfl, rfl, rfl, fun h => by cases h⟩
  | .nil, [], _ :: _, h => by unfold chkD at h; cases h
  | .nil, _ :: _, _, h => by unfold chkD at h; cases h
  | .cons a .nil, _, _, h => by unfold chkD at h; cases h
  | .cons a (.cons b r), [], _, h => by unfold chkD at h; cases h
  | .cons a (.cons b r), none :: _, _, h => by unfold chkD at h; cases h
  | .cons a (.cons b r), some x :: ks, [], h => by unfold chkD at h; cases h
  | .cons a (.cons b r), some x :: ks, y :: vs, h => by
    unfold chkD at h
    rw [Bool.and_eq_true, Bool.and_eq_true] at h
    obtain ⟨i1, i2, i3, i4⟩ := chkD_shape h.2.2
    exact ⟨by simpa using i1, by simp [i2], i3, fun _ z => by cases z⟩
theorem chkEs_len {ct : Ct} {env : PySem.Env} : ∀ {cs : Es} {xs : List Expr}, chkEs ct cs xs = true → cs.len = xs.length ∧ ∀ pos, (backTo pos (starEach xs env)).any (·.1) = false
  | .nil, [], _ => ⟨rfl, fun _ => rfl⟩
  | .nil, _ :: _, h => by unfold chkEs at h; cases h
  | .cons c cs, [], h => by unfold chkEs at h; cases h
  | .cons c cs, x :: xs, h => by
    unfold chkEs at h
    rw [Bool.and_eq_true, Bool.and_eq_true] at h
    obtain ⟨h1, h2, h3⟩ := h
    obtain ⟨k1, k2⟩ := chkEs_len (env := env) h3
    refine ⟨by simp [Es.len, k1], fun pos => ?_⟩
    rw [star_cons h1]
    show (false || (backTo pos (starEach xs env)).any (·.1)) = false
    rw [k2 pos]
    rfl
section
variable {P : Pm} {ct : Ct} {X : Cx} {k : Nat}
theorem both (g : Gd P ct X k) {c : E} {e : Expr} (hc : chkE ct c e = true) (h : PE X e (tE P X.fw c)) (hn : notTest e = true) : PE X e (tE P X.fw c) ∧ PT X e (tT P X.fw c) :=
  ⟨h, pt_of_B (snd_B g hc h) (notTest_eq hn)⟩
theorem yes_ok {X : Cx} : PTs X [] (tT P X.fw .yes) := ⟨fun pins s σ H Q I q => pts_nil.run pins s σ H Q I (by
  obtain ⟨O0, H0, O, ρ, R, S, es, ev, q⟩ := q
  have ev : R (.bool true) := by unfold Pm.ev PV.ev at ev; exact ev
  obtain ⟨b, hb, q⟩ := q _ H ev (Ext.refl S.wok)
  cases hb
  exact q)⟩
theorem bad_ok {X : Cx} {e : Expr} : PE X e (tE P X.fw .bad) ∧ PT X e (tT P X.fw .bad) := ⟨⟨fun pins s σ H Q I q => by
  obtain ⟨O0, H0, O, ρ, R, S, es, ev, q⟩ := q
  unfold Pm.ev PV.ev at ev
  exact False.elim ev⟩, ⟨fun pins s σ H Q I q => by
  obtain ⟨O0, H0, O, ρ, R, S, es, ev, q⟩ := q
  unfold Pm.ev PV.ev at ev
  exact False.elim ev⟩⟩
theorem chkS_fsi {ct : Ct} {s : Src} {tg e : Expr} (hc : chkS ct s tg e = true) : ∀ env x, foldedSetIterable e env x = pure x := by
  cases s with
  | val c =>
    unfold chkS at hc
    rw [Bool.and_eq_true] at hc
    exact fsi hc.1
  | _ =>
    unfold chkS at hc
    cases hv : vCall e with
    | none => rw [hv] at hc; cases hc
    | some q =>
      obtain ⟨x, es⟩ := q
      obtain ⟨p, q, rfl⟩ := vCall_eq hv
      exact fsi rfl
mutual
theorem sE : ∀ (c : E) {ct : Ct} {X : Cx} {e : Expr}, Gd P ct X k → chkE ct c e = true → PE X e (tE P X.fw c) ∧ PT X e (tT P X.fw c)
  | .none, ct, X, e, g, hc => by
    have h0 := hc
    unfold chkE at h0
    cases hv : vConst e with
    | none => rw [hv] at h0; cases h0
    | some c =>
      rw [hv] at h0
      obtain ⟨j, p, rfl⟩ := vConst_eq hv
      cases c <;> try (cases h0; done)
      exact both g hc (snd_const (v := .non) (d := .none) pe_non (fun ρ => by unfold Pm.ev PV.ev; rfl) (fun H => .non) rfl) rfl
  | .bl b, ct, X, e, g, hc => by
    have h0 := hc
    unfold chkE at h0
    cases hv : vConst e with
    | none => rw [hv] at h0; cases h0
    | some c =>
      rw [hv] at h0
      obtain ⟨j, p, rfl⟩ := vConst_eq hv
      cases c with
      | bool b2 =>
        obtain rfl : b = b2 := beq_iff_eq.mp h0
        exact both g hc (snd_const (v := .bl b) (d := .bool b) pe_bl (fun ρ => by unfold Pm.ev PV.ev; rfl) (fun H => .bl b) rfl) rfl
      | _ => cases h0
  | .int i, ct, X, e, g, hc => by
    have h0 := hc
    unfold chkE at h0
    cases hv : vConst e with
    | none => rw [hv] at h0; cases h0
    | some c =>
      rw [hv] at h0
      obtain ⟨j, p, rfl⟩ := vConst_eq hv
      cases c with
      | int b2 =>
        obtain rfl : i = b2 := beq_iff_eq.mp h0
        exact both g hc (snd_const (v := .int i) (d := .int i) pe_int (fun ρ => by unfold Pm.ev PV.ev; rfl) (fun H => .int i) rfl) rfl
      | _ => cases h0
  | .str i, ct, X, e, g, hc => by
    have h0 := hc
    unfold chkE at h0
    cases hv : vConst e with
    | none => rw [hv] at h0; cases h0
    | some c =>
      rw [hv] at h0
      obtain ⟨j, p, rfl⟩ := vConst_eq hv
      cases c with
      | str b2 =>
        obtain rfl : i = b2 := beq_iff_eq.mp h0
        exact both g hc (snd_const (v := .str i) (d := .str i) pe_str (fun ρ => by unfold Pm.ev PV.ev; rfl) (fun H => .str i) rfl) rfl
      | _ => cases h0
  | .var i, ct, X, e, g, hc => by
    have h0 := hc
    unfold chkE at h0
    cases hv : vName e with
    | none => rw [hv] at h0; cases h0
    | some x =>
      rw [hv] at h0
      obtain ⟨p, rfl⟩ := vName_eq hv
      exact both g hc (snd_var (pe_nm g h0)) rfl
  | .gl n, ct, X, e, g, hc => by
    have h0 := hc
    unfold chkE at h0
    cases hv : vName e with
    | none => rw [hv] at h0; cases h0
    | some x =>
      rw [hv] at h0
      obtain ⟨p, rfl⟩ := vName_eq hv
      simp only [Bool.and_eq_true] at h0
      exact both g hc (snd_gl g h0.1 h0.2.1 h0.2.2) rfl
  | .bin o a b, ct, X, e, g, hc => by
    have h0 := hc
    unfold chkE at h0
    cases hv : vBin e with
    | none => rw [hv] at h0; cases h0
    | some q =>
      obtain ⟨x, op, y⟩ := q
      rw [hv] at h0
      obtain ⟨p, rfl⟩ := vBin_eq hv
      simp only [Bool.and_eq_true, decide_eq_true_eq] at h0
      obtain ⟨rfl, ha, hb⟩ := h0
      exact both g hc (snd_bin (snd_B g ha (sE a g ha).1) (snd_B g hb (sE b g hb).1)) rfl
  | .neg a, ct, X, e, g, hc => by
    have h0 := hc
    unfold chkE at h0
    cases hv : vUn e with
    | none => rw [hv] at h0; cases h0
    | some q =>
      obtain ⟨op, x⟩ := q
      rw [hv] at h0
      obtain ⟨p, rfl⟩ := vUn_eq hv
      cases op <;> try (cases h0; done)
      exact both g hc (snd_neg (snd_B g h0 (sE a g h0).1)) rfl
  | .not a, ct, X, e, g, hc => by
    have h0 := hc
    unfold chkE at h0
    cases hv : vUn e with
    | none => rw [hv] at h0; cases h0
    | some q =>
      obtain ⟨op, x⟩ := q
      rw [hv] at h0
      obtain ⟨p, rfl⟩ := vUn_eq hv
      cases op <;> try (cases h0; done)
      exact ⟨snd_not (snd_B g h0 (sE a g h0).1), sndT_not (sE a g h0).2⟩
  | .and a b, ct, X, e, g, hc => by
    have h0 := hc
    unfold chkE at h0
    cases hv : vBool e with
    | none => rw [hv] at h0; cases h0
    | some q =>
      obtain ⟨op, vs, p⟩ := q
      rw [hv] at h0
      obtain rfl := vBool_eq hv
      cases op <;> try (cases h0; done)
      rcases vs with _ | ⟨x, _ | ⟨y, _ | ⟨z, r⟩⟩⟩
      · cases h0
      · cases h0
      · simp only [Bool.and_eq_true] at h0
        exact ⟨snd_and (sE a g h0.1).1 (pe_one (sE b g h0.2).1), (sndT_and (sE a g h0.1).2 (pw_and1 (sE b g h0.2).2)).pt⟩
      · simp only [Bool.and_eq_true] at h0
        exact ⟨snd_and (sE a g h0.1).1 (sE b g h0.2).1, (sndT_and (sE a g h0.1).2 (pw_of (sE b g h0.2).2)).pt⟩
  | .or a b, ct, X, e, g, hc => by
    have h0 := hc
    unfold chkE at h0
    cases hv : vBool e with
    | none => rw [hv] at h0; cases h0
    | some q =>
      obtain ⟨op, vs, p⟩ := q
      rw [hv] at h0
      obtain rfl := vBool_eq hv
      cases op <;> try (cases h0; done)
      rcases vs with _ | ⟨x, _ | ⟨y, _ | ⟨z, r⟩⟩⟩
      · cases h0
      · cases h0
      · simp only [Bool.and_eq_true] at h0
        exact ⟨snd_or (sE a g h0.1).1 (pe_one (sE b g h0.2).1), (sndT_or (sE a g h0.1).2 (pw_or1 (sE b g h0.2).2)).pt⟩
      · simp only [Bool.and_eq_true] at h0
        exact ⟨snd_or (sE a g h0.1).1 (sE b g h0.2).1, (sndT_or (sE a g h0.1).2 (pw_of (sE b g h0.2).2)).pt⟩
  | .cmp c a b, ct, X, e, g, hc => by
    have h0 := hc
    unfold chkE at h0
    cases hv : vCmp e with
    | none => rw [hv] at h0; cases h0
    | some q =>
      obtain ⟨x, os, bs⟩ := q
      rw [hv] at h0
      obtain ⟨p, rfl⟩ := vCmp_eq hv
      rcases os with _ | ⟨o, _ | ⟨o2, os⟩⟩
      · cases h0
      · rcases bs with _ | ⟨y, _ | ⟨y2, bs⟩⟩
        · cases h0
        · simp only [Bool.and_eq_true, decide_eq_true_eq] at h0
          obtain ⟨rfl, hs, ha, hb⟩ := h0
          exact ⟨snd_cmp g.room (snd_B g ha (sE a g ha).1) (snd_B g hb (sE b g hb).1) hs, sndT_cmp g.room (snd_B g ha (sE a g ha).1) (snd_B g hb (sE b g hb).1) hs⟩
        · cases h0
      · cases h0
  | .chain c1 c2 a b d, ct, X, e, g, hc => by
    have h0 := hc
    unfold chkE at h0
    cases hv : vCmp e with
    | none => rw [hv] at h0; cases h0
    | some q =>
      obtain ⟨x, os, bs⟩ := q
      rw [hv] at h0
      obtain ⟨p, rfl⟩ := vCmp_eq hv
      rcases os with _ | ⟨o, _ | ⟨o2, _ | ⟨o3, os⟩⟩⟩
      · cases h0
      · cases h0
      · rcases bs with _ | ⟨y, _ | ⟨y2, _ | ⟨y3, bs⟩⟩⟩
        · cases h0
        · cases h0
        · simp only [Bool.and_eq_true, decide_eq_true_eq] at h0
          obtain ⟨rfl, rfl, hs, ha, hb, hd⟩ := h0
          exact ⟨snd_chain g.room (snd_B g ha (sE a g ha).1) (snd_B g hb (sE b g hb).1) (snd_B g hd (sE d g hd).1) hs, sndT_chain g.room (snd_B g ha (sE a g ha).1) (snd_B g hb (sE b g hb).1) (snd_B g hd (sE d g hd).1) hs⟩
        · cases h0
      · cases h0
  | .chain3 c1 c2 c3 a b d gg, ct, X, e, g, hc => by
    have h0 := hc
    unfold chkE at h0
    cases hv : vCmp e with
    | none => rw [hv] at h0; cases h0
    | some q =>
      obtain ⟨x, os, bs⟩ := q
      rw [hv] at h0
      obtain ⟨p, rfl⟩ := vCmp_eq hv
      rcases os with _ | ⟨o, _ | ⟨o2, _ | ⟨o3, _ | ⟨o4, os⟩⟩⟩⟩
      · cases h0
      · cases h0
      · cases h0
      · rcases bs with _ | ⟨y, _ | ⟨y2, _ | ⟨y3, _ | ⟨y4, bs⟩⟩⟩⟩
        · cases h0
        · cases h0
        · cases h0
        · simp only [Bool.and_eq_true, decide_eq_true_eq] at h0
          obtain ⟨rfl, rfl, rfl, hs, ha, hb, hd, hg⟩ := h0
          exact ⟨snd_chain3 g.room (snd_B g ha (sE a g ha).1) (snd_B g hb (sE b g hb).1) (snd_B g hd (sE d g hd).1) (snd_B g hg (sE gg g hg).1) hs, sndT_chain3 g.room (snd_B g ha (sE a g ha).1) (snd_B g hb (sE b g hb).1) (snd_B g hd (sE d g hd).1) (snd_B g hg (sE gg g hg).1) hs⟩
        · cases h0
      · cases h0
  | .ife t a b, ct, X, e, g, hc => by
    have h0 := hc
    unfold chkE at h0
    cases hv : vIf e with
    | none => rw [hv] at h0; cases h0
    | some q =>
      obtain ⟨z, x, y⟩ := q
      rw [hv] at h0
      obtain ⟨p, rfl⟩ := vIf_eq hv
      simp only [Bool.and_eq_true] at h0
      obtain ⟨ht, ha, hb⟩ := h0
      exact ⟨snd_ife (sE t g ht).2 (sE a g ha).1 (sE b g hb).1, sndT_ife (sE t g ht).2 (sE a g ha).2 (sE b g hb).2⟩
  | .tup cs, ct, X, e, g, hc => by
    have h0 := hc
    unfold chkE at h0
    cases hv : vTup e with
    | none => rw [hv] at h0; cases h0
    | some xs =>
      rw [hv] at h0
      obtain ⟨j, p, rfl⟩ := vTup_eq hv
      simp only [Bool.and_eq_true, decide_eq_true_eq] at h0
      exact both g hc (snd_tup (sEs cs g h0.2) h0.1) rfl
  | .lst cs, ct, X, e, g, hc => by
    have h0 := hc
    unfold chkE at h0
    cases hv : vLst e with
    | none => rw [hv] at h0; cases h0
    | some xs =>
      rw [hv] at h0
      obtain ⟨p, rfl⟩ := vLst_eq hv
      simp only [Bool.and_eq_true, decide_eq_true_eq] at h0
      exact both g hc (snd_lst (sEs cs g h0.2) h0.1) rfl
  | .dct es, ct, X, e, g, hc => by
    have h0 := hc
    unfold chkE at h0
    cases hv : vDct e with
    | none => rw [hv] at h0; cases h0
    | some q =>
      obtain ⟨ks, vs⟩ := q
      rw [hv] at h0
      obtain ⟨p, rfl⟩ := vDct_eq hv
      have h0 : (if es.isNil = true then ks.isEmpty && vs.isEmpty else decide (ks.length ≤ 15) && (decide (es.len ≤ 1000) && chkD ct es ks vs)) = true := h0
      split at h0
      · rename_i hn
        rw [Bool.and_eq_true, List.isEmpty_iff, List.isEmpty_iff] at h0
        obtain ⟨rfl, rfl⟩ := h0
        cases es with
        | nil => exact both g hc snd_dct0 rfl
        | cons _ _ => cases hn
      · simp only [Bool.and_eq_true, decide_eq_true_eq] at h0
        obtain ⟨h1, h2, h3⟩ := h0
        obtain ⟨k1, k2, k3, k4⟩ := chkD_shape h3
        have ks0 : ks ≠ [] := by
          rename_i hn
          cases es with
          | nil => exact absurd rfl hn
          | cons a r => exact k4 rfl
        exact both g hc ((pe_dsp g.room (sDs es g h3) k1 k2 ks0 h1).imp fun σ H Q q => dct_q k3 h2 q) rfl
  | .ix a i, ct, X, e, g, hc => by
    have h0 := hc
    unfold chkE at h0
    cases hv : vSub e with
    | none => rw [hv] at h0; cases h0
    | some q =>
      obtain ⟨x, y⟩ := q
      rw [hv] at h0
      obtain ⟨p, rfl⟩ := vSub_eq hv
      simp only [Bool.and_eq_true] at h0
      obtain ⟨hs, ha, hb⟩ := h0
      exact both g hc (snd_ix g.room (snd_B g ha (sE a g ha).1) (snd_B g hb (sE i g hb).1) (by simpa using hs)) rfl
  | .sl a lo hi, ct, X, e, g, hc => by
    have h0 := hc
    unfold chkE at h0
    cases hv : vSub e with
    | none => rw [hv] at h0; cases h0
    | some q =>
      obtain ⟨x, y⟩ := q
      rw [hv] at h0
      obtain ⟨p, rfl⟩ := vSub_eq hv
      cases hs : vSli y with
      | none => simp [hs] at h0
      | some q =>
        obtain ⟨l, h, s⟩ := q
        simp only [hs] at h0
        obtain ⟨p2, rfl⟩ := vSli_eq hs
        cases s with
        | some _ => cases h0
        | none =>
          have h0 : (chkE ct a x && (chkO ct lo l && chkO ct hi h)) = true := h0
          simp only [Bool.and_eq_true] at h0
          obtain ⟨ha, hl, hh⟩ := h0
          have ql : PO X l (tO P X.fw lo) := by
            rcases chkO_eq hl with ⟨rfl, rfl⟩ | ⟨z, rfl, hz, hn⟩
            · exact po_no
            · exact po_yes (snd_B g hz (sE lo g hz).1) hn
          have qh : PO X h (tO P X.fw hi) := by
            rcases chkO_eq hh with ⟨rfl, rfl⟩ | ⟨z, rfl, hz, hn⟩
            · exact po_no
            · exact po_yes (snd_B g hz (sE hi g hz).1) hn
          exact both g hc (snd_sl (snd_B g ha (sE a g ha).1) ql qh) rfl
  | .rev a, ct, X, e, g, hc => by
    have h0 := hc
    unfold chkE at h0
    cases hv : vSub e with
    | none => simp [hv] at h0
    | some q =>
      obtain ⟨x, y⟩ := q
      simp only [hv] at h0
      obtain ⟨p, rfl⟩ := vSub_eq hv
      cases hs : vSli y with
      | none => simp [hs] at h0
      | some q =>
        obtain ⟨l, h, s⟩ := q
        obtain ⟨p2, rfl⟩ := vSli_eq hs
        cases l with
        | some _ => simp [hs] at h0
        | none =>
          cases h with
          | some _ => simp [hs] at h0
          | none =>
            cases s with
            | none => simp [hs] at h0
            | some z =>
              cases hu : vUn z with
              | none => simp [hs, hu] at h0
              | some q2 =>
                obtain ⟨o, c⟩ := q2
                obtain ⟨p3, rfl⟩ := vUn_eq hu
                cases o <;> try (simp [hs, hu] at h0; done)
                cases hk : vConst c with
                | none => simp [hs, hu, hk] at h0
                | some v =>
                  obtain ⟨j, p4, rfl⟩ := vConst_eq hk
                  simp only [hs, hu, hk] at h0
                  split at h0
                  · rename_i i e1
                    cases e1
                    exact both g hc (snd_rev (snd_B g h0 (sE a g h0).1)) rfl
                  · cases h0
  | .yes, ct, X, e, g, hc => by unfold chkE at hc; cases hc
  | .comp own p s t elt, ct, X, e, g, hc => by
    have h0 := hc
    unfold chkE at h0
    cases hv : vLc1 e with
    | none => rw [hv] at h0; cases h0
    | some q =>
      obtain ⟨el, tg, it, ifs, scope⟩ := q
      rw [hv] at h0
      obtain ⟨ps, rfl⟩ := vLc1_eq hv
      simp only [Bool.and_eq_true] at h0
      obtain ⟨hb, hp, hs, hcp, ht, he⟩ := h0
      obtain ⟨hi, hf⟩ := sS s false g hs
      exact both g hc (snd_comp g hb (fun i hi => by simpa using List.all_eq_true.mp hp i hi) hi (hf X.env) (fun X' g' => snd_pat g' hcp)
        (fun X' g' => by
          rcases chkT_eq ht with ⟨e1, e2⟩ | ⟨x, e2, hx⟩
          · rw [e1, e2]; exact yes_ok
          · rw [e2]; exact pts_one (sE t g' hx).2)
        (fun X' g' => (sE elt g' he).1)) rfl
  | .comp2 own own1 p s t p1 s1 t1 elt, ct, X, e, g, hc => by
    have h0 := hc
    unfold chkE at h0
    cases hv : vLc2 e with
    | none => rw [hv] at h0; cases h0
    | some q =>
      obtain ⟨el, ⟨tg, it, ifs⟩, ⟨tg1, it1, ifs1⟩, scope⟩ := q
      rw [hv] at h0
      obtain ⟨ps, rfl⟩ := vLc2_eq hv
      simp only [Bool.and_eq_true] at h0
      obtain ⟨hb, h1o, hp, hp1, hs, hcp, ht, hs1, hcp1, ht1, he⟩ := h0
      obtain ⟨hi, hf⟩ := sS s false g hs
      exact both g hc (snd_comp2 g hb (fun i hi => by simpa using List.all_eq_true.mp h1o i hi) (fun i hi => by simpa using List.all_eq_true.mp hp i hi) (fun i hi => by simpa using List.all_eq_true.mp hp1 i hi) hi (hf X.env) (chkS_fsi hs1)
        (fun X' g' => snd_pat g' hcp)
        (fun X' g' => by
          rcases chkT_eq ht with ⟨e1, e2⟩ | ⟨x, e2, hx⟩
          · rw [e1, e2]; exact yes_ok
          · rw [e2]; exact pts_one (sE t g' hx).2)
        (fun X' g' => (sS s1 false g' hs1).1) (fun X' g' => snd_pat g' hcp1)
        (fun X' g' => by
          rcases chkT_eq ht1 with ⟨e1, e2⟩ | ⟨x, e2, hx⟩
          · rw [e1, e2]; exact yes_ok
          · rw [e2]; exact pts_one (sE t1 g' hx).2)
        (fun X' g' => (sE elt g' he).1)) rfl
  | .call f cs, ct, X, e, g, hc => by
    have h0 := hc
    unfold chkE at h0
    cases hv : vCall e with
    | none => rw [hv] at h0; cases h0
    | some q =>
      obtain ⟨x, es⟩ := q
      rw [hv] at h0
      obtain ⟨p, q, rfl⟩ := vCall_eq hv
      cases es with
      | nil => cases h0
      | cons y ys =>
        simp only [Bool.and_eq_true] at h0
        obtain ⟨hf, hg, hd, he⟩ := h0
        have hl := (chkEs_len (env := X.env) he).1
        cases cs with
        | nil => unfold chkEs at he; cases he
        | cons c cs =>
          have he2 := he
          unfold chkEs at he2
          rw [Bool.and_eq_true, Bool.and_eq_true] at he2
          obtain ⟨h1, h2, h3⟩ := he2
          exact both g hc (snd_call g hf hg hd h1 ((chkEs_len (env := X.env) h3).2 q) (snd_cons h1 (sE c g h2).1 (sEs cs g h3)) hl) rfl
  | .callw f cs, ct, X, e, g, hc => by
    have h0 := hc
    unfold chkE at h0
    cases hv : vCall e with
    | none => rw [hv] at h0; cases h0
    | some q =>
      obtain ⟨x, es⟩ := q
      rw [hv] at h0
      obtain ⟨p, q, rfl⟩ := vCall_eq hv
      cases es with
      | nil => cases h0
      | cons y ys =>
        have h0 : (match vName y with
          | some z => ct.fs.contains (f, x, (y :: ys).length, true) && (isGl ct x && (notDbg x && (ct.N[ct.iw]? == some z && (isVis ct.sc z && (notDbg z && chkEs ct cs ys)))))
          | none => false) = true := h0
        cases hy : vName y with
        | none => rw [hy] at h0; cases h0
        | some z =>
          rw [hy] at h0
          obtain ⟨pz, rfl⟩ := vName_eq hy
          simp only [Bool.and_eq_true] at h0
          obtain ⟨hf, hg, hd, k1, k2, k3, he⟩ := h0
          have hl := chkEs_len (env := X.env) he
          exact both g hc (snd_callw g hf hg hd (hl.2 q) (by simp only [Bool.and_eq_true]; exact ⟨k1, k2, k3⟩) (sEs cs g he) (by rw [hl.1]; rfl)) rfl
  | .bi b a, ct, X, e, g, hc => by
    have h0 := hc
    unfold chkE at h0
    cases hv : vCall e with
    | none => rw [hv] at h0; cases h0
    | some q =>
      obtain ⟨x, es⟩ := q
      rw [hv] at h0
      obtain ⟨p, q, rfl⟩ := vCall_eq hv
      rcases es with _ | ⟨y, _ | ⟨y2, ys⟩⟩
      · cases h0
      · simp only at h0
        split at h0
        · rename_i hS
          cases hv2 : vCall y with
          | none => rw [hv2] at h0; cases h0
          | some q2 =>
            obtain ⟨x2, es2⟩ := q2
            rw [hv2] at h0
            obtain ⟨p2, q2, rfl⟩ := vCall_eq hv2
            rcases es2 with _ | ⟨y2, _ | ⟨y3, ys⟩⟩
            · cases h0
            · simp only [Bool.and_eq_true] at h0
              obtain ⟨hx, hx2, hg, hg2, hs, ha⟩ := h0
              exact both g hc (snd_set g hS hx hx2 hg hg2 hs (snd_B g ha (sE a g ha).1)) rfl
            · cases h0
        · simp only [Bool.and_eq_true] at h0
          obtain ⟨hb, hx, hg, hs, ha⟩ := h0
          exact both g hc (snd_bi g hb hx hg hs (snd_B g ha (sE a g ha).1)) rfl
      · cases h0
  | .bis b s, ct, X, e, g, hc => by
    have h0 := hc
    unfold chkE at h0
    cases hv : vCall e with
    | none => rw [hv] at h0; cases h0
    | some q =>
      obtain ⟨x, es⟩ := q
      rw [hv] at h0
      obtain ⟨p, q, rfl⟩ := vCall_eq hv
      rcases es with _ | ⟨y, _ | ⟨y2, ys⟩⟩
      · cases h0
      · cases b <;> try (cases h0; done)
        · simp only [Bool.and_eq_true] at h0
          obtain ⟨hx, hg, hs, hr⟩ := h0
          obtain rfl : x = "tuple" := beq_iff_eq.mp hx
          obtain ⟨te, h1, h2⟩ := sR s g hr
          exact both g hc (snd_bis_t g hg hs h1 h2) rfl
        · simp only [Bool.and_eq_true] at h0
          obtain ⟨hx, hg, hs, hr⟩ := h0
          obtain rfl : x = "list" := beq_iff_eq.mp hx
          obtain ⟨te, h1, h2⟩ := sR s g hr
          exact both g hc (snd_bis_l g hg hs h1 h2) rfl
      · cases h0
  | .mx a b, ct, X, e, g, hc => by
    have h0 := hc
    unfold chkE at h0
    cases hv : vCall e with
    | none => rw [hv] at h0; cases h0
    | some q =>
      obtain ⟨x, es⟩ := q
      rw [hv] at h0
      obtain ⟨p, q, rfl⟩ := vCall_eq hv
      rcases es with _ | ⟨y, _ | ⟨y2, _ | ⟨y3, ys⟩⟩⟩
      · cases h0
      · cases h0
      · simp only [Bool.and_eq_true] at h0
        obtain ⟨hx, hg, hs, hs2, ha, hb⟩ := h0
        obtain rfl : x = "max" := beq_iff_eq.mp hx
        exact both g hc (snd_mx g hg hs hs2 (snd_B g ha (sE a g ha).1) (snd_B g hb (sE b g hb).1)) rfl
      · cases h0
  | .mn a b, ct, X, e, g, hc => by
    have h0 := hc
    unfold chkE at h0
    cases hv : vCall e with
    | none => rw [hv] at h0; cases h0
    | some q =>
      obtain ⟨x, es⟩ := q
      rw [hv] at h0
      obtain ⟨p, q, rfl⟩ := vCall_eq hv
      rcases es with _ | ⟨y, _ | ⟨y2, _ | ⟨y3, ys⟩⟩⟩
      · cases h0
      · cases h0
      · simp only [Bool.and_eq_true] at h0
        obtain ⟨hx, hg, hs, hs2, ha, hb⟩ := h0
        obtain rfl : x = "min" := beq_iff_eq.mp hx
        exact both g hc (snd_mn g hg hs hs2 (snd_B g ha (sE a g ha).1) (snd_B g hb (sE b g hb).1)) rfl
      · cases h0
  | .isin a t, ct, X, e, g, hc => by
    have h0 := hc
    unfold chkE at h0
    cases hv : vCall e with
    | none => rw [hv] at h0; cases h0
    | some q =>
      obtain ⟨x, es⟩ := q
      rw [hv] at h0
      obtain ⟨p, q, rfl⟩ := vCall_eq hv
      rcases es with _ | ⟨y, _ | ⟨y2, _ | ⟨y3, ys⟩⟩⟩
      · cases h0
      · cases h0
      · have h0 : (match vName y2 with
          | some n => x == ("isinstance" : Str) && (isGl ct x && (n == Str.ofString (tyN t) && (isGl ct n && (notStar y && chkE ct a y))))
          | none => false) = true := h0
        cases hy : vName y2 with
        | none => rw [hy] at h0; cases h0
        | some n =>
          rw [hy] at h0
          obtain ⟨pz, rfl⟩ := vName_eq hy
          have h0 : (x == ("isinstance" : Str) && (isGl ct x && (n == Str.ofString (tyN t) && (isGl ct n && (notStar y && chkE ct a y))))) = true := h0
          simp only [Bool.and_eq_true] at h0
          obtain ⟨hx, hg, hn, hg2, hs, ha⟩ := h0
          obtain rfl : x = "isinstance" := beq_iff_eq.mp hx
          exact both g hc (snd_isin g hg hn hg2 hs (snd_B g ha (sE a g ha).1)) rfl
      · cases h0
  | .count a b, ct, X, e, g, hc => by
    have h0 := hc
    unfold chkE at h0
    split at h0
    · rename_i o m ap y cp hm
      obtain rfl := vMeth_eq hm
      simp only [Bool.and_eq_true] at h0
      obtain ⟨h1, h2, h3, h4, h5, h6⟩ := h0
      obtain rfl : m = "count" := beq_iff_eq.mp h1
      exact both g hc (snd_count g.room h2 h3 (snd_B g h5 (sE a g h5).1) (snd_B g h6 (sE b g h6).1) h4) rfl
    · cases h0
  | .index a b, ct, X, e, g, hc => by
    have h0 := hc
    unfold chkE at h0
    split at h0
    · rename_i o m ap y cp hm
      obtain rfl := vMeth_eq hm
      simp only [Bool.and_eq_true] at h0
      obtain ⟨h1, h2, h3, h4, h5, h6⟩ := h0
      obtain rfl : m = "index" := beq_iff_eq.mp h1
      exact both g hc (snd_index g.room h2 h3 (snd_B g h5 (sE a g h5).1) (snd_B g h6 (sE b g h6).1) h4) rfl
    · cases h0
  | .get1 a b, ct, X, e, g, hc => by
    have h0 := hc
    unfold chkE at h0
    split at h0
    · rename_i o m ap y cp hm
      obtain rfl := vMeth_eq hm
      simp only [Bool.and_eq_true] at h0
      obtain ⟨h1, h2, h3, h4, h5, h6⟩ := h0
      obtain rfl : m = "get" := beq_iff_eq.mp h1
      exact both g hc (snd_get1 g.room h2 h3 (snd_B g h5 (sE a g h5).1) (snd_B g h6 (sE b g h6).1) h4) rfl
    · cases h0
  | .get2 a b d, ct, X, e, g, hc => by
    have h0 := hc
    unfold chkE at h0
    split at h0
    · rename_i o m ap y z cp hm
      obtain rfl := vMeth_eq hm
      simp only [Bool.and_eq_true] at h0
      obtain ⟨h1, h2, h3, h4, h4b, h5, h6, h7⟩ := h0
      obtain rfl : m = "get" := beq_iff_eq.mp h1
      exact both g hc (snd_get2 g.room h2 h3 (snd_B g h5 (sE a g h5).1) (snd_B g h6 (sE b g h6).1) (sE d g h7).1 h4 h4b) rfl
    · cases h0
  | .bad, ct, X, e, g, hc => bad_ok
theorem sDs : ∀ (cs : Es) {ct : Ct} {X : Cx} {pos : Pos} {ks : List (Option Expr)} {vs : List Expr}, Gd P ct X k → chkD ct cs ks vs = true → PPs X pos ks vs (trsOf P X.fw cs)
  | .nil, ct, X, pos, [], [], g, hc => pps_nil
  | .nil, ct, X, pos, [], _ :: _, g, hc => by unfold chkD at hc; cases hc
  | .nil, ct, X, pos, _ :: _, _, g, hc => by unfold chkD at hc; cases hc
  | .cons a .nil, ct, X, pos, _, _, g, hc => by unfold chkD at hc; cases hc
  | .cons a (.cons b r), ct, X, pos, [], _, g, hc => by unfold chkD at hc; cases hc
  | .cons a (.cons b r), ct, X, pos, none :: _, _, g, hc => by unfold chkD at hc; cases hc
  | .cons a (.cons b r), ct, X, pos, some x :: ks, [], g, hc => by unfold chkD at hc; cases hc
  | .cons a (.cons b r), ct, X, pos, some x :: ks, y :: vs, g, hc => by
    unfold chkD at hc
    rw [Bool.and_eq_true, Bool.and_eq_true] at hc
    obtain ⟨h1, h2, h3⟩ := hc
    exact pps_cons (sE a g h1).1 (sE b g h2).1 (sDs r g h3)
theorem sEs : ∀ (cs : Es) {ct : Ct} {X : Cx} {es : List Expr}, Gd P ct X k → chkEs ct cs es = true → PA X es (tEs P X.fw cs)
  | .nil, ct, X, [], g, hc => snd_nil
  | .nil, ct, X, _ :: _, g, hc => by unfold chkEs at hc; cases hc
  | .cons c cs, ct, X, [], g, hc => by unfold chkEs at hc; cases hc
  | .cons c cs, ct, X, x :: xs, g, hc => by
    unfold chkEs at hc
    rw [Bool.and_eq_true, Bool.and_eq_true] at hc
    obtain ⟨h1, h2, h3⟩ := hc
    exact snd_cons h1 (sE c g h2).1 (sEs cs g h3)
theorem sS : ∀ (s : Src) (fz : Bool) {ct : Ct} {X : Cx} {tg e : Expr}, Gd P ct X k → chkS ct s tg e = true → PI X tg e (tI P X.fw fz s) ∧ ∀ env x, foldedSetIterable e env x = pure x
  | .val c, fz, ct, X, tg, e, g, hc => by
    unfold chkS at hc
    rw [Bool.and_eq_true] at hc
    exact ⟨snd_val (snd_M (sE c g hc.2).1 (snd_B g hc.2 (sE c g hc.2).1)), fsi hc.1⟩
  | .r1 a, fz, ct, X, tg, e, g, hc => by
    unfold chkS at hc
    cases hv : vCall e with
    | none => rw [hv] at hc; cases hc
    | some q =>
      obtain ⟨x, es⟩ := q
      rw [hv] at hc
      obtain ⟨p, q, rfl⟩ := vCall_eq hv
      rcases es with _ | ⟨y, _ | ⟨y2, ys⟩⟩
      · cases hc
      · simp only [Bool.and_eq_true] at hc
        obtain ⟨hx, hg, hs, ha⟩ := hc
        obtain rfl : x = "range" := beq_iff_eq.mp hx
        exact ⟨snd_r1 g hg hs (snd_B g ha (sE a g ha).1), fsi rfl⟩
      · cases hc
  | .r2 a b, fz, ct, X, tg, e, g, hc => by
    unfold chkS at hc
    cases hv : vCall e with
    | none => rw [hv] at hc; cases hc
    | some q =>
      obtain ⟨x, es⟩ := q
      rw [hv] at hc
      obtain ⟨p, q, rfl⟩ := vCall_eq hv
      rcases es with _ | ⟨y, _ | ⟨y2, _ | ⟨y3, ys⟩⟩⟩
      · cases hc
      · cases hc
      · simp only [Bool.and_eq_true] at hc
        obtain ⟨hx, hg, hs, hs2, ha, hb⟩ := hc
        obtain rfl : x = "range" := beq_iff_eq.mp hx
        exact ⟨snd_r2 g hg hs hs2 (snd_B g ha (sE a g ha).1) (snd_B g hb (sE b g hb).1), fsi rfl⟩
      · cases hc
  | .r3 a b c, fz, ct, X, tg, e, g, hc => by
    unfold chkS at hc
    cases hv : vCall e with
    | none => rw [hv] at hc; cases hc
    | some q =>
      obtain ⟨x, es⟩ := q
      rw [hv] at hc
      obtain ⟨p, q, rfl⟩ := vCall_eq hv
      rcases es with _ | ⟨y, _ | ⟨y2, _ | ⟨y3, _ | ⟨y4, ys⟩⟩⟩⟩
      · cases hc
      · cases hc
      · cases hc
      · simp only [Bool.and_eq_true] at hc
        obtain ⟨hx, hg, hs, hs2, hs3, ha, hb, hd⟩ := hc
        obtain rfl : x = "range" := beq_iff_eq.mp hx
        exact ⟨snd_r3 g hg hs hs2 hs3 (snd_B g ha (sE a g ha).1) (snd_B g hb (sE b g hb).1) (snd_B g hd (sE c g hd).1), fsi rfl⟩
      · cases hc
  | .zip a b, fz, ct, X, tg, e, g, hc => by
    unfold chkS at hc
    cases hv : vCall e with
    | none => rw [hv] at hc; cases hc
    | some q =>
      obtain ⟨x, es⟩ := q
      rw [hv] at hc
      obtain ⟨p, q, rfl⟩ := vCall_eq hv
      rcases es with _ | ⟨y, _ | ⟨y2, _ | ⟨y3, ys⟩⟩⟩
      · cases hc
      · cases hc
      · simp only [Bool.and_eq_true] at hc
        obtain ⟨ht, hx, hg, hs, hs2, ha, hb⟩ := hc
        obtain rfl : x = "zip" := beq_iff_eq.mp hx
        cases tg with
        | Tuple es kk tp => exact ⟨snd_zip g hg hs hs2 (snd_M (sE a g ha).1 (snd_B g ha (sE a g ha).1)) (snd_M (sE b g hb).1 (snd_B g hb (sE b g hb).1)), fsi rfl⟩
        | _ => cases ht
      · cases hc
theorem sR : ∀ (s : Src) {ct : Ct} {X : Cx} {e : Expr}, Gd P ct X k → chkR ct s e = true → ∃ te, PRg X e te ∧ ∀ σ H O0 H0 O ρ S', Sim X.fw P.w P.iw O0 H0 O H σ ρ → NoOw (escS s) ρ → P.evS s ρ S' → ∀ Q : Int → Int → Hp → Prop, (∀ i j H', S' (rng i j) → okR i j = true → Ext P.w H H' → Q i j H') → te σ H Q
  | .val c, ct, X, e, g, hc => by unfold chkR at hc; cases hc
  | .r1 a, ct, X, e, g, hc => by
    unfold chkR at hc
    cases hv : vCall e with
    | none => rw [hv] at hc; cases hc
    | some q =>
      obtain ⟨x, es⟩ := q
      rw [hv] at hc
      obtain ⟨p, q, rfl⟩ := vCall_eq hv
      rcases es with _ | ⟨y, _ | ⟨y2, ys⟩⟩
      · cases hc
      · simp only [Bool.and_eq_true] at hc
        obtain ⟨hx, hg, hs, ha⟩ := hc
        obtain rfl : x = "range" := beq_iff_eq.mp hx
        exact ⟨_, prg_1 (g.gl hg) (g.blt _ (by decide)) (snd_B g ha (sE a g ha).1) (star_cons hs), fun σ H O0 H0 O ρ S' S es ev Q q => rg1_q (X := X) S es ev Q q⟩
      · cases hc
  | .r2 a b, ct, X, e, g, hc => by
    unfold chkR at hc
    cases hv : vCall e with
    | none => rw [hv] at hc; cases hc
    | some q =>
      obtain ⟨x, es⟩ := q
      rw [hv] at hc
      obtain ⟨p, q, rfl⟩ := vCall_eq hv
      rcases es with _ | ⟨y, _ | ⟨y2, _ | ⟨y3, ys⟩⟩⟩
      · cases hc
      · cases hc
      · simp only [Bool.and_eq_true] at hc
        obtain ⟨hx, hg, hs, hs2, ha, hb⟩ := hc
        obtain rfl : x = "range" := beq_iff_eq.mp hx
        exact ⟨_, prg_2 (g.gl hg) (g.blt _ (by decide)) (snd_B g ha (sE a g ha).1) (snd_B g hb (sE b g hb).1) (star_cons hs) (star_cons hs2) (plain1 hs2), fun σ H O0 H0 O ρ S' S es ev Q q => rg2_q (X := X) S es ev Q q⟩
      · cases hc
  | .r3 a b c, ct, X, e, g, hc => by unfold chkR at hc; cases hc
  | .zip a b, ct, X, e, g, hc => by unfold chkR at hc; cases hc
end
end
end PV

set_option maxHeartbeats 4000000
/-! PV: statements: the slots. -/
namespace PV
open PySem L2 RZ

def Kp (O : List Addr) (H : Hp) (O' : List Addr) (H' : Hp) : Prop := Le (hid O H) (hid O' H')
theorem Kp.refl (O : List Addr) (H : Hp) : Kp O H O H := Le.refl _
theorem Kp.trans {O O1 O2 : List Addr} {H H1 H2 : Hp} (a : Kp O H O1 H1) (b : Kp O1 H1 O2 H2) : Kp O H O2 H2 := Le.trans a b
section
variable {K : Fw} {w : Wp} {iw : Nat} {O0 O : List Addr} {H0 H H' : Hp} {σ σ' : L2.St} {ρ ρ' : Env}
theorem Sim.kp (S : Sim K w iw O0 H0 O H σ ρ) (e : Ext w H H') : Kp O H O H' := e.hid S.wo
/-- other names for the slots -/
theorem Sim.reix (S : Sim K w iw O0 H0 O H σ ρ) (f : Nat → Nat) (hl : σ'.length = ρ'.length) (hf : ∀ j s, ρ'[j]? = some s → s = .no ∨ (ρ[f j]? = some s ∧ σ[f j]? = σ'[j]?)) (hi : ∀ j l, j < ρ'.length → l < ρ'.length → f j = f l → j = l)
    (hw : ∀ t, w = some t → σ'[iw]? = some (some (.ref t.1)) ∧ ρ'[iw]? = some .no) : Sim K w iw O0 H0 O H σ' ρ' where
  len := hl
  slot := fun j s h => by
    rcases hf j s h with rfl | ⟨h1, h2⟩
    · trivial
    · rw [← h2]
      exact S.slot _ s h1
  inj := fun j l d1 d2 p h1 h2 h3 h4 => by
    rcases hf j _ h1 with z | ⟨a1, a2⟩
    · cases z
    rcases hf l _ h2 with z | ⟨b1, b2⟩
    · cases z
    have e := S.inj _ _ d1 d2 p a1 b1 (by rw [a2]; exact h3) (by rw [b2]; exact h4)
    exact hi j l (List.getElem?_eq_some_iff.mp h1).1 (List.getElem?_eq_some_iff.mp h2).1 e
  dom := S.dom
  dom0 := S.dom0
  sub := S.sub
  fresh := S.fresh
  ent := S.ent
  w0 := S.w0
  wO := S.wO
  wS := hw
  own := fun j d p h1 h2 => by
    rcases hf j _ h1 with z | ⟨a1, a2⟩
    · cases z
    exact S.own _ d p a1 (by rw [a2]; exact h2)
theorem msk_get {ρ0 ρ : Env} {j : Nat} {s : Slot} (h : (msk ρ0 ρ)[j]? = some s) : s = .no ∨ ρ[j]? = some s := by
  unfold msk at h
  rw [List.getElem?_mapIdx] at h
  cases e : ρ[j]? with
  | none => rw [e] at h; cases h
  | some t =>
    rw [e] at h
    have h := Option.some.inj h
    cases q : ρ0[j]? with
    | none => rw [q] at h; exact .inl h.symm
    | some u =>
      rw [q] at h
      cases u with
      | no => exact .inl h.symm
      | fx _ => exact .inr (congrArg some h)
      | sh _ => exact .inr (congrArg some h)
      | ow _ => exact .inr (congrArg some h)
theorem msk_no {ρ0 ρ : Env} {j : Nat} (h : ρ[j]? = some .no) : (msk ρ0 ρ)[j]? = some .no := by
  unfold msk
  rw [List.getElem?_mapIdx, h]
  cases q : ρ0[j]? with
  | none => simp [q]
  | some u => cases u <;> simp [q]
theorem Sim.msk (S : Sim K w iw O0 H0 O H σ ρ) (ρ0 : Env) : Sim K w iw O0 H0 O H σ (PV.msk ρ0 ρ) :=
  S.reix id (by rw [S.len]; simp [PV.msk]) (fun j s h => (msk_get h).imp_right fun q => ⟨q, rfl⟩) (fun _ _ _ _ e => e) fun t ht => ⟨(S.wS t ht).1, msk_no (S.wS t ht).2⟩

/-- the places that the names vs alone hold -/
def plOf (vs : List Nat) (σ : L2.St) (ρ : Env) : List Addr := vs.filterMap fun (i : Nat) => match ρ[i]?, σ[i]? with
  | some (.ow _), some (some (.ref p)) => some p
  | _, _ => none
theorem mem_pl {vs : List Nat} {p : Addr} : p ∈ plOf vs σ ρ ↔ ∃ i ∈ vs, ∃ d, ρ[i]? = some (.ow d) ∧ σ[i]? = some (some (.ref p)) := by
  unfold plOf
  rw [List.mem_filterMap]
  constructor
  · rintro ⟨i, hi, h⟩
    refine ⟨i, hi, ?_⟩
    split at h
    · rename_i d q e1 e2
      cases h
      exact ⟨d, e1, e2⟩
    · cases h
  · rintro ⟨i, hi, d, e1, e2⟩
    refine ⟨i, hi, ?_⟩
    rw [e1, e2]
theorem frz_get {vs : List Nat} {ρ : Env} {j : Nat} : (frz vs ρ)[j]? = (ρ[j]?).map fun s => if vs.contains j then s.frz else s := by
  unfold frz
  rw [List.getElem?_mapIdx]
theorem Sim.frz (S : Sim K w iw O0 H0 O H σ ρ) (vs : List Nat) : ∃ O', Sim K w iw O0 H0 O' H σ (PV.frz vs ρ) ∧ Kp O H O' H ∧ NoOw vs (PV.frz vs ρ) := by
  have sub : ∀ a, a ∈ O.filter (fun p => !(plOf vs σ ρ).contains p) → a ∈ O := fun a h => (List.mem_filter.mp h).1
  have le : Le (hid O H) (hid (O.filter fun p => !(plOf vs σ ρ).contains p) H) := hid_sub sub
  refine ⟨O.filter fun p => !(plOf vs σ ρ).contains p, ⟨by rw [S.len]; simp [PV.frz], fun j s h => ?_, fun j l d1 d2 p h1 h2 h3 h4 => ?_, fun p hp => S.dom p (sub p hp), S.dom0, fun p hp => ?_, fun p hp => S.fresh p (sub p hp), S.ent, S.w0, S.wO, fun t ht => ?_, fun j d p h1 h2 => ?_⟩, le, fun i hi => ?_⟩
  · rw [frz_get] at h
    cases e : ρ[j]? with
    | none => rw [e] at h; cases h
    | some t =>
      rw [e] at h
      have q := S.slot j t e
      by_cases hj : j ∈ vs
      · have h : t.frz = s := by simpa [hj] using h
        subst h
        cases t with
        | no => trivial
        | fx v => exact q
        | sh d =>
          obtain ⟨v, e1, r⟩ := q
          exact ⟨v, e1, r.mono le⟩
        | ow d =>
          obtain ⟨p, e1, hp, u, hH, r⟩ := q
          refine ⟨.ref p, e1, (r.mono le).rp (hid_in (fun hm => ?_) hH)⟩
          have z := (List.mem_filter.mp hm).2
          have z2 : p ∈ plOf vs σ ρ := mem_pl.mpr ⟨j, hj, _, e, join_some e1⟩
          simp [z2] at z
      · have h : t = s := by simpa [hj] using h
        subst h
        cases t with
        | no => trivial
        | fx v => exact q
        | sh d =>
          obtain ⟨v, e1, r⟩ := q
          exact ⟨v, e1, r.mono le⟩
        | ow d =>
          obtain ⟨p, e1, hp, u, hH, r⟩ := q
          refine ⟨p, e1, List.mem_filter.mpr ⟨hp, ?_⟩, u, hH, r.mono le⟩
          have z2 : p ∉ plOf vs σ ρ := fun hm => by
            obtain ⟨i, hi, d', e3, e4⟩ := mem_pl.mp hm
            have := S.inj i j _ _ p e3 e e4 (join_some e1)
            subst this
            exact hj hi
          simp [z2]
  · have g : ∀ {j : Nat} {d : D}, (PV.frz vs ρ)[j]? = some (.ow d) → ρ[j]? = some (.ow d) := fun {j d} h => by
      rw [frz_get] at h
      cases e : ρ[j]? with
      | none => rw [e] at h; cases h
      | some t =>
        rw [e] at h
        by_cases hj : j ∈ vs
        · have h : t.frz = .ow d := by simpa [hj] using h
          cases t <;> cases h
        · have h : t = .ow d := by simpa [hj] using h
          rw [h]
    exact S.inj j l d1 d2 p (g h1) (g h2) h3 h4
  · refine List.mem_filter.mpr ⟨S.sub p hp, ?_⟩
    have z2 : p ∉ plOf vs σ ρ := fun hm => by
      obtain ⟨i, hi, d', e3, e4⟩ := mem_pl.mp hm
      exact S.dom0 p hp (S.own i d' p e3 e4)
    simp [z2]
  · refine ⟨(S.wS t ht).1, ?_⟩
    rw [frz_get, (S.wS t ht).2]
    by_cases hj : iw ∈ vs <;> simp [hj, Slot.frz]
  · rw [frz_get] at h1
    cases e : ρ[j]? with
    | none => rw [e] at h1; cases h1
    | some t =>
      rw [e] at h1
      by_cases hj : j ∈ vs
      · have h : t.frz = .ow d := by simpa [hj] using h1
        cases t <;> cases h
      · have h : t = .ow d := by simpa [hj] using h1
        subst h
        exact S.own j d p e h2
  · unfold getO
    rw [frz_get]
    cases e : ρ[i]? with
    | none => rfl
    | some t => cases t <;> simp [hi, Slot.frz, Slot.own?]
theorem noOw_app {a b : List Nat} (h : NoOw a ρ) (h2 : NoOw b ρ) : NoOw (a ++ b) ρ := fun i hi => (List.mem_append.mp hi).elim (h i) (h2 i)

/-- one more slot at the end: a value just reckoned -/
theorem Sim.push {c : E} {v : V} {d : D} (S : Sim K w iw O0 H0 O H σ ρ) (e : Ext w H H') (r : Res c K O H H' v d) (hiw : ∀ t, w = some t → iw < ρ.length) : ∃ O', Sim K w iw O0 H0 O' H' (σ ++ [some v]) (ρ ++ [slotOf c d]) ∧ Kp O H O' H' := by
  have get1 : ∀ {α : Type} {l : List α} {x y : α} {j : Nat}, (l ++ [x])[j]? = some y → (j < l.length ∧ l[j]? = some y) ∨ (j = l.length ∧ x = y) := fun {α l x y j} h => by
    by_cases hj : j < l.length
    · rw [List.getElem?_append_left hj] at h
      exact .inl ⟨hj, h⟩
    · rw [List.getElem?_append_right (by omega)] at h
      cases hk : j - l.length with
      | zero => rw [hk] at h; exact .inr ⟨by omega, by simpa using h⟩
      | succ n => rw [hk] at h; simp at h
  unfold slotOf
  by_cases hf : (c.fresh && isMut d) = true
  · rw [if_pos hf]
    rw [Bool.and_eq_true] at hf
    obtain ⟨p, u, rfl, hp, hp', rs⟩ := r.2 hf.1 hf.2
    have S2 := S.grow hp e (by rw [hp']; simp)
    have h0 : H0 p = none := by
      rcases S2.fresh p (by simp) with z | z
      · exact absurd hp (S.dom p (S.sub p z))
      · exact z
    refine ⟨p :: O, ⟨by simp [S.len], fun j s h => ?_, fun j l d1 d2 q h1 h2 h3 h4 => ?_, S2.dom, S2.dom0, S2.sub, S2.fresh, S2.ent, S2.w0, S2.wO, fun t ht => ?_, fun j d q h1 h2 => ?_⟩, ?_⟩
    · rcases get1 h with ⟨hj, h⟩ | ⟨rfl, rfl⟩
      · have q := S2.slot j s h
        rwa [List.getElem?_append_left (by rw [S.len]; exact hj)]
      · refine ⟨p, ?_, by simp, u, hp', rs⟩
        rw [← S.len, List.getElem?_append_right (by omega)]
        simp
    · have old : ∀ {j : Nat} {d : D} {q : Addr}, j < ρ.length → ρ[j]? = some (Slot.ow d) → (σ ++ [some (V.ref p)])[j]? = some (some (.ref q)) → q ≠ p := fun {j d q} hj a b z => by
        subst z
        rw [List.getElem?_append_left (by rw [S.len]; exact hj)] at b
        obtain ⟨q2, e1, hq, u2, hH, _⟩ := S.slot j _ a
        rw [b] at e1
        cases e1
        rw [hp] at hH
        cases hH
      have new : ∀ {q : Addr}, (σ ++ [some (V.ref p)])[ρ.length]? = some (some (.ref q)) → q = p := fun {q} h => by
        rw [← S.len, List.getElem?_append_right (by omega)] at h
        simpa using h.symm
      rcases get1 h1 with ⟨hj, h1⟩ | ⟨rfl, _⟩
      · rcases get1 h2 with ⟨hl, h2⟩ | ⟨rfl, _⟩
        · rw [List.getElem?_append_left (by rw [S.len]; exact hj)] at h3
          rw [List.getElem?_append_left (by rw [S.len]; exact hl)] at h4
          exact S.inj j l d1 d2 q h1 h2 h3 h4
        · exact absurd (new h4) (old hj h1 h3)
      · rcases get1 h2 with ⟨hl, h2⟩ | ⟨rfl, _⟩
        · exact absurd (new h3) (old hl h2 h4)
        · rfl
    · have hl := hiw t ht
      obtain ⟨a, b⟩ := S.wS t ht
      rw [List.getElem?_append_left (by rw [S.len]; exact hl), List.getElem?_append_left hl]
      exact ⟨a, b⟩
    · rcases get1 h1 with ⟨hj, h1⟩ | ⟨rfl, _⟩
      · rw [List.getElem?_append_left (by rw [S.len]; exact hj)] at h2
        exact S.own j d q h1 h2
      · rw [← S.len, List.getElem?_append_right (by omega)] at h2
        have : p = q := by simpa using h2
        subst this
        exact h0
    · intro a o h
      have h1 := hid_out h
      have h2 := hid_le O H _ _ h
      have ne : a ≠ p := fun z => by subst z; rw [hp] at h2; cases h2
      exact hid_in (by simp [ne, h1]) (e.1 a o (fun z => h1 (S.wo a z)) h2)
  · rw [if_neg hf]
    have S2 := S.ext e
    refine ⟨O, ⟨by simp [S.len], fun j s h => ?_, fun j l d1 d2 q h1 h2 h3 h4 => ?_, S2.dom, S2.dom0, S2.sub, S2.fresh, S2.ent, S2.w0, S2.wO, fun t ht => ?_, fun j d q h1 h2 => ?_⟩, S.kp e⟩
    · rcases get1 h with ⟨hj, h⟩ | ⟨rfl, rfl⟩
      · have q := S2.slot j s h
        rwa [List.getElem?_append_left (by rw [S.len]; exact hj)]
      · refine ⟨v, ?_, r.1⟩
        rw [← S.len, List.getElem?_append_right (by omega)]
        simp
    · rcases get1 h1 with ⟨hj, h1⟩ | ⟨rfl, z⟩
      · rcases get1 h2 with ⟨hl, h2⟩ | ⟨rfl, z⟩
        · rw [List.getElem?_append_left (by rw [S.len]; exact hj)] at h3
          rw [List.getElem?_append_left (by rw [S.len]; exact hl)] at h4
          exact S.inj j l d1 d2 q h1 h2 h3 h4
        · cases z
      · cases z
    · have hl := hiw t ht
      obtain ⟨a, b⟩ := S.wS t ht
      rw [List.getElem?_append_left (by rw [S.len]; exact hl), List.getElem?_append_left hl]
      exact ⟨a, b⟩
    · rcases get1 h1 with ⟨hj, h1⟩ | ⟨rfl, z⟩
      · rw [List.getElem?_append_left (by rw [S.len]; exact hj)] at h2
        exact S.own j d q h1 h2
      · cases z
/-- the first slots alone -/
theorem Sim.take {us : L2.St} {ss : Env} (S : Sim K w iw O0 H0 O H (σ ++ us) (ρ ++ ss)) (hl : σ.length = ρ.length) (hiw : ∀ t, w = some t → iw < ρ.length) : Sim K w iw O0 H0 O H σ ρ :=
  S.reix id hl (fun j s h => .inr (by
    have hj : j < ρ.length := (List.getElem?_eq_some_iff.mp h).1
    refine ⟨?_, ?_⟩
    · show (ρ ++ ss)[j]? = some s
      rw [List.getElem?_append_left hj]
      exact h
    · show (σ ++ us)[j]? = σ[j]?
      rw [List.getElem?_append_left (by omega)])) (fun _ _ _ _ e => e) fun t ht => by
    have h := hiw t ht
    obtain ⟨a, b⟩ := S.wS t ht
    rw [List.getElem?_append_left (by omega)] at a b
    exact ⟨a, b⟩
/-- the slot behind the first ones goes to i -/
theorem Sim.move {us : L2.St} {ss : Env} {v : Option V} {s : Slot} {i : Nat} (S : Sim K w iw O0 H0 O H (σ ++ v :: us) (ρ ++ s :: ss)) (hl : σ.length = ρ.length) (hi : i < ρ.length) (hiw : i ≠ iw) (hw : ∀ t, w = some t → iw < ρ.length) :
    Sim K w iw O0 H0 O H (σ.set i v ++ us) (ρ.set i s ++ ss) := by
  have hlen := S.len
  simp only [List.length_append, List.length_cons] at hlen
  refine S.reix (fun j => if j = i then ρ.length else if j < ρ.length then j else j + 1) (by simp; omega) (fun j t h => .inr ?_) (fun j l hj hl2 e => ?_) fun t ht => ?_
  · by_cases e : j = i
    · subst e
      rw [List.getElem?_append_left (by simpa using hi), List.getElem?_set_self hi] at h
      simp only [if_true]
      refine ⟨?_, ?_⟩
      · rw [List.getElem?_append_right (by omega)]
        simpa using h
      · rw [← hl, List.getElem?_append_right (by omega), List.getElem?_append_left (by simp; omega), List.getElem?_set_self (by omega)]
        simp
    · simp only [if_neg e]
      by_cases hj : j < ρ.length
      · rw [if_pos hj]
        rw [List.getElem?_append_left (by simpa using hj), List.getElem?_set_ne (fun z => e z.symm)] at h
        refine ⟨?_, ?_⟩
        · rw [List.getElem?_append_left hj]
          exact h
        · rw [List.getElem?_append_left (by omega), List.getElem?_append_left (by simp; omega), List.getElem?_set_ne (fun z => e z.symm)]
      · rw [if_neg hj]
        rw [List.getElem?_append_right (by simp; omega)] at h
        simp only [List.length_set] at h
        refine ⟨?_, ?_⟩
        · rw [List.getElem?_append_right (by omega), show j + 1 - ρ.length = (j - ρ.length) + 1 by omega, List.getElem?_cons_succ]
          exact h
        · rw [List.getElem?_append_right (by omega), show j + 1 - σ.length = (j - σ.length) + 1 by omega, List.getElem?_cons_succ, List.getElem?_append_right (by simp; omega)]
          simp
  · have e : (if j = i then ρ.length else if j < ρ.length then j else j + 1) = if l = i then ρ.length else if l < ρ.length then l else l + 1 := e
    simp only [List.length_append, List.length_set] at hj hl2
    split at e <;> split at e <;> first | omega | (split at e <;> first | omega | (split at e <;> omega))
  · have h := hw t ht
    obtain ⟨a, b⟩ := S.wS t ht
    rw [List.getElem?_append_left (by omega)] at a b
    rw [List.getElem?_append_left (by simp; omega), List.getElem?_append_left (by simpa using h), List.getElem?_set_ne hiw, List.getElem?_set_ne hiw]
    exact ⟨a, b⟩
/-- a slot's own list is written -/
theorem Sim.setMut (S : Sim K w iw O0 H0 O H σ ρ) {i : Nat} {d : D} {p : Addr} {u : HO} {d' : D} (h1 : ρ[i]? = some (.ow d)) (h2 : σ[i]? = some (some (.ref p))) (r : Ob K (hid O H) p u d') :
    Sim K w iw O0 H0 O (upd H p u) σ (ρ.set i (.ow d')) ∧ Kp O H O (upd H p u) := by
  obtain ⟨q, e1, hp, u0, hH, _⟩ := S.slot i _ h1
  rw [h2] at e1
  cases e1
  have hh : hid O (upd H p u) = hid O H := hid_upd hp
  have h0 := S.own i d p h1 h2
  have hi : i < ρ.length := (List.getElem?_eq_some_iff.mp h1).1
  have get : ∀ {j : Nat} {s : Slot}, (ρ.set i (.ow d'))[j]? = some s → (j = i ∧ s = .ow d') ∨ (j ≠ i ∧ ρ[j]? = some s) := fun {j s} h => by
    by_cases e : i = j
    · subst e
      rw [List.getElem?_set_self hi] at h
      exact .inl ⟨rfl, (Option.some.inj h).symm⟩
    · rw [List.getElem?_set_ne e] at h
      exact .inr ⟨fun z => e z.symm, h⟩
  have ow : ∀ {j : Nat} {e : D}, (ρ.set i (.ow d'))[j]? = some (.ow e) → ∃ e' : D, ρ[j]? = some (.ow e') := fun {j e} h => by
    rcases get h with ⟨rfl, _⟩ | ⟨_, h⟩
    · exact ⟨_, h1⟩
    · exact ⟨_, h⟩
  refine ⟨⟨by simp [S.len], fun j s h => ?_, fun j l d1 d2 q a b c e => ?_, fun q hq => ?_, S.dom0, S.sub, S.fresh, ⟨fun a o n e => ?_, ?_⟩, S.w0, S.wO, fun t ht => ?_, fun j d q a b => ?_⟩, by unfold Kp; rw [hh]; exact Le.refl _⟩
  · rcases get h with ⟨rfl, rfl⟩ | ⟨hj, h⟩
    · exact ⟨p, by rw [h2]; rfl, hp, u, by simp [upd], by rw [hh]; exact r⟩
    · have q := S.slot j s h
      cases s with
      | no => trivial
      | fx v => exact q
      | sh d =>
        obtain ⟨v, e1, r⟩ := q
        exact ⟨v, e1, by rw [hh]; exact r⟩
      | ow d2 =>
        obtain ⟨q, e1, hq, u1, hH1, r1⟩ := q
        have ne : q ≠ p := fun z => by
          subst z
          exact hj (S.inj j i _ _ q h h1 (join_some e1) h2)
        exact ⟨q, e1, hq, u1, by rw [upd_ne ne]; exact hH1, by rw [hh]; exact r1⟩
  · obtain ⟨_, a⟩ := ow a
    obtain ⟨_, b⟩ := ow b
    exact S.inj j l _ _ q a b c e
  · by_cases e : q = p
    · subst e
      simp [upd]
    · rw [upd_ne e]
      exact S.dom q hq
  · have ne : a ≠ p := fun z => by subst z; rw [h0] at e; cases e
    rw [upd_ne ne]
    exact S.ent.1 a o n e
  · have hwk : XD w p H (upd H p u) := XD.upd (x := ⟨fun _ _ _ _ q => q, S.wok⟩) (wD S.w0 h0)
    exact hwk.2
  · obtain ⟨a, b⟩ := S.wS t ht
    refine ⟨a, ?_⟩
    rw [List.getElem?_set_ne]
    · exact b
    · intro z
      subst z
      rw [b] at h1
      cases h1
  · obtain ⟨_, a⟩ := ow a
    exact S.own j _ q a b
end
end PV

set_option maxHeartbeats 4000000
/-! PV: the checker of statements; assignments. -/
namespace PV
open PySem L2 RZ

/-! views -/
def vNameP : Expr → Option (Str × Pos)
  | .Name x p => some (x, p)
  | _ => none
def vTupP : Expr → Option (List Expr × Nat × Pos)
  | .Tuple es k p => some (es, k, p)
  | _ => none
def vAsg : Stmt → Option (Expr × Expr × Pos)
  | .Assign [t] v p => some (t, v, p)
  | _ => none
def vAug : Stmt → Option (Expr × Operator × Expr)
  | .AugAssign t o v _ => some (t, o, v)
  | _ => none
def vExp : Stmt → Option Expr
  | .Expr e _ => some e
  | _ => none
def vIfS : Stmt → Option (Expr × List Stmt × List Stmt)
  | .If t a b _ => some (t, a, b)
  | _ => none
def vWhl : Stmt → Option (Expr × List Stmt)
  | .While t a [] _ => some (t, a)
  | _ => none
def vFor : Stmt → Option (Expr × Expr × List Stmt)
  | .For t i a [] _ => some (t, i, a)
  | _ => none
def vRet : Stmt → Option Expr
  | .Return (some e) _ => some e
  | _ => none
theorem vNameP_eq {e : Expr} {x : Str} {p : Pos} (h : vNameP e = some (x, p)) : e = .Name x p := by
  cases e <;> simp [vNameP] at h
  obtain ⟨rfl, rfl⟩ := h
  rfl
theorem vTupP_eq {e : Expr} {es : List Expr} {k : Nat} {p : Pos} (h : vTupP e = some (es, k, p)) : e = .Tuple es k p := by
  cases e <;> simp [vTupP] at h
  obtain ⟨rfl, rfl, rfl⟩ := h
  rfl
theorem vAsg_eq {s : Stmt} {t v : Expr} {p : Pos} (h : vAsg s = some (t, v, p)) : s = .Assign [t] v p := by
  unfold vAsg at h
  split at h
  · cases h
    rfl
  · cases h
theorem vAug_eq {s : Stmt} {t v : Expr} {o : Operator} (h : vAug s = some (t, o, v)) : ∃ p, s = .AugAssign t o v p := by
  cases s <;> simp [vAug] at h
  obtain ⟨rfl, rfl, rfl⟩ := h
  exact ⟨_, rfl⟩
theorem vExp_eq {s : Stmt} {e : Expr} (h : vExp s = some e) : ∃ p, s = .Expr e p := by
  cases s <;> simp [vExp] at h
  subst h
  exact ⟨_, rfl⟩
theorem vIfS_eq {s : Stmt} {t : Expr} {a b : List Stmt} (h : vIfS s = some (t, a, b)) : ∃ p, s = .If t a b p := by
  cases s <;> simp [vIfS] at h
  obtain ⟨rfl, rfl, rfl⟩ := h
  exact ⟨_, rfl⟩
theorem vWhl_eq {s : Stmt} {t : Expr} {a : List Stmt} (h : vWhl s = some (t, a)) : ∃ p, s = .While t a [] p := by
  unfold vWhl at h
  split at h
  · cases h
    exact ⟨_, rfl⟩
  · cases h
theorem vFor_eq {s : Stmt} {t i : Expr} {a : List Stmt} (h : vFor s = some (t, i, a)) : ∃ p, s = .For t i a [] p := by
  unfold vFor at h
  split at h
  · cases h
    exact ⟨_, rfl⟩
  · cases h
theorem vRet_eq {s : Stmt} {e : Expr} (h : vRet s = some e) : ∃ p, s = .Return (some e) p := by
  unfold vRet at h
  split at h
  · cases h
    exact ⟨_, rfl⟩
  · cases h

/-! the compiler's ways to store -/
def swF (sc : Scope) (x : Str) (p : Pos) (s : Scope) (vp : Pos) : Bool := sc.names.lookup x == some .local && p.line == vp.line && !(s.names.any fun (n, k) => n == x && (k == .local || k == .cell))
def swB (sc : Scope) (x : Str) (p : Pos) : Expr → Bool
  | .ListComp a b s q => swF sc x p s (Expr.ListComp a b s q).pos
  | .SetComp a b s q => swF sc x p s (Expr.SetComp a b s q).pos
  | .DictComp a b c s q => swF sc x p s (Expr.DictComp a b c s q).pos
  | _ => false
theorem sw_eq {env : PySem.Env} {sc : Scope} (hs : env.scope = sc) (hk : sc.kind = .function) {v : Expr} {x : Str} {p : Pos} {l : Nat} : swapsWith v (some (.Name x p)) l env = pure (swB sc x p v) := by
  have hb : env.blockKind = .function := by
    unfold Env.blockKind
    rw [hs, hk]
    rfl
  have e1 : (env.blockKind == ScopeKind.function) = true := by rw [hb]; rfl
  cases v <;> first
    | rfl
    | (unfold swapsWith swB swF
       show (pure (env.blockKind == .function && env.kindOf x == some .local && _ && _) : Sem Bool) = _
       rw [e1, Bool.true_and]
       unfold Env.kindOf
       rw [hs])
theorem sw_other {v t : Expr} {l : Nat} {env : PySem.Env} (h : vNameP t = none) : swapsWith v (some t) l env = pure false := by
  cases t <;> first
    | (simp [vNameP] at h; done)
    | (cases v <;> rfl)
def lnOf (ts : List Expr) : Nat := (ts.head?.map (·.pos.line)).getD 0
def nmsOf (sc : Scope) (ts : List Expr) : List Str := ts.filterMap fun
  | .Name id pos => if sc.names.lookup id == some .local && pos.line == lnOf ts then some id else none
  | _ => none
def isStar : Expr → Bool
  | .Starred .. => true
  | _ => false
/-- outer none: not told -/
def swpB (sc : Scope) (ts vs : List Expr) : Option (Option (List Str)) :=
  if !(ts.length == 2 || ts.length == 3) || vs.length != ts.length then some none
  else if vs.any isStar then some none
  else if (nmsOf sc ts).length != ts.length || (nmsOf sc ts).eraseDups.length != (nmsOf sc ts).length then some none
  else if vs.all (foldedForSure 8) then some none
  else if vs.all (constantsAlone 8) then none
  else some (some (nmsOf sc ts))
/-- a tuple unpacked from a tuple written out: no stores exchanged -/
def swpN (sc : Scope) (t v : Expr) : Bool := match vTupP t, vTupP v with
  | some (ts, _, _), some (vs, _, _) => (swpB sc ts vs).isSome && ((swpB sc ts vs).bind id).isNone
  | _, _ => false
theorem swp_eq {env : PySem.Env} {sc : Scope} (hs : env.scope = sc) (hk : sc.kind = .function) {ts vs : List Expr} {k k2 : Nat} {p p2 : Pos} {r : Option (List Str)} (h : swpB sc ts vs = some r) : swappedStores [.Tuple ts k p] (.Tuple vs k2 p2) env = pure r := by
  have hb : env.blockKind = .function := by
    unfold Env.blockKind
    rw [hs, hk]
    rfl
  have e1 : (env.blockKind != ScopeKind.function) = false := by rw [hb]; rfl
  have e2 : (ts.filterMap fun x => match x with
    | .Name id pos => if env.kindOf id == some .local && pos.line == lnOf ts then some id else none
    | _ => none) = nmsOf sc ts := by
    unfold nmsOf Env.kindOf
    rw [hs]
  have e3 : (vs.any fun x => match x with
    | .Starred .. => true
    | _ => false) = vs.any isStar := rfl
  unfold swpB at h
  have goal : swappedStores [.Tuple ts k p] (.Tuple vs k2 p2) env = (if !(ts.length == 2 || ts.length == 3) || vs.length != ts.length || env.blockKind != .function then pure none
    else if vs.any isStar then pure none
    else if (nmsOf sc ts).length != ts.length || (nmsOf sc ts).eraseDups.length != (nmsOf sc ts).length then pure none
    else if vs.all (foldedForSure 8) then pure none
    else if vs.all (constantsAlone 8) then (do unsupported "assign.tuple-of-constant-expressions:order-of-the-stores"; pure (some (nmsOf sc ts)))
    else pure (some (nmsOf sc ts))) := by
    rw [← e2]
    rfl
  rw [goal, e1, Bool.or_false]
  split at h
  · rename_i c
    cases h
    rw [if_pos c]
  · rename_i c
    rw [if_neg c]
    split at h
    · rename_i c
      cases h
      rw [if_pos c]
    · rename_i c
      rw [if_neg c]
      split at h
      · rename_i c
        cases h
        rw [if_pos c]
      · rename_i c
        rw [if_neg c]
        split at h
        · rename_i c
          cases h
          rw [if_pos c]
        · rename_i c
          rw [if_neg c]
          split at h
          · cases h
          · rename_i c
            rw [if_neg c]
            cases h
            rfl
def E.isComp : E → Bool
  | .comp .. => true
  | .comp2 .. => true
  | _ => false
def chkN (ct : Ct) (i : Nat) (x : Str) : Bool := ct.N[i]? == some x && (isLoc ct.own x && !(i == ct.iw))
def chkNs (ct : Ct) : List Nat → List Expr → Bool
  | [], [] => true
  | i :: is, t :: ts => (match vNameP t with
    | some (x, _) => chkN ct i x
    | none => false) && chkNs ct is ts
  | _, _ => false
def chkV (ct : Ct) (i : Nat) (o : Expr) : Bool := match vName o with
  | some x => ct.N[i]? == some x && (isVis ct.sc x && notDbg x)
  | none => false
def nodupB : List Nat → Bool
  | [] => true
  | i :: is => !is.contains i && nodupB is
/-- .. the pair or triple stored from the right -/
def parOk (ct : Ct) (is : List Nat) (ts : List Expr) (r : Option (List Str)) : Bool := match r with
  | none => true
  | some ns => (is.length == 2 || is.length == 3) && (ts.map vNameP).all (fun o => match o with
    | some (x, _) => ct.sc.names.lookup x == some .local
    | none => false) && ns == ts.filterMap fun t => (vNameP t).map (·.1)
def augOk : Op2 → Bool
  | .add => true
  | .sub => true
  | _ => false
mutual
def chkSt (ct : Ct) : S → Stmt → Bool
  | .pass, s => match s with
    | .Pass _ => true
    | .Expr (.Constant (.str _) _ _) _ => true
    | _ => false
  | .asg i e, s => match vAsg s with
    | some (t, v, p) => match vNameP t with
      | some (x, q) => chkN ct i x && (chkE ct e v && (!(swB ct.sc x q v) || e.isComp))
      | none => false
    | none => false
  | .asgp is es, s => match vAsg s with
    | some (t, v, p) => match vTupP t, vTupP v with
      | some (ts, _, _), some (vs, _, _) => nodupB is && (chkNs ct is ts && (decide (es.len ≤ 1000) && (chkEs ct es vs && (es.len == is.length && (match swpB ct.sc ts vs with
        | some r => parOk ct is ts r
        | none => false)))))
      | _, _ => false
    | none => false
  | .asgt p e, s => match vAsg s with
    | some (t, v, q) => isTupE t && ((!isTupE v || swpN ct.sc t v) && (chkP ct p t && chkE ct e v))
    | none => false
  | .aug i o e, s => match vAug s with
    | some (t, op, v) => match vNameP t with
      | some (x, q) => chkN ct i x && (augOk o && (decide (op = binOp o) && (isVis ct.sc x && chkE ct e v)))
      | none => false
    | none => false
  | .app i e, s => match vExp s with
    | some x => match vMeth x with
      | some (o, m, ap, [y], cp) => m == ("append" : Str) && (ap.endLine == cp.line && (chkV ct i o && (notStar y && chkE ct e y)))
      | _ => false
    | none => false
  | .ext i e, s => match vExp s with
    | some x => match vMeth x with
      | some (o, m, ap, [y], cp) => m == ("extend" : Str) && (ap.endLine == cp.line && (chkV ct i o && (notStar y && chkE ct e y)))
      | _ => false
    | none => false
  | .upd i e, s => match vExp s with
    | some x => match vMeth x with
      | some (o, m, ap, [y], cp) => m == ("update" : Str) && (ap.endLine == cp.line && (chkV ct i o && (notStar y && chkE ct e y)))
      | _ => false
    | none => false
  | .ins0 i e, s => match vExp s with
    | some x => match vMeth x with
      | some (o, m, ap, [z, y], cp) => m == ("insert" : Str) && (ap.endLine == cp.line && (chkV ct i o && (chkE ct (.int 0) z && (notStar z && (notStar y && chkE ct e y)))))
      | _ => false
    | none => false
  | .seti i k e, s => match vAsg s with
    | some (t, v, p) => match vSub t with
      | some (o, ix) => chkV ct i o && ((vSli ix).isNone && (chkE ct k ix && chkE ct e v))
      | none => false
    | none => false
  | .popt p i, s => match vAsg s with
    | some (t, v, q) => match vMeth v with
      | some (o, m, ap, [], cp) => m == ("pop" : Str) && (ap.endLine == cp.line && (chkV ct i o && ((isTupE t || (vNameP t).isSome) && chkP ct p t)))
      | _ => false
    | none => false
  | .ite t a b, s => match vIfS s with
    | some (c, xs, ys) => chkE ct t c && (chkSs ct a xs && chkSs ct b ys)
    | none => false
  | .whl t b, s => match vWhl s with
    | some (c, xs) => chkE ct t c && chkSs ct b xs
    | none => false
  | .for_ p sr b, s => match vFor s with
    | some (tg, it, xs) => chkS ct sr tg it && (chkP ct p tg && chkSs ct b xs)
    | none => false
  | .ret e, s => match vRet s with
    | some v => chkE ct e v
    | none => false
  | .brk, s => match s with
    | .Break _ => true
    | _ => false
  | .bad, _ => true
  | _, _ => false
def chkSs (ct : Ct) : Ss → List Stmt → Bool
  | .nil, [] => true
  | .cons s r, st :: sts => chkSt ct s st && chkSs ct r sts
  | _, _ => false
end

/-! ### what a statement promises -/
section
variable {P : Pm} {ct : Ct} {X : Cx} {k : Nat}
def EndOk (P : Pm) (K : Fw) (O0 : List Addr) (H0 : Hp) (O : List Addr) (H : Hp) (D : Ends) : Fl → Prop
  | .nx ρ' => ∀ O' σ' H', Sim K P.w P.iw O0 H0 O' H' σ' ρ' → Kp O H O' H' → D.nx σ' H'
  | .bk ρ' => ∀ O' σ' H', Sim K P.w P.iw O0 H0 O' H' σ' ρ' → Kp O H O' H' → D.bk σ' H'
  | .rt d => ∀ v H', Rp K (hid O0 H') v d → Ext P.w H0 H' → D.rt v H'
theorem EndOk.mono {K : Fw} {O0 : List Addr} {H0 : Hp} {O O1 : List Addr} {H H1 : Hp} {D : Ends} {f : Fl} (h : EndOk P K O0 H0 O H D f) (kp : Kp O H O1 H1) : EndOk P K O0 H0 O1 H1 D f := by
  cases f with
  | nx ρ' => exact fun O' σ' H' S q => h O' σ' H' S (kp.trans q)
  | bk ρ' => exact fun O' σ' H' S q => h O' σ' H' S (kp.trans q)
  | rt d => exact h
def tS (P : Pm) (K : Fw) (r : Env → W Fl) : TS := fun D σ H => ∃ O0 H0 O ρ R, Sim K P.w P.iw O0 H0 O H σ ρ ∧ r ρ R ∧ ∀ f, R f → EndOk P K O0 H0 O H D f
theorem ps_imp {st : Stmt} {t t' : TS} (h : PS X st t') (q : ∀ D σ H, t D σ H → t' D σ H) : PS X st t := ⟨fun pins s σ H D I z => h.run pins s σ H D I (q D σ H z)⟩
theorem ps_impL {st : Stmt} {t t' : TS} (h : PS X st t') (q : ∀ D σ H, σ.length = X.N.length → t D σ H → t' D σ H) : PS X st t := ⟨fun pins s σ H D I z => h.run pins s σ H D I (q D σ H I.len z)⟩
theorem pss_imp {st : List Stmt} {t t' : TS} (h : PSs X st t') (q : ∀ D σ H, t D σ H → t' D σ H) : PSs X st t := ⟨fun pins s σ H D I z => h.run pins s σ H D I (q D σ H z)⟩
abbrev Pm.ex (P : Pm) (c : S) (ρ : Env) : W Fl := PV.ex wM P.C P.F P.G c ρ
abbrev Pm.exs (P : Pm) (c : Ss) (ρ : Env) : W Fl := PV.exs wM P.C P.F P.G c ρ
theorem Sim.iwl {K : Fw} {w : Wp} {iw : Nat} {O0 O : List Addr} {H0 H : Hp} {σ : L2.St} {ρ : Env} (S : Sim K w iw O0 H0 O H σ ρ) : ∀ t, w = some t → iw < ρ.length := fun t ht => (List.getElem?_eq_some_iff.mp (S.wS t ht).2).1
theorem frz_len {vs : List Nat} {ρ : Env} : (frz vs ρ).length = ρ.length := by simp [frz]

/-! name = value -/
theorem tS_asg {i : Nat} {e : E} (hi : i ≠ P.iw) {D : Ends} {σ : L2.St} {H : Hp} (h : tS P X.fw (P.ex (.asg i e)) D σ H) : tAsg (tE P X.fw e) (gName i) D σ H := by
  obtain ⟨O0, H0, O, ρ, R, S, ev, q⟩ := h
  have ev : P.ev e (frz (esc false e) ρ) fun d => R (.nx ((frz (esc false e) ρ).set i (slotOf e d))) := by unfold Pm.ex PV.ex at ev; exact ev
  obtain ⟨O1, S1, k1, n1⟩ := S.frz (esc false e)
  refine ⟨O0, H0, O1, _, _, S1, n1, ev, fun d v H' hR e1 res => ?_⟩
  obtain ⟨O2, S2, k2⟩ := S1.push e1 res S1.iwl
  by_cases hil : i < (frz (esc false e) ρ).length
  · have S3 := Sim.move (us := []) (ss := []) S2 S1.len hil hi S1.iwl
    rw [List.append_nil, List.append_nil] at S3
    exact q _ hR O2 _ H' S3 (k1.trans k2)
  · have z1 : σ.set i (some v) = σ := List.set_eq_of_length_le (by rw [S1.len]; omega)
    have z2 : (frz (esc false e) ρ).set i (slotOf e d) = frz (esc false e) ρ := List.set_eq_of_length_le (by omega)
    rw [z2] at hR
    have S3 := Sim.take S2 S1.len S1.iwl
    have q := q _ hR O2 σ H' S3 (k1.trans k2)
    show D.nx (σ.set i (some v)) H'
    rw [z1]
    exact q
/-! several values -/
def slots : Es → List D → Env
  | .cons e es, d :: ds => slotOf e d :: slots es ds
  | _, _ => []
def tEt (P : Pm) (K : Fw) (c : Es) : TA := fun σ H Q => ∃ O0 H0 O ρ R us ss, Sim K P.w P.iw O0 H0 O H (σ ++ us) (ρ ++ ss) ∧ σ.length = ρ.length ∧ (∀ t, P.w = some t → P.iw < ρ.length) ∧ NoOw (escs c) ρ ∧ P.evs c ρ R ∧
  ∀ ds vs O' H', R ds → Sim K P.w P.iw O0 H0 O' H' (σ ++ (us ++ vs.map some)) (ρ ++ (ss ++ slots c ds)) → Kp O H O' H' → vs.length = c.len → ds.length = c.len → Q vs H'
theorem sEt (g : Gd P ct X k) : ∀ {cs : Es} {xs : List Expr}, chkEs ct cs xs = true → PA X xs (tEt P X.fw cs)
  | .nil, [], _ => pa_nil.imp fun σ H Q q => by
    obtain ⟨O0, H0, O, ρ, R, us, ss, S, hl, hw, es, ev, q⟩ := q
    have ev : R [] := by unfold Pm.evs PV.evs at ev; exact ev
    exact q [] [] O H ev (by simpa [slots] using S) (Kp.refl _ _) rfl rfl
  | .nil, _ :: _, h => by unfold chkEs at h; cases h
  | .cons c cs, [], h => by unfold chkEs at h; cases h
  | .cons c cs, x :: xs, h => by
    unfold chkEs at h
    rw [Bool.and_eq_true, Bool.and_eq_true] at h
    obtain ⟨h1, h2, h3⟩ := h
    refine (pa_cons (sE c g h2).1 (sEt g h3) (star_cons h1)).imp fun σ H Q q => ?_
    obtain ⟨O0, H0, O, ρ, R, us, ss, S, hl, hw, es, ev, q⟩ := q
    have es : NoOw (esc false c ++ escs cs) ρ := by simpa [escs] using es
    have ev : P.ev c ρ fun d => P.evs cs ρ fun ds => R (d :: ds) := by unfold Pm.evs PV.evs at ev; exact ev
    refine ⟨O0, H0, O, ρ, _, S.take hl hw, noOw_l es, ev, fun d v H1 hd e1 res => ?_⟩
    obtain ⟨O1, S1, k1⟩ := S.push e1 res (fun t ht => by rw [List.length_append]; have := hw t ht; omega)
    rw [List.append_assoc, List.append_assoc] at S1
    refine ⟨O0, H0, O1, ρ, _, us ++ [some v], ss ++ [slotOf c d], S1, hl, hw, noOw_r es, hd, fun ds vs O' H' hR S2 k2 hv hd2 => ?_⟩
    refine q (d :: ds) (v :: vs) O' H' hR ?_ (k1.trans k2) (by simp [hv, Es.len]) (by simp [hd2, Es.len])
    simpa [slots, List.append_assoc] using S2
def setVs : List Nat → List V → L2.St → L2.St
  | i :: is, v :: vs, σ => setVs is vs (σ.set i (some v))
  | _, _, σ => σ
theorem setVs_sim {K : Fw} {w : Wp} {iw : Nat} {O0 O : List Addr} {H0 H : Hp} : ∀ {is : List Nat} {es : Es} {ds : List D} {vs : List V} {σ : L2.St} {ρ ρ' : Env}, Sim K w iw O0 H0 O H (σ ++ vs.map some) (ρ ++ slots es ds) → σ.length = ρ.length → (∀ t, w = some t → iw < ρ.length) → (∀ i ∈ is, i ≠ iw ∧ i < ρ.length) →
    vs.length = ds.length → setAll is es ds ρ = some ρ' → Sim K w iw O0 H0 O H (setVs is vs σ) ρ'
  | [], .nil, [], vs, σ, ρ, ρ', S, hl, hw, hi, hv, h => by
    unfold setAll at h
    cases h
    have : vs = [] := by simpa using hv
    subst this
    simpa [setVs, slots] using S
  | i :: is, .cons e es, d :: ds, [], σ, ρ, ρ', S, hl, hw, hi, hv, h => by cases hv
  | i :: is, .cons e es, d :: ds, v :: vs, σ, ρ, ρ', S, hl, hw, hi, hv, h => by
    unfold setAll at h
    obtain ⟨h1, h2⟩ := hi i (by simp)
    have S2 := Sim.move (v := some v) (s := slotOf e d) S hl h2 h1 hw
    exact setVs_sim (is := is) (es := es) (ds := ds) (vs := vs) (σ := σ.set i (some v)) (ρ := ρ.set i (slotOf e d)) S2 (by simp [hl]) (by simpa using hw) (fun j hj => by simpa using hi j (by simp [hj])) (by simpa using hv) h
  | [], .nil, _ :: _, _, _, _, _, _, _, _, _, _, h => by unfold setAll at h; cases h
  | [], .cons _ _, _, _, _, _, _, _, _, _, _, _, h => by unfold setAll at h; cases h
  | _ :: _, .nil, _, _, _, _, _, _, _, _, _, _, h => by unfold setAll at h; cases h
  | _ :: _, .cons _ _, [], _, _, _, _, _, _, _, _, _, h => by unfold setAll at h; cases h
/-- the values stored, the pair itself aside -/
def tPN (is : List Nat) (ta : TA) : TS := fun D σ H => ta σ H fun vs H1 => vs.length = is.length ∧ ∀ H2, (H2 = H1 ∨ ∃ p, H1 p = none ∧ H2 = upd H1 p (.tup vs)) → D.nx (setVs is vs σ) H2
theorem pgs_names (g : Gd P ct X k) : ∀ {is : List Nat} {ts : List Expr}, chkNs ct is ts = true → PGs X ts (fun vs σ H Q => vs.length = is.length ∧ Q (setVs is vs σ) H) ∧ (assignEach ts X.env).findIdx? (·.1) = none ∧ (assignEach ts X.env).length = is.length
  | [], [], _ => ⟨pgs_imp pgs_nil fun v σ H Q q => by
    obtain ⟨h1, h2⟩ := q
    have : v = [] := by simpa using h1
    subst this
    exact ⟨rfl, h2⟩, rfl, rfl⟩
  | [], _ :: _, h => by cases h
  | _ :: _, [], h => by cases h
  | i :: is, t :: ts, h => by
    unfold chkNs at h
    rw [Bool.and_eq_true] at h
    obtain ⟨h1, h2⟩ := h
    cases hv : vNameP t with
    | none => rw [hv] at h1; cases h1
    | some q =>
      obtain ⟨x, p⟩ := q
      rw [hv] at h1
      obtain rfl := vNameP_eq hv
      unfold chkN at h1
      simp only [Bool.and_eq_true, beq_iff_eq] at h1
      obtain ⟨k1, k2, k3⟩ := h1
      obtain ⟨l, hf⟩ := g.sto x k2
      obtain ⟨r1, r2, r3⟩ := pgs_names g h2
      refine ⟨pgs_imp (pgs_cons (pg_name (by rw [g.hN]; exact g.nd) (by rw [g.hN]; exact k1) l hf) r1 rfl) fun v σ H Q q => ?_, ?_, ?_⟩
      · obtain ⟨h1, h2⟩ := q
        cases v with
        | nil => cases h1
        | cons v vs => exact ⟨v, vs, rfl, by simpa using h1, h2⟩
      · rw [show assignEach (Expr.Name x p :: ts) X.env = (false, assign (.Name x p) X.env) :: assignEach ts X.env from rfl, List.findIdx?_cons, r2]
        rfl
      · rw [show assignEach (Expr.Name x p :: ts) X.env = (false, assign (.Name x p) X.env) :: assignEach ts X.env from rfl, List.length_cons, r3]
        rfl
theorem ps_tupN (g : Gd P ct X k) {is : List Nat} {cs : Es} {ts vs : List Expr} {kt k2 : Nat} {p p2 pos : Pos} (hn : chkNs ct is ts = true) (hw : swappedStores [.Tuple ts kt p] (.Tuple vs k2 p2) X.env = pure none) (ha : PA X vs (tEt P X.fw cs)) (hl : cs.len ≤ 1000) :
    PS X (.Assign [.Tuple ts kt p] (.Tuple vs k2 p2) pos) (tPN is (tEt P X.fw cs)) := by
  obtain ⟨r1, r2, r3⟩ := pgs_names g hn
  refine ps_imp (ps_asg (pe_tup ha) (pg_tup g.calm r1 rfl r2) rfl hw rfl) fun D σ H q => ?_
  obtain ⟨O0, H0, O, ρ, R, us, ss, S, hl2, hw, es, ev, q⟩ := q
  refine ⟨O0, H0, O, ρ, R, us, ss, S, hl2, hw, es, ev, fun ds vs O' H' hR S2 kp hv hd => ?_⟩
  obtain ⟨q1, q2⟩ := q ds vs O' H' hR S2 kp hv hd
  refine ⟨by rw [hv, sizeLine_eq]; omega, fun a ha => ⟨a, vs, rfl, SqT.of (by simp [upd]), by rw [q1, r3], q1, q2 _ (.inr ⟨a, ha, rfl⟩)⟩⟩
theorem nodup_of : ∀ {is : List Nat}, nodupB is = true → is.Nodup
  | [], _ => List.nodup_nil
  | i :: is, h => by
    unfold nodupB at h
    rw [Bool.and_eq_true] at h
    exact List.nodup_cons.mpr ⟨by simpa using h.1, nodup_of h.2⟩
/-- several names stored at once -/
theorem ps_names (g : Gd P ct X k) (hk : ct.sc.kind = .function) {is : List Nat} {cs : Es} {ts vs : List Expr} {kt k2 : Nat} {p p2 pos : Pos} {r : Option (List Str)} (hnd : nodupB is = true) (hn : chkNs ct is ts = true) (hl : cs.len ≤ 1000) (hc : chkEs ct cs vs = true) (hcl : cs.len = is.length)
    (hs : swpB ct.sc ts vs = some r) (hp : parOk ct is ts r = true) : PS X (.Assign [.Tuple ts kt p] (.Tuple vs k2 p2) pos) (tPN is (tEt P X.fw cs)) := by
  have hw : swappedStores [.Tuple ts kt p] (.Tuple vs k2 p2) X.env = pure r := swp_eq g.hsc hk hs
  cases r with
  | none => exact ps_tupN g hn hw (sEt g hc) hl
  | some ns =>
    unfold parOk at hp
    simp only [Bool.and_eq_true] at hp
    obtain ⟨⟨hlen, hloc⟩, hns⟩ := hp
    have nd := nodup_of hnd
    have hvl := (chkEs_len (env := X.env) hc).1
    rcases is with _ | ⟨i, _ | ⟨j, _ | ⟨l, _ | ⟨m, is⟩⟩⟩⟩
    · simp at hlen
    · simp at hlen
    · rcases ts with _ | ⟨t1, _ | ⟨t2, _ | ⟨t3, ts⟩⟩⟩
      · cases hn
      · unfold chkNs at hn; simp [chkNs] at hn
      · rcases vs with _ | ⟨v1, _ | ⟨v2, _ | ⟨v3, vs⟩⟩⟩
        · simp [hcl] at hvl
        · simp [hcl] at hvl
        · unfold chkNs at hn
          unfold chkNs at hn
          rw [Bool.and_eq_true, Bool.and_eq_true] at hn
          obtain ⟨h1, h2, _⟩ := hn
          cases e1 : vNameP t1 with
          | none => rw [e1] at h1; cases h1
          | some q1 =>
            cases e2 : vNameP t2 with
            | none => rw [e2] at h2; cases h2
            | some q2 =>
              obtain ⟨x, px⟩ := q1
              obtain ⟨y, py⟩ := q2
              rw [e1] at h1
              rw [e2] at h2
              simp only [List.map_cons, List.map_nil, e1, e2, List.all_cons, List.all_nil, Bool.and_true, Bool.and_eq_true, beq_iff_eq] at hloc
              have hns2 : ns = [x, y] := by
                have := beq_iff_eq.mp hns
                rw [this]
                simp [e1, e2]
              obtain rfl := vNameP_eq e1
              obtain rfl := vNameP_eq e2
              subst hns2
              unfold chkN at h1 h2
              simp only [Bool.and_eq_true, beq_iff_eq] at h1 h2
              refine ps_imp (ps_par g.calm (by rw [g.hN]; exact g.nd) (by rw [g.hN]; exact h1.1) (by rw [g.hN]; exact h2.1) (by simpa using nd) (by rw [g.hsc]; exact hloc.1) (by rw [g.hsc]; exact hloc.2) (sEt g hc) hw rfl) fun D σ H q => ?_
              obtain ⟨O0, H0, O, ρ, R, us, ss, S, hl2, hw, es, ev, q⟩ := q
              refine ⟨O0, H0, O, ρ, R, us, ss, S, hl2, hw, es, ev, fun ds vs O' H' hR S2 kp hv hd => ?_⟩
              obtain ⟨q1, q2⟩ := q ds vs O' H' hR S2 kp hv hd
              rcases vs with _ | ⟨a, _ | ⟨b, _ | ⟨c, vs⟩⟩⟩
              · cases q1
              · cases q1
              · exact ⟨a, b, rfl, q2 H' (.inl rfl)⟩
              · cases q1
        · simp [hcl] at hvl
      · unfold chkNs at hn; simp [chkNs] at hn
    · rcases ts with _ | ⟨t1, _ | ⟨t2, _ | ⟨t3, _ | ⟨t4, ts⟩⟩⟩⟩
      · cases hn
      · unfold chkNs at hn; simp [chkNs] at hn
      · unfold chkNs at hn; simp [chkNs] at hn
      · rcases vs with _ | ⟨v1, _ | ⟨v2, _ | ⟨v3, _ | ⟨v4, vs⟩⟩⟩⟩
        · simp [hcl] at hvl
        · simp [hcl] at hvl
        · simp [hcl] at hvl
        · unfold chkNs at hn
          unfold chkNs at hn
          unfold chkNs at hn
          rw [Bool.and_eq_true, Bool.and_eq_true, Bool.and_eq_true] at hn
          obtain ⟨h1, h2, h3, _⟩ := hn
          cases e1 : vNameP t1 with
          | none => rw [e1] at h1; cases h1
          | some q1 =>
            cases e2 : vNameP t2 with
            | none => rw [e2] at h2; cases h2
            | some q2 =>
              cases e3 : vNameP t3 with
              | none => rw [e3] at h3; cases h3
              | some q3 =>
                obtain ⟨x, px⟩ := q1
                obtain ⟨y, py⟩ := q2
                obtain ⟨z, pz⟩ := q3
                rw [e1] at h1
                rw [e2] at h2
                rw [e3] at h3
                simp only [List.map_cons, List.map_nil, e1, e2, e3, List.all_cons, List.all_nil, Bool.and_true, Bool.and_eq_true, beq_iff_eq] at hloc
                have hns2 : ns = [x, y, z] := by
                  have := beq_iff_eq.mp hns
                  rw [this]
                  simp [e1, e2, e3]
                obtain rfl := vNameP_eq e1
                obtain rfl := vNameP_eq e2
                obtain rfl := vNameP_eq e3
                subst hns2
                unfold chkN at h1 h2 h3
                simp only [Bool.and_eq_true, beq_iff_eq] at h1 h2 h3
                simp only [List.nodup_cons, List.mem_cons, List.not_mem_nil, or_false, not_or] at nd
                refine ps_imp (ps_par3 g.calm (by rw [g.hN]; exact g.nd) (by rw [g.hN]; exact h1.1) (by rw [g.hN]; exact h2.1) (by rw [g.hN]; exact h3.1) nd.1.1 nd.1.2 nd.2.1 (by rw [g.hsc]; exact hloc.1) (by rw [g.hsc]; exact hloc.2.1) (by rw [g.hsc]; exact hloc.2.2) (sEt g hc) hw rfl) fun D σ H q => ?_
                obtain ⟨O0, H0, O, ρ, R, us, ss, S, hl2, hw, es, ev, q⟩ := q
                refine ⟨O0, H0, O, ρ, R, us, ss, S, hl2, hw, es, ev, fun ds vs O' H' hR S2 kp hv hd => ?_⟩
                obtain ⟨q1, q2⟩ := q ds vs O' H' hR S2 kp hv hd
                rcases vs with _ | ⟨a, _ | ⟨b, _ | ⟨c, _ | ⟨d, vs⟩⟩⟩⟩
                · cases q1
                · cases q1
                · cases q1
                · exact ⟨a, b, c, rfl, q2 H' (.inl rfl)⟩
                · cases q1
        · simp [hcl] at hvl
      · unfold chkNs at hn; simp [chkNs] at hn
    · simp at hlen
theorem setAll_len : ∀ {is : List Nat} {es : Es} {ds : List D} {ρ ρ' : Env}, setAll is es ds ρ = some ρ' → is.length = es.len
  | [], .nil, [], _, _, _ => rfl
  | i :: is, .cons e es, d :: ds, ρ, ρ', h => by
    unfold setAll at h
    simp [Es.len, setAll_len h]
  | [], .nil, _ :: _, _, _, h => by unfold setAll at h; cases h
  | [], .cons _ _, _, _, _, h => by unfold setAll at h; cases h
  | _ :: _, .nil, _, _, _, h => by unfold setAll at h; cases h
  | _ :: _, .cons _ _, [], _, _, h => by unfold setAll at h; cases h
theorem tS_asgp {is : List Nat} {es : Es} (hi : ∀ i ∈ is, i ≠ P.iw) {D : Ends} {σ : L2.St} {H : Hp} (hN : ∀ i ∈ is, i < σ.length) (h : tS P X.fw (P.ex (.asgp is es)) D σ H) : tPN is (tEt P X.fw es) D σ H := by
  obtain ⟨O0, H0, O, ρ, R, S, ev, q⟩ := h
  have ev : P.evs es (frz (escs es) ρ) fun ds => wM.bind (wM.lift (setAll is es ds (frz (escs es) ρ))) (fun ρ' => wM.pure (.nx ρ')) R := by unfold Pm.ex PV.ex at ev; exact ev
  obtain ⟨O1, S1, k1, n1⟩ := S.frz (escs es)
  refine ⟨O0, H0, O1, _, _, [], [], by simpa using S1, S1.len, S1.iwl, n1, ev, fun ds vs O' H' hR S2 k2 hv hd => ?_⟩
  obtain ⟨ρ', hset, hR⟩ := wbind hR
  rw [List.nil_append, List.nil_append] at S2
  refine ⟨by rw [hv, ← setAll_len hset], fun H2 h2 => ?_⟩
  have ex2 : Ext P.w H' H2 := by
    rcases h2 with rfl | ⟨p, hp, rfl⟩
    · exact Ext.refl S2.wok
    · exact Ext.new S2.wok hp
  have S3 := S2.ext ex2
  exact q _ hR O' _ H2 (setVs_sim S3 S1.len S1.iwl (fun i hm => ⟨hi i hm, by rw [← S1.len]; exact hN i hm⟩) (by rw [hv, hd]) hset) ((k1.trans k2).trans (S2.kp ex2))
end
end PV

set_option maxHeartbeats 4000000
/-! PV: every statement of the checked form. -/
namespace PV
open PySem L2 RZ

section
variable {P : Pm} {ct : Ct} {X : Cx} {k : Nat}
theorem own_at {K : Fw} {w : Wp} {iw : Nat} {O0 O : List Addr} {H0 H : Hp} {σ : L2.St} {ρ : Env} (S : Sim K w iw O0 H0 O H σ ρ) {i : Nat} {d : D} (h : getO ρ i = some d) (hl : ∃ x, lst? d = some x) : ∃ p ds vs, σ[i]? = some (some (.ref p)) ∧ p ∈ O ∧ d = .list ds ∧ H p = some (.lst vs) ∧ Rps K (hid O H) vs ds := by
  obtain ⟨p, e1, hp, u, hH, r⟩ := S.slot i _ (getO_ow h)
  cases r with
  | lst r => exact ⟨p, _, _, join_some e1, hp, rfl, hH, r⟩
  | dct _ _ _ => obtain ⟨_, hl⟩ := hl; cases hl
theorem own_any {K : Fw} {w : Wp} {iw : Nat} {O0 O : List Addr} {H0 H : Hp} {σ : L2.St} {ρ : Env} (S : Sim K w iw O0 H0 O H σ ρ) {i : Nat} {d : D} (h : getO ρ i = some d) : ∃ p u, σ[i]? = some (some (.ref p)) ∧ p ∈ O ∧ H p = some u ∧ Ob K (hid O H) p u d := by
  obtain ⟨p, e1, hp, u, hH, r⟩ := S.slot i _ (getO_ow h)
  exact ⟨p, u, join_some e1, hp, hH, r⟩
theorem pe_v (g : Gd P ct X k) {i : Nat} {o : Expr} (h : chkV ct i o = true) : ∃ x p, o = .Name x p ∧ PE X o (tVar i) := by
  unfold chkV at h
  cases hv : vName o with
  | none => rw [hv] at h; cases h
  | some x =>
    rw [hv] at h
    obtain ⟨p, rfl⟩ := vName_eq hv
    exact ⟨x, p, rfl, pe_nm g h⟩
/-- a list that stays a slot's own, from heap to heap -/
theorem own_ext {K : Fw} {w : Wp} {iw : Nat} {O0 O : List Addr} {H0 H H' : Hp} {σ : L2.St} {ρ : Env} (S : Sim K w iw O0 H0 O H σ ρ) (e : Ext w H H') {p : Addr} {vs : List V} (h : H p = some (.lst vs)) : H' p = some (.lst vs) :=
  e.1 p _ (fun z => by
    obtain ⟨kvs, q⟩ := is_dK S.wok z
    rw [h] at q
    cases q) h
theorem own_extO {K : Fw} {w : Wp} {iw : Nat} {O0 O : List Addr} {H0 H H' Ho : Hp} {σ : L2.St} {ρ : Env} (S : Sim K w iw O0 H0 O H σ ρ) (e : Ext w H H') {p : Addr} {u : HO} {d : D} (h : H p = some u) (r : Ob K Ho p u d) : H' p = some u :=
  e.1 p _ (fun z => by
    obtain ⟨kvs, q⟩ := is_dK S.wok z
    rw [h] at q
    exact r.ndK _ (Option.some.inj q)) h
theorem dApp_some {d x y : D} (h : dApp d x = some y) : ∃ xs, x = .list xs ∧ xs.length < LINE ∧ y = .list (xs ++ [d]) := by
  cases x <;> simp [dApp] at h
  exact ⟨_, rfl, h.1, h.2.symm⟩
theorem dIns_some {d x y : D} (h : dIns0 d x = some y) : ∃ xs, x = .list xs ∧ xs.length < LINE ∧ y = .list (d :: xs) := by
  cases x <;> simp [dIns0] at h
  exact ⟨_, rfl, h.1, h.2.symm⟩
theorem dExt_some {d x y : D} (h : dExt d x = some y) : ∃ xs ys, x = .list xs ∧ d = .list ys ∧ xs.length + ys.length ≤ LINE ∧ y = .list (xs ++ ys) := by
  cases x <;> simp [dExt] at h
  cases d <;> simp at h
  exact ⟨_, _, rfl, rfl, h.1, h.2.symm⟩
theorem dPop_some {x : D} {y : D × D} (h : dPop x = some y) : ∃ xs, x = .list xs ∧ xs[xs.length - 1]? = some y.1 ∧ y.2 = .list xs.dropLast := by
  cases x <;> simp only [dPop] at h <;> try (cases h; done)
  rename_i xs
  cases e : xs[xs.length - 1]? with
  | none => rw [e] at h; cases h
  | some z => rw [e] at h; cases h; exact ⟨_, rfl, e, rfl⟩
theorem dSet_some {j d x y : D} {xs : List D} (hx : x = .list xs) (h : dSet j d x = some y) : ∃ i n, j = .int i ∧ ixN xs.length i = some n ∧ y = .list (xs.set n d) := by
  subst hx
  cases j <;> simp only [dSet] at h <;> try (cases h; done)
  rename_i i
  cases e : ixN xs.length i with
  | none => rw [e] at h; cases h
  | some n => rw [e] at h; cases h; exact ⟨_, _, rfl, e, rfl⟩
/-! xs.m(..) -/
theorem q_app {i : Nat} {e : E} {D : Ends} {σ : L2.St} {H : Hp} (h : tS P X.fw (P.ex (.app i e)) D σ H) : tDrop (tBM X.fw "list" rAppend (tVar i) (tCons (tE P X.fw e) tNil)) D σ H := by
  obtain ⟨O0, H0, O, ρ, R, S, ev, q⟩ := h
  obtain ⟨O1, S1, k1, n1⟩ := S.frz (esc false e)
  have ev : wM.bind (wM.lift (getO (frz (esc false e) ρ) i)) (fun x => wM.bind (wM.lift (lst? x)) fun _ => wM.bind (PV.ev wM P.C P.F P.G e (frz (esc false e) ρ)) fun d => wM.bind (wM.lift (dApp d x)) fun y => wM.pure (.nx ((frz (esc false e) ρ).set i (.ow y)))) R := by unfold Pm.ex PV.ex at ev; exact ev
  obtain ⟨x, hx, ev⟩ := wbind ev
  obtain ⟨_, hl0, ev⟩ := wbind ev
  obtain ⟨p, ds, vs, e1, hp, rfl, hH, r⟩ := own_at S1 hx ⟨_, hl0⟩
  refine ⟨.ref p, e1, .inl ⟨rfl, vs, SqL.of hH⟩, O0, H0, O1, _, _, S1, n1, ev, fun d v H' hd e2 res => ?_⟩
  obtain ⟨y, hy, hR⟩ := wbind hd
  obtain ⟨xs, e3, hl, rfl⟩ := dApp_some hy
  cases e3
  have S2 := S1.ext e2
  have hH' := own_ext S1 e2 hH
  have r' := r.mono (e2.hid S1.wo)
  obtain ⟨S3, k3⟩ := S2.setMut (getO_ow hx) e1 (.lst (r'.append (.cons res.1 .nil)))
  exact ⟨p, vs, v, rfl, rfl, hH', by rw [r.length, ← line_eq]; exact hl, q _ hR O1 σ _ S3 ((k1.trans (S1.kp e2)).trans k3)⟩
theorem q_ins {i : Nat} {e : E} {D : Ends} {σ : L2.St} {H : Hp} (h : tS P X.fw (P.ex (.ins0 i e)) D σ H) : tDrop (tBM X.fw "list" (fun x vs H Q => ∃ (l : Addr) (xs : List V) (i : Int) (y : V), x = .ref l ∧ vs = [.int i, y] ∧ H l = some (.lst xs) ∧ xs.length < sizeLine ∧ 0 ≤ i ∧ i < 2 ^ 63 ∧
    Q .non (upd H l (.lst (xs.take i.toNat ++ [y] ++ xs.drop i.toNat)))) (tVar i) (tCons (tC (.int 0)) (tCons (tE P X.fw e) tNil))) D σ H := by
  obtain ⟨O0, H0, O, ρ, R, S, ev, q⟩ := h
  obtain ⟨O1, S1, k1, n1⟩ := S.frz (esc false e)
  have ev : wM.bind (wM.lift (getO (frz (esc false e) ρ) i)) (fun x => wM.bind (wM.lift (lst? x)) fun _ => wM.bind (PV.ev wM P.C P.F P.G e (frz (esc false e) ρ)) fun d => wM.bind (wM.lift (dIns0 d x)) fun y => wM.pure (.nx ((frz (esc false e) ρ).set i (.ow y)))) R := by unfold Pm.ex PV.ex at ev; exact ev
  obtain ⟨x, hx, ev⟩ := wbind ev
  obtain ⟨_, hl0, ev⟩ := wbind ev
  obtain ⟨p, ds, vs, e1, hp, rfl, hH, r⟩ := own_at S1 hx ⟨_, hl0⟩
  refine ⟨.ref p, e1, .inl ⟨rfl, vs, SqL.of hH⟩, O0, H0, O1, _, _, S1, n1, ev, fun d v H' hd e2 res => ?_⟩
  obtain ⟨y, hy, hR⟩ := wbind hd
  obtain ⟨xs, e3, hl, rfl⟩ := dIns_some hy
  cases e3
  have S2 := S1.ext e2
  have hH' := own_ext S1 e2 hH
  have r' := r.mono (e2.hid S1.wo)
  obtain ⟨S3, k3⟩ := S2.setMut (getO_ow hx) e1 (.lst (.cons res.1 r'))
  exact ⟨p, vs, 0, v, rfl, rfl, hH', by rw [r.length, ← line_eq]; exact hl, by omega, by omega, q _ hR O1 σ _ S3 ((k1.trans (S1.kp e2)).trans k3)⟩
theorem q_ext {i : Nat} {e : E} {D : Ends} {σ : L2.St} {H : Hp} (h : tS P X.fw (P.ex (.ext i e)) D σ H) : tDrop (tBM X.fw "list" rExtend (tVar i) (tCons (tE P X.fw e) tNil)) D σ H := by
  obtain ⟨O0, H0, O, ρ, R, S, ev, q⟩ := h
  obtain ⟨O1, S1, k1, n1⟩ := S.frz (esc false e)
  have ev : wM.bind (wM.lift (getO (frz (esc false e) ρ) i)) (fun x => wM.bind (wM.lift (lst? x)) fun _ => wM.bind (PV.ev wM P.C P.F P.G e (frz (esc false e) ρ)) fun d => wM.bind (wM.lift (dExt d x)) fun y => wM.pure (.nx ((frz (esc false e) ρ).set i (.ow y)))) R := by unfold Pm.ex PV.ex at ev; exact ev
  obtain ⟨x, hx, ev⟩ := wbind ev
  obtain ⟨_, hl0, ev⟩ := wbind ev
  obtain ⟨p, ds, vs, e1, hp, rfl, hH, r⟩ := own_at S1 hx ⟨_, hl0⟩
  refine ⟨.ref p, e1, .inl ⟨rfl, vs, SqL.of hH⟩, O0, H0, O1, _, _, S1, n1, ev, fun d v H' hd e2 res => ?_⟩
  obtain ⟨y, hy, hR⟩ := wbind hd
  obtain ⟨xs, ys, e3, rfl, hl, rfl⟩ := dExt_some hy
  cases e3
  have S2 := S1.ext e2
  have hH' := own_ext S1 e2 hH
  have r' := r.mono (e2.hid S1.wo)
  cases res.1 with
  | @lst b zs _ hb rz =>
    obtain ⟨S3, k3⟩ := S2.setMut (getO_ow hx) e1 (.lst (r'.append rz))
    exact ⟨p, b, vs, zs, rfl, rfl, hH', hid_le _ _ _ _ hb, by rw [r.length, rz.length, ← line_eq]; exact hl, q _ hR O1 σ _ S3 ((k1.trans (S1.kp e2)).trans k3)⟩
/-- what stands behind o[j] = v -/
def rSetD (K : Fw) : V → V → V → Hp → (Hp → Prop) → Prop := fun o i v H Q => ∃ O p u x k d y, o = .ref p ∧ p ∈ O ∧ H p = some u ∧ Ob K (hid O H) p u x ∧ Rp K (hid O H) i k ∧ Rp K (hid O H) v d ∧ dSet k d x = some y ∧ ∀ u', Ob K (hid O H) p u' y → Q (upd H p u')
theorem set_D {k0 : Nat} (hr : Room k0 X.A) : PSet X (rSetD X.fw) := by
  intro pins s σ H o i v ov iv u Q I ro ri rv h
  obtain ⟨O, p, ob, x, k, d, y, rfl, hp, hH, r, rk, rd, hy, q⟩ := h
  cases r with
  | @lst vs ds r =>
    obtain ⟨n, m, rfl, hn, rfl⟩ := dSet_some rfl hy
    cases rk
    exact set_list pins s σ H _ _ v ov iv u Q I ro ri rv ⟨p, vs, n, m, rfl, rfl, hH, by rw [r.length]; exact hn, q _ (.lst (r.set rd m))⟩
  | @dct o kvs kv vv ok r1 r2 =>
    simp only [dSet] at hy
    split at hy
    · rename_i hk
      rw [Bool.and_eq_true] at hk
      have hy := Option.some.inj hy
      subst hy
      cases (show ov = .ref p from ro)
      have hl := of_decide_eq_true hk.2
      exact dict_set hr I (hid_le O H) hH (dvw I (hid_le O H) hH ok r1 r2) rk ri rd rv hk.1 (by rw [← line_eq]; exact hl) fun o' s' I' dn => by
        obtain ⟨kv', vv', ok', r1', r2'⟩ := dn
        exact ⟨_, I', q _ (.dct ok' r1' r2')⟩
    · cases hy
theorem q_seti {i : Nat} {j e : E} {D : Ends} {σ : L2.St} {H : Hp} (h : tS P X.fw (P.ex (.seti i j e)) D σ H) : tAsg (tE P X.fw e) (gSub (tVar i) (tE P X.fw j) (rSetD X.fw)) D σ H := by
  obtain ⟨O0, H0, O, ρ, R, S, ev, q⟩ := h
  obtain ⟨O1, S1, k1, n1⟩ := S.frz (esc false e ++ esc false j)
  have ev : wM.bind (wM.lift (getO (frz (esc false e ++ esc false j) ρ) i)) (fun x => wM.bind (PV.ev wM P.C P.F P.G e (frz (esc false e ++ esc false j) ρ)) fun d => wM.bind (PV.ev wM P.C P.F P.G j (frz (esc false e ++ esc false j) ρ)) fun z => wM.bind (wM.lift (dSet z d x)) fun y => wM.pure (.nx ((frz (esc false e ++ esc false j) ρ).set i (.ow y)))) R := by unfold Pm.ex PV.ex at ev; exact ev
  obtain ⟨x, hx, ev⟩ := wbind ev
  obtain ⟨p, u, e1, hp, hH, r⟩ := own_any S1 hx
  refine ⟨O0, H0, O1, _, _, S1, noOw_l n1, ev, fun d v H' hd e2 res => ⟨.ref p, e1, O0, H0, O1, _, _, S1.ext e2, noOw_r n1, hd, fun z v2 H2 hd e3 res2 => ?_⟩⟩
  obtain ⟨y, hy, hR⟩ := wbind hd
  have S2 := (S1.ext e2).ext e3
  have hH' := own_extO (S1.ext e2) e3 (own_extO S1 e2 hH r) r
  have r' := (r.mono (e2.hid S1.wo)).mono (e3.hid S1.wo)
  refine ⟨O1, p, u, x, z, d, y, rfl, hp, hH', r', res2.1, res.1.mono (e3.hid S1.wo), hy, fun u' ru => ?_⟩
  obtain ⟨S3, k3⟩ := S2.setMut (getO_ow hx) e1 ru
  exact q _ hR O1 σ _ S3 ((k1.trans ((S1.kp e2).trans ((S1.ext e2).kp e3))).trans k3)
/-- d.update(e) -/
def rUpd (K : Fw) : V → List V → Hp → VK → Prop := fun x xs H Q => ∃ O p u kvs more y z, x = .ref p ∧ xs = [y] ∧ p ∈ O ∧ H p = some u ∧ Ob K (hid O H) p u (.dict kvs) ∧ Rp K (hid O H) y (.dict more) ∧ dUpd (.dict more) (.dict kvs) = some z ∧ ∀ u', Ob K (hid O H) p u' z → Q .non (upd H p u')
theorem fold_upd {K : Fw} {H : Hp} : ∀ {mV : List (Key × V)} {mU : List (Key × Value)} {more : List (PV.D × PV.D)} {accV : List (Key × V)} {accU : List (Key × Value)} {acc : List (PV.D × PV.D)}, LR K H mV more → KV mV mU → LR K H accV acc → KV accV accU → (accV.map (·.1)).Nodup →
    ∃ rV, LR K H rV (more.foldl (fun acc p => keyPut p.1 p.2 acc) acc) ∧ KV rV (merged accU mU)
  | [], _, _, accV, _, _, .nil, .nil, lr, kv, _ => ⟨accV, lr, kv⟩
  | p :: mV, _ :: mU, q :: more, accV, accU, acc, .cons hq t, .cons hr u, lr, kv, n => by
    have e : (q :: more).foldl (fun acc p => keyPut p.1 p.2 acc) acc = more.foldl (fun acc p => keyPut p.1 p.2 acc) (keyPut (kD p.1) q.2 acc) := by
      rw [List.foldl_cons, hq.1]
    rw [e]
    obtain ⟨h1, h2⟩ := hr
    have := fold_upd t u (lr.put n p.1 hq.2) (kv.put p.1 h2) (nodup_put n p.1 p.2)
    rw [h1] at this
    rw [h1]
    exact this
theorem rcv_upd {pins : List (Addr × Obj)} {s : Shared} {σ : L2.St} {H : Hp} {x : V} {v : Value} (I : Inv X pins σ H s) (rx : RelV x v) (ty : tyD X.fw x H) : Rcv X "update" (rUpd X.fw) x v s := by
  obtain ⟨a, o, rfl, ho, ex⟩ := ty
  cases (show v = .ref a from rx)
  have hg : s.heap.get? a = some o := (I.hok a _ ho).1
  refine ⟨"dict", "dict.update", PySem.F.plainAttrs_dict, PySem.F.slot_dict_update, PySem.F.type_dict_update, ⟨o, hg, ex.1⟩, fun b e => by cases e; exact ⟨o, hg, ex.2.1⟩, fun pins s' σ H' xs us Q I' rv h => ?_⟩
  obtain ⟨O, p, ob, kvs, more, y, z, e, rfl, hp, hH, r, ry, hz, q⟩ := h
  cases e
  obtain ⟨u, rfl, ru⟩ := vals1 rv
  have hpp := hp
  cases r with
  | @dct o' _ kv vv ok r1 r2 =>
    simp only [dUpd] at hz
    split at hz
    · rename_i hk
      have hz := Option.some.inj hz
      subst hz
      obtain ⟨hl, hk⟩ := hk
      have hs : ∀ q ∈ kvs ++ more, scalK q.1 = true := fun q hq => by
        have h := List.all_eq_true.mp hk q hq
        exact h
      have v1 := dvw I' (hid_le O H') hH ok r1 r2
      obtain ⟨b, e, v2⟩ := Br.dvw I' (.inl ry : Rp X.fw (hid O H') y (.dict more) ∨ _)
      have hb : b ∉ O := by rw [e] at ry; exact ry.out rfl
      subst e
      cases (show u = .ref b from ru)
      obtain ⟨kvV, us1, a1, a2, a3, a4, a5⟩ := v1.isLeaf fun q hq => hs q (List.mem_append_left _ hq)
      obtain ⟨mV, us2, b1, b2, b3, b4, b5⟩ := v2.isLeaf fun q hq => hs q (List.mem_append_right _ hq)
      have hn : (kvV.map (·.1)).Nodup := by rw [KV.keys a2]; obtain ⟨_, _, _, _, _, _, _, _, n⟩ := a5; exact n
      obtain ⟨rV, lr, kvr⟩ := fold_upd b1 b2 a1 a2 hn
      have l1 : us1.length = kvs.length := by rw [← a1.len]; exact (Paired.length a2).symm
      have l2 : us2.length = more.length := by rw [← b1.len]; exact (Paired.length b2).symm
      have ne : a ≠ b := fun z => hb (by rw [← z]; exact hpp)
      refine call_meetsIn PySem.F.slot_dict_update a5.typeIs PySem.F.entry_dict_update (PySem.F.args_dict_update_2 _ _) (meets_dict_update (mixKind X.prog X.w) a b ne b4) ⟨us1, us2, a5, b5, by rw [l1, l2, ← line_eq]; exact hl, fun h' dd _ hsb => ?_⟩
      obtain ⟨o2, ho2, kv', vv', ok', r1', r2'⟩ := dnew_leaf lr kvr (by have := merged_length_le us1 us2; rw [line_eq] at hl; omega) a4 dd
      exact ⟨.non, _, d_write (t' := s'.toks) I' (by rw [hH]; exact mut_dcO) hsb ⟨_, ho2⟩ (ok_dcO ho2), rfl, q _ (.dct ok' r1' r2')⟩
    · cases hz
theorem q_upd {i : Nat} {e : E} {D : Ends} {σ : L2.St} {H : Hp} (h : tS P X.fw (P.ex (.upd i e)) D σ H) : tDrop (tMe (ι := Unit) (fun _ => tyD X.fw) (fun _ => rUpd X.fw) (fun σ H Q => tVar i σ H fun v H' => ((∃ O kvs, Br X.fw O H' v (.dict kvs)) → tyD X.fw v H') → Q v H') (tCons (tE P X.fw e) tNil)) D σ H := by
  obtain ⟨O0, H0, O, ρ, R, S, ev, q⟩ := h
  obtain ⟨O1, S1, k1, n1⟩ := S.frz (esc false e)
  have ev : wM.bind (wM.lift (getO (frz (esc false e) ρ) i)) (fun x => wM.bind (wM.lift (dct? x)) fun _ => wM.bind (PV.ev wM P.C P.F P.G e (frz (esc false e) ρ)) fun d => wM.bind (wM.lift (dUpd d x)) fun y => wM.pure (.nx ((frz (esc false e) ρ).set i (.ow y)))) R := by unfold Pm.ex PV.ex at ev; exact ev
  obtain ⟨x, hx, ev⟩ := wbind ev
  obtain ⟨_, hd0, ev⟩ := wbind ev
  cases x with
  | dict kvs =>
    obtain ⟨p, u, e1, hp, hH, r⟩ := own_any S1 hx
    refine ⟨.ref p, e1, fun hG => ⟨(), hG ⟨O1, kvs, .inr ⟨p, rfl, hp, u, hH, r⟩⟩, O0, H0, O1, _, _, S1, n1, ev, fun d v H' hd e2 res => ?_⟩⟩
    obtain ⟨y, hy, hR⟩ := wbind hd
    have S2 := S1.ext e2
    have hH' := own_extO S1 e2 hH r
    have r' := r.mono (e2.hid S1.wo)
    cases d with
    | dict more =>
      refine ⟨O1, p, u, kvs, more, v, y, rfl, rfl, hp, hH', r', res.1, hy, fun u' ru => ?_⟩
      obtain ⟨S3, k3⟩ := S2.setMut (getO_ow hx) e1 ru
      exact q _ hR O1 σ _ S3 ((k1.trans (S1.kp e2)).trans k3)
    | _ => cases hy
  | _ => cases hd0
theorem q_pop {i : Nat} {p : Pat} {D : Ends} {σ : L2.St} {H : Hp} (h : tS P X.fw (P.ex (.popt p i)) D σ H) : tAsg (tBM0 X.fw "list" rPop (tVar i)) (tG P X.fw p) D σ H := by
  obtain ⟨O0, H0, O, ρ, R, S, ev, q⟩ := h
  have ev : wM.bind (wM.lift (getO ρ i)) (fun x => wM.bind (wM.lift (dPop x)) fun y => wM.bind (wM.lift (bindP p y.1 (ρ.set i (.ow y.2)))) fun ρ' => wM.pure (.nx ρ')) R := by unfold Pm.ex PV.ex at ev; exact ev
  obtain ⟨x, hx, ev⟩ := wbind ev
  obtain ⟨y, hy, ev⟩ := wbind ev
  obtain ⟨ρ', hb, hR⟩ := wbind ev
  obtain ⟨xs, e3, hd, e4⟩ := dPop_some hy
  obtain ⟨l, ds, vs, e1, hp, e5, hH, r⟩ := own_at S hx ⟨(), by rw [e3]; rfl⟩
  subst e5
  cases e3
  rw [e4] at hb
  obtain ⟨u, hu, ru⟩ := r.getD hd
  obtain ⟨S3, k3⟩ := S.setMut (getO_ow hx) e1 (.lst r.dropLast)
  refine ⟨.ref l, e1, .inl ⟨rfl, vs, SqL.of hH⟩, l, vs, u, rfl, rfl, hH, by rw [r.length]; exact hu, O0, H0, O, _, y.1, ρ', S3, ru.mono k3, hb, fun σ' S' _ => q _ hR O σ' _ S' k3⟩
theorem q_aug {i : Nat} {o : Op2} {e : E} {D : Ends} {σ : L2.St} {H : Hp} {f : Int → Int → Int} (hf : ∀ a b, dBin o (.int a) (.int b) = some (.int (f a b))) (hi : i ≠ P.iw) (h : tS P X.fw (P.ex (.aug i o e)) D σ H) : tAug i (tE P X.fw e) (ipI f) D σ H := by
  obtain ⟨O0, H0, O, ρ, R, S, ev, q⟩ := h
  obtain ⟨O1, S1, k1, n1⟩ := S.frz (esc false e)
  have ev : wM.bind (wM.lift (getV ρ i)) (fun x => wM.bind (PV.ev wM P.C P.F P.G e (frz (esc false e) ρ)) fun y => wM.bind (wM.lift (int? x)) fun a => wM.bind (wM.lift (int? y)) fun b => wM.bind (wM.lift (dBin o (.int a) (.int b))) fun z => wM.pure (.nx ((frz (esc false e) ρ).set i (.sh z)))) R := by unfold Pm.ex PV.ex at ev; exact ev
  obtain ⟨x, hx, ev⟩ := wbind ev
  obtain ⟨v, e1, b, _⟩ := S.var hx
  refine ⟨v, e1, O0, H0, O1, _, _, S1, n1, ev, fun d u H' hd e2 res => ?_⟩
  obtain ⟨a, ha, hd⟩ := wbind hd
  obtain ⟨c, hc, hd⟩ := wbind hd
  obtain ⟨z, hz, hR⟩ := wbind hd
  rw [hf] at hz
  cases hz
  rw [int_some ha] at b
  have r := res.1
  rw [int_some hc] at r
  cases r
  exact ⟨a, c, b.int, rfl, q _ hR O1 _ H' ((S1.ext e2).setSh (.int _) hi) (k1.trans (S1.kp e2))⟩
theorem q_asgt {p : Pat} {e : E} {D : Ends} {σ : L2.St} {H : Hp} (h : tS P X.fw (P.ex (.asgt p e)) D σ H) : tAsg (tE P X.fw e) (tG P X.fw p) D σ H := by
  obtain ⟨O0, H0, O, ρ, R, S, ev, q⟩ := h
  obtain ⟨O1, S1, k1, n1⟩ := S.frz (esc false e)
  have ev : P.ev e (frz (esc false e) ρ) fun d => wM.bind (wM.lift (bindP p d (frz (esc false e) ρ))) (fun ρ' => wM.pure (.nx ρ')) R := by unfold Pm.ex PV.ex at ev; exact ev
  refine ⟨O0, H0, O1, _, _, S1, n1, ev, fun d v H' hd e2 res => ?_⟩
  obtain ⟨ρ', hb, hR⟩ := wbind hd
  exact ⟨O0, H0, O1, _, d, ρ', S1.ext e2, res.1, hb, fun σ' S' _ => q _ hR O1 σ' H' S' (k1.trans (S1.kp e2))⟩
theorem q_ret {e : E} {D : Ends} {σ : L2.St} {H : Hp} (h : tS P X.fw (P.ex (.ret e)) D σ H) : tRet (tE P X.fw e) D σ H := by
  obtain ⟨O0, H0, O, ρ, R, S, ev, q⟩ := h
  obtain ⟨O1, S1, k1, n1⟩ := S.frz (esc false e)
  have ev : P.ev e (frz (esc false e) ρ) fun d => R (.rt d) := by unfold Pm.ex PV.ex at ev; exact ev
  exact ⟨O0, H0, O1, _, _, S1, n1, ev, fun d v H' hR e2 res => q _ hR v H' (res.1.mono (hid_sub fun a ha => S1.sub a ha)) (S1.ent.trans e2)⟩
theorem q_ite {t : E} {a b : Ss} {D : Ends} {σ : L2.St} {H : Hp} (h : tS P X.fw (P.ex (.ite t a b)) D σ H) : tIfS (tT P X.fw t) (tS P X.fw (P.exs a)) (tS P X.fw (P.exs b)) D σ H := by
  obtain ⟨O0, H0, O, ρ, R, S, ev, q⟩ := h
  obtain ⟨O1, S1, k1, n1⟩ := S.frz (esc true t)
  have ev : P.ev t (frz (esc true t) ρ) fun x => wM.bind (wM.lift (bool? x)) (fun t' => if t' = true then P.exs a (frz (esc true t) ρ) else P.exs b (frz (esc true t) ρ)) R := by unfold Pm.ex PV.ex at ev; exact ev
  refine ⟨O0, H0, O1, _, _, S1, n1, ev, fun d H' hd e2 => ?_⟩
  obtain ⟨t', ht, hd⟩ := wbind hd
  refine ⟨t', ht, ?_⟩
  have kp := k1.trans (S1.kp e2)
  cases t' with
  | true => exact ⟨O0, H0, O1, _, R, S1.ext e2, hd, fun f hf => (q f hf).mono kp⟩
  | false => exact ⟨O0, H0, O1, _, R, S1.ext e2, hd, fun f hf => (q f hf).mono kp⟩
theorem q_cons {s : S} {r : Ss} {D : Ends} {σ : L2.St} {H : Hp} (h : tS P X.fw (P.exs (.cons s r)) D σ H) : tSeq (tS P X.fw (P.ex s)) (tS P X.fw (P.exs r)) D σ H := by
  obtain ⟨O0, H0, O, ρ, R, S, ev, q⟩ := h
  have ev : P.ex s ρ fun f => (match f with
    | .nx ρ => PV.exs wM P.C P.F P.G r ρ
    | .rt d => wM.pure (.rt d)
    | .bk ρ => wM.pure (.bk ρ)) R := by unfold Pm.exs PV.exs at ev; exact ev
  refine ⟨O0, H0, O, ρ, _, S, ev, fun f hf => ?_⟩
  cases f with
  | nx ρ' => exact fun O' σ' H' S' kp => ⟨O0, H0, O', ρ', R, S', hf, fun f hf => (q f hf).mono kp⟩
  | rt d => exact q _ hf
  | bk ρ' => exact q _ hf
theorem q_for {p : Pat} {s : Src} {b : Ss} {D : Ends} {σ : L2.St} {H : Hp} (h : tS P X.fw (P.ex (.for_ p s b)) D σ H) : tFor (tI P X.fw true s) (tG P X.fw p) (tS P X.fw (P.exs b)) D σ H := by
  obtain ⟨O0, H0, O, ρ, R, S, ev, q⟩ := h
  obtain ⟨O1, S1, k1, n1⟩ := S.frz (escF s)
  have ev : P.evS s (frz (escF s) ρ) fun xs => forL wM (fun d ρ => wM.bind (wM.lift (bindP p d ρ)) fun ρ => P.exs b ρ) (frz (escF s) ρ) xs (frz (escF s) ρ) R := by unfold Pm.ex PV.ex at ev; exact ev
  refine ⟨O0, H0, O1, _, _, S1, n1, ev, fun ds J H1 hd hl e1 wk => ?_⟩
  have S2 := S1.ext e1
  have kp1 := k1.trans (S1.kp e1)
  refine ⟨fun i m σ' H' => ∃ O' ρ', Sim X.fw P.w P.iw O0 H0 O' H' σ' ρ' ∧ Kp O1 H1 O' H' ∧ i + m = ds.length ∧ forL wM (fun d ρ => wM.bind (wM.lift (bindP p d ρ)) fun ρ => P.exs b ρ) (frz (escF s) ρ) (ds.drop i) ρ' R, ⟨ds.length, O1, _, S2, Kp.refl _ _, by omega, hd⟩, fun i m σ' H' hW => ?_⟩
  obtain ⟨O', ρ', S', kp', hm, hf⟩ := hW
  obtain ⟨w1, w2⟩ := wk O' H' ⟨S'.dom, kp', fun z => by cases z⟩ i
  by_cases hi : i < ds.length
  · have hget : ds[i]? = some ds[i] := List.getElem?_eq_getElem hi
    obtain ⟨go, yl⟩ := w1 _ hget
    rw [List.drop_eq_getElem_cons hi] at hf
    have hf : wM.bind (wM.lift (bindP p ds[i] ρ')) (fun ρ => P.exs b ρ) (fun f => (match f with
      | .nx ρ'' => forL wM (fun d ρ => wM.bind (wM.lift (bindP p d ρ)) fun ρ => P.exs b ρ) (frz (escF s) ρ) (ds.drop (i + 1)) (msk (frz (escF s) ρ) ρ'')
      | .rt d => wM.pure (.rt d)
      | .bk ρ'' => wM.pure (.nx (msk (frz (escF s) ρ) ρ''))) R) := by unfold forL at hf; exact hf
    obtain ⟨ρ1, hb, hf⟩ := wbind hf
    refine .inr ⟨go, fun σ3 H3 => ∃ O3 ρ3, Sim X.fw P.w P.iw O0 H0 O3 H3 σ3 ρ3 ∧ Kp O1 H1 O3 H3 ∧ forL wM (fun d ρ => wM.bind (wM.lift (bindP p d ρ)) fun ρ => P.exs b ρ) (frz (escF s) ρ) (ds.drop (i + 1)) ρ3 R, fun σ3 H3 hN => ?_, fun x H'' hy => ?_⟩
    · obtain ⟨O3, ρ3, S3, kp3, hf3⟩ := hN
      exact ⟨m - 1, by omega, O3, ρ3, S3, kp3, by omega, hf3⟩
    · obtain ⟨le, rp⟩ := yl x H'' hy
      have e2 : Ext P.w H' H'' := Ext.of_le S'.wok le
      refine ⟨O0, H0, O', ρ', ds[i], ρ1, S'.ext e2, rp, hb, fun σ2 S2' _ => ⟨O0, H0, O', ρ1, _, S2', hf, fun f hf2 => ?_⟩⟩
      have kp2 := kp'.trans (S'.kp e2)
      cases f with
      | nx ρ'' => exact fun O3 σ3 H3 S3 kp3 => ⟨O3, _, S3.msk _, kp2.trans kp3, hf2⟩
      | bk ρ'' => exact fun O3 σ3 H3 S3 kp3 => q _ hf2 O3 σ3 H3 (S3.msk _) (kp1.trans (kp2.trans kp3))
      | rt d => exact q _ hf2
  · refine .inl ⟨w2 (by omega), ?_⟩
    rw [List.drop_eq_nil_of_le (by omega)] at hf
    have hf : R (.nx ρ') := by unfold forL at hf; exact hf
    exact q _ hf O' σ' H' S' (kp1.trans kp')
theorem q_whl {t : E} {b : Ss} {D : Ends} {σ : L2.St} {H : Hp} (h : tS P X.fw (P.ex (.whl t b)) D σ H) : tWhile (tT P X.fw t) (tS P X.fw (P.exs b)) D σ H := by
  obtain ⟨O0, H0, O, ρ, R, S, ev, q⟩ := h
  obtain ⟨O1, S1, k1, n1⟩ := S.frz (esc true t)
  have ev : wWhl (whlStep wM (esc true t) (fun ρ => wM.bind (PV.ev wM P.C P.F P.G t ρ) fun x => wM.lift (bool? x)) (P.exs b) (frz (esc true t) ρ)) (frz (esc true t) ρ) R := by unfold Pm.ex PV.ex at ev; exact ev
  obtain ⟨J, ⟨n0, hJ⟩, step⟩ := ev
  refine ⟨fun m σ' H' => ∃ O' ρ', Sim X.fw P.w P.iw O0 H0 O' H' σ' ρ' ∧ Kp O1 H O' H' ∧ NoOw (esc true t) ρ' ∧ J m ρ', ⟨n0, O1, _, S1, Kp.refl _ _, n1, hJ⟩, fun m σ' H' hW => ?_⟩
  obtain ⟨O', ρ', S', kp', no', hj⟩ := hW
  have st := step m ρ' hj
  have st : P.ev t ρ' fun x => wM.bind (wM.lift (bool? x)) (fun t' => if t' = true then wM.bind (P.exs b ρ') fun f => (match f with
      | .nx ρ'' => (wM.pure (Sum.inl (frz (esc true t) (msk (frz (esc true t) ρ) ρ''))) : W (Env ⊕ Fl))
      | .rt d => wM.pure (Sum.inr (.rt d))
      | .bk ρ'' => wM.pure (Sum.inr (.nx (msk (frz (esc true t) ρ) ρ'')))) else wM.pure (Sum.inr (.nx ρ'))) (fun r => match r with
      | Sum.inl ρ' => ∃ k, k < m ∧ J k ρ'
      | Sum.inr f => R f) := st
  refine ⟨O0, H0, O', ρ', _, S', no', st, fun d H1 hd e2 => ?_⟩
  obtain ⟨t', ht, hd⟩ := wbind hd
  refine ⟨t', ht, ?_⟩
  have kp2 := kp'.trans (S'.kp e2)
  cases t' with
  | false => exact q _ hd O' σ' H1 (S'.ext e2) (k1.trans kp2)
  | true =>
    refine ⟨fun σ3 H3 => ∃ k, k < m ∧ ∃ O' ρ', Sim X.fw P.w P.iw O0 H0 O' H3 σ3 ρ' ∧ Kp O1 H O' H3 ∧ NoOw (esc true t) ρ' ∧ J k ρ', fun σ3 H3 hN => hN, O0, H0, O', ρ', _, S'.ext e2, hd, fun f hf => ?_⟩
    cases f with
    | nx ρ'' =>
      intro O3 σ3 H3 S3 kp3
      obtain ⟨k, hk, hJ2⟩ := hf
      obtain ⟨O4, S4, k4, n4⟩ := (S3.msk (frz (esc true t) ρ)).frz (esc true t)
      exact ⟨k, hk, O4, _, S4, (kp2.trans kp3).trans k4, n4, hJ2⟩
    | bk ρ'' => exact fun O3 σ3 H3 S3 kp3 => q _ hf O3 σ3 H3 (S3.msk _) (k1.trans (kp2.trans kp3))
    | rt d => exact q _ hf
end
end PV

set_option maxHeartbeats 4000000
/-! PV: every statement; defs. -/
namespace PV
open PySem L2 RZ

section
variable {P : Pm} {ct : Ct} {X : Cx} {k : Nat}
theorem sub_assign {o i : Expr} {pos : Pos} {env : PySem.Env} (h : vSli i = none) : ∀ v, assign (.Subscript o i pos) env v = (do
      let ov ← holding [v] (eval o env)
      let iv ← holding [v, ov] (eval i env)
      standAt pos
      holding [v, ov, iv] (setItem ov iv v)
      release [v, ov, iv] []) := fun v => by
  cases i <;> first | rfl | (simp [vSli] at h)
theorem swp_sub {t v : Expr} {env : PySem.Env} (h : vTupP t = none) (h2 : vLst t = none) : swappedStores [t] v env = pure none := by
  cases t <;> first
    | (simp [vTupP] at h; done)
    | (simp [vLst] at h2; done)
    | (cases v <;> rfl)
theorem swp_tup {t v : Expr} {env : PySem.Env} (h : isTupE v = false) : swappedStores [t] v env = pure none := by
  cases v with
  | Tuple _ _ _ => cases h
  | _ => cases t <;> rfl
theorem sole {t v : Expr} {l : Nat} {env : PySem.Env} (h : vNameP t = none) : swapsWithSole [t] v l env = pure false := sw_other h
mutual
theorem sSt (g : Gd P ct X k) (hk : ct.sc.kind = .function) (how : ct.own = ct.sc) (hp : PassesOwn (model X.prog X.w) X.A X.env X.xe) : ∀ (s : S) {st : Stmt}, chkSt ct s st = true → PS X st (tS P X.fw (P.ex s))
  | .pass, st, hc => by
    unfold chkSt at hc
    have q : ∀ {D : Ends} {σ : L2.St} {H : Hp}, tS P X.fw (P.ex .pass) D σ H → tNext D σ H := fun {D σ H} h => by
      obtain ⟨O0, H0, O, ρ, R, S, ev, q⟩ := h
      have ev : R (.nx ρ) := by unfold Pm.ex PV.ex at ev; exact ev
      exact q _ ev O σ H S (Kp.refl _ _)
    split at hc
    · exact ps_imp ps_pass fun D σ H h => q h
    · exact ps_imp ps_doc fun D σ H h => q h
    · cases hc
  | .asg i e, st, hc => by
    unfold chkSt at hc
    cases hv : vAsg st with
    | none => rw [hv] at hc; cases hc
    | some q =>
      obtain ⟨t, v, p⟩ := q
      rw [hv] at hc
      obtain rfl := vAsg_eq hv
      have hc : (match vNameP t with
        | some (x, q) => chkN ct i x && (chkE ct e v && (!(swB ct.sc x q v) || e.isComp))
        | none => false) = true := hc
      cases hn : vNameP t with
      | none => rw [hn] at hc; cases hc
      | some q =>
        obtain ⟨x, py⟩ := q
        rw [hn] at hc
        obtain rfl := vNameP_eq hn
        have hc : (chkN ct i x && (chkE ct e v && (!(swB ct.sc x py v) || e.isComp))) = true := hc
        rw [Bool.and_eq_true, Bool.and_eq_true] at hc
        obtain ⟨h1, h2, h3⟩ := hc
        unfold chkN at h1
        simp only [Bool.and_eq_true, beq_iff_eq, Bool.not_eq_true', beq_eq_false_iff_ne] at h1
        obtain ⟨k1, k2, k3⟩ := h1
        obtain ⟨l, hf⟩ := g.sto x k2
        have hiw : i ≠ P.iw := by rw [← g.hiw]; exact k3
        have hsw := sw_eq (env := X.env) (l := p.line) g.hsc hk (v := v) (x := x) (p := py)
        have hN : X.N[i]? = some x := by rw [g.hN]; exact k1
        cases hb : swB ct.sc x py v with
        | false =>
          rw [hb] at hsw
          exact ps_imp (ps_set (by rw [g.hN]; exact g.nd) hN l (sE e g h2).1 hsw hf) fun D σ H h => tS_asg hiw h
        | true =>
          rw [hb] at hsw h3
          have hl : X.env.scope.names.lookup x = some .local := by
            rw [g.hsc]
            cases v <;> simp only [swB] at hb <;> first
              | cases hb
              | (unfold swF at hb
                 simp only [Bool.and_eq_true, beq_iff_eq] at hb
                 exact hb.1.1)
          cases e with
          | comp own pt sr t elt =>
            have h0 := h2
            unfold chkE at h0
            cases hv : vLc1 v with
            | none => rw [hv] at h0; cases h0
            | some q =>
              obtain ⟨el, tg, it, ifs, scope⟩ := q
              rw [hv] at h0
              obtain ⟨ps, rfl⟩ := vLc1_eq hv
              simp only [Bool.and_eq_true] at h0
              obtain ⟨hb2, hp2, hs, hcp, ht, he⟩ := h0
              obtain ⟨hi, hff⟩ := sS sr false g hs
              exact ps_imp (set_comp g hN hl hsw hb2 (fun i hi => by simpa using List.all_eq_true.mp hp2 i hi) hi (hff X.env) (fun X' g' => snd_pat g' hcp)
                (fun X' g' => by
                  rcases chkT_eq ht with ⟨e1, e2⟩ | ⟨x, e2, hx⟩
                  · rw [e1, e2]; exact yes_ok
                  · rw [e2]; exact pts_one (sE t g' hx).2)
                (fun X' g' => (sE elt g' he).1)) fun D σ H h => tS_asg hiw h
          | comp2 own own1 pt sr t p1 s1 t1 elt =>
            have h0 := h2
            unfold chkE at h0
            cases hv : vLc2 v with
            | none => rw [hv] at h0; cases h0
            | some q =>
              obtain ⟨el, ⟨tg, it, ifs⟩, ⟨tg1, it1, ifs1⟩, scope⟩ := q
              rw [hv] at h0
              obtain ⟨ps, rfl⟩ := vLc2_eq hv
              simp only [Bool.and_eq_true] at h0
              obtain ⟨hb2, h1o, hp2, hp1, hs, hcp, ht, hs1, hcp1, ht1, he⟩ := h0
              obtain ⟨hi, hff⟩ := sS sr false g hs
              exact ps_imp (set_comp2 g hN hl hsw hb2 (fun i hi => by simpa using List.all_eq_true.mp h1o i hi) (fun i hi => by simpa using List.all_eq_true.mp hp2 i hi) (fun i hi => by simpa using List.all_eq_true.mp hp1 i hi) hi (hff X.env) (chkS_fsi hs1)
                (fun X' g' => snd_pat g' hcp)
                (fun X' g' => by
                  rcases chkT_eq ht with ⟨e1, e2⟩ | ⟨x, e2, hx⟩
                  · rw [e1, e2]; exact yes_ok
                  · rw [e2]; exact pts_one (sE t g' hx).2)
                (fun X' g' => (sS s1 false g' hs1).1) (fun X' g' => snd_pat g' hcp1)
                (fun X' g' => by
                  rcases chkT_eq ht1 with ⟨e1, e2⟩ | ⟨x, e2, hx⟩
                  · rw [e1, e2]; exact yes_ok
                  · rw [e2]; exact pts_one (sE t1 g' hx).2)
                (fun X' g' => (sE elt g' he).1)) fun D σ H h => tS_asg hiw h
          | _ => cases h3
  | .asgp is es, st, hc => by
    unfold chkSt at hc
    cases hv : vAsg st with
    | none => rw [hv] at hc; cases hc
    | some q =>
      obtain ⟨t, v, p⟩ := q
      rw [hv] at hc
      obtain rfl := vAsg_eq hv
      cases ht : vTupP t with
      | none => simp [ht] at hc
      | some q =>
        cases hvv : vTupP v with
        | none => simp [ht, hvv] at hc
        | some q2 =>
          obtain ⟨ts, kt, pt⟩ := q
          obtain ⟨vs, kv, pv⟩ := q2
          obtain rfl := vTupP_eq ht
          obtain rfl := vTupP_eq hvv
          have hc : (nodupB is && (chkNs ct is ts && (decide (es.len ≤ 1000) && (chkEs ct es vs && (es.len == is.length && (match swpB ct.sc ts vs with
            | some r => parOk ct is ts r
            | none => false)))))) = true := hc
          simp only [Bool.and_eq_true, decide_eq_true_eq, beq_iff_eq] at hc
          obtain ⟨h1, h2, h3, h4, h5, h6⟩ := hc
          cases hs : swpB ct.sc ts vs with
          | none => rw [hs] at h6; cases h6
          | some r =>
            rw [hs] at h6
            have hix : ∀ {is : List Nat} {ts : List Expr}, chkNs ct is ts = true → ∀ i ∈ is, i ≠ P.iw ∧ i < X.N.length := fun {is} => by
              induction is with
              | nil => intro ts _ i hi; cases hi
              | cons j is ih =>
                intro ts h i hi
                cases ts with
                | nil => cases h
                | cons t ts =>
                  unfold chkNs at h
                  rw [Bool.and_eq_true] at h
                  rcases List.mem_cons.mp hi with rfl | hi
                  · have h := h.1
                    cases hv : vNameP t with
                    | none => rw [hv] at h; cases h
                    | some q =>
                      obtain ⟨x, px⟩ := q
                      rw [hv] at h
                      have h : chkN ct i x = true := h
                      unfold chkN at h
                      simp only [Bool.and_eq_true, beq_iff_eq, Bool.not_eq_true', beq_eq_false_iff_ne] at h
                      refine ⟨by rw [← g.hiw]; exact h.2.2, ?_⟩
                      rw [g.hN]
                      exact (List.getElem?_eq_some_iff.mp h.1).1
                  · exact ih h.2 i hi
            have hall := hix h2
            exact ps_impL (ps_names g hk h1 h2 h3 h4 h5 hs h6) fun D σ H hlen h => tS_asgp (fun i hi => (hall i hi).1) (fun i hi => by rw [hlen]; exact (hall i hi).2) h
  | .asgt pt e, st, hc => by
    unfold chkSt at hc
    cases hv : vAsg st with
    | none => rw [hv] at hc; cases hc
    | some q =>
      obtain ⟨t, v, p⟩ := q
      rw [hv] at hc
      obtain rfl := vAsg_eq hv
      simp only [Bool.and_eq_true, Bool.or_eq_true, Bool.not_eq_true'] at hc
      obtain ⟨h1, h2, h3, h4⟩ := hc
      cases t with
      | Tuple es kk tp =>
        rcases h2 with h2 | h2
        · exact ps_imp (ps_asg (sE e g h4).1 (snd_pat g h3) (sole rfl) (swp_tup h2) rfl) fun D σ H h => q_asgt h
        · have hw : swappedStores [.Tuple es kk tp] v X.env = pure none := by
            cases hvv : vTupP v with
            | none =>
              unfold swpN at h2
              rw [hvv] at h2
              cases h2
            | some q2 =>
              obtain ⟨vs, kv, pv⟩ := q2
              obtain rfl := vTupP_eq hvv
              have h2 : ((swpB ct.sc es vs).isSome && ((swpB ct.sc es vs).bind id).isNone) = true := h2
              cases hs : swpB ct.sc es vs with
              | none => rw [hs] at h2; cases h2
              | some r =>
                cases r with
                | none => exact swp_eq g.hsc hk hs
                | some ns => rw [hs] at h2; cases h2
          exact ps_imp (ps_asg (sE e g h4).1 (snd_pat g h3) (sole rfl) hw rfl) fun D σ H h => q_asgt h
      | _ => cases h1
  | .aug i o e, st, hc => by
    unfold chkSt at hc
    cases hv : vAug st with
    | none => rw [hv] at hc; cases hc
    | some q =>
      obtain ⟨t, op, v⟩ := q
      rw [hv] at hc
      obtain ⟨pos, rfl⟩ := vAug_eq hv
      cases hn : vNameP t with
      | none => simp [hn] at hc
      | some q =>
        obtain ⟨x, py⟩ := q
        obtain rfl := vNameP_eq hn
        have hc : (chkN ct i x && (augOk o && (decide (op = binOp o) && (isVis ct.sc x && chkE ct e v)))) = true := hc
        rw [Bool.and_eq_true, Bool.and_eq_true, Bool.and_eq_true, Bool.and_eq_true] at hc
        obtain ⟨h1, h2, h3, h4, h5⟩ := hc
        have h3 := of_decide_eq_true h3
        subst h3
        unfold chkN at h1
        simp only [Bool.and_eq_true, beq_iff_eq, Bool.not_eq_true', beq_eq_false_iff_ne] at h1
        obtain ⟨k1, k2, k3⟩ := h1
        obtain ⟨l, hf⟩ := g.sto x k2
        have hiw : i ≠ P.iw := by rw [← g.hiw]; exact k3
        have hN : X.N[i]? = some x := by rw [g.hN]; exact k1
        cases o <;> try (cases h2; done)
        · exact ps_imp (ps_aug (by rw [g.hN]; exact g.nd) hN l (sE e g h5).1 ip_add hf) fun D σ H h => q_aug (fun _ _ => rfl) hiw h
        · exact ps_imp (ps_aug (by rw [g.hN]; exact g.nd) hN l (sE e g h5).1 ip_sub hf) fun D σ H h => q_aug (fun _ _ => rfl) hiw h
  | .app i e, st, hc => by
    unfold chkSt at hc
    cases hv : vExp st with
    | none => rw [hv] at hc; cases hc
    | some x =>
      rw [hv] at hc
      obtain ⟨pos, rfl⟩ := vExp_eq hv
      have hc : (match vMeth x with
        | some (o, m, ap, [y], cp) => m == ("append" : Str) && (ap.endLine == cp.line && (chkV ct i o && (notStar y && chkE ct e y)))
        | _ => false) = true := hc
      split at hc
      · rename_i o m ap y cp hm
        obtain rfl := vMeth_eq hm
        have hc : (m == ("append" : Str) && (ap.endLine == cp.line && (chkV ct i o && (notStar y && chkE ct e y)))) = true := hc
        simp only [Bool.and_eq_true] at hc
        obtain ⟨h1, h2, h3, h4, h5⟩ := hc
        obtain rfl : m = "append" := beq_iff_eq.mp h1
        obtain ⟨z, pz, rfl, hz⟩ := pe_v g h3
        exact ps_imp (ps_expr (pe_bm PySem.F.plainAttrs_list PySem.F.slot_list_append PySem.F.type_list_append mt_append hz (pa_cons (sE e g h5).1 pa_nil (star_cons h4)) rfl (hfew_ok h4 rfl (by decide)) h2 (star_cons h4) rfl)) fun D σ H h => q_app h
      · cases hc
  | .ext i e, st, hc => by
    unfold chkSt at hc
    cases hv : vExp st with
    | none => rw [hv] at hc; cases hc
    | some x =>
      rw [hv] at hc
      obtain ⟨pos, rfl⟩ := vExp_eq hv
      have hc : (match vMeth x with
        | some (o, m, ap, [y], cp) => m == ("extend" : Str) && (ap.endLine == cp.line && (chkV ct i o && (notStar y && chkE ct e y)))
        | _ => false) = true := hc
      split at hc
      · rename_i o m ap y cp hm
        obtain rfl := vMeth_eq hm
        have hc : (m == ("extend" : Str) && (ap.endLine == cp.line && (chkV ct i o && (notStar y && chkE ct e y)))) = true := hc
        simp only [Bool.and_eq_true] at hc
        obtain ⟨h1, h2, h3, h4, h5⟩ := hc
        obtain rfl : m = "extend" := beq_iff_eq.mp h1
        obtain ⟨z, pz, rfl, hz⟩ := pe_v g h3
        exact ps_imp (ps_expr (pe_bm PySem.F.plainAttrs_list PySem.F.slot_list_extend PySem.F.type_list_extend mt_extend hz (pa_cons (sE e g h5).1 pa_nil (star_cons h4)) rfl (hfew_ok h4 rfl (by decide)) h2 (star_cons h4) rfl)) fun D σ H h => q_ext h
      · cases hc
  | .ins0 i e, st, hc => by
    unfold chkSt at hc
    cases hv : vExp st with
    | none => rw [hv] at hc; cases hc
    | some x =>
      rw [hv] at hc
      obtain ⟨pos, rfl⟩ := vExp_eq hv
      have hc : (match vMeth x with
        | some (o, m, ap, [z, y], cp) => m == ("insert" : Str) && (ap.endLine == cp.line && (chkV ct i o && (chkE ct (.int 0) z && (notStar z && (notStar y && chkE ct e y)))))
        | _ => false) = true := hc
      split at hc
      · rename_i o m ap z y cp hm
        obtain rfl := vMeth_eq hm
        have hc : (m == ("insert" : Str) && (ap.endLine == cp.line && (chkV ct i o && (chkE ct (.int 0) z && (notStar z && (notStar y && chkE ct e y)))))) = true := hc
        simp only [Bool.and_eq_true] at hc
        obtain ⟨h1, h2, h3, h6, h7, h4, h5⟩ := hc
        obtain rfl : m = "insert" := beq_iff_eq.mp h1
        obtain ⟨w, pz, rfl, hz⟩ := pe_v g h3
        have h0 := h6
        unfold chkE at h0
        cases hcst : vConst z with
        | none => rw [hcst] at h0; cases h0
        | some c =>
          rw [hcst] at h0
          obtain ⟨j, p, rfl⟩ := vConst_eq hcst
          cases c with
          | int n =>
            obtain rfl : 0 = n := beq_iff_eq.mp h0
            exact ps_imp (ps_expr (pe_bm PySem.F.plainAttrs_list PySem.F.slot_list_insert PySem.F.type_list_insert mt_insert hz (pa_cons pe_int (pa_cons (sE e g h5).1 pa_nil (star_cons h4)) rfl) rfl (hfew_ok rfl (star_cons h4) (by simp)) h2 rfl (plain1 h4))) fun D σ H h => q_ins h
          | _ => cases h0
      · cases hc
  | .seti i j e, st, hc => by
    unfold chkSt at hc
    cases hv : vAsg st with
    | none => rw [hv] at hc; cases hc
    | some q =>
      obtain ⟨t, v, p⟩ := q
      rw [hv] at hc
      obtain rfl := vAsg_eq hv
      have hc : (match vSub t with
        | some (o, ix) => chkV ct i o && ((vSli ix).isNone && (chkE ct j ix && chkE ct e v))
        | none => false) = true := hc
      cases hs : vSub t with
      | none => rw [hs] at hc; cases hc
      | some q =>
        obtain ⟨o, ix⟩ := q
        rw [hs] at hc
        obtain ⟨ps, rfl⟩ := vSub_eq hs
        have hc : (chkV ct i o && ((vSli ix).isNone && (chkE ct j ix && chkE ct e v))) = true := hc
        simp only [Bool.and_eq_true] at hc
        obtain ⟨h1, h2, h3, h4⟩ := hc
        obtain ⟨w, pz, rfl, hz⟩ := pe_v g h1
        exact ps_imp (ps_asg (sE e g h4).1 (pg_sub hz (sE j g h3).1 (set_D g.room) (sub_assign (by simpa using h2))) (sole rfl) (swp_sub rfl rfl) rfl) fun D σ H h => q_seti h
  | .augi i j o e, st, hc => by unfold chkSt at hc; cases hc
  | .upd i e, st, hc => by
    unfold chkSt at hc
    cases hv : vExp st with
    | none => rw [hv] at hc; cases hc
    | some x =>
      rw [hv] at hc
      obtain ⟨pos, rfl⟩ := vExp_eq hv
      have hc : (match vMeth x with
        | some (o, m, ap, [y], cp) => m == ("update" : Str) && (ap.endLine == cp.line && (chkV ct i o && (notStar y && chkE ct e y)))
        | _ => false) = true := hc
      split at hc
      · rename_i o m ap y cp hm
        obtain rfl := vMeth_eq hm
        have hc : (m == ("update" : Str) && (ap.endLine == cp.line && (chkV ct i o && (notStar y && chkE ct e y)))) = true := hc
        simp only [Bool.and_eq_true] at hc
        obtain ⟨h1, h2, h3, h4, h5⟩ := hc
        obtain rfl : m = "update" := beq_iff_eq.mp h1
        obtain ⟨z, pz, rfl, hz⟩ := pe_v g h3
        exact ps_imp (ps_expr (pe_me (ι := Unit) (ty := fun _ => tyD X.fw) (r := fun _ => rUpd X.fw) (fun _ pins s σ H x v I rx ty => rcv_upd I rx ty) (pe_invB hz (tyD X.fw) fun pins s σ H v I ⟨O, kvs, h⟩ => h.tyD I) (pa_cons (sE e g h5).1 pa_nil (star_cons h4)) (base_of rfl) (hfew_ok h4 rfl (by decide)) h2 (star_cons h4) rfl)) fun D σ H h => q_upd h
      · cases hc
  | .popt pt i, st, hc => by
    unfold chkSt at hc
    cases hv : vAsg st with
    | none => rw [hv] at hc; cases hc
    | some q =>
      obtain ⟨t, v, p⟩ := q
      rw [hv] at hc
      obtain rfl := vAsg_eq hv
      have hc : (match vMeth v with
        | some (o, m, ap, [], cp) => m == ("pop" : Str) && (ap.endLine == cp.line && (chkV ct i o && ((isTupE t || (vNameP t).isSome) && chkP ct pt t)))
        | _ => false) = true := hc
      split at hc
      · rename_i o m ap cp hm
        obtain rfl := vMeth_eq hm
        have hc : (m == ("pop" : Str) && (ap.endLine == cp.line && (chkV ct i o && ((isTupE t || (vNameP t).isSome) && chkP ct pt t)))) = true := hc
        simp only [Bool.and_eq_true] at hc
        obtain ⟨h1, h2, h3, h4, h5⟩ := hc
        obtain rfl : m = "pop" := beq_iff_eq.mp h1
        obtain ⟨z, pz, rfl, hz⟩ := pe_v g h3
        have a1 : swapsWithSole [t] (.Call (.Attribute (.Name z pz) "pop" ap) [] [] cp) p.line X.env = pure false := by
          cases t <;> rfl
        have a2 : (assignEach [t] X.env).map (·.2) = [assign t X.env] := by
          cases t <;> first | rfl | (simp [isTupE, vNameP] at h4)
        exact ps_imp (ps_asg (pe_bm0 PySem.F.plainAttrs_list PySem.F.slot_list_pop PySem.F.type_list_pop mt_pop hz rfl h2) (snd_pat g h5) a1 (swp_tup rfl) a2) fun D σ H h => q_pop h
      · cases hc
  | .ite t a b, st, hc => by
    unfold chkSt at hc
    cases hv : vIfS st with
    | none => rw [hv] at hc; cases hc
    | some q =>
      obtain ⟨c, xs, ys⟩ := q
      rw [hv] at hc
      obtain ⟨p, rfl⟩ := vIfS_eq hv
      simp only [Bool.and_eq_true] at hc
      exact ps_imp (ps_if (sE t g hc.1).2 (sSs g hk how hp a hc.2.1) (sSs g hk how hp b hc.2.2)) fun D σ H h => q_ite h
  | .whl t b, st, hc => by
    unfold chkSt at hc
    cases hv : vWhl st with
    | none => rw [hv] at hc; cases hc
    | some q =>
      obtain ⟨c, xs⟩ := q
      rw [hv] at hc
      obtain ⟨p, rfl⟩ := vWhl_eq hv
      simp only [Bool.and_eq_true] at hc
      exact ps_imp (ps_while hp (sE t g hc.1).2 (sSs g hk how hp b hc.2)) fun D σ H h => q_whl h
  | .for_ pt sr b, st, hc => by
    unfold chkSt at hc
    cases hv : vFor st with
    | none => rw [hv] at hc; cases hc
    | some q =>
      obtain ⟨tg, it, xs⟩ := q
      rw [hv] at hc
      obtain ⟨p, rfl⟩ := vFor_eq hv
      simp only [Bool.and_eq_true] at hc
      obtain ⟨hi, hf⟩ := sS sr true g hc.1
      exact ps_imp (ps_for hp g.calm hi (snd_pat g hc.2.1) (sSs g hk how hp b hc.2.2) (hf X.env)) fun D σ H h => q_for h
  | .ret e, st, hc => by
    unfold chkSt at hc
    cases hv : vRet st with
    | none => rw [hv] at hc; cases hc
    | some v =>
      rw [hv] at hc
      obtain ⟨p, rfl⟩ := vRet_eq hv
      exact ps_imp (ps_ret (sE e g hc).1) fun D σ H h => q_ret h
  | .brk, st, hc => by
    unfold chkSt at hc
    split at hc
    · refine ps_imp ps_break fun D σ H h => ?_
      obtain ⟨O0, H0, O, ρ, R, S, ev, q⟩ := h
      have ev : R (.bk ρ) := by unfold Pm.ex PV.ex at ev; exact ev
      exact q _ ev O σ H S (Kp.refl _ _)
    · cases hc
  | .bad, st, hc => by
    refine ps_imp ps_never fun D σ H h => ?_
    obtain ⟨O0, H0, O, ρ, R, S, ev, q⟩ := h
    unfold Pm.ex PV.ex at ev
    exact ev
theorem sSs (g : Gd P ct X k) (hk : ct.sc.kind = .function) (how : ct.own = ct.sc) (hp : PassesOwn (model X.prog X.w) X.A X.env X.xe) : ∀ (s : Ss) {st : List Stmt}, chkSs ct s st = true → PSs X st (tS P X.fw (P.exs s))
  | .nil, [], hc => pss_imp pss_nil fun D σ H h => by
    obtain ⟨O0, H0, O, ρ, R, S, ev, q⟩ := h
    have ev : R (.nx ρ) := by unfold Pm.exs PV.exs at ev; exact ev
    exact q _ ev O σ H S (Kp.refl _ _)
  | .nil, _ :: _, hc => by unfold chkSs at hc; cases hc
  | .cons s r, [], hc => by unfold chkSs at hc; cases hc
  | .cons s r, st :: sts, hc => by
    unfold chkSs at hc
    rw [Bool.and_eq_true] at hc
    exact pss_imp (pss_cons (sSt g hk how hp s hc.1) (sSs g hk how hp r hc.2)) fun D σ H h => q_cons h
end
end
end PV

set_option maxHeartbeats 4000000
/-! PV: defs. -/
namespace PV
open PySem PyProof.Rows L2 RZ

section
variable {PG : Program} {W0 : World} {K : PySem.W.Frag} {mg : Str → Option Value} {base : Heap} {k : Nat}
/-- what the module gives: the built-ins' names free, the constants, the defs -/
structure Md (PG : Program) (W0 : World) (K : PySem.W.Frag) (mg : Str → Option Value) (base : Heap) (P : Pm) (fs : List (Nat × Str × Nat × Bool)) (gl : List (Nat × Str)) (k : Nat) : Prop where
  blt : ∀ x ∈ bltN, mg x = none
  fns : ∀ f x n b, (f, x, n, b) ∈ fs → ∃ a fd ps, mg x = some (.ref a) ∧ PySem.W.keepIn K (.ref a) = true ∧ Binds K fd ps [] ∧
    FnOk PG W0 K mg base CX0 k a fd ps (if b = true then spG n (P.G f) ⟨K, W0⟩ else spF n (P.F f) ⟨K, W0⟩)
  hws : ∀ f x n, (f, x, n, true) ∈ fs → P.w.isSome = true
  gls : ∀ n x, (n, x) ∈ gl → ∃ v u d, mg x = some u ∧ RelV v u ∧ P.C n = some d ∧ ∀ H, Rp ⟨K, W0⟩ H v d
theorem Md.gd {P : Pm} {fs : List (Nat × Str × Nat × Bool)} {gl : List (Nat × Str)} (m : Md PG W0 K mg base P fs gl k) {N : List Str} {ps : List Str} {sc : Scope} {qual : Str} {f : Addr} {cdv : Value} {A : Around} {outer : List PySem.Env} {s : Shared} {H : Hp} {E : XK} (S : FnScope N ps sc)
    (hr : Room k (A.deeper (envOfC qual sc s.heap.objs.size f cdv))) : Gd P ⟨N, sc, sc, P.iw, fs, gl⟩ (cxOf CX0 PG W0 K mg base N qual sc f cdv A outer s H E).nox k where
  hN := rfl
  nd := S.nd
  hsc := rfl
  hiw := rfl
  calm := rfl
  room := hr
  blt := m.blt
  sto := fun x hx => by
    have hx : isLoc sc x = true := hx
    unfold isLoc at hx
    rw [Bool.or_eq_true, beq_iff_eq, beq_iff_eq] at hx
    exact ⟨hx, .inl rfl⟩
  fns := m.fns
  hws := m.hws
  gls := m.gls
theorem start_len {N : List Str} {vs : List V} (h : vs.length ≤ N.length) : (L2.start N vs).length = N.length := by
  unfold L2.start
  simp
  omega
theorem start_get {N : List Str} {vs : List V} {i : Nat} {v : V} (h : vs[i]? = some v) : (L2.start N vs)[i]? = some (some v) := by
  have hi : i < vs.length := (List.getElem?_eq_some_iff.mp h).1
  unfold L2.start
  rw [List.getElem?_append_left (by simpa using hi), List.getElem?_map, h]
  rfl
theorem sim_start {w : Wp} {iw : Nat} {O : List Addr} {H : Hp} {N : List Str} {vs : List V} {ds : List D} (hl : vs.length ≤ N.length) (dm : Dm O H) (wk : WOk w H) (hw : ∀ a, w.is a → a ∈ O) (pre : Env) (hp : ∀ s ∈ pre, s = .no) (hd : Rps ⟨K, W0⟩ (hid O H) (vs.drop pre.length) ds) (hpl : pre.length ≤ vs.length)
    (hwS : ∀ t, w = some t → (L2.start N vs)[iw]? = some (some (.ref t.1)) ∧ (pre ++ ds.map Slot.sh ++ List.replicate (N.length - (pre.length + ds.length)) Slot.no)[iw]? = some .no) :
    Sim ⟨K, W0⟩ w iw O H O H (L2.start N vs) (pre ++ ds.map Slot.sh ++ List.replicate (N.length - (pre.length + ds.length)) Slot.no) := by
  have hdl : ds.length = vs.length - pre.length := by rw [← hd.length]; simp
  have noow : ∀ {i : Nat} {d : D}, ¬ (pre ++ ds.map Slot.sh ++ List.replicate (N.length - (pre.length + ds.length)) Slot.no)[i]? = some (.ow d) := fun {i d} h => by
    have hm := List.mem_of_getElem? h
    rcases List.mem_append.mp hm with h | h
    · rcases List.mem_append.mp h with h | h
      · cases hp _ h
      · obtain ⟨_, _, h⟩ := List.mem_map.mp h
        cases h
    · cases (List.mem_replicate.mp h).2
  refine ⟨?_, fun i s h => ?_, fun i j d d' p h => absurd h noow, dm, dm, fun _ h => h, fun _ h => .inl h, Ext.refl wk, wk, hw, hwS, fun i d p h => absurd h noow⟩
  · rw [start_len hl]
    simp
    omega
  · by_cases h1 : i < pre.length
    · rw [List.append_assoc, List.getElem?_append_left h1] at h
      have := hp s (List.mem_of_getElem? h)
      subst this
      trivial
    · by_cases h2 : i < pre.length + ds.length
      · rw [List.getElem?_append_left (by simpa using h2), List.getElem?_append_right (by omega), List.getElem?_map] at h
        cases e : ds[i - pre.length]? with
        | none => rw [e] at h; cases h
        | some d =>
          rw [e] at h
          cases h
          obtain ⟨v, hv, r⟩ := hd.getD e
          rw [List.getElem?_drop, show pre.length + (i - pre.length) = i by omega] at hv
          exact ⟨v, by rw [start_get hv]; rfl, r⟩
      · rw [List.getElem?_append_right (by simp; omega)] at h
        have := (List.mem_replicate.mp (List.mem_of_getElem? h)).2
        subst this
        trivial
/-- a pure def -/
theorem fn_pure {P : Pm} {fs : List (Nat × Str × Nat × Bool)} {gl : List (Nat × Str)} (m : Md PG W0 K mg base P fs gl k) (hw : P.w = none) {x qual : Str} {st : Stmt} {f : Addr} {fd : FuncData} {N ps : List Str} (F : Fun K x qual st f fd) (S : FnScope N ps (defScope st)) (hps : ps.length ≤ N.length) {b : Ss}
    (hc : chkSs ⟨N, defScope st, defScope st, P.iw, fs, gl⟩ b (defBody st) = true) {f' : List D → W D} (hf : ∀ ds R, f' ds R → run wM P.C P.F P.G N.length b ds R) : FnOk PG W0 K mg base CX0 (k + 1) f fd ps (spF ps.length f' ⟨K, W0⟩) := by
  refine F.ok S (fun vs H Q E h => h.1) (fun cdv A outer s H vs Q E hr h => ⟨_, sSs (m.gd S hr) S.kind rfl PassesOwn.never b hc, ?_⟩)
  obtain ⟨hl, O, ds, R, dm, rs, hR, q⟩ := h
  have hv := rs.length
  have hR := hf ds R hR
  have hR : P.exs b (ds.map Slot.sh ++ List.replicate (N.length - ds.length) Slot.no) fun f => (match f with
    | .nx _ => wM.pure PyData.none
    | .rt d => wM.pure d
    | .bk _ => wM.fail) R := by unfold run at hR; exact hR
  have Sm : Sim ⟨K, W0⟩ P.w P.iw O H O H (L2.start N vs) ([] ++ ds.map Slot.sh ++ List.replicate (N.length - (0 + ds.length)) Slot.no) := by
    rw [hw]
    exact sim_start (w := none) (pre := []) (by omega) dm trivial (fun a h => by obtain ⟨t, ht, _⟩ := h; cases ht) (fun _ h => by cases h) rs (Nat.zero_le _) fun t ht => by cases ht
  rw [List.nil_append, Nat.zero_add] at Sm
  refine ⟨O, H, O, _, _, Sm, hR, fun g hg => ?_⟩
  have toLe : ∀ {H'}, Ext P.w H H' → Le H H' := fun {H'} e a o h => e.1 a o (fun z => by obtain ⟨t, ht, _⟩ := z; rw [hw] at ht; cases ht) h
  cases g with
  | nx ρ' => exact fun O' σ' H' S' _ => q _ .non H' hg (toLe S'.ent) .non
  | rt d => exact fun v H' r e => q d v H' hg (toLe e) r
  | bk ρ' => exact False.elim hg
/-- a def whose first parameter is w -/
theorem fn_w {C : Nat → Option D} {F' G' : Nat → List D → W D} {fs : List (Nat × Str × Nat × Bool)} {gl : List (Nat × Str)} (m : ∀ t, Md PG W0 K mg base ⟨C, F', G', some t, 0⟩ fs gl k) {x qual : Str} {st : Stmt} {f : Addr} {fd : FuncData} {N ps : List Str} (F : Fun K x qual st f fd) (S : FnScope N ps (defScope st)) (hps : ps.length ≤ N.length) {b : Ss}
    (hc : chkSs ⟨N, defScope st, defScope st, 0, fs, gl⟩ b (defBody st) = true) {f' : List D → W D} (hf : ∀ ds R, f' ds R → exs wM C F' G' b (.no :: (ds.map Slot.sh ++ List.replicate (N.length - (1 + ds.length)) Slot.no)) fun f => (match f with
    | .nx _ => wM.pure PyData.none
    | .rt d => wM.pure d
    | .bk _ => wM.fail) R) : FnOk PG W0 K mg base CX0 (k + 1) f fd ps (spG ps.length f' ⟨K, W0⟩) := by
  refine F.ok S (fun vs H Q E h => h.1) (fun cdv A outer s H vs Q E hr h => ?_)
  obtain ⟨hl, t, O, ds, R, vs', rfl, wk, hO, dm, rs, hR, q⟩ := h
  refine ⟨_, sSs ((m t).gd S hr) S.kind rfl PassesOwn.never b hc, ?_⟩
  have hv := rs.length
  have hR := hf ds R hR
  rw [List.length_cons] at hl
  have Sm := sim_start (K := K) (w := some t) (iw := 0) (O := O) (H := H) (N := N) (vs := .ref t.1 :: vs') (ds := ds) (pre := [.no]) (by simp; omega) dm wk (fun a h => by obtain ⟨t', ht, rfl⟩ := h; cases ht; exact hO) (fun _ h => by simpa using h) rs (by simp) fun t' ht => by
    cases ht
    exact ⟨start_get (by rfl), rfl⟩
  refine ⟨O, H, O, _, _, Sm, hR, fun g hg => ?_⟩
  cases g with
  | nx ρ' => exact fun O' σ' H' S' _ => q _ .non H' hg S'.ent .non
  | rt d => exact fun v H' r e => q d v H' hg e r
  | bk ρ' => exact False.elim hg
end
end PV

set_option maxHeartbeats 4000000
/-! PV: the law's own draws: _law_next. -/
namespace PV
open PySem PyProof.Rows L2 RZ

/-- what _law_next(w, n) gives -/
def gNext : List D → W D := fun ds R => ∃ n : Int, ds = [.int n] ∧ 0 < n ∧ ∀ j : Int, 0 ≤ j → j < n → R (.int j)
def nextB (p1 p2 p3 p4 p5 p6 p7 p8 p9 p10 p11 p12 p13 p14 p15 p16 p17 p18 p19 p20 p21 p22 p23 p24 p25 p26 p27 p28 p29 p30 p31 : Pos) : List Stmt :=
  [.AugAssign (.Subscript (.Name "w" p1) (.Constant (.str "at") 0 p2) p3) .Add (.Constant (.int 1) 0 p4) p5,
   .If (.Compare (.Subscript (.Name "w" p6) (.Constant (.str "at") 0 p7) p8) [.Gt] [.Call (.Name "len" p9) [.Subscript (.Name "w" p10) (.Constant (.str "draws") 0 p11) p12] [] p13] p14) [.Return (some (.Constant (.int 0) 0 p15)) p16] [] p17,
   .Return (some (.BinOp (.Call (.Name "int" p18) [.Subscript (.Subscript (.Name "w" p19) (.Constant (.str "draws") 0 p20) p21) (.BinOp (.Subscript (.Name "w" p22) (.Constant (.str "at") 0 p23) p24) .Sub (.Constant (.int 1) 0 p25) p26) p27] [] p28) .Mod (.Name "many" p29) p30)) p31]
def nextSc (sc : Scope) : Bool := isLoc sc "w" && isLoc sc "many" && (sc.names.lookup ("len" : Str) == some .globalImplicit) && (sc.names.lookup ("int" : Str) == some .globalImplicit)
section
variable {PG : Program} {W0 : World} {K : PySem.W.Frag} {mg : Str → Option Value} {base : Heap} {k : Nat}
theorem visB {sc : Scope} {x : Str} (h : isLoc sc x = true) : Vis sc x := by
  unfold isLoc at h
  rw [Bool.or_eq_true, beq_iff_eq, beq_iff_eq] at h
  rcases h with h | h
  · exact .inl h
  · exact .inr (.inl h)
theorem ok_next {st : Stmt} {f : Addr} {fd : FuncData} {p1 p2 p3 p4 p5 p6 p7 p8 p9 p10 p11 p12 p13 p14 p15 p16 p17 p18 p19 p20 p21 p22 p23 p24 p25 p26 p27 p28 p29 p30 p31 : Pos} (F : Fun K "_law_next" "_law_next" st f fd) (S : FnScope ["w", "many"] ["w", "many"] (defScope st))
    (hb : defBody st = nextB p1 p2 p3 p4 p5 p6 p7 p8 p9 p10 p11 p12 p13 p14 p15 p16 p17 p18 p19 p20 p21 p22 p23 p24 p25 p26 p27 p28 p29 p30 p31) (hs : nextSc (defScope st) = true) (ml : mg "len" = none) (mi : mg "int" = none) : FnOk PG W0 K mg base CX0 (k + 1) f fd ["w", "many"] (spG 2 gNext ⟨K, W0⟩) := by
  unfold nextSc at hs
  simp only [Bool.and_eq_true, beq_iff_eq] at hs
  obtain ⟨⟨⟨s1, s2⟩, s3⟩, s4⟩ := hs
  have s1 := visB s1
  have s2 := visB s2
  refine F.ok S (fun vs H Q E h => h.1) (fun cdv A outer s H vs Q E hr h => ?_)
  obtain ⟨hl, t, O, ds, R, vs', rfl, wk, hO, dm, rs, hR, q⟩ := h
  obtain ⟨n, rfl, hn, hR⟩ := hR
  obtain ⟨pw, pd, ns⟩ := t
  obtain ⟨j, j0, h1, h2⟩ := wk
  obtain ⟨v, rfl⟩ : ∃ v, vs' = [v] := by
    cases rs with | cons _ r => cases r; exact ⟨_, rfl⟩
  cases rs with
  | cons rn _ =>
    cases rn
    have hu := hu_of hr
    have nda : ¬ (Str.ofString "draws" = Str.ofString "at") := by decide
    have nw : pw ≠ pd := fun z => by rw [z, h2] at h1; cases h1
    generalize hX : (cxOf CX0 PG W0 K mg base ["w", "many"] "_law_next" (defScope st) f cdv A outer s H E).nox = X
    have hN : X.N = (["w", "many"] : List Str) := by rw [← hX]; rfl
    have hsc : X.env.scope = defScope st := by rw [← hX]; rfl
    have hm : X.mg = mg := by rw [← hX]; rfl
    have hK : X.K = K := by rw [← hX]; rfl
    have hA : X.A.units + 1 < cLine := by rw [← hX]; exact hu
    have gl : Gl X "len" := by show X.env.scope.names.lookup _ = _; rw [hsc]; exact s3
    have gi : Gl X "int" := by show X.env.scope.names.lookup _ = _; rw [hsc]; exact s4
    have pw' : ∀ p, PE X (.Name "w" p) (tVar 0) := fun p => pe_var (by rw [hN]; rfl) (by rw [hsc]; exact s1)
    have pm' : ∀ p, PE X (.Name "many" p) (tVar 1) := fun p => pe_var (by rw [hN]; rfl) (by rw [hsc]; exact s2)
    have nsl : ∀ c k p, NoSl (.Constant c k p) := fun _ _ _ _ _ => rfl
    rw [hb]
    refine ⟨_, pss_cons (ps_daug hA (pw' _) pe_str pe_int in_add (fun _ _ _ => rfl)) (pss_cons (ps_if (pt_cmpR op_gt (pe_dget hA (pw' _) pe_str (nsl _ _ _)) (pe_callB call_len_seq gl (by rw [hm]; exact ml) rfl (pa_cons (pe_dget hA (pw' _) pe_str (nsl _ _ _)) pa_nil)) (nomark _)) (pss_one (ps_ret pe_int)) pss_nil)
      (pss_one (ps_ret (pe_op op_mod (pe_callTy bi_int gi (by rw [hm]; exact mi) rfl (pa_cons (pe_ix ix_list (pe_dget hA (pw' _) pe_str (nsl _ _ _)) (pe_op op_sub (pe_dget hA (pw' _) pe_str (nsl _ _ _)) pe_int) (fun _ _ => rfl)) pa_nil)) (pm' _))))), ?_⟩
    generalize hH1 : upd H pw (.dK [(.inr "draws", .ref pd), (.inr "at", .int (j + 1))]) = H1
    have e1 : H1 pw = some (.dK [(.inr "draws", .ref pd), (.inr "at", .int (j + 1))]) := by rw [← hH1]; simp [upd]
    have e2 : H1 pd = some (.lst (ns.map .int)) := by rw [← hH1, upd_ne nw.symm]; exact h2
    have ex : Ext (some (pw, pd, ns)) H H1 := ⟨fun a o hw ha => by
      rw [← hH1, upd_ne (fun z => hw ⟨_, rfl, z⟩)]
      exact ha, j + 1, by omega, e1, e2⟩
    have dg1 : DGet H1 pw (.str "at") (some (.int (j + 1))) := .inl ⟨_, .inr "at", .inl e1, rfl, by simp [valV, nda]⟩
    have dg2 : DGet H1 pw (.str "draws") (some (.ref pd)) := .inl ⟨_, .inr "draws", .inl e1, rfl, by simp [valV, nda]⟩
    have fin : ∀ (i : Int) H', 0 ≤ i → i < n → Le H1 H' → Q (.int i) H' := fun i H' a b le => q (.int i) (.int i) H' (hR i a b) (ex.trans (Ext.of_le ex.2 le)) (.int i)
    refine ⟨.ref pw, rfl, pw, .int j, rfl, .inl ⟨_, .inr "at", .inl h1, rfl, by simp [valV, nda]⟩, j, 1, rfl, rfl, H1, .inl ⟨_, .inr "at", h1, rfl, by rw [sizeLine_eq]; simp, ?_⟩, ?_⟩
    · rw [← hH1]
      simp [putK, nda]
    refine ⟨.ref pw, rfl, pw, .int (j + 1), rfl, dg1, .ref pw, rfl, pw, .ref pd, rfl, dg2, pd, ns.map .int, rfl, .inl (SqL.of e2), ?_⟩
    refine ⟨_, _, rfl, rfl, decide (((ns.map V.int).length : Int) < j + 1), rfl, ?_⟩
    by_cases hc : ((ns.map V.int).length : Int) < j + 1
    · rw [decide_eq_true hc]
      exact fin 0 H1 (by omega) hn (Le.refl _)
    · rw [decide_eq_false hc]
      have hlen : j.toNat < ns.length := by
        rw [List.length_map] at hc
        omega
      have hat : atI (ns.map V.int) j = some (.int ns[j.toNat]) := by
        have e : (ns.map V.int)[j.toNat]? = some (.int ns[j.toNat]) := by rw [List.getElem?_map, List.getElem?_eq_getElem hlen]; rfl
        have z := atI_nat (xs := ns.map V.int) e
        rwa [show ((j.toNat : Nat) : Int) = j by omega] at z
      refine ⟨.ref pw, rfl, pw, .ref pd, rfl, dg2, .ref pw, rfl, pw, .int (j + 1), rfl, dg1, j + 1, 1, rfl, rfl, ?_⟩
      refine ⟨pd, ns.map .int, j, .int ns[j.toNat], rfl, congrArg V.int (show j + 1 - 1 = j by omega), SqL.of e2, hat, ?_⟩
      refine ⟨[], .int ns[j.toNat], .int ns[j.toNat], .int ns[j.toNat], rfl, (fun _ h => by cases h), .inl (.int _), rfl, fun v H' le rp _ => ?_⟩
      cases rp
      exact ⟨.int n, rfl, _, _, rfl, rfl, hn, fin _ H' (Int.emod_nonneg _ (by omega)) (Int.emod_lt_of_pos _ hn) le⟩
end
end PV

set_option maxHeartbeats 4000000
/-! PV: reckoning in Option. -/
namespace PV
open PySem

section
variable {C : Nat → Option D} {F G : Nat → List D → Option D} {ρ : Env}
@[simp] theorem o_lift {α : Type} (o : Option α) : optM.lift o = o := by cases o <;> rfl
@[simp] theorem o_bind {α β : Type} (o : Option α) (f : α → Option β) : optM.bind o f = o.bind f := rfl
@[simp] theorem o_pure {α : Type} (a : α) : optM.pure a = some a := rfl
@[simp] theorem o_fail {α : Type} : (optM.fail : Option α) = none := rfl
@[simp] theorem o_none : ev optM C F G .none ρ = some .none := by unfold ev; rfl
@[simp] theorem o_bl {b : Bool} : ev optM C F G (.bl b) ρ = some (.bool b) := by unfold ev; rfl
@[simp] theorem o_int {b : Int} : ev optM C F G (.int b) ρ = some (.int b) := by unfold ev; rfl
@[simp] theorem o_str {b : Str} : ev optM C F G (.str b) ρ = some (.str b) := by unfold ev; rfl
@[simp] theorem o_var {i : Nat} : ev optM C F G (.var i) ρ = getV ρ i := by unfold ev; simp
@[simp] theorem o_gl {i : Nat} : ev optM C F G (.gl i) ρ = C i := by unfold ev; simp
@[simp] theorem o_bin {o : Op2} {a b : E} : ev optM C F G (.bin o a b) ρ = (ev optM C F G a ρ).bind fun x => (ev optM C F G b ρ).bind fun y => dBin o x y := by conv => { lhs; unfold ev }; simp
@[simp] theorem o_neg {a : E} : ev optM C F G (.neg a) ρ = (ev optM C F G a ρ).bind fun x => (int? x).map fun i => .int (-i) := by conv => { lhs; unfold ev }; simp
@[simp] theorem o_not {a : E} : ev optM C F G (.not a) ρ = (ev optM C F G a ρ).bind fun x => (bool? x).map fun i => .bool (!i) := by conv => { lhs; unfold ev }; simp
@[simp] theorem o_and {a b : E} : ev optM C F G (.and a b) ρ = (ev optM C F G a ρ).bind fun x => (bool? x).bind fun t => if t = true then ev optM C F G b ρ else some (.bool false) := by conv => { lhs; unfold ev }; simp
@[simp] theorem o_or {a b : E} : ev optM C F G (.or a b) ρ = (ev optM C F G a ρ).bind fun x => (bool? x).bind fun t => if t = true then some (.bool true) else ev optM C F G b ρ := by conv => { lhs; unfold ev }; simp
@[simp] theorem o_cmp {c : Cm} {a b : E} : ev optM C F G (.cmp c a b) ρ = (ev optM C F G a ρ).bind fun x => (ev optM C F G b ρ).bind fun y => (dCmp c x y).map .bool := by conv => { lhs; unfold ev }; simp
@[simp] theorem o_chain {c c' : Cm} {a b d : E} : ev optM C F G (.chain c c' a b d) ρ = (ev optM C F G a ρ).bind fun x => (ev optM C F G b ρ).bind fun y => (dCmp c x y).bind fun t => if t = true then (ev optM C F G d ρ).bind fun z => (dCmp c' y z).map .bool else some (.bool false) := by conv => { lhs; unfold ev }; simp
@[simp] theorem o_chain3 {c c' c2 : Cm} {a b d g : E} : ev optM C F G (.chain3 c c' c2 a b d g) ρ = (ev optM C F G a ρ).bind fun x => (ev optM C F G b ρ).bind fun y => (dCmp c x y).bind fun t => if t = true then (ev optM C F G d ρ).bind fun z => (dCmp c' y z).bind fun t => if t = true then (ev optM C F G g ρ).bind fun u => (dCmp c2 z u).map .bool else some (.bool false) else some (.bool false) := by conv => { lhs; unfold ev }; simp
@[simp] theorem o_ife {t a b : E} : ev optM C F G (.ife t a b) ρ = (ev optM C F G t ρ).bind fun x => (bool? x).bind fun t => if t = true then ev optM C F G a ρ else ev optM C F G b ρ := by conv => { lhs; unfold ev }; simp
@[simp] theorem o_tup {es : Es} : ev optM C F G (.tup es) ρ = (evs optM C F G es ρ).map .tuple := by conv => { lhs; unfold ev }; simp [Option.map_eq_bind]; rfl
@[simp] theorem o_lst {es : Es} : ev optM C F G (.lst es) ρ = (evs optM C F G es ρ).map .list := by conv => { lhs; unfold ev }; simp [Option.map_eq_bind]; rfl
@[simp] theorem o_dct {es : Es} : ev optM C F G (.dct es) ρ = (evs optM C F G es ρ).bind fun ds => (dDisp ds []).map .dict := by conv => { lhs; unfold ev }; simp
@[simp] theorem o_count {a b : E} : ev optM C F G (.count a b) ρ = (ev optM C F G a ρ).bind fun d => (lst? d).bind fun _ => (ev optM C F G b ρ).bind fun y => dCount y d := by conv => { lhs; unfold ev }; simp
@[simp] theorem o_index {a b : E} : ev optM C F G (.index a b) ρ = (ev optM C F G a ρ).bind fun d => (lst? d).bind fun _ => (ev optM C F G b ρ).bind fun y => dIndex y d := by conv => { lhs; unfold ev }; simp
@[simp] theorem o_get1 {a b : E} : ev optM C F G (.get1 a b) ρ = (ev optM C F G a ρ).bind fun d => (dct? d).bind fun _ => (ev optM C F G b ρ).bind fun y => dGet y .none d := by conv => { lhs; unfold ev }; simp
@[simp] theorem o_get2 {a b c : E} : ev optM C F G (.get2 a b c) ρ = (ev optM C F G a ρ).bind fun d => (dct? d).bind fun _ => (ev optM C F G b ρ).bind fun y => (ev optM C F G c ρ).bind fun z => dGet y z d := by conv => { lhs; unfold ev }; simp
@[simp] theorem lst_l {xs : List D} : lst? (.list xs) = some () := rfl
@[simp] theorem dct_d {xs : List (D × D)} : dct? (.dict xs) = some () := rfl
@[simp] theorem iter_l {xs : List D} : iter? (.list xs) = some xs := rfl
@[simp] theorem iter_t {xs : List D} : iter? (.tuple xs) = some xs := rfl
@[simp] theorem iter_d {xs : List (D × D)} : iter? (.dict xs) = some (xs.map (·.1)) := rfl
@[simp] theorem ix_d {xs : List (D × D)} {k : D} : dIx (.dict xs) k = if okKey k xs then keyAt k xs else none := by
  cases k <;> rfl
@[simp] theorem i_lend {i : List (D × D)} : dBi .len (.dict i) = some (.int i.length) := rfl
@[simp] theorem i_lstd {i : List (D × D)} : dBi .list (.dict i) = some (.list (i.map (·.1))) := rfl
@[simp] theorem get_d {k x : D} {i : List (D × D)} : dGet k x (.dict i) = if okKey k i then some ((keyAt k i).getD x) else none := rfl
@[simp] theorem set_d {k d : D} {i : List (D × D)} : dSet k d (.dict i) = if okKey k i && decide (i.length < LINE) then some (.dict (keyPut k d i)) else none := rfl
@[simp] theorem in_d {k : D} {i : List (D × D)} : dIn k (.dict i) = if okKey k i then some (keyAt k i).isSome else none := rfl
@[simp] theorem disp_0 : dDisp [] [] = some [] := rfl
@[simp] theorem o_ix {a b : E} : ev optM C F G (.ix a b) ρ = (ev optM C F G a ρ).bind fun x => (ev optM C F G b ρ).bind fun y => dIx x y := by conv => { lhs; unfold ev }; simp
@[simp] theorem o_sl {a b c : E} : ev optM C F G (.sl a b c) ρ = (ev optM C F G a ρ).bind fun x => (ev optM C F G b ρ).bind fun y => (bound? b y).bind fun l => (ev optM C F G c ρ).bind fun z => (bound? c z).bind fun h => dSl x l h := by conv => { lhs; unfold ev }; simp
@[simp] theorem o_rev {a : E} : ev optM C F G (.rev a) ρ = (ev optM C F G a ρ).bind dRev := by conv => { lhs; unfold ev }; simp
@[simp] theorem o_yes : ev optM C F G .yes ρ = some (.bool true) := by unfold ev; rfl
@[simp] theorem o_call {f : Nat} {es : Es} : ev optM C F G (.call f es) ρ = (evs optM C F G es ρ).bind fun ds => F f ds := by conv => { lhs; unfold ev }; simp
@[simp] theorem o_callw {f : Nat} {es : Es} : ev optM C F G (.callw f es) ρ = (evs optM C F G es ρ).bind fun ds => G f ds := by conv => { lhs; unfold ev }; simp
@[simp] theorem o_bi {b : Bi} {a : E} : ev optM C F G (.bi b a) ρ = (ev optM C F G a ρ).bind fun x => dBi b x := by conv => { lhs; unfold ev }; simp
@[simp] theorem o_bist {s : Src} : ev optM C F G (.bis .tuple s) ρ = (evS optM C F G s ρ).map .tuple := by conv => { lhs; unfold ev }; simp [Option.map_eq_bind]; rfl
@[simp] theorem o_bisl {s : Src} : ev optM C F G (.bis .list s) ρ = (evS optM C F G s ρ).map .list := by conv => { lhs; unfold ev }; simp [Option.map_eq_bind]; rfl
@[simp] theorem o_mx {a b : E} : ev optM C F G (.mx a b) ρ = (ev optM C F G a ρ).bind fun x => (ev optM C F G b ρ).bind fun y => dMx x y := by conv => { lhs; unfold ev }; simp
@[simp] theorem o_mn {a b : E} : ev optM C F G (.mn a b) ρ = (ev optM C F G a ρ).bind fun x => (ev optM C F G b ρ).bind fun y => dMn x y := by conv => { lhs; unfold ev }; simp
@[simp] theorem o_isin {a : E} {t : Ty} : ev optM C F G (.isin a t) ρ = (ev optM C F G a ρ).map fun x => .bool (dIs x t) := by conv => { lhs; unfold ev }; simp [Option.map_eq_bind]; rfl
noncomputable def oStep (C : Nat → Option D) (F G : Nat → List D → Option D) (p : Pat) (t elt : E) (ρb : Env) (d : D) : Option (Option D) := (bindP p d ρb).bind fun ρ1 => (ev optM C F G t ρ1).bind fun x => (bool? x).bind fun b => if b = true then (ev optM C F G elt ρ1).bind fun y => some (some y) else some none
@[simp] theorem o_comp {own : List Nat} {p : Pat} {s : Src} {t elt : E} : ev optM C F G (.comp own p s t elt) ρ = (evS optM C F G s ρ).bind fun xs => (compL optM (oStep C F G p t elt (wip own ρ)) xs).bind fun ys => some (.list ys) := by
  conv => { lhs; unfold ev }
  simp
  rfl
@[simp] theorem os_nil : evs optM C F G .nil ρ = some [] := by unfold evs; rfl
@[simp] theorem os_cons {e : E} {es : Es} : evs optM C F G (.cons e es) ρ = (ev optM C F G e ρ).bind fun d => (evs optM C F G es ρ).bind fun ds => some (d :: ds) := by conv => { lhs; unfold evs }; simp
@[simp] theorem oS_val {e : E} : evS optM C F G (.val e) ρ = (ev optM C F G e ρ).bind iter? := by conv => { lhs; unfold evS }; simp
@[simp] theorem oS_r1 {a : E} : evS optM C F G (.r1 a) ρ = (ev optM C F G a ρ).bind fun x => (int? x).bind fun i => if okR 0 i = true then some (rng 0 i) else none := by conv => { lhs; unfold evS }; simp
@[simp] theorem oS_r2 {a b : E} : evS optM C F G (.r2 a b) ρ = (ev optM C F G a ρ).bind fun x => (int? x).bind fun i => (ev optM C F G b ρ).bind fun y => (int? y).bind fun j => if okR i j = true then some (rng i j) else none := by conv => { lhs; unfold evS }; simp
@[simp] theorem oS_r3 {a b c : E} : evS optM C F G (.r3 a b c) ρ = (ev optM C F G a ρ).bind fun x => (int? x).bind fun i => (ev optM C F G b ρ).bind fun y => (int? y).bind fun j => (ev optM C F G c ρ).bind fun z => (int? z).bind fun k => if (okR j i && k == -1) = true then some (rngD i j) else none := by conv => { lhs; unfold evS }; simp
@[simp] theorem oS_zip {a b : E} : evS optM C F G (.zip a b) ρ = (ev optM C F G a ρ).bind fun x => (ev optM C F G b ρ).bind fun y => zipD x y := by conv => { lhs; unfold evS }; simp
/-- a turn of a for -/
noncomputable def fBody (C : Nat → Option D) (F G : Nat → List D → Option D) (p : Pat) (b : Ss) (d : D) (ρ : Env) : Option Fl := (bindP p d ρ).bind fun ρ => exs optM C F G b ρ
/-- a turn of a while -/
noncomputable def wBody (C : Nat → Option D) (F G : Nat → List D → Option D) (t : E) (b : Ss) (ρ0 : Env) : Env → Option (Env ⊕ Fl) := whlStep optM (esc true t) (fun ρ => (ev optM C F G t ρ).bind bool?) (exs optM C F G b) ρ0
/-! statements -/
@[simp] theorem x_pass : ex optM C F G .pass ρ = some (.nx ρ) := by unfold ex; rfl
@[simp] theorem x_asg {i : Nat} {e : E} : ex optM C F G (.asg i e) ρ = (ev optM C F G e (frz (esc false e) ρ)).map fun d => .nx ((frz (esc false e) ρ).set i (slotOf e d)) := by conv => { lhs; unfold ex }; simp [Option.map_eq_bind]; rfl
@[simp] theorem x_asgp {is : List Nat} {es : Es} : ex optM C F G (.asgp is es) ρ = (evs optM C F G es (frz (escs es) ρ)).bind fun ds => (setAll is es ds (frz (escs es) ρ)).map .nx := by conv => { lhs; unfold ex }; simp [Option.map_eq_bind]; rfl
@[simp] theorem x_asgt {p : Pat} {e : E} : ex optM C F G (.asgt p e) ρ = (ev optM C F G e (frz (esc false e) ρ)).bind fun d => (bindP p d (frz (esc false e) ρ)).map .nx := by conv => { lhs; unfold ex }; simp [Option.map_eq_bind]; rfl
@[simp] theorem x_aug {i : Nat} {o : Op2} {e : E} : ex optM C F G (.aug i o e) ρ = (getV ρ i).bind fun x => (ev optM C F G e (frz (esc false e) ρ)).bind fun y => (int? x).bind fun a => (int? y).bind fun b => (dBin o (.int a) (.int b)).map fun z => .nx ((frz (esc false e) ρ).set i (.sh z)) := by conv => { lhs; unfold ex }; simp [Option.map_eq_bind]; rfl
@[simp] theorem x_app {i : Nat} {e : E} : ex optM C F G (.app i e) ρ = (getO (frz (esc false e) ρ) i).bind fun x => (ev optM C F G e (frz (esc false e) ρ)).bind fun d => (dApp d x).map fun y => .nx ((frz (esc false e) ρ).set i (.ow y)) := by
  conv => { lhs; unfold ex }
  simp only [o_lift, o_bind, o_pure]
  refine congrArg _ (funext fun x => ?_)
  cases x <;> simp [lst?, dApp, Option.map_eq_bind] <;> rfl
@[simp] theorem x_ext {i : Nat} {e : E} : ex optM C F G (.ext i e) ρ = (getO (frz (esc false e) ρ) i).bind fun x => (ev optM C F G e (frz (esc false e) ρ)).bind fun d => (dExt d x).map fun y => .nx ((frz (esc false e) ρ).set i (.ow y)) := by
  conv => { lhs; unfold ex }
  simp only [o_lift, o_bind, o_pure]
  refine congrArg _ (funext fun x => ?_)
  cases x <;> simp [lst?, dExt, Option.map_eq_bind] <;> rfl
@[simp] theorem x_ins0 {i : Nat} {e : E} : ex optM C F G (.ins0 i e) ρ = (getO (frz (esc false e) ρ) i).bind fun x => (ev optM C F G e (frz (esc false e) ρ)).bind fun d => (dIns0 d x).map fun y => .nx ((frz (esc false e) ρ).set i (.ow y)) := by
  conv => { lhs; unfold ex }
  simp only [o_lift, o_bind, o_pure]
  refine congrArg _ (funext fun x => ?_)
  cases x <;> simp [lst?, dIns0, Option.map_eq_bind] <;> rfl
@[simp] theorem x_upd {i : Nat} {e : E} : ex optM C F G (.upd i e) ρ = (getO (frz (esc false e) ρ) i).bind fun x => (ev optM C F G e (frz (esc false e) ρ)).bind fun d => (dUpd d x).map fun y => .nx ((frz (esc false e) ρ).set i (.ow y)) := by
  conv => { lhs; unfold ex }
  simp only [o_lift, o_bind, o_pure]
  refine congrArg _ (funext fun x => ?_)
  cases x <;> simp [dct?, dUpd, Option.map_eq_bind] <;> rfl
@[simp] theorem x_seti {i : Nat} {k e : E} : ex optM C F G (.seti i k e) ρ = (getO (frz (esc false e ++ esc false k) ρ) i).bind fun x => (ev optM C F G e (frz (esc false e ++ esc false k) ρ)).bind fun d => (ev optM C F G k (frz (esc false e ++ esc false k) ρ)).bind fun j => (dSet j d x).map fun y => .nx ((frz (esc false e ++ esc false k) ρ).set i (.ow y)) := by conv => { lhs; unfold ex }; simp [Option.map_eq_bind]; rfl
@[simp] theorem x_popt {p : Pat} {i : Nat} : ex optM C F G (.popt p i) ρ = (getO ρ i).bind fun x => (dPop x).bind fun y => (bindP p y.1 (ρ.set i (.ow y.2))).map .nx := by conv => { lhs; unfold ex }; simp [Option.map_eq_bind]; rfl
@[simp] theorem x_ite {t : E} {a b : Ss} : ex optM C F G (.ite t a b) ρ = (ev optM C F G t (frz (esc true t) ρ)).bind fun x => (bool? x).bind fun t' => if t' = true then exs optM C F G a (frz (esc true t) ρ) else exs optM C F G b (frz (esc true t) ρ) := by conv => { lhs; unfold ex }; simp
@[simp] theorem x_for {p : Pat} {s : Src} {b : Ss} : ex optM C F G (.for_ p s b) ρ = (evS optM C F G s (frz (escF s) ρ)).bind fun xs => forL optM (fBody C F G p b) (frz (escF s) ρ) xs (frz (escF s) ρ) := by
  conv => { lhs; unfold ex }
  simp
  rfl
@[simp] theorem x_whl {t : E} {b : Ss} : ex optM C F G (.whl t b) ρ = whO (wBody C F G t b (frz (esc true t) ρ)) (frz (esc true t) ρ) := by
  conv => { lhs; unfold ex }
  simp
  rfl
@[simp] theorem x_ret {e : E} : ex optM C F G (.ret e) ρ = (ev optM C F G e (frz (esc false e) ρ)).map .rt := by conv => { lhs; unfold ex }; simp [Option.map_eq_bind]; rfl
@[simp] theorem x_brk : ex optM C F G .brk ρ = some (.bk ρ) := by unfold ex; rfl
@[simp] theorem xs_nil : exs optM C F G .nil ρ = some (.nx ρ) := by unfold exs; rfl
@[simp] theorem xs_cons {s : S} {r : Ss} : exs optM C F G (.cons s r) ρ = (ex optM C F G s ρ).bind fun f => match f with
    | .nx ρ => exs optM C F G r ρ
    | .rt d => some (.rt d)
    | .bk ρ => some (.bk ρ) := by conv => { lhs; unfold exs }; simp <;> rfl
end
/-! slots that are written out -/
@[simp] theorem frz_nil (ρ : Env) : frz [] ρ = ρ := by
  unfold frz
  refine List.ext_getElem? fun i => ?_
  rw [List.getElem?_mapIdx]
  cases ρ[i]? <;> simp
@[simp] theorem getV_0 {s : Slot} {ρ : Env} : getV (s :: ρ) 0 = s.val := rfl
@[simp] theorem getV_s {s : Slot} {ρ : Env} {n : Nat} : getV (s :: ρ) (n + 1) = getV ρ n := rfl
@[simp] theorem getO_0 {s : Slot} {ρ : Env} : getO (s :: ρ) 0 = s.own? := rfl
@[simp] theorem getO_s {s : Slot} {ρ : Env} {n : Nat} : getO (s :: ρ) (n + 1) = getO ρ n := rfl
@[simp] theorem val_no : Slot.val .no = none := rfl
@[simp] theorem val_sh {d : D} : Slot.val (.sh d) = some d := rfl
@[simp] theorem val_ow {d : D} : Slot.val (.ow d) = some d := rfl
@[simp] theorem own_sh {d : D} : Slot.own? (.sh d) = none := rfl
@[simp] theorem own_ow {d : D} : Slot.own? (.ow d) = some d := rfl
@[simp] theorem int_int {i : Int} : int? (.int i) = some i := rfl
@[simp] theorem bool_bool {i : Bool} : bool? (.bool i) = some i := rfl
@[simp] theorem b_addi {a b : Int} : dBin .add (.int a) (.int b) = some (.int (a + b)) := rfl
@[simp] theorem b_subi {a b : Int} : dBin .sub (.int a) (.int b) = some (.int (a - b)) := rfl
@[simp] theorem b_muli {a b : Int} : dBin .mul (.int a) (.int b) = if small64 a || small64 b then some (.int (a * b)) else none := rfl
@[simp] theorem b_addt {a b : List D} : dBin .add (.tuple a) (.tuple b) = if a.length + b.length ≤ LINE then some (.tuple (a ++ b)) else none := rfl
@[simp] theorem b_addl {a b : List D} : dBin .add (.list a) (.list b) = if a.length + b.length ≤ LINE then some (.list (a ++ b)) else none := rfl
@[simp] theorem b_fdiv {a b : Int} : dBin .fdiv (.int a) (.int b) = if b ≠ 0 ∧ b.natAbs < 1606938044258990275541962092341162602522202993782792835301376 then some (.int (a.fdiv b)) else none := rfl
@[simp] theorem b_mod {a b : Int} : dBin .mod (.int a) (.int b) = if b ≠ 0 then some (.int (a.fmod b)) else none := rfl
@[simp] theorem i_int {i : Int} : dBi .int (.int i) = some (.int i) := rfl
@[simp] theorem i_bool {i : Bool} : dBi .int (.bool i) = some (.int (if i then 1 else 0)) := rfl
@[simp] theorem i_lenl {i : List D} : dBi .len (.list i) = some (.int i.length) := rfl
@[simp] theorem i_lent {i : List D} : dBi .len (.tuple i) = some (.int i.length) := rfl
@[simp] theorem i_abs {i : Int} : dBi .abs (.int i) = some (.int (if i < 0 then -i else i)) := rfl
@[simp] theorem i_tupl {i : List D} : dBi .tuple (.list i) = some (.tuple i) := rfl
@[simp] theorem i_tupt {i : List D} : dBi .tuple (.tuple i) = some (.tuple i) := rfl
@[simp] theorem i_lstl {i : List D} : dBi .list (.list i) = some (.list i) := rfl
@[simp] theorem i_lstt {i : List D} : dBi .list (.tuple i) = some (.list i) := rfl
@[simp] theorem m_mx {a b : Int} : dMx (.int a) (.int b) = some (.int (if b > a then b else a)) := rfl
@[simp] theorem m_mn {a b : Int} : dMn (.int a) (.int b) = some (.int (if b < a then b else a)) := rfl
@[simp] theorem s_l {a : List D} {l h : Option Int} : dSl (.list a) l h = some (.list (cut a l h)) := rfl
@[simp] theorem s_t {a : List D} {l h : Option Int} : dSl (.tuple a) l h = some (.tuple (cut a l h)) := rfl
@[simp] theorem ix_l {a : List D} {i : Int} : dIx (.list a) (.int i) = L2.atI a i := rfl
@[simp] theorem ix_t {a : List D} {i : Int} : dIx (.tuple a) (.int i) = L2.atI a i := rfl
@[simp] theorem rv_l {a : List D} : dRev (.list a) = some (.list a.reverse) := rfl
@[simp] theorem rv_t {a : List D} : dRev (.tuple a) = some (.tuple a.reverse) := rfl
@[simp] theorem fr_rev {a : E} : E.fresh (.rev a) = true := rfl
@[simp] theorem it_l {a : List D} : items (.list a) = some a := rfl
@[simp] theorem it_t {a : List D} : items (.tuple a) = some a := rfl
@[simp] theorem bn_none {d : D} : bound? .none d = some none := rfl
@[simp] theorem ap_l {d : D} {xs : List D} : dApp d (.list xs) = if xs.length < LINE then some (.list (xs ++ [d])) else none := rfl
@[simp] theorem bp_nm {i : Nat} {d : D} {ρ : Env} : bindP (.nm i) d ρ = some (ρ.set i (.sh d)) := by unfold bindP; rfl
@[simp] theorem bp_tp {ps : Pats} {ds : List D} {ρ : Env} : bindP (.tp ps) (.tuple ds) ρ = bindPs ps ds ρ := by conv => { lhs; unfold bindP }
@[simp] theorem bps_nil {ρ : Env} : bindPs .nil [] ρ = some ρ := by unfold bindPs; rfl
@[simp] theorem bps_cons {p : Pat} {ps : Pats} {d : D} {ds : List D} {ρ : Env} : bindPs (.cons p ps) (d :: ds) ρ = (bindP p d ρ).bind fun ρ => bindPs ps ds ρ := by conv => { lhs; unfold bindPs }
@[simp] theorem c_lti {a b : Int} : dCmp .lt (.int a) (.int b) = some (decide (a < b)) := by
  show (if cmpOk (.int a) (.int b) = true then some (W.dataLt (.int a) (.int b)) else none) = _
  rw [if_pos (by rfl)]
  simp [PySem.W.dataLt_int, PyData.eqv, Bool.beq_eq_decide_eq, ← decide_not, Int.not_lt]
@[simp] theorem c_gti {a b : Int} : dCmp .gt (.int a) (.int b) = some (decide (b < a)) := by
  show (if cmpOk (.int a) (.int b) = true then some (W.dataLt (.int b) (.int a)) else none) = _
  rw [if_pos (by rfl)]
  simp [PySem.W.dataLt_int, PyData.eqv, Bool.beq_eq_decide_eq, ← decide_not, Int.not_lt]
@[simp] theorem c_lei {a b : Int} : dCmp .le (.int a) (.int b) = some (decide (a ≤ b)) := by
  show (if cmpOk (.int a) (.int b) = true then some (!W.dataLt (.int b) (.int a)) else none) = _
  rw [if_pos (by rfl)]
  simp [PySem.W.dataLt_int, PyData.eqv, Bool.beq_eq_decide_eq, ← decide_not, Int.not_lt]
@[simp] theorem c_gei {a b : Int} : dCmp .ge (.int a) (.int b) = some (decide (b ≤ a)) := by
  show (if cmpOk (.int a) (.int b) = true then some (!W.dataLt (.int a) (.int b)) else none) = _
  rw [if_pos (by rfl)]
  simp [PySem.W.dataLt_int, PyData.eqv, Bool.beq_eq_decide_eq, ← decide_not, Int.not_lt]
@[simp] theorem c_eqi {a b : Int} : dCmp .eq (.int a) (.int b) = some (decide (a = b)) := by
  show (if (sh (.int a) && sh (.int b)) = true then some (PyData.eqv (.int a) (.int b)) else none) = _
  rw [if_pos (by rfl)]
  simp [PySem.W.dataLt_int, PyData.eqv, Bool.beq_eq_decide_eq, ← decide_not, Int.not_lt]
@[simp] theorem c_nei {a b : Int} : dCmp .ne (.int a) (.int b) = some (!decide (a = b)) := by
  show (if (sh (.int a) && sh (.int b)) = true then some (!PyData.eqv (.int a) (.int b)) else none) = _
  rw [if_pos (by rfl)]
  rw [show PyData.eqv (.int a) (.int b) = (a == b) by simp [PyData.eqv], Bool.beq_eq_decide_eq]

@[simp] theorem slot_int {e : E} {i : Int} : slotOf e (.int i) = .sh (.int i) := by simp [slotOf, isMut]
@[simp] theorem slot_bool {e : E} {i : Bool} : slotOf e (.bool i) = .sh (.bool i) := by simp [slotOf, isMut]
@[simp] theorem slot_none {e : E} : slotOf e .none = .sh .none := by simp [slotOf, isMut]
@[simp] theorem slot_str {e : E} {i : Str} : slotOf e (.str i) = .sh (.str i) := by simp [slotOf, isMut]
@[simp] theorem slot_tup {e : E} {i : List D} : slotOf e (.tuple i) = .sh (.tuple i) := by simp [slotOf, isMut]
@[simp] theorem slot_lst {e : E} {i : List D} : slotOf e (.list i) = if e.fresh = true then .ow (.list i) else .sh (.list i) := by simp [slotOf, isMut]
@[simp] theorem fr_lst {es : Es} : E.fresh (.lst es) = true := rfl
@[simp] theorem fr_comp {a : List Nat} {b : Pat} {c : Src} {d e : E} : E.fresh (.comp a b c d e) = true := rfl
@[simp] theorem fr_comp2 {a a1 : List Nat} {b b1 : Pat} {c c1 : Src} {d d1 e : E} : E.fresh (.comp2 a a1 b c d b1 c1 d1 e) = true := rfl
@[simp] theorem fr_bin {o : Op2} {a b : E} : E.fresh (.bin o a b) = true := rfl
@[simp] theorem fr_sl {a b c : E} : E.fresh (.sl a b c) = true := rfl
@[simp] theorem fr_var {a : Nat} : E.fresh (.var a) = false := rfl
@[simp] theorem fr_ix {a b : E} : E.fresh (.ix a b) = false := rfl
@[simp] theorem fr_call {a : Nat} {b : Es} : E.fresh (.call a b) = false := rfl
@[simp] theorem fr_callw {a : Nat} {b : Es} : E.fresh (.callw a b) = false := rfl
@[simp] theorem fr_ife {a b c : E} : E.fresh (.ife a b c) = false := rfl
@[simp] theorem fr_sorted {a : E} : E.fresh (.bi .sorted a) = true := rfl
@[simp] theorem fr_list {a : E} : E.fresh (.bi .list a) = true := rfl
@[simp] theorem fr_blist {a : Src} : E.fresh (.bis .list a) = true := rfl
def frzAt (vs : List Nat) : Nat → Env → Env
  | _, [] => []
  | k, s :: ρ => (if vs.contains k = true then s.frz else s) :: frzAt vs (k + 1) ρ
def wipAt (vs : List Nat) : Nat → Env → Env
  | _, [] => []
  | k, s :: ρ => (if vs.contains k = true then Slot.no else s) :: wipAt vs (k + 1) ρ
theorem frz_at (vs : List Nat) : ∀ (k : Nat) (ρ : Env), (ρ.mapIdx fun i s => if vs.contains (i + k) then s.frz else s) = frzAt vs k ρ
  | k, [] => rfl
  | k, s :: ρ => by
    rw [List.mapIdx_cons, frzAt, ← frz_at vs (k + 1) ρ]
    simp only [Nat.zero_add, Nat.add_assoc, Nat.add_comm 1 k]
theorem wip_at (vs : List Nat) : ∀ (k : Nat) (ρ : Env), (ρ.mapIdx fun i s => if vs.contains (i + k) then Slot.no else s) = wipAt vs k ρ
  | k, [] => rfl
  | k, s :: ρ => by
    rw [List.mapIdx_cons, wipAt, ← wip_at vs (k + 1) ρ]
    simp only [Nat.zero_add, Nat.add_assoc, Nat.add_comm 1 k]
@[simp] theorem frz_cons {v : Nat} {vs : List Nat} {ρ : Env} : frz (v :: vs) ρ = frzAt (v :: vs) 0 ρ := frz_at (v :: vs) 0 ρ
@[simp] theorem wip_cons {v : Nat} {vs : List Nat} {ρ : Env} : wip (v :: vs) ρ = wipAt (v :: vs) 0 ρ := wip_at (v :: vs) 0 ρ
@[simp] theorem frzAt_nil {vs : List Nat} {k : Nat} : frzAt vs k [] = [] := rfl
@[simp] theorem frzAt_cons {vs : List Nat} {k : Nat} {s : Slot} {ρ : Env} : frzAt vs k (s :: ρ) = (if vs.contains k = true then s.frz else s) :: frzAt vs (k + 1) ρ := rfl
@[simp] theorem wipAt_nil {vs : List Nat} {k : Nat} : wipAt vs k [] = [] := rfl
@[simp] theorem wipAt_cons {vs : List Nat} {k : Nat} {s : Slot} {ρ : Env} : wipAt vs k (s :: ρ) = (if vs.contains k = true then Slot.no else s) :: wipAt vs (k + 1) ρ := rfl
@[simp] theorem sfrz_no : Slot.frz .no = .no := rfl
@[simp] theorem sfrz_sh {d : D} : Slot.frz (.sh d) = .sh d := rfl
@[simp] theorem sfrz_ow {d : D} : Slot.frz (.ow d) = .sh d := rfl
@[simp] theorem sfrz_fx {d : L2.V} : Slot.frz (.fx d) = .fx d := rfl
def mk1 : Slot → Slot → Slot
  | .no, _ => .no
  | _, b => b
@[simp] theorem mk_no {b : Slot} : mk1 .no b = .no := rfl
@[simp] theorem mk_sh {d : D} {b : Slot} : mk1 (.sh d) b = b := rfl
@[simp] theorem mk_ow {d : D} {b : Slot} : mk1 (.ow d) b = b := rfl
@[simp] theorem mk_fx {d : L2.V} {b : Slot} : mk1 (.fx d) b = b := rfl
@[simp] theorem mk_same {b : Slot} : mk1 b b = b := by cases b <;> rfl
@[simp] theorem msk_nil {ρ0 : Env} : msk ρ0 [] = [] := rfl
@[simp] theorem msk_cons {a b : Slot} {ρ0 ρ : Env} : msk (a :: ρ0) (b :: ρ) = mk1 a b :: msk ρ0 ρ := by
  unfold msk
  rw [List.mapIdx_cons]
  simp only [List.getElem?_cons_zero, List.getElem?_cons_succ]
  cases a <;> rfl

@[simp] theorem ints_map : ∀ ms : List Int, ints? (ms.map .int) = some ms
  | [] => rfl
  | m :: ms => by simp [ints?, ints_map ms]
@[simp] theorem i_sum {ms : List Int} : dBi .sum (.list (ms.map .int)) = some (.int ms.sum) := by simp [dBi]

/-! loops -/
theorem forL_ind {g : D → Env → Option Fl} {ρ0 : Env} (I : Nat → Env → Prop) {xs : List D} (step : ∀ i x ρ, xs[i]? = some x → I i ρ → ∃ ρ', g x ρ = some (.nx ρ') ∧ I (i + 1) (msk ρ0 ρ')) : ∀ {ρ : Env}, I 0 ρ → ∃ ρ', forL optM g ρ0 xs ρ = some (.nx ρ') ∧ I xs.length ρ' := by
  induction xs generalizing I with
  | nil => exact fun {ρ} h => ⟨ρ, by unfold forL; rfl, h⟩
  | cons x xs ih =>
    intro ρ h
    obtain ⟨ρ', e, h'⟩ := step 0 x ρ rfl h
    obtain ⟨ρ'', e2, h''⟩ := ih (fun i ρ => I (i + 1) ρ) (fun i y ρ hy hI => step (i + 1) y ρ (by simpa using hy) hI) h'
    refine ⟨ρ'', ?_, h''⟩
    unfold forL
    rw [o_bind, e]
    exact e2
theorem wBody_go {C : Nat → Option D} {F G : Nat → List D → Option D} {t : E} {b : Ss} {ρ0 ρ ρ' : Env} (h : ev optM C F G t ρ = some (.bool true)) (h2 : exs optM C F G b ρ = some (.nx ρ')) : wBody C F G t b ρ0 ρ = some (.inl (frz (esc true t) (msk ρ0 ρ'))) := by
  unfold wBody whlStep
  simp [h, h2]
theorem wBody_rt {C : Nat → Option D} {F G : Nat → List D → Option D} {t : E} {b : Ss} {ρ0 ρ : Env} {d : D} (h : ev optM C F G t ρ = some (.bool true)) (h2 : exs optM C F G b ρ = some (.rt d)) : wBody C F G t b ρ0 ρ = some (.inr (.rt d)) := by
  unfold wBody whlStep
  simp [h, h2]
theorem wBody_end {C : Nat → Option D} {F G : Nat → List D → Option D} {t : E} {b : Ss} {ρ0 ρ : Env} (h : ev optM C F G t ρ = some (.bool false)) : wBody C F G t b ρ0 ρ = some (.inr (.nx ρ)) := by
  unfold wBody whlStep
  simp [h]
theorem compL_map {g : D → Option (Option D)} {xs : List D} {f : D → Option D} (h : ∀ x ∈ xs, g x = some (f x)) : compL optM g xs = some (xs.filterMap f) := by
  induction xs with
  | nil => unfold compL; rfl
  | cons x xs ih =>
    unfold compL
    rw [o_bind, h x (by simp), ih fun y hy => h y (by simp [hy])]
    cases hf : f x <;> simp [hf]
end PV

set_option maxHeartbeats 4000000
/-! PV: the law's own draws: what _law_draws reckons. -/
namespace PV
open PySem PyProof.Rows L2 RZ

abbrev EM (o : Op2) (a b : E) : E := .bin o a b
def dr997 (e : E) : E := .bin .mod e (.int 997)
def drPre : Ss := .cons (.asg 2 (.lst .nil)) (.cons (.asg 3 (.int 7)) .nil)
def drB7 : Ss := .cons (.ite (.cmp .gt (.var 6) (.int 0)) (.cons (.app 2 (dr997 (.bi .int (.var 6)))) (.cons (.asg 6 (.bin .fdiv (.var 6) (.int 997))) .nil)) .nil) .nil
def drFor : S := .for_ (.nm 7) (.r1 (.int 60)) drB7
def drIf : S := .ite (.cmp .ge (.var 5) (.bin .pow (.int 10) (.int 18))) (.cons (.asg 6 (.var 5)) .nil)
  (.cons (.app 2 (dr997 (.bi .int (.var 5)))) (.cons (.app 2 (dr997 (.bin .mod (.bi .int (.bin .add (.bin .mul (.var 3) (.int 69621)) (.int 5))) (.int 65521)))) .nil))
def drBody : Ss := .cons (.asg 3 (.bin .mod (.bi .int (.bin .add (.bin .add (.bin .mul (.var 3) (.int 48271)) (.bin .mod (.var 5) (.int 1000003))) (.var 4))) (.int 65537)))
  (.cons (.asg 6 (.int 0)) (.cons drIf (.cons drFor .nil)))
def drB4 : Ss := .cons (.asg 3 (.bin .mod (.bi .int (.bin .add (.bin .add (.bin .mul (.var 3) (.int 16807)) (.var 4)) (.int 1))) (.int 65537))) (.cons (.app 2 (dr997 (.bi .int (.var 3)))) .nil)
def drPost : Ss := .cons (.for_ (.nm 4) (.r1 (.var 1)) drB4)
  (.cons (.ret (.sl (.var 2) .none (.var 1))) .nil)
def drE (v : V) (n : Int) (ds : List Int) (s3 s4 s5 s6 s7 : Slot) : Env := [.fx v, .sh (.int n), .ow (.list (ds.map .int)), s3, s4, s5, s6, s7]
section
variable {C : Nat → Option D} {F G : Nat → List D → Option D}
theorem sm (i : Int) (j : Int) (h : small64 j = true) : (small64 i || small64 j) = true := by rw [h, Bool.or_true]
theorem dr_for (v : V) (n : Int) (s3 s4 s5 s7 : Slot) (r : Int) (ds : List Int) (h : ds.length + 60 ≤ LINE) : ∃ (ds' : List Int) (r' : Int) (s7' : Slot), ex optM C F G drFor (drE v n ds s3 s4 s5 (.sh (.int r)) s7) = some (.nx (drE v n ds' s3 s4 s5 (.sh (.int r')) s7')) ∧ ds'.length ≤ ds.length + 60 := by
  have hok : okR 0 60 = true := by decide
  have key := forL_ind (g := fBody C F G (.nm 7) drB7)
    (ρ0 := drE v n ds s3 s4 s5 (.sh (.int r)) s7) (xs := rng 0 60) (fun i ρ => ∃ (ds' : List Int) (r' : Int) (s7' : Slot), ρ = drE v n ds' s3 s4 s5 (.sh (.int r')) s7' ∧ ds'.length ≤ ds.length + i) ?_ (ρ := drE v n ds s3 s4 s5 (.sh (.int r)) s7) ⟨ds, r, s7, rfl, by omega⟩
  · obtain ⟨ρ', e, ds', r', s7', rfl, hl⟩ := key
    refine ⟨ds', r', s7', ?_, by simpa [rng] using hl⟩
    unfold drFor
    rw [x_for]
    simp only [oS_r1, o_int, Option.bind_some, int_int, hok, if_true, escF, esc, frz_nil]
    exact e
  · rintro i x ρ hx ⟨ds', r', s7', rfl, hl⟩
    have hi := (rng_get hx).1
    have hl2 : ds'.length < LINE := by simp at hi; omega
    by_cases hr : 0 < r'
    · refine ⟨_, by simp [fBody, drB7, drE, dr997, esc, hr, hl2]; rfl, ds' ++ [r'.fmod 997], r'.fdiv 997, _, by simp [drE]; rfl, by simp; omega⟩
    · refine ⟨_, by simp [fBody, drB7, drE, dr997, esc, hr]; rfl, ds', r', _, by simp [drE]; rfl, by omega⟩
theorem dr_body (v : V) (n m k c : Int) (s6 s7 : Slot) (ds : List Int) (h : ds.length + 62 ≤ LINE) : ∃ (ds' : List Int) (m' : Int) (s6' s7' : Slot), exs optM C F G drBody (drE v n ds (.sh (.int m)) (.sh (.int k)) (.sh (.int c)) s6 s7) = some (.nx (drE v n ds' (.sh (.int m')) (.sh (.int k)) (.sh (.int c)) s6' s7')) ∧ ds'.length ≤ ds.length + 62 := by
  have h1 : small64 48271 = true := by decide
  have h2 : small64 69621 = true := by decide
  have h3 : dBin .pow (.int 10) (.int 18) = some (.int 1000000000000000000) := by
    show (if (0 : Int) ≤ 18 ∧ (18 : Int) ≤ 1000000 ∧ (10 : Int).natAbs < 18446744073709551616 then some (PyData.int (10 ^ (18 : Int).toNat)) else none) = _
    rw [if_pos (by decide)]
    rfl
  have l1 : ds.length < LINE := by omega
  have l2 : ds.length + 1 < LINE := by omega
  generalize hm : (m * 48271 + c.fmod 1000003 + k).fmod 65537 = m2
  have h4 : small64 m2 = true ∨ True := .inr trivial
  by_cases hc : 1000000000000000000 ≤ c
  · obtain ⟨ds', r', s7', e, hl⟩ := dr_for (C := C) (F := F) (G := G) v n (.sh (.int m2)) (.sh (.int k)) (.sh (.int c)) s7 c ds (by omega)
    refine ⟨ds', m2, .sh (.int r'), s7', ?_, by omega⟩
    unfold drBody drIf
    simp only [drE] at e
    simp [drE, dr997, esc, h1, h2, h3, hm, hc, l1, l2, e]
  · obtain ⟨ds', r', s7', e, hl⟩ := dr_for (C := C) (F := F) (G := G) v n (.sh (.int m2)) (.sh (.int k)) (.sh (.int c)) s7 0 (ds ++ [c.fmod 997, ((m2 * 69621 + 5).fmod 65521).fmod 997]) (by simp; omega)
    refine ⟨ds', m2, .sh (.int r'), s7', ?_, by simp at hl; omega⟩
    unfold drBody drIf
    simp only [drE] at e
    simp [drE, dr997, esc, h1, h2, h3, hm, hc, l1, l2] at e ⊢
    simp [e]
theorem dr_post (v : V) (n m : Int) (s4 s5 s6 s7 : Slot) (ds : List Int) (hn : 0 ≤ n ∧ n ≤ 1000) (h : ds.length + 1000 ≤ LINE) : ∃ (ds' : List Int), exs optM C F G drPost (drE v n ds (.sh (.int m)) s4 s5 s6 s7) = some (.rt (.list (ds'.map .int))) := by
  have h1 : small64 16807 = true := by decide
  have hok : okR 0 n = true := by unfold okR LINE; exact decide_eq_true (by omega)
  have key := forL_ind (g := fBody C F G (.nm 4) drB4)
    (ρ0 := drE v n ds (.sh (.int m)) s4 s5 s6 s7) (xs := rng 0 n) (fun i ρ => ∃ (ds' : List Int) (m' : Int) (s4' : Slot), ρ = drE v n ds' (.sh (.int m')) s4' s5 s6 s7 ∧ ds'.length ≤ ds.length + i) ?_ (ρ := drE v n ds (.sh (.int m)) s4 s5 s6 s7) ⟨ds, m, s4, rfl, by omega⟩
  · obtain ⟨ρ', e, ds', m', s4', rfl, hl⟩ := key
    refine ⟨cut ds' none (some n), ?_⟩
    unfold drPost
    simp only [xs_cons, x_for, oS_r1, o_int, o_var, Option.bind_some, int_int, hok, if_true, escF, esc, frz_nil]
    simp only [drE, getV_0, getV_s, val_sh, Option.bind_some, int_int, hok, if_true] at e ⊢
    rw [e]
    simp [esc, bound?, cut, List.map_take, List.map_drop]
  · rintro i x ρ hx ⟨ds', m', s4', rfl, hl⟩
    obtain ⟨hi, rfl⟩ := rng_get hx
    have hl2 : ds'.length < LINE := by omega
    refine ⟨_, by simp [fBody, drB4, drE, dr997, esc, hl2, h1]; rfl, ds' ++ [_], _, _, by simp [drE]; exact ⟨rfl, rfl, rfl⟩, by simp; omega⟩
end
end PV

set_option maxHeartbeats 4000000
/-! PV: _law_draws walked. -/
namespace PV
open PySem PyProof.Rows L2 RZ

theorem Sim.fixAt {K : Fw} {w : Wp} {iw : Nat} {O0 O : List Addr} {H0 H : Hp} {σ : L2.St} {ρ : Env} (S : Sim K w iw O0 H0 O H σ ρ) {i : Nat} {v : V} (h : σ[i]? = some (some v)) (hi : w = none ∨ i ≠ iw) : Sim K w iw O0 H0 O H σ (ρ.set i (.fx v)) := by
  have get : ∀ {j : Nat} {s : Slot}, (ρ.set i (.fx v))[j]? = some s → (j = i ∧ s = .fx v) ∨ (j ≠ i ∧ ρ[j]? = some s) := fun {j s} h => by
    by_cases e : i = j
    · subst e
      by_cases hl : i < ρ.length
      · rw [List.getElem?_set_self hl] at h
        exact .inl ⟨rfl, (Option.some.inj h).symm⟩
      · rw [List.getElem?_eq_none (by simpa using hl)] at h
        cases h
    · rw [List.getElem?_set_ne e] at h
      exact .inr ⟨fun z => e z.symm, h⟩
  refine ⟨by simp [S.len], fun j s hj => ?_, fun j l d1 d2 p a b c e => ?_, S.dom, S.dom0, S.sub, S.fresh, S.ent, S.w0, S.wO, fun t ht => ?_, fun j d p a b => ?_⟩
  · rcases get hj with ⟨rfl, rfl⟩ | ⟨_, hj⟩
    · show σ[j]?.join = some v
      rw [h]
      rfl
    · exact S.slot j s hj
  · rcases get a with ⟨_, z⟩ | ⟨_, a⟩
    · cases z
    · rcases get b with ⟨_, z⟩ | ⟨_, b⟩
      · cases z
      · exact S.inj j l d1 d2 p a b c e
  · rcases hi with z | z
    · rw [ht] at z; cases z
    · refine ⟨(S.wS t ht).1, ?_⟩
      rw [List.getElem?_set_ne z]
      exact (S.wS t ht).2
  · rcases get a with ⟨_, z⟩ | ⟨_, a⟩
    · cases z
    · exact S.own j d p a b
theorem Sim.fxv {K : Fw} {w : Wp} {iw : Nat} {O0 O : List Addr} {H0 H : Hp} {σ : L2.St} {ρ : Env} (S : Sim K w iw O0 H0 O H σ ρ) {i : Nat} {v : V} (h : ρ[i]? = some (.fx v)) : σ[i]? = some (some v) := join_some (S.slot i _ h)
/-- a statement whose reckoning is known -/
theorem tS_of {P : Pm} {K : Fw} {F G : Nat → List D → Option D} (hF : ∀ n ds, Gv (F n ds) (P.F n ds)) (hG : ∀ n ds, Gv (G n ds) (P.G n ds)) {s : S} {O0 O : List Addr} {H0 H : Hp} {σ : L2.St} {ρ : Env} {De : Ends} {f : Fl} (Sm : Sim K P.w P.iw O0 H0 O H σ ρ)
    (e : ex optM P.C F G s ρ = some f) (h : EndOk P K O0 H0 O H De f) : tS P K (P.ex s) De σ H :=
  ⟨O0, H0, O, ρ, fun g => g = f, Sm, gv_ex hF hG s ρ f e _ rfl, fun g hg => by rw [hg]; exact h⟩
theorem tSs_of {P : Pm} {K : Fw} {F G : Nat → List D → Option D} (hF : ∀ n ds, Gv (F n ds) (P.F n ds)) (hG : ∀ n ds, Gv (G n ds) (P.G n ds)) {s : Ss} {O0 O : List Addr} {H0 H : Hp} {σ : L2.St} {ρ : Env} {De : Ends} {f : Fl} (Sm : Sim K P.w P.iw O0 H0 O H σ ρ)
    (e : exs optM P.C F G s ρ = some f) (h : EndOk P K O0 H0 O H De f) : tS P K (P.exs s) De σ H :=
  ⟨O0, H0, O, ρ, fun g => g = f, Sm, gv_exs hF hG s ρ f e _ rfl, fun g hg => by rw [hg]; exact h⟩
def spDraws (K : PySem.W.Frag) : Sp := fun vs H Q _ => ∃ (a : Addr) (n : Int) (ns : List Int) (O : List Addr), vs = [.ref a, .int n] ∧ (0 ≤ n ∧ n ≤ 1000) ∧ ns.length ≤ 63 ∧ Dm O H ∧ SqL K (hid O H) a (ns.map .int) ∧
  ∀ (ms : List Int) (p : Addr) (H' : Hp), Le H H' → H' p = some (.lst (ms.map .int)) → p ∉ O → Q (.ref p) H'
def drN (m : Str) : List Str := ["script", "many", "draws", m, "k", "cell", "rest", "turn"]
def P0 : Pm := ⟨fun _ => none, fun _ _ _ => False, fun _ _ _ => False, none, 0⟩
theorem gv_none {α : Type} {x : W α} : Gv (none : Option α) x := fun a h => by cases h
def drSc (sc : Scope) (m : Str) : Bool := isLoc sc "script" && isLoc sc "k" && isLoc sc "cell" && (sc.names.lookup ("len" : Str) == some .globalImplicit) && (sc.names.lookup ("int" : Str) == some .globalImplicit) && (sc.names.lookup ("abs" : Str) == some .globalImplicit) && (sc.names.lookup ("range" : Str) == some .globalImplicit)
section
variable {PG : Program} {W0 : World} {K : PySem.W.Frag} {mg : Str → Option Value} {base : Heap} {k : Nat}
theorem ok_draws {st s0 s1 : Stmt} {bd post : List Stmt} {f : Addr} {fd : FuncData} {m : Str} {q1 q2 q3 q4 q5 q6 q7 q8 q9 q10 q11 q12 q13 q14 q15 q16 : Pos} (F : Fun K "_law_draws" "_law_draws" st f fd) (S : FnScope (drN m) ["script", "many"] (defScope st))
    (hb : defBody st = s0 :: s1 :: .For (.Name "k" q1) (.Call (.Name "range" q2) [.Call (.Name "len" q3) [.Name "script" q4] [] q5] [] q6) (.Assign [.Name "cell" q7] (.Call (.Name "abs" q8) [.Call (.Name "int" q9) [.Subscript (.Name "script" q10) (.Name "k" q11) q12] [] q13] [] q14) q15 :: bd) [] q16 :: post)
    (hs : drSc (defScope st) m = true) (c0 : chkSs ⟨drN m, defScope st, defScope st, 0, [], []⟩ drPre [s0, s1] = true) (c1 : chkSs ⟨drN m, defScope st, defScope st, 0, [], []⟩ drBody bd = true) (c2 : chkSs ⟨drN m, defScope st, defScope st, 0, [], []⟩ drPost post = true)
    (hm : ∀ x ∈ bltN, mg x = none) : FnOk PG W0 K mg base CX0 (k + 1) f fd ["script", "many"] (spDraws K) := by
  unfold drSc at hs
  simp only [Bool.and_eq_true, beq_iff_eq] at hs
  obtain ⟨⟨⟨⟨⟨⟨t1, t2⟩, t3⟩, t4⟩, t5⟩, t6⟩, t7⟩ := hs
  have md : Md PG W0 K mg base P0 [] [] k := ⟨hm, fun _ _ _ _ h => (by cases h), fun _ _ _ h => (by cases h), fun _ _ h => (by cases h)⟩
  refine F.ok S (fun vs H Q E h => by obtain ⟨a, n, ns, O, rfl, _⟩ := h; rfl) (fun cdv A outer s H vs Q E hr h => ?_)
  obtain ⟨a, n, ns, O, rfl, hn, hl, dm, hq, q⟩ := h
  have g := md.gd (E := E) (H := H) (outer := outer) (N := drN m) S hr
  have sim := sim_start (W0 := W0) (K := K) (w := none) (iw := 0) (O := O) (H := H) (N := drN m) (vs := [.ref a, .int n]) (ds := [.int n]) (pre := [.no]) (by simp [drN]) dm trivial (fun a h => by obtain ⟨t, ht, _⟩ := h; cases ht) (fun _ h => by simpa using h) (.cons (.int n) .nil) (by simp) (fun t ht => by cases ht)
  have sim := sim.fixAt (i := 0) (v := .ref a) rfl (.inl rfl)
  have sim : Sim ⟨K, W0⟩ P0.w P0.iw O H O H (L2.start (drN m) [.ref a, .int n]) [.fx (.ref a), .sh (.int n), .no, .no, .no, .no, .no, .no] := sim
  have hGl : ∀ {x : Str}, (defScope st).names.lookup x = some .globalImplicit → isGl ⟨drN m, defScope st, defScope st, P0.iw, [], []⟩ x = true := fun {x} h => by
    unfold isGl
    rw [h]
    rfl
  have hc0 := c0
  unfold drPre chkSs at hc0
  rw [Bool.and_eq_true] at hc0
  obtain ⟨k0, hc0⟩ := hc0
  unfold chkSs at hc0
  rw [Bool.and_eq_true] at hc0
  obtain ⟨k1, _⟩ := hc0
  have pS : ∀ p, PE (cxOf CX0 PG W0 K mg base (drN m) "_law_draws" (defScope st) f cdv A outer s H E).nox (.Name "script" p) (tVar 0) := fun p => pe_var rfl (visB t1)
  have pK : ∀ p, PE (cxOf CX0 PG W0 K mg base (drN m) "_law_draws" (defScope st) f cdv A outer s H E).nox (.Name "k" p) (tVar 4) := fun p => pe_var rfl (visB t2)
  have loc : ∀ {x : Str}, isLoc (defScope st) x = true → Loc (defScope st) x := fun {x} h => by
    unfold isLoc at h
    rw [Bool.or_eq_true, beq_iff_eq, beq_iff_eq] at h
    exact h
  rw [hb]
  refine ⟨_, pss_cons (sSt g S.kind rfl PassesOwn.never _ k0) (pss_cons (sSt g S.kind rfl PassesOwn.never _ k1) (pss_cons
    (ps_for PassesOwn.never rfl (pi_range1 (g.gl (hGl t7)) (g.blt _ (by decide)) (pa_cons (pe_callB call_len_seq (g.gl (hGl t4)) (g.blt _ (by decide)) rfl (pa_cons (pS _) pa_nil)) pa_nil)) (pg_name (i := 4) S.nd rfl (loc t2) (.inl rfl))
      (pss_cons (ps_set (i := 5) S.nd rfl (loc t3) (pe_callB bi_abs (g.gl (hGl t6)) (g.blt _ (by decide)) rfl (pa_cons (pe_callTy bi_int (g.gl (hGl t5)) (g.blt _ (by decide)) rfl (pa_cons (pe_ix ix_list (pS _) (pK _) (fun _ _ => rfl)) pa_nil)) pa_nil)) rfl (.inl rfl)) (sSs g S.kind rfl PassesOwn.never drBody c1)))
    (sSs g S.kind rfl PassesOwn.never drPost c2))), ?_⟩
  have nn : ∀ (x : Nat) (ds : List D), Gv (none : Option D) ((fun _ _ _ => False : Nat → List D → W D) x ds) := fun _ _ => gv_none
  refine tS_of (F := fun _ _ => none) (G := fun _ _ => none) nn nn (f := .nx [.fx (.ref a), .sh (.int n), .ow (.list []), .no, .no, .no, .no, .no]) sim (by simp [esc, escs]) (fun O1 σ1 H1 S1 kp1 => ?_)
  refine tS_of (F := fun _ _ => none) (G := fun _ _ => none) nn nn (f := .nx [.fx (.ref a), .sh (.int n), .ow (.list []), .sh (.int 7), .no, .no, .no, .no]) S1 (by simp [esc]) (fun O2 σ2 H2 S2 kp2 => ?_)
  have kp0 := kp1.trans kp2
  have hq2 : ∀ {O' H'}, Kp O H O' H' → SqL K H' a (ns.map .int) := fun {O' H'} kp => (hid_le O' H').sl (kp.sl hq)
  refine ⟨.ref a, S2.fxv rfl, a, ns.map .int, rfl, .inl (hq2 kp0), (ns.map V.int).length, rfl, by rw [List.length_map]; omega, by rw [List.length_map]; omega, ?_⟩
  refine ⟨fun i j σ' H' => i + j = ns.length ∧ ∃ O' ds m' s4 s5 s6 s7, Sim ⟨K, W0⟩ P0.w P0.iw O H O' H' σ' (drE (.ref a) n ds (.sh (.int m')) s4 s5 s6 s7) ∧ Kp O H O' H' ∧ ds.length ≤ 62 * i, ⟨ns.length, by omega, O2, [], 7, .no, .no, .no, .no, S2, kp0, by simp⟩, fun i j σ' H' hW => ?_⟩
  obtain ⟨hij, O', ds, m', s4, s5, s6, s7, S', kp', hds⟩ := hW
  by_cases hi : i < ns.length
  · refine .inr ⟨by show i < (((ns.map V.int).length : Nat) : Int).toNat; simp; exact hi, fun σ3 H3 => ∃ O' ds m' s4 s5 s6 s7, Sim ⟨K, W0⟩ P0.w P0.iw O H O' H3 σ3 (drE (.ref a) n ds (.sh (.int m')) s4 s5 s6 s7) ∧ Kp O H O' H3 ∧ ds.length ≤ 62 * (i + 1), fun σ3 H3 hN => ⟨j - 1, by omega, by omega, hN⟩, fun x H'' hy => ?_⟩
    obtain ⟨rfl, rfl⟩ := hy
    have Sa := S'.setSh (i := 4) (v := .int (0 + i)) (d := .int (0 + i)) (.int _) (by decide)
    have e0 : (σ'.set 4 (some (.int (0 + (i : Int)))))[0]? = some (some (.ref a)) := Sa.fxv rfl
    have hlen := S'.len
    have e4 : (σ'.set 4 (some (.int (0 + (i : Int)))))[4]? = some (some (.int (0 + i))) := List.getElem?_set_self (by rw [hlen]; simp [drE])
    have hat : atI (ns.map V.int) (0 + (i : Int)) = some (.int ns[i]) := by
      rw [Int.zero_add]
      exact atI_nat (by rw [List.getElem?_map, List.getElem?_eq_getElem hi]; rfl)
    refine ⟨.ref a, e0, .int (0 + i), e4, a, ns.map .int, 0 + i, .int ns[i], rfl, rfl, hq2 kp', hat, [], .int ns[i], .int ns[i], .int ns[i], rfl, (fun _ h => by cases h), .inl (.int _), rfl, fun v H1 le1 rp1 _ => ?_⟩
    cases rp1
    refine ⟨[], .int ns[i], .int ns[i], .int (if ns[i] < 0 then -ns[i] else ns[i]), rfl, (fun _ h => by cases h), .inl (.int _), rfl, fun v H3 le2 rp2 _ => ?_⟩
    cases rp2
    have ex2 : Ext P0.w H'' H3 := Ext.of_le S'.wok (le1.trans le2)
    have Sb := (Sa.ext ex2).setSh (i := 5) (v := .int (if ns[i] < 0 then -ns[i] else ns[i])) (d := .int (if ns[i] < 0 then -ns[i] else ns[i])) (.int _) (by decide)
    have kp3 := kp'.trans (S'.kp ex2)
    obtain ⟨ds', m2, s6', s7', e, hd2⟩ := dr_body (C := P0.C) (F := fun _ _ => none) (G := fun _ _ => none) (.ref a) n m' (0 + i) (if ns[i] < 0 then -ns[i] else ns[i]) s6 s7 ds (by unfold LINE; omega)
    refine tSs_of (F := fun _ _ => none) (G := fun _ _ => none) nn nn Sb e (fun O4 σ4 H4 S4 kp4 => ?_)
    exact ⟨O4, ds', m2, _, _, s6', s7', S4, kp3.trans kp4, by omega⟩
  · refine .inl ⟨by show (((ns.map V.int).length : Nat) : Int).toNat ≤ i; simp; omega, ?_⟩
    obtain ⟨ms, e⟩ := dr_post (C := P0.C) (F := fun _ _ => none) (G := fun _ _ => none) (.ref a) n m' s4 s5 s6 s7 ds hn (by unfold LINE; omega)
    refine tSs_of (F := fun _ _ => none) (G := fun _ _ => none) nn nn S' e (fun v H3 r ex3 => ?_)
    cases r with
    | @lst p xs _ hp rr =>
      have hx := rr.ints (ints_map ms)
      subst hx
      exact q ms p H3 (fun b o hbo => ex3.1 b o (fun z => by obtain ⟨t, ht, _⟩ := z; cases ht) hbo) (hid_le _ _ _ _ hp) (hid_out hp)
end
end PV

set_option maxHeartbeats 4000000
/-! PV: the law's own def. -/
namespace PV
open PySem PyProof.Rows L2 RZ

def spLaw (K : PySem.W.Frag) : Sp := fun vs H Q _ => ∃ (a : Addr) (ns : List Int), vs = [.ref a] ∧ SqL K H a (ns.map .int) ∧ ns.length ≤ 63 ∧ ∀ H', Q (.bl true) H'
def lawSc (sc : Scope) : Bool := isLoc sc "script" && isLoc sc "w" && (sc.names.lookup ("_law_draws" : Str) == some .globalImplicit)
section
variable {PG : Program} {W0 : World} {K : PySem.W.Frag} {mg : Str → Option Value} {base : Heap} {k : Nat}
theorem ok_law {C : Nat → Option D} {F' G' : Nat → List D → W D} {fs : List (Nat × Str × Nat × Bool)} {gl : List (Nat × Str)} {N : List Str} {iw : Nat} (m : ∀ t, Md PG W0 K mg base ⟨C, F', G', some t, iw⟩ fs gl k) {st : Stmt} {rest : List Stmt} {f : Addr} {fd : FuncData} {n : Int} {q1 q2 q3 q4 q5 q6 q7 q8 q9 q10 : Pos}
    (F : Fun K "law" "law" st f fd) (S : FnScope N ["script"] (defScope st)) (hN0 : N[0]? = some ("script" : Str)) (hNw : N[iw]? = some ("w" : Str)) (hn : 0 ≤ n ∧ n ≤ 1000)
    (hb : defBody st = .Assign [.Name "w" q1] (.Dict [some (.Constant (.str "draws") 0 q2), some (.Constant (.str "at") 0 q3)] [.Call (.Name "_law_draws" q4) [.Name "script" q5, .Constant (.int n) 0 q6] [] q7, .Constant (.int 0) 0 q8] q9) q10 :: rest)
    (hs : lawSc (defScope st) = true) {b : Ss} (hc : chkSs ⟨N, defScope st, defScope st, iw, fs, gl⟩ b rest = true)
    {fa : Addr} {fad : FuncData} (hga : mg "_law_draws" = some (.ref fa)) (hka : PySem.W.keepIn K (.ref fa) = true) (hba : Binds K fad ["script", "many"] []) (Fa : FnOk PG W0 K mg base CX0 k fa fad ["script", "many"] (spDraws K))
    (hlaw : exs wM C F' G' b (List.replicate N.length Slot.no) fun g => g = .rt (.bool true)) : FnOk PG W0 K mg base CX0 (k + 1) f fd ["script"] (spLaw K) := by
  unfold lawSc at hs
  simp only [Bool.and_eq_true, beq_iff_eq] at hs
  obtain ⟨⟨t1, t2⟩, t3⟩ := hs
  have t2 : Loc (defScope st) "w" := by
    unfold isLoc at t2
    rw [Bool.or_eq_true, beq_iff_eq, beq_iff_eq] at t2
    exact t2
  refine F.ok S (fun vs H Q E h => by obtain ⟨a, ns, rfl, _⟩ := h; rfl) (fun cdv A outer s H vs Q E hr h => ?_)
  obtain ⟨a, ns, rfl, hq, hl, q⟩ := h
  rw [hb]
  -- the dict that is made is known behind the first statement alone
  refine ⟨tSeq (tAsg (tDisp [(tC (.str "draws"), tCall (spDraws K) [] E0 (tCons (tVar 0) (tCons (tC (.int n)) tNil))), (tC (.str "at"), tC (.int 0))]) (gName iw)) (fun De σ H => ∃ t, tS ⟨C, F', G', some t, iw⟩ ⟨K, W0⟩ (exs wM C F' G' b) De σ H), ?_, ?_⟩
  · refine pss_cons (ps_set S.nd hNw t2 (pe_disp (pps_cons pe_str (pe_call (dvs := []) (E := E0) Fa hr t3 hga hka hba .nil pass0 (pa_cons (pe_var hN0 (visB t1)) (pa_cons pe_int pa_nil))) (pps_cons pe_str pe_int pps_nil)) rfl rfl (by simp) (by simp)) rfl (.inl rfl)) ?_
    exact ⟨fun pins s' σ H1 De I h => by
      obtain ⟨t, h⟩ := h
      exact (sSs ((m t).gd S hr) S.kind rfl PassesOwn.never b hc).run pins s' σ H1 De I h⟩
  · have hiw : iw < N.length := (List.getElem?_eq_some_iff.mp hNw).1
    have h0N : 0 < N.length := (List.getElem?_eq_some_iff.mp hN0).1
    have hst : (L2.start N [.ref a]).length = N.length := start_len (by simp; omega)
    intro p hp
    have e1 : (upd H p (.dK [])) p = some (.dK []) := by simp [upd]
    refine ⟨.ref a, start_get rfl, ?_⟩
    refine ⟨a, n, ns, [p], rfl, hn, hl, fun x hx => ?_, ?_, fun ms pd H1 le hpd hno => ?_⟩
    · have : x = p := by simpa using hx
      subst this
      rw [e1]
      simp
    · refine Le.sl (fun x o h => ?_) hq
      have ne : x ≠ p := fun z => by subst z; rw [hp] at h; cases h
      exact hid_in (by simpa using ne) (by rw [upd_ne ne]; exact h)
    · have hH1 : H1 p = some (.dK []) := le _ _ e1
      refine ⟨hH1, [(.inr "draws", .ref pd), (.inr "at", .int 0)], rfl, by simp, ?_⟩
      have nda : ¬ (Str.ofString "draws" = Str.ofString "at") := by decide
      have em : mergeK [] [(Sum.inr (Str.ofString "draws"), V.ref pd), (Sum.inr (Str.ofString "at"), V.int 0)] = [(Sum.inr (Str.ofString "draws"), V.ref pd), (Sum.inr (Str.ofString "at"), V.int 0)] := by
        simp [mergeK, putK, nda]
      rw [em]
      generalize hH2 : upd H1 p (.dK [(Sum.inr (Str.ofString "draws"), V.ref pd), (Sum.inr (Str.ofString "at"), V.int 0)]) = H2
      have npd : pd ≠ p := fun z => hno (by simp [z])
      have w1 : H2 p = some (.dK [(Sum.inr (Str.ofString "draws"), V.ref pd), (Sum.inr (Str.ofString "at"), V.int 0)]) := by rw [← hH2]; simp [upd]
      have w2 : H2 pd = some (.lst (ms.map .int)) := by rw [← hH2, upd_ne npd]; exact hpd
      have wk : WOk (some (p, pd, ms)) H2 := ⟨0, by omega, w1, w2⟩
      refine ⟨(p, pd, ms), [p], H2, [p], List.replicate N.length Slot.no, _, ⟨by simp [hst], fun i sl h => ?_, fun i j d d' x h => ?_, fun x hx => ?_, fun x hx => ?_, fun _ h => h, fun _ h => .inl h, Ext.refl wk, wk, fun x hx => ?_, fun t ht => ?_, fun i d x h => ?_⟩, hlaw, fun g hg => ?_⟩
      · have := (List.mem_replicate.mp (List.mem_of_getElem? h)).2
        subst this
        trivial
      · have := (List.mem_replicate.mp (List.mem_of_getElem? h)).2
        cases this
      · have : x = p := by simpa using hx
        subst this
        rw [w1]
        simp
      · have : x = p := by simpa using hx
        subst this
        rw [w1]
        simp
      · obtain ⟨t, ht, rfl⟩ := hx
        cases ht
        simp
      · cases ht
        refine ⟨List.getElem?_set_self (by rw [hst]; exact hiw), ?_⟩
        rw [List.getElem?_replicate, if_pos hiw]
      · have := (List.mem_replicate.mp (List.mem_of_getElem? h)).2
        cases this
      · subst hg
        intro v H' r _
        cases r
        exact q H'
end
end PV

set_option maxHeartbeats 4000000
/-! PV: the table of a law's defs; data of a known make. -/
namespace PV
open PySem PyProof.Rows L2 RZ

/-- the def x stands behind the top -/
def Has (K : PySem.W.Frag) (mg : Str → Option Value) (x : Str) (st : Stmt) : Prop := ∃ a fd, mg x = some (.ref a) ∧ PySem.W.keepIn K (.ref a) = true ∧ Fun K x x st a fd
/-- .. and keeps a promise -/
def DefOk (PG : Program) (W0 : World) (K : PySem.W.Frag) (mg : Str → Option Value) (base : Heap) (k : Nat) (x : Str) (sp : Sp) : Prop := ∃ a fd ps, mg x = some (.ref a) ∧ PySem.W.keepIn K (.ref a) = true ∧ Binds K fd ps [] ∧ FnOk PG W0 K mg base CX0 k a fd ps sp
/-- how arguments bind -/
def Bnd (x : Str) (st : Stmt) (ps : List Str) : Prop := ∀ (kV doc pm : Value) (an : Option Addr) (cdv ct : Value) (us : List Value), us.length = ps.length → bindArgs (PySem.W.fnOf x x (defArgs st) (defBody st) (defScope st) .none kV doc pm an cdv ct) ⟨us, []⟩ = pure (ps.zip us)
def ofO (o : Option D) : W D := fun R => ∃ d, o = some d ∧ R d
theorem gv_ofO (o : Option D) : Gv o (ofO o) := fun a h Q q => ⟨a, h, q⟩
section
variable {PG : Program} {W0 : World} {K : PySem.W.Frag} {mg : Str → Option Value} {base : Heap} {k j : Nat} {x : Str} {st : Stmt} {N ps : List Str}
theorem DefOk.mono {sp : Sp} (h : DefOk PG W0 K mg base j x sp) (le : j ≤ k) : DefOk PG W0 K mg base k x sp := by
  obtain ⟨a, fd, ps, h1, h2, h3, h4⟩ := h
  exact ⟨a, fd, ps, h1, h2, h3, h4.mono le⟩
theorem mk_pure {C : Nat → Option D} {T : Nat → List D → Option D} {GG : Nat → List D → W D} {fs : List (Nat × Str × Nat × Bool)} {gl : List (Nat × Str)} (h : Has K mg x st) (hbd : Bnd x st ps) (m : Md PG W0 K mg base ⟨C, fun n ds => ofO (T n ds), GG, none, 1000⟩ fs gl k) (S : FnScope N ps (defScope st)) (hps : ps.length ≤ N.length) {b : Ss}
    (hc : chkSs ⟨N, defScope st, defScope st, 1000, fs, gl⟩ b (defBody st) = true) {i : Nat} (hr : ∀ ds d, T i ds = some d → run optM C T (fun _ _ => none) N.length b ds = some d) : DefOk PG W0 K mg base (k + 1) x (spF ps.length (fun ds => ofO (T i ds)) ⟨K, W0⟩) := by
  obtain ⟨a, fd, h1, h2, F⟩ := h
  refine ⟨a, fd, ps, h1, h2, F.binds hbd, fn_pure m rfl F S hps hc fun ds R q => ?_⟩
  obtain ⟨d, hd, q⟩ := q
  exact gv_run (fun n ds => gv_ofO _) (fun n ds => gv_none) N.length b ds d (hr ds d hd) R q
theorem mk_w {C : Nat → Option D} {F' GG : Nat → List D → W D} {fs : List (Nat × Str × Nat × Bool)} {gl : List (Nat × Str)} (h : Has K mg x st) (hbd : Bnd x st ps) (m : ∀ t, Md PG W0 K mg base ⟨C, F', GG, some t, 0⟩ fs gl k) (S : FnScope N ps (defScope st)) (hps : ps.length ≤ N.length) {b : Ss}
    (hc : chkSs ⟨N, defScope st, defScope st, 0, fs, gl⟩ b (defBody st) = true) {f' : List D → W D} (hr : ∀ ds R, f' ds R → exs wM C F' GG b (.no :: (ds.map Slot.sh ++ List.replicate (N.length - (1 + ds.length)) Slot.no)) fun f => (match f with
    | .nx _ => wM.pure PyData.none
    | .rt d => wM.pure d
    | .bk _ => wM.fail) R) : DefOk PG W0 K mg base (k + 1) x (spG ps.length f' ⟨K, W0⟩) := by
  obtain ⟨a, fd, h1, h2, F⟩ := h
  exact ⟨a, fd, ps, h1, h2, F.binds hbd, fn_w m F S hps hc hr⟩
end

/-! ### data of a known make -/
structure Cod (α : Type) where
  enc : α → D
  dec : D → Option α
  he : ∀ a, dec (enc a) = some a
  hd : ∀ d a, dec d = some a → enc a = d
def cInt : Cod Int := ⟨.int, int?, fun _ => rfl, fun d a h => (int_some h).symm⟩
def cBool : Cod Bool := ⟨.bool, bool?, fun _ => rfl, fun d a h => (bool_some h).symm⟩
def decAll {α : Type} (f : D → Option α) : List D → Option (List α)
  | [] => some []
  | d :: ds => (f d).bind fun a => (decAll f ds).map (a :: ·)
theorem decAll_enc {α : Type} (c : Cod α) : ∀ xs : List α, decAll c.dec (xs.map c.enc) = some xs
  | [] => rfl
  | x :: xs => by
    rw [List.map_cons]
    unfold decAll
    rw [c.he, decAll_enc c xs]
    rfl
theorem decAll_dec {α : Type} (c : Cod α) : ∀ (ds : List D) (xs : List α), decAll c.dec ds = some xs → xs.map c.enc = ds
  | [], xs, h => by
    cases h
    rfl
  | d :: ds, xs, h => by
    unfold decAll at h
    cases e : c.dec d with
    | none => rw [e] at h; cases h
    | some a =>
      rw [e] at h
      cases e2 : decAll c.dec ds with
      | none => rw [e2] at h; cases h
      | some ys =>
        rw [e2] at h
        cases h
        rw [List.map_cons, c.hd d a e, decAll_dec c ds ys e2]
def cL {α : Type} (c : Cod α) : Cod (List α) where
  enc xs := .list (xs.map c.enc)
  dec
    | .list ds => decAll c.dec ds
    | _ => none
  he xs := decAll_enc c xs
  hd d xs h := by
    cases d <;> first | cases h | exact congrArg PyData.list (decAll_dec c _ _ h)
def cT {α : Type} (c : Cod α) : Cod (List α) where
  enc xs := .tuple (xs.map c.enc)
  dec
    | .tuple ds => decAll c.dec ds
    | _ => none
  he xs := decAll_enc c xs
  hd d xs h := by
    cases d <;> first | cases h | exact congrArg PyData.tuple (decAll_dec c _ _ h)
def c2 {α β : Type} (a : Cod α) (b : Cod β) : Cod (α × β) where
  enc p := .tuple [a.enc p.1, b.enc p.2]
  dec
    | .tuple [x, y] => (a.dec x).bind fun u => (b.dec y).map fun v => (u, v)
    | _ => none
  he p := by simp [a.he, b.he]
  hd d p h := by
    split at h
    · rename_i x y
      cases e1 : a.dec x with
      | none => rw [e1] at h; cases h
      | some u =>
        rw [e1] at h
        cases e2 : b.dec y with
        | none => rw [e2] at h; cases h
        | some v =>
          rw [e2] at h
          cases h
          rw [← a.hd _ _ e1, ← b.hd _ _ e2]
    · cases h
def c3 {α β γ : Type} (a : Cod α) (b : Cod β) (c : Cod γ) : Cod (α × β × γ) where
  enc p := .tuple [a.enc p.1, b.enc p.2.1, c.enc p.2.2]
  dec
    | .tuple [x, y, z] => (a.dec x).bind fun u => (b.dec y).bind fun v => (c.dec z).map fun w => (u, v, w)
    | _ => none
  he p := by simp [a.he, b.he, c.he]
  hd d p h := by
    split at h
    · rename_i x y z
      cases e1 : a.dec x with
      | none => rw [e1] at h; cases h
      | some u =>
        rw [e1] at h
        cases e2 : b.dec y with
        | none => rw [e2] at h; cases h
        | some v =>
          rw [e2] at h
          cases e3 : c.dec z with
          | none => rw [e3] at h; cases h
          | some w =>
            rw [e3] at h
            cases h
            rw [← a.hd _ _ e1, ← b.hd _ _ e2, ← c.hd _ _ e3]
    · cases h
end PV

set_option maxHeartbeats 4000000
/-! PV: helps for reckoning on data of a known make. -/
namespace PV
open PySem

def cNat : Cod Nat where
  enc n := .int n
  dec
    | .int i => if 0 ≤ i then some i.toNat else none
    | _ => none
  he n := by simp
  hd d n h := by
    cases d <;> simp at h
    obtain ⟨h1, h2⟩ := h
    subst h2
    simp [Int.toNat_of_nonneg h1]
@[simp] theorem e_int (i : Int) : cInt.enc i = .int i := rfl
@[simp] theorem e_nat (i : Nat) : cNat.enc i = .int i := rfl
@[simp] theorem e_bool (i : Bool) : cBool.enc i = .bool i := rfl
@[simp] theorem e_L {α : Type} (c : Cod α) (xs : List α) : (cL c).enc xs = .list (xs.map c.enc) := rfl
@[simp] theorem e_T {α : Type} (c : Cod α) (xs : List α) : (cT c).enc xs = .tuple (xs.map c.enc) := rfl
@[simp] theorem e_2 {α β : Type} (a : Cod α) (b : Cod β) (p : α × β) : (c2 a b).enc p = .tuple [a.enc p.1, b.enc p.2] := rfl
@[simp] theorem e_3 {α β γ : Type} (a : Cod α) (b : Cod β) (c : Cod γ) (p : α × β × γ) : (c3 a b c).enc p = .tuple [a.enc p.1, b.enc p.2.1, c.enc p.2.2] := rfl

@[simp] theorem at1_0 {α : Type} {x : α} : L2.atI [x] 0 = some x := rfl
@[simp] theorem at2_0 {α : Type} {x y : α} : L2.atI [x, y] 0 = some x := rfl
@[simp] theorem at2_1 {α : Type} {x y : α} : L2.atI [x, y] 1 = some y := rfl
@[simp] theorem at3_0 {α : Type} {x y z : α} : L2.atI [x, y, z] 0 = some x := rfl
@[simp] theorem at3_1 {α : Type} {x y z : α} : L2.atI [x, y, z] 1 = some y := rfl
@[simp] theorem at3_2 {α : Type} {x y z : α} : L2.atI [x, y, z] 2 = some z := rfl
@[simp] theorem at_last {α : Type} {xs : List α} {x : α} : L2.atI (xs ++ [x]) (-1) = some x := L2.atI_last _ _
@[simp] theorem dPop_app {xs : List D} {x : D} : dPop (.list (xs ++ [x])) = some (x, .list xs) := by simp [dPop]
@[simp] theorem forL_nil {g : D → Env → Option Fl} {ρ0 ρ : Env} : forL optM g ρ0 [] ρ = some (.nx ρ) := by unfold forL; rfl
@[simp] theorem rng_self {i : Int} : rng i i = [] := by simp [rng]
theorem atI_get {α : Type} {xs : List α} {i : Nat} (h : i < xs.length) : L2.atI xs (i : Int) = some xs[i] := L2.atI_nat (List.getElem?_eq_getElem h)
theorem cut_nat {α : Type} (xs : List α) (a b : Nat) : cut xs (some (a : Int)) (some (b : Int)) = (xs.drop a).take (b - a) := by
  unfold cut
  rw [HT.sIx_nat, HT.sIx_nat]
  by_cases h : a ≤ xs.length
  · rw [Nat.min_eq_left h]
    by_cases h2 : b ≤ xs.length
    · rw [Nat.min_eq_left h2]
    · have e : min b xs.length = xs.length := Nat.min_eq_right (by omega)
      rw [e, List.take_of_length_le (by simp), List.take_of_length_le (by simp; omega)]
  · have e : min a xs.length = xs.length := Nat.min_eq_right (by omega)
    rw [e, List.drop_of_length_le (Nat.le_refl _), List.drop_of_length_le (by omega)]
    simp
theorem cut_from {α : Type} (xs : List α) (a : Nat) : cut xs (some (a : Int)) none = xs.drop a := by
  unfold cut
  rw [HT.sIx_nat, HT.sIx_none]
  by_cases h : a ≤ xs.length
  · rw [Nat.min_eq_left h, List.take_of_length_le (by simp)]
  · have e : min a xs.length = xs.length := Nat.min_eq_right (by omega)
    rw [e, List.drop_of_length_le (Nat.le_refl _), List.drop_of_length_le (by omega)]
    simp
theorem cut_to {α : Type} (xs : List α) (b : Nat) : cut xs none (some (b : Int)) = xs.take b := by
  unfold cut
  rw [HT.sIx_nat, HT.sIx_none]
  simp
theorem compL_enc {α : Type} {g : D → Option (Option D)} {xs : List α} {e : α → D} {f : α → Option D} (h : ∀ x ∈ xs, g (e x) = some (f x)) : compL optM g (xs.map e) = some (xs.filterMap f) := by
  induction xs with
  | nil => rfl
  | cons x xs ih =>
    rw [List.map_cons]
    unfold compL
    rw [o_bind, h x (by simp), ih fun y hy => h y (by simp [hy])]
    cases hf : f x <;> simp [hf]
theorem compL_all {α : Type} {g : D → Option (Option D)} {xs : List α} {e : α → D} {f : α → D} (h : ∀ x ∈ xs, g (e x) = some (some (f x))) : compL optM g (xs.map e) = some (xs.map f) := by
  rw [compL_enc (f := fun x => some (f x)) h]
  simp
theorem compL_fil {α : Type} {g : D → Option (Option D)} {xs : List α} {e : α → D} {f : α → D} {p : α → Bool} (h : ∀ x ∈ xs, g (e x) = some (if p x = true then some (f x) else none)) : compL optM g (xs.map e) = some ((xs.filter p).map f) := by
  rw [compL_enc h]
  congr 1
  clear h
  induction xs with
  | nil => rfl
  | cons x xs ih =>
    by_cases hp : p x = true
    · rw [List.filter_cons_of_pos hp, List.map_cons, List.filterMap_cons_some (by rw [if_pos hp]), ih]
    · rw [List.filter_cons_of_neg hp, List.filterMap_cons_none (by rw [if_neg hp]), ih]
theorem forL_fold {α τ : Type} {g : D → Env → Option Fl} {ρ0 : Env} (e : α → D) (st : τ → Env) (step : τ → α → τ) (I : τ → List α → Prop)
    (h : ∀ s x xs, I s (x :: xs) → (∃ ρ', g (e x) (st s) = some (.nx ρ') ∧ msk ρ0 ρ' = st (step s x)) ∧ I (step s x) xs) : ∀ xs s, I s xs → forL optM g ρ0 (xs.map e) (st s) = some (.nx (st (xs.foldl step s)))
  | [], s, _ => by unfold forL; rfl
  | x :: xs, s, hI => by
    obtain ⟨⟨ρ', h1, h2⟩, h3⟩ := h s x xs hI
    rw [List.map_cons]
    unfold forL
    rw [o_bind, h1]
    show forL optM g ρ0 (xs.map e) (msk ρ0 ρ') = _
    rw [h2]
    exact forL_fold e st step I h xs (step s x) h3
theorem rng_map (i j : Int) : rng i j = (List.range (j - i).toNat).map fun (k : Nat) => .int (i + k) := rfl
/-- a while by its steps -/
theorem whO_go {step : Env → Option (Env ⊕ Fl)} {τ : Type} (st : τ → Env) (μ : τ → Nat) (nxt : τ → τ) (c : τ → Bool) (I : τ → Prop) (h : ∀ s, I s → (c s = true → step (st s) = some (.inl (st (nxt s))) ∧ I (nxt s) ∧ μ (nxt s) < μ s) ∧ (c s = false → step (st s) = some (.inr (.nx (st s))))) :
    ∀ (n : Nat) (s : τ), μ s ≤ n → I s → ∃ s', whO step (st s) = some (.nx (st s')) ∧ I s' ∧ c s' = false
  | n, s, hn, hI => by
    cases hc : c s with
    | false => exact ⟨s, whO_end ((h s hI).2 hc), hI, hc⟩
    | true =>
      obtain ⟨h1, h2, h3⟩ := (h s hI).1 hc
      cases n with
      | zero => omega
      | succ n =>
        obtain ⟨s', e, q⟩ := whO_go st μ nxt c I h n (nxt s) (by omega) h2
        exact ⟨s', by rw [whO_next h1]; exact e, q⟩
def loopN {τ : Type} (nxt : τ → τ) (c : τ → Bool) : Nat → τ → τ
  | 0, s => s
  | n + 1, s => if c s = true then loopN nxt c n (nxt s) else s
theorem whO_loop {step : Env → Option (Env ⊕ Fl)} {τ : Type} (st : τ → Env) (μ : τ → Nat) (nxt : τ → τ) (c : τ → Bool) (I : τ → Prop) (h : ∀ s, I s → (c s = true → step (st s) = some (.inl (st (nxt s))) ∧ I (nxt s) ∧ μ (nxt s) < μ s) ∧ (c s = false → step (st s) = some (.inr (.nx (st s))))) :
    ∀ (n : Nat) (s : τ), μ s ≤ n → I s → whO step (st s) = some (.nx (st (loopN nxt c n s))) ∧ I (loopN nxt c n s) ∧ c (loopN nxt c n s) = false
  | n, s, hn, hI => by
    cases hc : c s with
    | false =>
      have e : loopN nxt c n s = s := by
        cases n with
        | zero => rfl
        | succ n => simp [loopN, hc]
      rw [e]
      exact ⟨whO_end ((h s hI).2 hc), hI, hc⟩
    | true =>
      obtain ⟨h1, h2, h3⟩ := (h s hI).1 hc
      cases n with
      | zero => omega
      | succ n =>
        have e : loopN nxt c (n + 1) s = loopN nxt c n (nxt s) := by simp [loopN, hc]
        rw [e, whO_next h1]
        exact whO_loop st μ nxt c I h n (nxt s) (by omega) h2
theorem loopN_ind {τ : Type} {nxt : τ → τ} {c : τ → Bool} (J : τ → Prop) (h : ∀ s, J s → c s = true → J (nxt s)) : ∀ (n : Nat) (s : τ), J s → J (loopN nxt c n s)
  | 0, s, hJ => hJ
  | n + 1, s, hJ => by
    unfold loopN
    by_cases hc : c s = true
    · rw [if_pos hc]
      exact loopN_ind J h n (nxt s) (h s hJ hc)
    · rw [if_neg hc]
      exact hJ
theorem run_of {C : Nat → Option D} {F G : Nat → List D → Option D} {n : Nat} {b : Ss} {args : List D} {d : D} (h : exs optM C F G b (args.map Slot.sh ++ List.replicate (n - args.length) Slot.no) = some (.rt d)) : run optM C F G n b args = some d := by
  unfold run
  rw [o_bind, h]
  rfl
end PV

set_option maxHeartbeats 4000000
/-! PV: data of a known make compared, least, sorted. -/
namespace PV
open PySem PySem.W PyProof.Rows

mutual
theorem shal_mono : ∀ (d : D) {n m : Nat}, n ≤ m → shal n d = true → shal m d = true
  | .none, n, m, _, _ => by cases m <;> rfl
  | .bool _, n, m, _, _ => by cases m <;> rfl
  | .int _, n, m, _, _ => by cases m <;> rfl
  | .str _, n, m, _, _ => by cases m <;> rfl
  | .list xs, n, m, h, hs => by
    cases n with
    | zero => cases hs
    | succ n =>
      cases m with
      | zero => omega
      | succ m => exact shals_mono xs (by omega) hs
  | .tuple xs, n, m, h, hs => by
    cases n with
    | zero => cases hs
    | succ n =>
      cases m with
      | zero => omega
      | succ m => exact shals_mono xs (by omega) hs
  | .dict _, n, m, _, hs => by cases n <;> cases hs
theorem shals_mono : ∀ (xs : List D) {n m : Nat}, n ≤ m → xs.all (shal n) = true → xs.all (shal m) = true
  | [], _, _, _, _ => rfl
  | x :: xs, n, m, h, hs => by
    rw [List.all_cons, Bool.and_eq_true] at hs ⊢
    exact ⟨shal_mono x h hs.1, shals_mono xs h hs.2⟩
end
structure CodOk {α : Type} (c : Cod α) (n : Nat) : Prop where
  sh : ∀ a, shal n (c.enc a) = true
  eqv : ∀ a b, PyData.eqv (c.enc a) (c.enc b) = true ↔ a = b
  al : ∀ a b, alike (c.enc a) (c.enc b) = true
  nn : ∀ a, isN (c.enc a) = false
theorem enc_inj {α : Type} (c : Cod α) {a b : α} (h : c.enc a = c.enc b) : a = b := by
  have := c.he a
  rw [h, c.he b] at this
  exact (Option.some.inj this).symm
theorem ok_int : CodOk cInt 0 := ⟨fun _ => rfl, fun a b => by simp [PyData.eqv], fun a b => by simp [alike], fun _ => rfl⟩
theorem ok_nat : CodOk cNat 0 := ⟨fun _ => rfl, fun a b => by simp [PyData.eqv]; omega, fun a b => by simp [alike], fun _ => rfl⟩
theorem ok_bool : CodOk cBool 0 := ⟨fun _ => rfl, fun a b => by simp [PyData.eqv], fun a b => by simp [alike], fun _ => rfl⟩
section
variable {α β γ : Type} {c : Cod α} {c' : Cod β} {c'' : Cod γ} {n m k : Nat}
theorem CodOk.all (h : CodOk c n) (xs : List α) : (xs.map c.enc).all (shal n) = true := by
  rw [List.all_eq_true]
  intro d hd
  obtain ⟨a, _, rfl⟩ := List.mem_map.mp hd
  exact h.sh a
theorem CodOk.eqvs (h : CodOk c n) : ∀ xs ys : List α, PyData.eqvAll (xs.map c.enc) (ys.map c.enc) = true ↔ xs = ys
  | [], [] => by simp [PyData.eqvAll]
  | [], _ :: _ => by simp [PyData.eqvAll]
  | _ :: _, [] => by simp [PyData.eqvAll]
  | x :: xs, y :: ys => by
    rw [List.map_cons, List.map_cons, PyData.eqvAll, Bool.and_eq_true, h.eqv, h.eqvs xs ys]
    simp
theorem CodOk.als (h : CodOk c n) : ∀ xs ys : List α, alikeAll (xs.map c.enc) (ys.map c.enc) = true
  | [], _ => by simp [alikeAll]
  | _ :: _, [] => by simp [alikeAll]
  | x :: xs, y :: ys => by
    rw [List.map_cons, List.map_cons, alikeAll, h.al, h.als xs ys]
    rfl
theorem ok_L (h : CodOk c n) : CodOk (cL c) (n + 1) := ⟨fun a => h.all a, fun a b => by rw [e_L, e_L, PyData.eqv]; exact h.eqvs a b, fun a b => by rw [e_L, e_L, alike]; exact h.als a b, fun _ => rfl⟩
theorem ok_T (h : CodOk c n) : CodOk (cT c) (n + 1) := ⟨fun a => h.all a, fun a b => by rw [e_T, e_T, PyData.eqv]; exact h.eqvs a b, fun a b => by rw [e_T, e_T, alike]; exact h.als a b, fun _ => rfl⟩
theorem ok_2 (h : CodOk c n) (h' : CodOk c' m) (e1 : n ≤ k) (e2 : m ≤ k) : CodOk (c2 c c') (k + 1) where
  sh a := by
    show [c.enc a.1, c'.enc a.2].all (shal k) = true
    simp [shal_mono _ e1 (h.sh a.1), shal_mono _ e2 (h'.sh a.2)]
  eqv a b := by
    rw [e_2, e_2, PyData.eqv, PyData.eqvAll, PyData.eqvAll, PyData.eqvAll]
    simp [h.eqv, h'.eqv, Prod.ext_iff]
  al a b := by
    rw [e_2, e_2, alike, alikeAll, alikeAll, alikeAll, h.al, h'.al]
    rfl
  nn a := rfl
theorem ok_3 {j : Nat} (h : CodOk c n) (h' : CodOk c' m) (h'' : CodOk c'' j) (e1 : n ≤ k) (e2 : m ≤ k) (e3 : j ≤ k) : CodOk (c3 c c' c'') (k + 1) where
  sh a := by
    show [c.enc a.1, c'.enc a.2.1, c''.enc a.2.2].all (shal k) = true
    simp [shal_mono _ e1 (h.sh a.1), shal_mono _ e2 (h'.sh a.2.1), shal_mono _ e3 (h''.sh a.2.2)]
  eqv a b := by
    rw [e_3, e_3, PyData.eqv, PyData.eqvAll, PyData.eqvAll, PyData.eqvAll, PyData.eqvAll]
    simp [h.eqv, h'.eqv, h''.eqv, Prod.ext_iff]
  al a b := by
    rw [e_3, e_3, alike, alikeAll, alikeAll, alikeAll, alikeAll, h.al, h'.al, h''.al]
    rfl
  nn a := rfl
theorem CodOk.sh20 (h : CodOk c n) (hn : n ≤ 20) (a : α) : PV.sh (c.enc a) = true := shal_mono _ hn (h.sh a)
theorem CodOk.shs20 (h : CodOk c n) (hn : n ≤ 20) (xs : List α) : shs (xs.map c.enc) = true := shals_mono _ hn (h.all xs)
theorem CodOk.eqd [DecidableEq α] (h : CodOk c n) (a b : α) : PyData.eqv (c.enc a) (c.enc b) = decide (a = b) := by
  have := h.eqv a b
  by_cases e : a = b
  · rw [decide_eq_true e, this.mpr e]
  · rw [decide_eq_false e]
    cases q : PyData.eqv (c.enc a) (c.enc b) with
    | false => rfl
    | true => exact absurd (this.mp q) e
theorem d_eq [DecidableEq α] (h : CodOk c n) (hn : n ≤ 20) (a b : α) : dCmp .eq (c.enc a) (c.enc b) = some (decide (a = b)) := by
  show (if (sh (c.enc a) && sh (c.enc b)) = true then some (PyData.eqv (c.enc a) (c.enc b)) else dEqX _ _) = _
  rw [h.sh20 hn, h.sh20 hn, h.eqd]
  rfl
theorem d_ne [DecidableEq α] (h : CodOk c n) (hn : n ≤ 20) (a b : α) : dCmp .ne (c.enc a) (c.enc b) = some (!decide (a = b)) := by
  show (if (sh (c.enc a) && sh (c.enc b)) = true then some (!PyData.eqv (c.enc a) (c.enc b)) else (dEqX _ _).map (!·)) = _
  rw [h.sh20 hn, h.sh20 hn, h.eqd]
  rfl
/-! the order -/
theorem lt_anti (h : CodOk c n) {a b : α} (h1 : dataLt (c.enc a) (c.enc b) = false) (h2 : dataLt (c.enc b) (c.enc a) = false) : a = b := by
  have e := lex_total (O := itemOrd) _ _ h1 h2
  refine (h.eqv a b).mp ?_
  cases q : PyData.eqv (c.enc a) (c.enc b) with
  | true => rfl
  | false =>
    have z := (toks_eqv _ _ (h.al a b)).2 q [] [.inl 0]
    rw [e, List.append_nil] at z
    have z2 : ∀ l : List (Int ⊕ List Nat), PyProof.Rows.lexLt itemOrd l (l ++ [.inl 0]) = true := fun l => by
      induction l with
      | nil => rfl
      | cons x l ih =>
        rw [List.cons_append, lex_self]
        exact ih
    rw [z2, lex_irrefl] at z
    cases z
theorem minD_mem (x : D) : ∀ xs : List D, minD x xs ∈ x :: xs := fun xs => by
  unfold minD
  induction xs generalizing x with
  | nil => simp
  | cons y ys ih =>
    rw [List.foldl_cons]
    by_cases h : dataLt y x = true
    · rw [if_pos h]
      have := ih y
      simp only [List.mem_cons] at this ⊢
      rcases this with h | h
      · exact .inr (.inl h)
      · exact .inr (.inr h)
    · rw [if_neg h]
      have := ih x
      simp only [List.mem_cons] at this ⊢
      rcases this with h | h
      · exact .inl h
      · exact .inr (.inr h)
theorem minD_le (x : D) : ∀ xs : List D, ∀ y ∈ x :: xs, dataLt y (minD x xs) = false := fun xs => by
  unfold minD
  induction xs generalizing x with
  | nil =>
    intro y hy
    have : y = x := by simpa using hy
    subst this
    exact dataLt_self y
  | cons z zs ih =>
    intro y hy
    rw [List.foldl_cons]
    have key : ∀ w, (∀ v, v = x ∨ v = z → dataLt v w = false) → dataLt y (List.foldl (fun a y => if dataLt y a = true then y else a) w zs) = false := fun w hw => by
      have hI := ih w
      rcases List.mem_cons.mp hy with e | hy
      · subst e
        have h1 := hw y (.inl rfl)
        have h2 := hI w (by simp)
        cases q : dataLt y (List.foldl (fun a y => if dataLt y a = true then y else a) w zs) with
        | false => rfl
        | true =>
          rcases lex_negTrans (O := itemOrd) _ (keyToks w) _ q with r | r
          · exact absurd (show dataLt y w = true from r) (by rw [h1]; simp)
          · exact absurd (show dataLt w _ = true from r) (by rw [h2]; simp)
      · rcases List.mem_cons.mp hy with e | hy
        · subst e
          have h1 := hw y (.inr rfl)
          have h2 := hI w (by simp)
          cases q : dataLt y (List.foldl (fun a y => if dataLt y a = true then y else a) w zs) with
          | false => rfl
          | true =>
            rcases lex_negTrans (O := itemOrd) _ (keyToks w) _ q with r | r
            · exact absurd (show dataLt y w = true from r) (by rw [h1]; simp)
            · exact absurd (show dataLt w _ = true from r) (by rw [h2]; simp)
        · exact hI y (by simp [hy])
    by_cases h : dataLt z x = true
    · rw [if_pos h]
      refine key z fun v hv => ?_
      rcases hv with rfl | rfl
      · cases q : dataLt v z with
        | false => rfl
        | true =>
          have := lex_trans (O := itemOrd) _ _ _ q h
          rw [lex_irrefl] at this
          cases this
      · exact dataLt_self v
    · rw [if_neg h]
      refine key x fun v hv => ?_
      rcases hv with rfl | rfl
      · exact dataLt_self v
      · simpa using h
theorem dMin_of (h : CodOk c n) (hn : n ≤ 20) {l : List α} (ne : l ≠ []) : ∃ m ∈ l, dMin (l.map c.enc) = some (c.enc m) ∧ ∀ a ∈ l, dataLt (c.enc a) (c.enc m) = false := by
  cases l with
  | nil => exact absurd rfl ne
  | cons x xs =>
    have hm := minD_mem (c.enc x) (xs.map c.enc)
    rw [← List.map_cons] at hm
    obtain ⟨m, hmem, e⟩ := List.mem_map.mp hm
    refine ⟨m, hmem, ?_, fun a ha => ?_⟩
    · have h1 : shs (c.enc x :: xs.map c.enc) = true := h.shs20 hn (x :: xs)
      have h2 : allAlike (c.enc x :: xs.map c.enc) = true := by
        unfold allAlike
        rw [← List.map_cons, List.all_eq_true]
        intro d hd
        rw [List.all_eq_true]
        intro d' hd'
        obtain ⟨a, _, rfl⟩ := List.mem_map.mp hd
        obtain ⟨b, _, rfl⟩ := List.mem_map.mp hd'
        exact h.al a b
      have h3 : (c.enc x :: xs.map c.enc).all (fun d => !isN d) = true := by
        rw [← List.map_cons, List.all_eq_true]
        intro d hd
        obtain ⟨a, _, rfl⟩ := List.mem_map.mp hd
        rw [h.nn]
        rfl
      rw [List.map_cons]
      show (if (shs (c.enc x :: xs.map c.enc) && (allAlike (c.enc x :: xs.map c.enc) && (c.enc x :: xs.map c.enc).all (fun d => !isN d))) = true then some (minD (c.enc x) (xs.map c.enc)) else none) = _
      rw [h1, h2, h3, e]
      rfl
    · rw [e]
      exact minD_le _ _ _ (by rw [← List.map_cons]; exact List.mem_map_of_mem ha)
/-- the least of lists with the same items -/
theorem dMin_same (h : CodOk c n) (hn : n ≤ 20) {l l' : List α} (ne : l ≠ []) (hs : ∀ a, a ∈ l ↔ a ∈ l') : ∃ m ∈ l, dMin (l.map c.enc) = some (c.enc m) ∧ dMin (l'.map c.enc) = some (c.enc m) := by
  obtain ⟨m, h1, h2, h3⟩ := dMin_of h hn ne
  have ne' : l' ≠ [] := fun e => by
    have := (hs m).mp h1
    rw [e] at this
    simp at this
  obtain ⟨m', k1, k2, k3⟩ := dMin_of h hn ne'
  have e : m = m' := lt_anti h (k3 m ((hs m).mp h1)) (h3 m' ((hs m').mpr k1))
  subst e
  exact ⟨m, h1, h2, k2⟩
/-- what is sorted: the same items -/
theorem dSort_of (h : CodOk c n) (hn : n ≤ 20) {l : List α} (hs : l.length ≤ 1 ∨ sortable (l.map c.enc) = true) : ∃ l' : List α, dSort (l.map c.enc) = some (l'.map c.enc) ∧ l'.Perm l := by
  unfold dSort
  have h1 : shs (l.map c.enc) = true := h.shs20 hn l
  have h3 : (l.map c.enc).all (fun d => !isN d) = true := by
    rw [List.all_eq_true]
    intro d hd
    obtain ⟨a, _, rfl⟩ := List.mem_map.mp hd
    rw [h.nn]
    rfl
  by_cases hl : l.length ≤ 1
  · refine ⟨l, ?_, .refl l⟩
    rw [h1, h3, if_pos (by simpa using hl)]
  · have h2 : allAlike (l.map c.enc) = true := by
      unfold allAlike
      rw [List.all_eq_true]
      intro d hd
      rw [List.all_eq_true]
      intro d' hd'
      obtain ⟨a, _, rfl⟩ := List.mem_map.mp hd
      obtain ⟨b, _, rfl⟩ := List.mem_map.mp hd'
      exact h.al a b
    have hs := hs.resolve_left hl
    rw [if_neg (by simp; omega), h1, h2, hs]
    have pm := List.mergeSort_perm (l.map c.enc) (dataLe false id)
    have lift : ∀ (ds : List D), (∀ d ∈ ds, d ∈ l.map c.enc) → ∃ l' : List α, ds = l'.map c.enc := fun ds => by
      induction ds with
      | nil => exact fun _ => ⟨[], rfl⟩
      | cons d ds ih =>
        intro hd
        obtain ⟨l', e⟩ := ih fun x hx => hd x (by simp [hx])
        obtain ⟨a, _, ea⟩ := List.mem_map.mp (hd d (by simp))
        exact ⟨a :: l', by rw [List.map_cons, ea, e]⟩
    obtain ⟨l', e⟩ := lift _ fun d hd => pm.mem_iff.mp hd
    refine ⟨l', by rw [e]; rfl, ?_⟩
    rw [e] at pm
    have := pm.filterMap c.dec
    have z : ∀ xs : List α, (xs.map c.enc).filterMap c.dec = xs := fun xs => by
      rw [List.filterMap_map]
      have : (c.dec ∘ c.enc) = some := funext fun a => c.he a
      rw [this, List.filterMap_some]
    rwa [z, z] at this
end
end PV

set_option maxHeartbeats 4000000
/-! PV: argument lists of a known make. -/
namespace PV
open PySem
section
variable {α β γ δ : Type}
def A1 (a : Cod α) : List D → Option α
  | [x] => a.dec x
  | _ => none
def A2 (a : Cod α) (b : Cod β) : List D → Option (α × β)
  | [x, y] => (a.dec x).bind fun u => (b.dec y).map fun v => (u, v)
  | _ => none
def A3 (a : Cod α) (b : Cod β) (c : Cod γ) : List D → Option (α × β × γ)
  | [x, y, z] => (a.dec x).bind fun u => (b.dec y).bind fun v => (c.dec z).map fun w => (u, v, w)
  | _ => none
def A4 (a : Cod α) (b : Cod β) (c : Cod γ) (d : Cod δ) : List D → Option (α × β × γ × δ)
  | [x, y, z, t] => (a.dec x).bind fun u => (b.dec y).bind fun v => (c.dec z).bind fun w => (d.dec t).map fun s => (u, v, w, s)
  | _ => none
theorem A1_enc (a : Cod α) (x : α) : A1 a [a.enc x] = some x := by simp [A1, a.he]
theorem A2_enc (a : Cod α) (b : Cod β) (x : α) (y : β) : A2 a b [a.enc x, b.enc y] = some (x, y) := by simp [A2, a.he, b.he]
theorem A3_enc (a : Cod α) (b : Cod β) (c : Cod γ) (x : α) (y : β) (z : γ) : A3 a b c [a.enc x, b.enc y, c.enc z] = some (x, y, z) := by simp [A3, a.he, b.he, c.he]
theorem A4_enc (a : Cod α) (b : Cod β) (c : Cod γ) (d : Cod δ) (x : α) (y : β) (z : γ) (t : δ) : A4 a b c d [a.enc x, b.enc y, c.enc z, d.enc t] = some (x, y, z, t) := by simp [A4, a.he, b.he, c.he, d.he]
theorem A1_some {a : Cod α} {ds : List D} {p : α} (h : A1 a ds = some p) : ds = [a.enc p] := by
  unfold A1 at h
  split at h
  · rw [a.hd _ _ h]
  · cases h
theorem A2_some {a : Cod α} {b : Cod β} {ds : List D} {p : α × β} (h : A2 a b ds = some p) : ds = [a.enc p.1, b.enc p.2] := by
  unfold A2 at h
  split at h
  · rename_i x y
    cases e1 : a.dec x with
    | none => rw [e1] at h; cases h
    | some u =>
      rw [e1] at h
      cases e2 : b.dec y with
      | none => rw [e2] at h; cases h
      | some v =>
        rw [e2] at h
        cases h
        rw [← a.hd _ _ e1, ← b.hd _ _ e2]
  · cases h
theorem A3_some {a : Cod α} {b : Cod β} {c : Cod γ} {ds : List D} {p : α × β × γ} (h : A3 a b c ds = some p) : ds = [a.enc p.1, b.enc p.2.1, c.enc p.2.2] := by
  unfold A3 at h
  split at h
  · rename_i x y z
    cases e1 : a.dec x with
    | none => rw [e1] at h; cases h
    | some u =>
      rw [e1] at h
      cases e2 : b.dec y with
      | none => rw [e2] at h; cases h
      | some v =>
        rw [e2] at h
        cases e3 : c.dec z with
        | none => rw [e3] at h; cases h
        | some w =>
          rw [e3] at h
          cases h
          rw [← a.hd _ _ e1, ← b.hd _ _ e2, ← c.hd _ _ e3]
  · cases h
theorem A4_some {a : Cod α} {b : Cod β} {c : Cod γ} {d : Cod δ} {ds : List D} {p : α × β × γ × δ} (h : A4 a b c d ds = some p) : ds = [a.enc p.1, b.enc p.2.1, c.enc p.2.2.1, d.enc p.2.2.2] := by
  unfold A4 at h
  split at h
  · rename_i x y z t
    cases e1 : a.dec x with
    | none => rw [e1] at h; cases h
    | some u =>
      rw [e1] at h
      cases e2 : b.dec y with
      | none => rw [e2] at h; cases h
      | some v =>
        rw [e2] at h
        cases e3 : c.dec z with
        | none => rw [e3] at h; cases h
        | some w =>
          rw [e3] at h
          cases e4 : d.dec t with
          | none => rw [e4] at h; cases h
          | some s =>
            rw [e4] at h
            cases h
            rw [← a.hd _ _ e1, ← b.hd _ _ e2, ← c.hd _ _ e3, ← d.hd _ _ e4]
  · cases h
/-- a spec: arguments of a known make, a condition, a result -/
def spec {τ : Type} (A : List D → Option τ) (p : τ → Bool) (f : τ → D) (ds : List D) : Option D := (A ds).bind fun t => if p t = true then some (f t) else none
theorem spec_some {τ : Type} {A : List D → Option τ} {p : τ → Bool} {f : τ → D} {ds : List D} {d : D} (h : spec A p f ds = some d) : ∃ t, A ds = some t ∧ p t = true ∧ d = f t := by
  unfold spec at h
  cases e : A ds with
  | none => rw [e] at h; cases h
  | some t =>
    rw [e] at h
    have h : (if p t = true then some (f t) else none) = some d := h
    by_cases hp : p t = true
    · rw [if_pos hp] at h
      exact ⟨t, rfl, hp, (Option.some.inj h).symm⟩
    · rw [if_neg hp] at h
      cases h
theorem spec_of {τ : Type} {A : List D → Option τ} {p : τ → Bool} {f : τ → D} {ds : List D} {t : τ} (h : A ds = some t) (hp : p t = true) : spec A p f ds = some (f t) := by
  unfold spec
  rw [h]
  show (if p t = true then some (f t) else none) = _
  rw [if_pos hp]
end
end PV

set_option maxHeartbeats 4000000
/-! PV: reckoning with draws. -/
namespace PV
open PySem
section
variable {C : Nat → Option D} {F G : Nat → List D → W D} {ρ : Env} {Q : D → Prop} {R : Fl → Prop} {T : List D → Prop}
theorem w_lift {α : Type} (o : Option α) (Q : α → Prop) : wM.lift o Q = ∃ z, o = some z ∧ Q z := by
  cases o with
  | none => exact propext ⟨fun h => False.elim h, fun ⟨z, h, _⟩ => by cases h⟩
  | some a => exact propext ⟨fun h => ⟨a, rfl, h⟩, fun ⟨z, h, q⟩ => by cases h; exact q⟩
theorem w_bind {α β : Type} (x : W α) (f : α → W β) (Q : β → Prop) : wM.bind x f Q = x fun a => f a Q := rfl
theorem w_pure {α : Type} (a : α) (Q : α → Prop) : wM.pure a Q = Q a := rfl
@[simp] theorem W_none : ev wM C F G .none ρ Q = Q .none := by unfold ev; rfl
@[simp] theorem W_bl {b : Bool} : ev wM C F G (.bl b) ρ Q = Q (.bool b) := by unfold ev; rfl
@[simp] theorem W_int {b : Int} : ev wM C F G (.int b) ρ Q = Q (.int b) := by unfold ev; rfl
@[simp] theorem W_var {i : Nat} : ev wM C F G (.var i) ρ Q = ∃ z, getV ρ i = some z ∧ Q z := by unfold ev; exact w_lift _ _
@[simp] theorem W_bin {o : Op2} {a b : E} : ev wM C F G (.bin o a b) ρ Q = ev wM C F G a ρ fun x => ev wM C F G b ρ fun y => ∃ z, dBin o x y = some z ∧ Q z := by
  conv => { lhs; unfold ev }
  simp only [w_bind, w_lift]
@[simp] theorem W_ix {a b : E} : ev wM C F G (.ix a b) ρ Q = ev wM C F G a ρ fun x => ev wM C F G b ρ fun y => ∃ z, dIx x y = some z ∧ Q z := by
  conv => { lhs; unfold ev }
  simp only [w_bind, w_lift]
@[simp] theorem W_cmp {c : Cm} {a b : E} : ev wM C F G (.cmp c a b) ρ Q = ev wM C F G a ρ fun x => ev wM C F G b ρ fun y => ∃ z, (dCmp c x y).map .bool = some z ∧ Q z := by
  conv => { lhs; unfold ev }
  simp only [w_bind, w_lift]
@[simp] theorem W_bi {b : Bi} {a : E} : ev wM C F G (.bi b a) ρ Q = ev wM C F G a ρ fun x => ∃ z, dBi b x = some z ∧ Q z := by
  conv => { lhs; unfold ev }
  simp only [w_bind, w_lift]
@[simp] theorem W_tup {es : Es} : ev wM C F G (.tup es) ρ Q = evs wM C F G es ρ fun ds => Q (.tuple ds) := by
  conv => { lhs; unfold ev }
  simp only [w_bind, w_pure]
@[simp] theorem W_lst {es : Es} : ev wM C F G (.lst es) ρ Q = evs wM C F G es ρ fun ds => Q (.list ds) := by
  conv => { lhs; unfold ev }
  simp only [w_bind, w_pure]
@[simp] theorem W_call {f : Nat} {es : Es} : ev wM C F G (.call f es) ρ Q = evs wM C F G es ρ fun ds => F f ds Q := by
  conv => { lhs; unfold ev }
  simp only [w_bind]
@[simp] theorem W_callw {f : Nat} {es : Es} : ev wM C F G (.callw f es) ρ Q = evs wM C F G es ρ fun ds => G f ds Q := by
  conv => { lhs; unfold ev }
  simp only [w_bind]
@[simp] theorem Ws_nil : evs wM C F G .nil ρ T = T [] := by unfold evs; rfl
@[simp] theorem Ws_cons {e : E} {es : Es} : evs wM C F G (.cons e es) ρ T = ev wM C F G e ρ fun d => evs wM C F G es ρ fun ds => T (d :: ds) := by
  conv => { lhs; unfold evs }
  simp only [w_bind, w_pure]
@[simp] theorem WS_r1 {a : E} : evS wM C F G (.r1 a) ρ T = ev wM C F G a ρ fun x => ∃ i, int? x = some i ∧ okR 0 i = true ∧ T (rng 0 i) := by
  conv => { lhs; unfold evS }
  simp only [w_bind, w_lift]
  refine congrArg (ev wM C F G a ρ) (funext fun x => ?_)
  refine propext (exists_congr fun i => and_congr_right fun _ => ?_)
  by_cases h : okR 0 i = true
  · rw [if_pos h]
    exact ⟨fun q => ⟨h, q⟩, fun q => q.2⟩
  · rw [if_neg h]
    exact ⟨fun q => False.elim q, fun q => absurd q.1 h⟩
@[simp] theorem WS_val {a : E} : evS wM C F G (.val a) ρ T = ev wM C F G a ρ fun x => ∃ i, iter? x = some i ∧ T i := by
  conv => { lhs; unfold evS }
  simp only [w_bind, w_lift]
@[simp] theorem WX_asg {i : Nat} {e : E} : ex wM C F G (.asg i e) ρ R = ev wM C F G e (frz (esc false e) ρ) fun d => R (.nx ((frz (esc false e) ρ).set i (slotOf e d))) := by
  conv => { lhs; unfold ex }
  simp only [w_bind, w_pure]
@[simp] theorem WX_asgp {is : List Nat} {es : Es} : ex wM C F G (.asgp is es) ρ R = evs wM C F G es (frz (escs es) ρ) fun ds => ∃ ρ', setAll is es ds (frz (escs es) ρ) = some ρ' ∧ R (.nx ρ') := by
  conv => { lhs; unfold ex }
  simp only [w_bind, w_lift, w_pure]
@[simp] theorem WX_aug {i : Nat} {o : Op2} {e : E} : ex wM C F G (.aug i o e) ρ R = ∃ x, getV ρ i = some x ∧ ev wM C F G e (frz (esc false e) ρ) fun y => ∃ a, int? x = some a ∧ ∃ b, int? y = some b ∧ ∃ z, dBin o (.int a) (.int b) = some z ∧ R (.nx ((frz (esc false e) ρ).set i (.sh z))) := by
  conv => { lhs; unfold ex }
  simp only [w_bind, w_lift, w_pure]
@[simp] theorem WX_ret {e : E} : ex wM C F G (.ret e) ρ R = ev wM C F G e (frz (esc false e) ρ) fun d => R (.rt d) := by
  conv => { lhs; unfold ex }
  simp only [w_bind, w_pure]
/-- a turn of a for -/
def fBodyW (C : Nat → Option D) (F G : Nat → List D → W D) (p : Pat) (b : Ss) (d : D) (ρ : Env) : W Fl := wM.bind (wM.lift (bindP p d ρ)) fun ρ => exs wM C F G b ρ
theorem fBodyW_eq {p : Pat} {b : Ss} {d : D} {ρ' : Env} (h : bindP p d ρ = some ρ') : fBodyW C F G p b d ρ R = exs wM C F G b ρ' R := by
  unfold fBodyW
  rw [w_bind, w_lift]
  exact propext ⟨fun ⟨z, h1, q⟩ => by rw [h] at h1; cases h1; exact q, fun q => ⟨_, h, q⟩⟩
@[simp] theorem WX_for {p : Pat} {s : Src} {b : Ss} : ex wM C F G (.for_ p s b) ρ R = evS wM C F G s (frz (escF s) ρ) fun xs => forL wM (fBodyW C F G p b) (frz (escF s) ρ) xs (frz (escF s) ρ) R := by
  conv => { lhs; unfold ex }
  simp only [w_bind]
  rfl
@[simp] theorem WXs_nil : exs wM C F G .nil ρ R = R (.nx ρ) := by unfold exs; rfl
def fl3 (r : Env → Prop) (R : Fl → Prop) : Fl → Prop
  | .nx ρ => r ρ
  | .rt d => R (.rt d)
  | .bk ρ => R (.bk ρ)
@[simp] theorem fl3_nx {r : Env → Prop} : fl3 r R (.nx ρ) = r ρ := rfl
@[simp] theorem fl3_rt {r : Env → Prop} {d : D} : fl3 r R (.rt d) = R (.rt d) := rfl
theorem WXs_cons {s : S} {r : Ss} : exs wM C F G (.cons s r) ρ R = ex wM C F G s ρ (fl3 (fun ρ => exs wM C F G r ρ R) R) := by
  conv => { lhs; unfold exs }
  rw [w_bind]
  refine congrArg (ex wM C F G s ρ) (funext fun f => ?_)
  cases f <;> rfl
theorem forL_W {g : D → Env → W Fl} {ρ0 : Env} (I : Nat → Env → Prop) {xs : List D} (step : ∀ i x ρ, xs[i]? = some x → I i ρ → ∀ R : Fl → Prop, (∀ ρ', I (i + 1) (msk ρ0 ρ') → R (.nx ρ')) → g x ρ R) : ∀ {ρ : Env} {R : Fl → Prop}, I 0 ρ → (∀ ρ', I xs.length ρ' → R (.nx ρ')) → forL wM g ρ0 xs ρ R := by
  induction xs generalizing I with
  | nil => exact fun {ρ R} h q => by unfold forL; exact q ρ h
  | cons x xs ih =>
    intro ρ R h q
    unfold forL
    rw [w_bind]
    refine step 0 x ρ rfl h _ fun ρ' h' => ?_
    exact ih (fun i ρ => I (i + 1) ρ) (fun i y ρ hy hI => step (i + 1) y ρ (by simpa using hy) hI) h' q
theorem compL_W {g : D → W (Option D)} (I : Nat → List D → Prop) {xs : List D} (step : ∀ i x ys, xs[i]? = some x → I i ys → ∀ R : Option D → Prop, (∀ y, I (i + 1) (ys ++ [y]) → R (some y)) → g x R) : ∀ {T : List D → Prop} (ys : List D), I 0 ys → (∀ zs, I xs.length (ys ++ zs) → T zs) → compL wM g xs T := by
  induction xs generalizing I with
  | nil => exact fun {T} ys h q => by unfold compL; exact q [] (by simpa using h)
  | cons x xs ih =>
    intro T ys h q
    unfold compL
    rw [w_bind]
    refine step 0 x ys rfl h _ fun y h' => ?_
    rw [w_bind]
    refine ih (fun i ys => I (i + 1) ys) (fun i z zs hz hI => step (i + 1) z zs (by simpa using hz) hI) (ys ++ [y]) h' fun zs hz => ?_
    exact q (y :: zs) (by simpa using hz)
end
section
variable {C : Nat → Option D} {T : Nat → List D → Option D} {G : Nat → List D → W D} {ρ : Env}
theorem w_ev {e : E} {d : D} {Q : D → Prop} (h : ev optM C T (fun _ _ => none) e ρ = some d) (q : Q d) : ev wM C (fun n ds => ofO (T n ds)) G e ρ Q := gv_ev (fun n ds => gv_ofO _) (fun n ds => gv_none) e ρ d h Q q
theorem w_ex {s : S} {f : Fl} {R : Fl → Prop} (h : ex optM C T (fun _ _ => none) s ρ = some f) (q : R f) : ex wM C (fun n ds => ofO (T n ds)) G s ρ R := gv_ex (fun n ds => gv_ofO _) (fun n ds => gv_none) s ρ f h R q
theorem w_exs {s : Ss} {f : Fl} {R : Fl → Prop} (h : exs optM C T (fun _ _ => none) s ρ = some f) (q : R f) : exs wM C (fun n ds => ofO (T n ds)) G s ρ R := gv_exs (fun n ds => gv_ofO _) (fun n ds => gv_none) s ρ f h R q
/-- one statement reckoned in Option -/
theorem w_cons {s : S} {r : Ss} {ρ' : Env} {R : Fl → Prop} (h : ex optM C T (fun _ _ => none) s ρ = some (.nx ρ')) (q : exs wM C (fun n ds => ofO (T n ds)) G r ρ' R) : exs wM C (fun n ds => ofO (T n ds)) G (.cons s r) ρ R := by
  rw [WXs_cons]
  exact w_ex h q
end
@[simp] theorem gNext_eq {n : Int} {Q : D → Prop} : gNext [.int n] Q = (0 < n ∧ ∀ j : Int, 0 ≤ j → j < n → Q (.int j)) := by
  unfold gNext
  exact propext ⟨fun ⟨m, h, a, b⟩ => by cases h; exact ⟨a, b⟩, fun ⟨a, b⟩ => ⟨n, rfl, a, b⟩⟩
end PV

set_option maxHeartbeats 4000000
/-! PV: reckoning with draws, more. -/
namespace PV
open PySem
section
variable {C : Nat → Option D} {F G : Nat → List D → W D} {ρ : Env} {Q : D → Prop} {R : Fl → Prop} {T : List D → Prop}
def oStepW (C : Nat → Option D) (F G : Nat → List D → W D) (p : Pat) (t elt : E) (ρ : Env) (d : D) : W (Option D) := wM.bind (wM.lift (bindP p d ρ)) fun ρ1 =>
  wM.bind (ev wM C F G t ρ1) fun x => wM.bind (wM.lift (bool? x)) fun b => if b = true then wM.bind (ev wM C F G elt ρ1) fun y => wM.pure (some y) else wM.pure none
theorem oStepW_yes {p : Pat} {elt : E} {ρ' : Env} {d : D} {R : Option D → Prop} (h : bindP p d ρ = some ρ') : oStepW C F G p .yes elt ρ d R = ev wM C F G elt ρ' fun y => R (some y) := by
  unfold oStepW
  rw [w_bind, w_lift]
  have e : ∀ z, bindP p d ρ = some z ↔ z = ρ' := fun z => by rw [h]; exact ⟨fun q => (Option.some.inj q).symm, fun q => by rw [q]⟩
  simp only [e, exists_eq_left]
  rw [w_bind]
  show ev wM C F G (.bl true) ρ' _ = _
  rw [W_bl, w_bind, w_lift]
  exact propext ⟨fun ⟨z, h1, q⟩ => by cases h1; exact q, fun q => ⟨true, rfl, q⟩⟩
@[simp] theorem W_comp {own : List Nat} {p : Pat} {s : Src} {t elt : E} : ev wM C F G (.comp own p s t elt) ρ Q = evS wM C F G s ρ fun xs => compL wM (oStepW C F G p t elt (wip own ρ)) xs fun ys => Q (.list ys) := by
  conv => { lhs; unfold ev }
  simp only [w_bind, w_pure]
  rfl
@[simp] theorem WX_ite {t : E} {a b : Ss} : ex wM C F G (.ite t a b) ρ R = ev wM C F G t (frz (esc true t) ρ) fun x => ∃ t', bool? x = some t' ∧ (if t' = true then exs wM C F G a (frz (esc true t) ρ) R else exs wM C F G b (frz (esc true t) ρ) R) := by
  conv => { lhs; unfold ex }
  simp only [w_bind, w_lift]
  refine congrArg (ev wM C F G t _) (funext fun x => propext (exists_congr fun i => and_congr_right fun _ => ?_))
  by_cases h : i = true
  · simp only [if_pos h]
  · simp only [if_neg h]
end
end PV

set_option maxHeartbeats 4000000
/-! PV: goals with draws, hidden from a look at their heads (Lean would reckon them out). -/
namespace PV
open PySem
@[irreducible] def Wr (P : Prop) : Prop := P
theorem Wr.mk {P : Prop} (h : P) : Wr P := by unfold Wr; exact h
theorem Wr.out {P : Prop} (h : Wr P) : P := by unfold Wr at h; exact h
theorem Wr.ex {α : Type} {P Q : α → Prop} (z : α) (h : P z) (q : Wr (Q z)) : Wr (∃ z, P z ∧ Q z) := Wr.mk ⟨z, h, q.out⟩
theorem Wr.and {P Q : Prop} (h : P) (q : Wr Q) : Wr (P ∧ Q) := Wr.mk ⟨h, q.out⟩
theorem Wr.all {α : Sort _} {P : α → Prop} (h : ∀ x, Wr (P x)) : Wr (∀ x, P x) := Wr.mk fun x => (h x).out
theorem Wr.draw {n : Int} {Q : Int → Prop} (h : ∀ j : Int, 0 ≤ j → j < n → Wr (Q j)) : Wr (∀ j : Int, 0 ≤ j → j < n → Q j) := Wr.mk fun j a b => (h j a b).out
section
variable {C : Nat → Option D} {T : Nat → List D → Option D} {F G : Nat → List D → W D} {ρ : Env}
theorem Wr.next {n : Int} {Q : D → Prop} (hn : 0 < n) (h : ∀ j : Int, 0 ≤ j → j < n → Wr (Q (.int j))) : Wr (gNext [.int n] Q) := Wr.mk (by rw [gNext_eq]; exact ⟨hn, fun j a b => (h j a b).out⟩)
theorem Wr.exs {s : Ss} {f : Fl} {R : Fl → Prop} (h : exs optM C T (fun _ _ => none) s ρ = some f) (q : Wr (R f)) : Wr (exs wM C (fun n ds => ofO (T n ds)) G s ρ R) := Wr.mk (w_exs h q.out)
theorem Wr.cons {s : S} {r : Ss} {ρ' : Env} {R : Fl → Prop} (h : PV.ex optM C T (fun _ _ => none) s ρ = some (.nx ρ')) (q : Wr (PV.exs wM C (fun n ds => ofO (T n ds)) G r ρ' R)) : Wr (PV.exs wM C (fun n ds => ofO (T n ds)) G (.cons s r) ρ R) := Wr.mk (w_cons h q.out)
theorem forL_R {g : D → Env → W Fl} {ρ0 : Env} (I : Nat → Env → Prop) {xs : List D} (step : ∀ i x ρ, xs[i]? = some x → I i ρ → ∀ R : Fl → Prop, (∀ ρ', I (i + 1) (msk ρ0 ρ') → Wr (R (.nx ρ'))) → Wr (g x ρ R)) {ρ : Env} {R : Fl → Prop} (h : I 0 ρ) (q : ∀ ρ', I xs.length ρ' → Wr (R (.nx ρ'))) : Wr (forL wM g ρ0 xs ρ R) :=
  Wr.mk (forL_W I (fun i x ρ hx hI R hR => (step i x ρ hx hI R fun ρ' h => Wr.mk (hR ρ' h)).out) h fun ρ' h => (q ρ' h).out)
theorem compL_R {g : D → W (Option D)} (I : Nat → List D → Prop) {xs : List D} (step : ∀ i x ys, xs[i]? = some x → I i ys → ∀ R : Option D → Prop, (∀ y, I (i + 1) (ys ++ [y]) → Wr (R (some y))) → Wr (g x R)) {T : List D → Prop} (h : I 0 []) (q : ∀ zs, I xs.length zs → Wr (T zs)) : Wr (compL wM g xs T) :=
  Wr.mk (compL_W I (fun i x ys hx hI R hR => (step i x ys hx hI R fun y h => Wr.mk (hR y h)).out) [] h fun zs h => (q zs (by simpa using h)).out)
end
section
variable {C : Nat → Option D} {F G : Nat → List D → W D} {ρ : Env} {Q : D → Prop} {R : Fl → Prop} {T : List D → Prop}
@[simp] theorem WX_app {i : Nat} {e : E} : ex wM C F G (.app i e) ρ R = ∃ x, getO (frz (esc false e) ρ) i = some x ∧ ∃ u, lst? x = some u ∧ ev wM C F G e (frz (esc false e) ρ) fun d => ∃ y, dApp d x = some y ∧ R (.nx ((frz (esc false e) ρ).set i (.ow y))) := by
  conv => { lhs; unfold ex }
  simp only [w_bind, w_lift, w_pure]
@[simp] theorem WX_asgt {p : Pat} {e : E} : ex wM C F G (.asgt p e) ρ R = ev wM C F G e (frz (esc false e) ρ) fun d => ∃ ρ', bindP p d (frz (esc false e) ρ) = some ρ' ∧ R (.nx ρ') := by
  conv => { lhs; unfold ex }
  simp only [w_bind, w_lift, w_pure]
@[simp] theorem W_str {s : Str} : ev wM C F G (.str s) ρ Q = Q (.str s) := by unfold ev; rfl
@[simp] theorem W_neg {a : E} : ev wM C F G (.neg a) ρ Q = ev wM C F G a ρ fun x => ∃ z, ((int? x).map fun i => PyData.int (-i)) = some z ∧ Q z := by
  conv => { lhs; unfold ev }
  simp only [w_bind, w_lift]
@[simp] theorem W_not {a : E} : ev wM C F G (.not a) ρ Q = ev wM C F G a ρ fun x => ∃ z, ((bool? x).map fun i => PyData.bool (!i)) = some z ∧ Q z := by
  conv => { lhs; unfold ev }
  simp only [w_bind, w_lift]
@[simp] theorem W_mx {a b : E} : ev wM C F G (.mx a b) ρ Q = ev wM C F G a ρ fun x => ev wM C F G b ρ fun y => ∃ z, dMx x y = some z ∧ Q z := by
  conv => { lhs; unfold ev }
  simp only [w_bind, w_lift]
@[simp] theorem W_mn {a b : E} : ev wM C F G (.mn a b) ρ Q = ev wM C F G a ρ fun x => ev wM C F G b ρ fun y => ∃ z, dMn x y = some z ∧ Q z := by
  conv => { lhs; unfold ev }
  simp only [w_bind, w_lift]
@[simp] theorem W_ife {t a b : E} : ev wM C F G (.ife t a b) ρ Q = ev wM C F G t ρ fun x => ∃ z, bool? x = some z ∧ (if z = true then ev wM C F G a ρ Q else ev wM C F G b ρ Q) := by
  conv => { lhs; unfold ev }
  simp only [w_bind, w_lift]
  refine congrArg (ev wM C F G t _) (funext fun x => propext (exists_congr fun i => and_congr_right fun _ => ?_))
  by_cases h : i = true
  · simp only [if_pos h]
  · simp only [if_neg h]
end
/-- a row picked -/
def gPick : List D → W D := fun ds R => ∃ xs : List D, ds = [.list xs] ∧ 0 < xs.length ∧ ∀ x ∈ xs, R x
theorem Wr.pick {xs : List D} {Q : D → Prop} (h0 : xs ≠ []) (h : ∀ x ∈ xs, Wr (Q x)) : Wr (gPick [.list xs] Q) := Wr.mk ⟨xs, rfl, List.length_pos_iff.mpr h0, fun x hx => (h x hx).out⟩
theorem Wr.app {i : Nat} {e : E} {C : Nat → Option D} {F G : Nat → List D → W D} {ρ : Env} {R : Fl → Prop} {x : D} (h : getO (frz (esc false e) ρ) i = some x) (hl : lst? x = some ()) (q : Wr (ev wM C F G e (frz (esc false e) ρ) fun d => ∃ y, dApp d x = some y ∧ R (.nx ((frz (esc false e) ρ).set i (.ow y))))) : Wr (PV.ex wM C F G (.app i e) ρ R) := by
  rw [WX_app]
  exact Wr.ex x h (Wr.ex () hl q)
end PV

set_option maxHeartbeats 4000000
/-! PV: fractions in least terms; loops that end early. -/
namespace PV
open PySem

theorem gcd_fmod (a b : Int) : Int.gcd b (a.fmod b) = Int.gcd a b := by
  have e : a.fmod b = a - b * a.fdiv b := Int.fmod_def a b
  have h1 : (Int.gcd b (a.fmod b) : Int) ∣ b := Int.gcd_dvd_left ..
  have h2 : (Int.gcd b (a.fmod b) : Int) ∣ a.fmod b := Int.gcd_dvd_right ..
  have h3 : (Int.gcd a b : Int) ∣ a := Int.gcd_dvd_left ..
  have h4 : (Int.gcd a b : Int) ∣ b := Int.gcd_dvd_right ..
  have h5 : (Int.gcd b (a.fmod b) : Int) ∣ a := by
    have e2 : a = a.fmod b + b * a.fdiv b := by rw [e]; omega
    have := Int.dvd_add h2 (Int.dvd_mul_of_dvd_left (c := a.fdiv b) h1)
    rwa [← e2] at this
  have h6 : (Int.gcd a b : Int) ∣ a.fmod b := by
    rw [e]
    exact Int.dvd_sub h3 (Int.dvd_mul_of_dvd_left h4)
  exact Nat.dvd_antisymm (Int.ofNat_dvd.mp (Int.dvd_coe_gcd h5 h1)) (Int.ofNat_dvd.mp (Int.dvd_coe_gcd h4 h6))
/-- a fraction in least terms (b from 1 on) -/
def fr (a b : Int) : Int × Int := (a.fdiv (Int.gcd a b), b.fdiv (Int.gcd a b))
theorem gcd_pos {a b : Int} (h : 0 < b) : 0 < (Int.gcd a b : Int) := by
  have : Int.gcd a b ≠ 0 := fun e => by
    have := (Int.gcd_eq_zero_iff.mp e).2
    omega
  omega
theorem gcd_le {a b : Int} (h : 0 < b) : (Int.gcd a b : Int) ≤ b := Int.le_of_dvd h (Int.gcd_dvd_right ..)
/-- stands for a over b -/
structure FR (p : Int × Int) (a b : Int) : Prop where
  pos : 0 < p.2
  pos2 : 0 < b
  eq : p.1 * b = a * p.2
theorem fdiv_dvd {a g : Int} (hg : 0 < g) (h : g ∣ a) : a.fdiv g * g = a := by
  obtain ⟨c, rfl⟩ := h
  rw [Int.mul_comm g c, Int.mul_fdiv_cancel _ (by omega)]
theorem fr_rep {a b : Int} (h : 0 < b) : FR (fr a b) a b := by
  have hg := gcd_pos (a := a) h
  have e1 := fdiv_dvd hg (Int.gcd_dvd_left .. : (Int.gcd a b : Int) ∣ a)
  have e2 := fdiv_dvd hg (Int.gcd_dvd_right .. : (Int.gcd a b : Int) ∣ b)
  unfold fr
  generalize (Int.gcd a b : Int) = g at hg e1 e2 ⊢
  generalize a.fdiv g = x at e1 ⊢
  generalize b.fdiv g = y at e2 ⊢
  refine ⟨?_, h, ?_⟩
  · rcases Int.lt_trichotomy 0 y with h1 | h1 | h1
    · exact h1
    · simp only at *; subst h1; omega
    · have := Int.mul_neg_of_neg_of_pos h1 hg
      omega
  · simp only
    rw [← e1, ← e2, Int.mul_comm y g, ← Int.mul_assoc]
theorem fr_le {a b : Int} (h : 0 < b) : (fr a b).2 ≤ b ∧ (fr a b).1.natAbs ≤ a.natAbs := by
  have hg := gcd_pos (a := a) h
  have e1 := fdiv_dvd hg (Int.gcd_dvd_left .. : (Int.gcd a b : Int) ∣ a)
  have e2 := fdiv_dvd hg (Int.gcd_dvd_right .. : (Int.gcd a b : Int) ∣ b)
  have hp := (fr_rep (a := a) h).pos
  unfold fr at hp ⊢
  generalize (Int.gcd a b : Int) = g at hg e1 e2 hp ⊢
  generalize a.fdiv g = x at e1 hp ⊢
  generalize b.fdiv g = y at e2 hp ⊢
  simp only at hp ⊢
  constructor
  · have : y * 1 ≤ y * g := Int.mul_le_mul_of_nonneg_left (by omega) (by omega)
    omega
  · rw [← e1, Int.natAbs_mul]
    exact Nat.le_mul_of_pos_right _ (by omega)
theorem FR.lt {p q : Int × Int} {a b c d : Int} (h : FR p a b) (h' : FR q c d) : p.1 * q.2 < q.1 * p.2 ↔ a * d < c * b := by
  obtain ⟨p1, p2⟩ := p
  obtain ⟨q1, q2⟩ := q
  obtain ⟨h1, h2, h3⟩ := h
  obtain ⟨k1, k2, k3⟩ := h'
  simp only at *
  have bd : 0 < b * d := Int.mul_pos h2 k2
  have pq : 0 < p2 * q2 := Int.mul_pos h1 k1
  have e1 : (p1 * q2) * (b * d) = (a * d) * (p2 * q2) := by
    rw [show (p1 * q2) * (b * d) = (p1 * b) * (q2 * d) by ac_rfl, h3]; ac_rfl
  have e2 : (q1 * p2) * (b * d) = (c * b) * (p2 * q2) := by
    rw [show (q1 * p2) * (b * d) = (q1 * d) * (p2 * b) by ac_rfl, k3]; ac_rfl
  constructor
  · intro h
    have := Int.mul_lt_mul_of_pos_right h bd
    rw [e1, e2] at this
    exact Int.lt_of_mul_lt_mul_right this (Int.le_of_lt pq)
  · intro h
    have := Int.mul_lt_mul_of_pos_right h pq
    rw [← e1, ← e2] at this
    exact Int.lt_of_mul_lt_mul_right this (Int.le_of_lt bd)
theorem FR.one (a : Int) : FR (a, 1) a 1 := ⟨Int.one_pos, Int.one_pos, rfl⟩
theorem FR.add {p q : Int × Int} {a b c d : Int} (h : FR p a b) (h' : FR q c d) : FR (fr (p.1 * q.2 + q.1 * p.2) (p.2 * q.2)) (a * d + c * b) (b * d) := by
  have r := fr_rep (a := p.1 * q.2 + q.1 * p.2) (Int.mul_pos h.pos h'.pos)
  generalize fr (p.1 * q.2 + q.1 * p.2) (p.2 * q.2) = z at r ⊢
  obtain ⟨p1, p2⟩ := p
  obtain ⟨q1, q2⟩ := q
  obtain ⟨z1, z2⟩ := z
  obtain ⟨h1, h2, h3⟩ := h
  obtain ⟨k1, k2, k3⟩ := h'
  obtain ⟨r1, r2, r3⟩ := r
  simp only at *
  refine ⟨r1, Int.mul_pos h2 k2, ?_⟩
  simp only
  have pq : p2 * q2 ≠ 0 := Int.ne_of_gt (Int.mul_pos h1 k1)
  refine Int.eq_of_mul_eq_mul_right pq ?_
  rw [show z1 * (b * d) * (p2 * q2) = z1 * (p2 * q2) * (b * d) by ac_rfl, r3]
  rw [show (p1 * q2 + q1 * p2) * z2 * (b * d) = ((p1 * b) * (q2 * d) + (q1 * d) * (p2 * b)) * z2 by rw [Int.add_mul, Int.add_mul, Int.add_mul]; congr 1 <;> ac_rfl]
  rw [h3, k3, Int.add_mul, Int.add_mul, Int.add_mul]
  congr 1 <;> ac_rfl
theorem FR.sub {p q : Int × Int} {a b c d : Int} (h : FR p a b) (h' : FR q c d) : FR (fr (p.1 * q.2 - q.1 * p.2) (p.2 * q.2)) (a * d - c * b) (b * d) := by
  have h2 : FR (-q.1, q.2) (-c) d := ⟨h'.pos, h'.pos2, by simp only; rw [Int.neg_mul, Int.neg_mul, h'.eq]⟩
  have := h.add h2
  simp only [Int.neg_mul, ← Int.sub_eq_add_neg] at this
  exact this
/-- a for that ends at the first of a kind -/
theorem forL_find {α : Type} {g : D → Env → Option Fl} {ρ0 : Env} (e : α → D) (p : α → Bool) (r : α → D) : ∀ xs : List α, (∀ x ∈ xs, (p x = true → g (e x) ρ0 = some (.rt (r x))) ∧ (p x = false → ∃ ρ', g (e x) ρ0 = some (.nx ρ') ∧ msk ρ0 ρ' = ρ0)) →
    forL optM g ρ0 (xs.map e) ρ0 = some (match xs.find? p with
      | some x => .rt (r x)
      | none => .nx ρ0)
  | [], _ => by unfold forL; rfl
  | x :: xs, h => by
    rw [List.map_cons]
    unfold forL
    rw [o_bind]
    cases hp : p x with
    | true =>
      rw [(h x (by simp)).1 hp, List.find?_cons_of_pos hp]
      rfl
    | false =>
      obtain ⟨ρ', h1, h2⟩ := (h x (by simp)).2 hp
      rw [h1, List.find?_cons_of_neg (by simp [hp])]
      show forL optM g ρ0 (xs.map e) (msk ρ0 ρ') = _
      rw [h2]
      exact forL_find e p r xs fun y hy => h y (by simp [hy])
@[simp] theorem c_neb {a b : Bool} : dCmp .ne (.bool a) (.bool b) = some (!decide (a = b)) := by cases a <;> cases b <;> rfl
@[simp] theorem c_eqb {a b : Bool} : dCmp .eq (.bool a) (.bool b) = some (decide (a = b)) := by cases a <;> cases b <;> rfl
theorem cut_last {α : Type} (xs : List α) (x : α) : cut (xs ++ [x]) none (some (-1)) = xs := by
  have e : HT.sIx (xs ++ [x]).length (xs ++ [x]).length (some (-1)) = xs.length := by
    simp [HT.sIx]
    omega
  unfold cut
  rw [e, HT.sIx_none]
  simp
theorem nil_or_app {α : Type} (s : List α) : s = [] ∨ ∃ ys x, s = ys ++ [x] := by
  rcases List.eq_nil_or_concat s with h | ⟨ys, x, h⟩
  · exact .inl h
  · exact .inr ⟨ys, x, by rw [h, List.concat_eq_append]⟩
theorem i_sumf {α : Type} {xs : List α} {f : α → Int} : dBi .sum (.list (xs.map fun x => .int (f x))) = some (.int (xs.map f).sum) := by
  have e : xs.map (fun x => PyData.int (f x)) = (xs.map f).map .int := by rw [List.map_map]; rfl
  rw [e, i_sum]
@[simp] theorem sm_2 : small64 2 = true := by decide
@[simp] theorem sm_1 : small64 1 = true := by decide
@[simp] theorem sm_3 : small64 3 = true := by decide
theorem sm_abs {a : Int} (h : a.natAbs ≤ 1000000) : small64 a = true := by
  unfold small64
  exact decide_eq_true (by omega)
theorem fold_fil {α β : Type} (p : α → Bool) (g : α → β) : ∀ (xs : List α) (s : List β), xs.foldl (fun s k => if p k = true then s ++ [g k] else s) s = s ++ (xs.filter p).map g
  | [], s => by simp
  | x :: xs, s => by
    rw [List.foldl_cons, fold_fil p g xs]
    by_cases h : p x = true
    · rw [if_pos h, List.filter_cons_of_pos h, List.map_cons, List.append_assoc]
      rfl
    · rw [if_neg h, List.filter_cons_of_neg h]
/-! the size of plain data -/
mutual
def psz : D → Nat
  | .list xs => pszs xs + 1
  | .tuple xs => pszs xs + 1
  | _ => 1
def pszs : List D → Nat
  | [] => 0
  | x :: xs => psz x + pszs xs
end
theorem pszs_app : ∀ xs ys : List D, pszs (xs ++ ys) = pszs xs + pszs ys
  | [], ys => by simp [pszs]
  | x :: xs, ys => by simp [pszs, pszs_app xs ys, Nat.add_assoc]
theorem psz_pos (x : D) : 1 ≤ psz x := by cases x <;> simp [psz]
theorem pszs_len : ∀ xs : List D, xs.length ≤ pszs xs
  | [] => by simp
  | x :: xs => by
    have := pszs_len xs
    have := psz_pos x
    simp [pszs]
    omega
def kidsOf : D → List D
  | .list xs => xs
  | .tuple xs => xs
  | _ => []
theorem range_get {α β : Type} (xs : List α) (f : Nat → β) (g : α → β) (h : ∀ i (hi : i < xs.length), f i = g xs[i]) : (List.range xs.length).map f = xs.map g := by
  refine List.ext_getElem (by simp) fun i h1 h2 => ?_
  simp only [List.getElem_map, List.getElem_range]
  exact h i (by simpa using h1)
end PV

set_option maxHeartbeats 4000000
/-! PV: what the defs of fractions answer; one value held beside another. -/
namespace PV
open PySem
def cF : Cod (Int × Int) := c2 cInt cInt
theorem ok_F : CodOk cF 1 := ok_2 ok_int ok_int (by decide) (by decide)
theorem e_F (p : Int × Int) : cF.enc p = .tuple [.int p.1, .int p.2] := rfl
def S_common := spec (A2 cInt cInt) (fun p => decide (0 ≤ p.2)) fun p => .int (Int.gcd p.1 p.2)
def S_fraction := spec (A2 cInt cInt) (fun p => decide (0 < p.2 ∧ p.2 < 1073741824)) fun p => cF.enc (fr p.1 p.2)
def S_is_less := spec (A2 cF cF) (fun p => small64 p.1.2 && small64 p.2.2) fun p => .bool (decide (p.1.1 * p.2.2 < p.2.1 * p.1.2))
def okM (p q : Int × Int) : Bool := decide (0 < p.2 ∧ 0 < q.2 ∧ p.2 * q.2 < 1073741824)
def S_plus := spec (A2 cF cF) (fun p => okM p.1 p.2) fun p => cF.enc (fr (p.1.1 * p.2.2 + p.2.1 * p.1.2) (p.1.2 * p.2.2))
def S_minus := spec (A2 cF cF) (fun p => okM p.1 p.2) fun p => cF.enc (fr (p.1.1 * p.2.2 - p.2.1 * p.1.2) (p.1.2 * p.2.2))
def S_times := spec (A2 cF cF) (fun p => okM p.1 p.2 && small64 p.1.1) fun p => cF.enc (fr (p.1.1 * p.2.1) (p.1.2 * p.2.2))
def S_parted := spec (A2 cF cF) (fun p => decide (0 < p.1.2 ∧ 0 < p.2.1 ∧ p.1.2 * p.2.1 < 1073741824) && small64 p.2.2) fun p => cF.enc (fr (p.1.1 * p.2.2) (p.1.2 * p.2.1))
theorem le_mul {a b : Int} (ha : 0 < a) (hb : 0 < b) : a ≤ a * b := by
  have : a * 1 ≤ a * b := Int.mul_le_mul_of_nonneg_left (by omega) (by omega)
  omega
theorem sm_of {a : Int} (h : 0 < a ∧ a < 1073741824) : small64 a = true := by
  unfold small64
  exact decide_eq_true (by omega)
theorem okM_sm {p q : Int × Int} (h : okM p q = true) : small64 p.2 = true ∧ small64 q.2 = true := by
  unfold okM at h
  simp only [decide_eq_true_eq] at h
  have h1 := le_mul h.1 h.2.1
  have h2 := le_mul h.2.1 h.1
  rw [Int.mul_comm] at h2
  exact ⟨sm_of ⟨h.1, by omega⟩, sm_of ⟨h.2.1, by omega⟩⟩
/-- plain data held beside themselves -/
def okSame (d : D) : Bool := shal 10 d && decide (psz d ≤ 1000000)
open Classical in
noncomputable def S_same : List D → Option D
  | [a, b] => if a = b ∧ okSame a = true then some (.bool true) else none
  | _ => none
theorem S_same_of {a : D} (h : okSame a = true) : S_same [a, a] = some (.bool true) := by
  unfold S_same
  exact if_pos ⟨rfl, h⟩
theorem S_same_some {ds : List D} {d : D} (h : S_same ds = some d) : ∃ a, ds = [a, a] ∧ okSame a = true ∧ d = .bool true := by
  unfold S_same at h
  split at h
  · rename_i a b
    split at h
    · rename_i c
      exact ⟨a, by rw [c.1], c.2, (Option.some.inj h).symm⟩
    · cases h
  · cases h
def twin (x : D) : D := .tuple [x, x]
def sameN (s : List D) : List D := match s.getLast? with
  | some x => s.dropLast ++ kidsOf x
  | none => s
theorem sameN_app (ys : List D) (x : D) : sameN (ys ++ [x]) = ys ++ kidsOf x := by
  unfold sameN
  simp
theorem kids_sz (x : D) : pszs (kidsOf x) < psz x := by cases x <;> simp [kidsOf, psz, pszs]
theorem kids_sh {x : D} (h : shal 10 x = true) : (kidsOf x).all (shal 10) = true := by
  cases x with
  | list xs => exact shals_mono xs (n := 9) (by decide) h
  | tuple xs => exact shals_mono xs (n := 9) (by decide) h
  | _ => rfl
theorem sh12 {x : D} (h : shal 10 x = true) : shal 11 (twin x) = true := by
  show [x, x].all (shal 10) = true
  simp [h]
theorem sh_pairs {s : List D} (h : s.all (shal 10) = true) : sh (.list (s.map twin)) = true := by
  refine shal_mono _ (n := 12) (by decide) ?_
  show (s.map twin).all (shal 11) = true
  rw [List.all_eq_true] at h ⊢
  intro d hd
  obtain ⟨x, hx, rfl⟩ := List.mem_map.mp hd
  exact sh12 (h x hx)
theorem ne_nil {s : List D} (h : s.all (shal 10) = true) : dCmp .ne (.list (s.map twin)) (.list []) = some (!s.isEmpty) := by
  show (if (sh (.list (s.map twin)) && sh (.list [])) = true then some (!PyData.eqv (.list (s.map twin)) (.list [])) else (dEqX (.list (s.map twin)) (.list [])).map (!·)) = _
  rw [sh_pairs h]
  cases s <;> rfl
theorem ne_self {d : D} (h : shal 10 d = true) (hs : dCmp .eq d d = some true) : dCmp .ne d d = some false := by
  have e1 : dCmp .eq d d = if (sh d && sh d) = true then some (PyData.eqv d d) else dEqX d d := rfl
  have e2 : dCmp .ne d d = if (sh d && sh d) = true then some (!PyData.eqv d d) else (dEqX d d).map (!·) := rfl
  rw [e1] at hs
  rw [e2]
  split at hs
  · rename_i c
    rw [if_pos c]
    have := Option.some.inj hs
    rw [this]
    rfl
  · rename_i c
    rw [if_neg c, hs]
    rfl
end PV

set_option maxHeartbeats 4000000
/-! PV: two-clause comprehensions, membership, loops with a break, what is sorted. -/
namespace PV
open PySem PySem.W PyProof.Rows
section
variable {C : Nat → Option D} {F G : Nat → List D → Option D} {ρ : Env}
noncomputable def oSrc (C : Nat → Option D) (F G : Nat → List D → Option D) (p : Pat) (t : E) (own1 : List Nat) (s1 : Src) (ρb : Env) (d : D) : Option (Option (Env × List D)) := (bindP p d ρb).bind fun ρ1 => (ev optM C F G t ρ1).bind fun x => (bool? x).bind fun b => if b = true then (evS optM C F G s1 ρ1).bind fun zs => some (some (wip own1 ρ1, zs)) else some none
@[simp] theorem o_comp2 {own own1 : List Nat} {p p1 : Pat} {s s1 : Src} {t t1 elt : E} : ev optM C F G (.comp2 own own1 p s t p1 s1 t1 elt) ρ = (evS optM C F G s ρ).bind fun xs => (compLL optM (oSrc C F G p t own1 s1 (wip own ρ)) (oStep C F G p1 t1 elt) [] xs).bind fun ys => some (.list ys) := by
  conv => { lhs; unfold ev }
  simp
  rfl
end
theorem compL_len {g : D → Option (Option D)} : ∀ {xs ys : List D}, compL optM g xs = some ys → ys.length ≤ xs.length
  | [], ys, h => by
    unfold compL at h
    cases h
    exact Nat.le_refl _
  | x :: xs, ys, h => by
    unfold compL at h
    rw [o_bind] at h
    cases hx : g x with
    | none => rw [hx] at h; cases h
    | some o =>
      rw [hx] at h
      cases hr : compL optM g xs with
      | none => rw [Option.bind_some, hr] at h; cases h
      | some zs =>
        have := compL_len hr
        rw [Option.bind_some, hr] at h
        cases o with
        | none => cases h; simp; omega
        | some y => cases h; simp; omega
theorem compLL_all {α β : Type} {src : D → Option (Option (Env × List D))} {g : Env → D → Option (Option D)} {e : α → D} {e' : β → D} {ρ : α → Env} {bs : α → List β} {ys : α → List D} : ∀ (xs : List α) (acc : List D),
    (∀ a ∈ xs, src (e a) = some (some (ρ a, (bs a).map e'))) → (∀ a ∈ xs, compL optM (g (ρ a)) ((bs a).map e') = some (ys a)) → acc.length + (xs.map fun a => (bs a).length).sum ≤ LINE →
    compLL optM src g acc (xs.map e) = some (acc ++ xs.flatMap ys)
  | [], acc, _, _, _ => by
    unfold compLL
    simp
  | a :: xs, acc, h1, h2, hl => by
    rw [List.map_cons, List.sum_cons] at hl
    have hc := h2 a (by simp)
    have hlen := compL_len hc
    rw [List.length_map] at hlen
    have ih := compLL_all xs (acc ++ ys a) (fun b hb => h1 b (by simp [hb])) (fun b hb => h2 b (by simp [hb])) (by rw [List.length_append]; omega)
    rw [List.map_cons]
    unfold compLL
    rw [o_bind, h1 a (by simp)]
    show (if acc.length + ((bs a).map e').length ≤ LINE then optM.bind (compL optM (g (ρ a)) ((bs a).map e')) fun ys => compLL optM src g (acc ++ ys) (xs.map e) else optM.fail) = _
    rw [if_pos (by rw [List.length_map]; omega), hc]
    show compLL optM src g (acc ++ ys a) (xs.map e) = _
    rw [ih, List.flatMap_cons, List.append_assoc]
section
variable {α : Type} [DecidableEq α] {c : Cod α} {n : Nat}
theorem any_in (h : CodOk c n) (x : α) (xs : List α) : (xs.map c.enc).any (fun y => PyData.eqv y (c.enc x)) = decide (x ∈ xs) := by
  induction xs with
  | nil => simp
  | cons y ys ih =>
    rw [List.map_cons, List.any_cons, ih, h.eqd]
    by_cases e : y = x
    · simp [e]
    · have e2 : ¬ x = y := fun q => e q.symm
      simp [e, e2]
theorem d_in_t (h : CodOk c n) (hn : n ≤ 20) (x : α) (xs : List α) : dCmp .in_ (c.enc x) (.tuple (xs.map c.enc)) = some (decide (x ∈ xs)) := by
  show (if (sh (c.enc x) && shs (xs.map c.enc)) = true then some ((xs.map c.enc).any fun y => PyData.eqv y (c.enc x)) else none) = _
  rw [h.sh20 hn, h.shs20 hn, any_in h]
  rfl
theorem d_in_l (h : CodOk c n) (hn : n ≤ 20) (x : α) (xs : List α) : dCmp .in_ (c.enc x) (.list (xs.map c.enc)) = some (decide (x ∈ xs)) := d_in_t h hn x xs
theorem d_ni_t (h : CodOk c n) (hn : n ≤ 20) (x : α) (xs : List α) : dCmp .notin (c.enc x) (.tuple (xs.map c.enc)) = some (!decide (x ∈ xs)) := by
  show (dIn (c.enc x) (.tuple (xs.map c.enc))).map (!·) = _
  rw [show dIn (c.enc x) (.tuple (xs.map c.enc)) = some (decide (x ∈ xs)) from d_in_t h hn x xs]
  rfl
theorem d_ni_l (h : CodOk c n) (hn : n ≤ 20) (x : α) (xs : List α) : dCmp .notin (c.enc x) (.list (xs.map c.enc)) = some (!decide (x ∈ xs)) := d_ni_t h hn x xs
end
/-- a for that a break ends -/
theorem forL_brk {τ : Type} {g : D → Env → Option Fl} {ρ0 : Env} (st : τ → Env) (nxt : τ → τ) (c : τ → Bool) (I : τ → Prop) (h : ∀ s d, I s → (c s = true → (∃ ρ', g d (st s) = some (.nx ρ') ∧ msk ρ0 ρ' = st (nxt s)) ∧ I (nxt s)) ∧ (c s = false → ∃ ρ', g d (st s) = some (.bk ρ') ∧ msk ρ0 ρ' = st s)) :
    ∀ (xs : List D) (s : τ), I s → forL optM g ρ0 xs (st s) = some (.nx (st (loopN nxt c xs.length s)))
  | [], s, _ => by unfold forL; rfl
  | x :: xs, s, hI => by
    unfold forL
    rw [o_bind, List.length_cons]
    unfold loopN
    cases hc : c s with
    | true =>
      obtain ⟨⟨ρ', h1, h2⟩, h3⟩ := (h s x hI).1 hc
      rw [h1, if_pos rfl]
      show forL optM g ρ0 xs (msk ρ0 ρ') = _
      rw [h2]
      exact forL_brk st nxt c I h xs (nxt s) h3
    | false =>
      obtain ⟨ρ', h1, h2⟩ := (h s x hI).2 hc
      rw [h1, if_neg (by simp)]
      show some (Fl.nx (msk ρ0 ρ')) = _
      rw [h2]
theorem bools_map : ∀ bs : List Bool, bools? (bs.map .bool) = some bs
  | [] => rfl
  | b :: bs => by simp [bools?, bools_map bs]
theorem i_allf {α : Type} {xs : List α} {f : α → Bool} : dBi .all (.list (xs.map fun x => .bool (f x))) = some (.bool (xs.all f)) := by
  have e : xs.map (fun x => PyData.bool (f x)) = (xs.map f).map .bool := by rw [List.map_map]; rfl
  rw [e]
  show (bools? ((xs.map f).map .bool)).map _ = _
  rw [bools_map]
  simp
theorem i_anyf {α : Type} {xs : List α} {f : α → Bool} : dBi .any (.list (xs.map fun x => .bool (f x))) = some (.bool (xs.any f)) := by
  have e : xs.map (fun x => PyData.bool (f x)) = (xs.map f).map .bool := by rw [List.map_map]; rfl
  rw [e]
  show (bools? ((xs.map f).map .bool)).map _ = _
  rw [bools_map]
  simp
@[simp] theorem c_isn {d : D} : dCmp .is_ d .none = some (isN d) := by cases d <;> rfl
@[simp] theorem isN_none : isN .none = true := rfl
@[simp] theorem isN_int {i : Int} : isN (.int i) = false := rfl
def cOpt : Cod (Option Nat) where
  enc
    | none => .none
    | some n => .int n
  dec
    | .none => some none
    | .int i => if 0 ≤ i then some (some i.toNat) else none
    | _ => none
  he o := by cases o <;> simp
  hd d o h := by
    cases d <;> simp at h
    · subst h; rfl
    · obtain ⟨h1, h2⟩ := h
      subst h2
      simp [Int.toNat_of_nonneg h1]
/-! what is sorted -/
theorem lt_irr (d : D) : dataLt d d = false := dataLt_self d
section
variable {α : Type} {c : Cod α} {n : Nat}
theorem dSort_is (h : CodOk c n) (hn : n ≤ 20) {l l' : List α} (hs : l.length ≤ 1 ∨ sortable (l.map c.enc) = true) (hp : l'.Perm l) (ho : l'.Pairwise fun a b => dataLt (c.enc b) (c.enc a) = false) : dSort (l.map c.enc) = some (l'.map c.enc) := by
  have T := sortLe_total (listOrd itemOrd) false fun b : D => keyToks (id b)
  obtain ⟨z, e, pz⟩ := dSort_of h hn hs
  have hz : z.Pairwise fun a b => dataLt (c.enc b) (c.enc a) = false := by
    by_cases hl : l.length ≤ 1
    · have : z.length ≤ 1 := by rw [pz.length_eq]; exact hl
      match z, this with
      | [], _ => exact List.Pairwise.nil
      | [a], _ => exact List.pairwise_singleton _ _
    · have h2 : dSort (l.map c.enc) = some ((l.map c.enc).mergeSort (dataLe false id)) := by
        unfold dSort at e ⊢
        rw [if_neg (by simp; omega)] at e ⊢
        split at e
        · rename_i q
          rw [if_pos q]
        · cases e
      rw [h2] at e
      have e := Option.some.inj e
      have pw := List.pairwise_mergeSort (le := dataLe false (id : D → D)) T.trans (fun a b => by rw [Bool.or_eq_true]; exact T.total a b) (l.map c.enc)
      rw [e, List.pairwise_map] at pw
      refine pw.imp fun {a b} q => ?_
      rw [dataLe_eq] at q
      simpa using q
  have : z = l' := List.Perm.eq_of_pairwise (le := fun a b => dataLt (c.enc b) (c.enc a) = false) (fun a b _ _ h1 h2 => lt_anti h h2 h1) hz ho (pz.trans hp.symm)
  rw [e, this]
/-- the least of what is sorted stands first -/
theorem dSort_min (h : CodOk c n) (hn : n ≤ 20) {l : List α} (ne : l ≠ []) (hs : l.length ≤ 1 ∨ sortable (l.map c.enc) = true) : ∃ m r, dSort (l.map c.enc) = some (c.enc m :: r) ∧ dMin (l.map c.enc) = some (c.enc m) ∧ m ∈ l := by
  have T := sortLe_total (listOrd itemOrd) false fun b : D => keyToks (id b)
  obtain ⟨m, h1, h2, h3⟩ := dMin_of h hn ne
  obtain ⟨z, e, pz⟩ := dSort_of h hn hs
  cases z with
  | nil =>
    have := pz.length_eq
    cases l with
    | nil => exact absurd rfl ne
    | cons => simp at this
  | cons a r =>
    have ha : a ∈ l := pz.mem_iff.mp (by simp)
    have hm : m ∈ a :: r := pz.mem_iff.mpr h1
    have le : dataLt (c.enc m) (c.enc a) = false := by
      by_cases hl : l.length ≤ 1
      · have : (a :: r).length ≤ 1 := by rw [pz.length_eq]; exact hl
        have hr : r = [] := by cases r <;> simp at this ⊢
        rw [hr] at hm
        have : m = a := by simpa using hm
        rw [this]
        exact lt_irr _
      · have hd : dSort (l.map c.enc) = some ((l.map c.enc).mergeSort (dataLe false id)) := by
          unfold dSort at e ⊢
          rw [if_neg (by simp; omega)] at e ⊢
          split at e
          · rename_i q
            rw [if_pos q]
          · cases e
        rw [hd] at e
        have e := Option.some.inj e
        have pw := List.pairwise_mergeSort (le := dataLe false (id : D → D)) T.trans (fun a b => by rw [Bool.or_eq_true]; exact T.total a b) (l.map c.enc)
        rw [e, List.map_cons, List.pairwise_cons] at pw
        rcases List.mem_cons.mp hm with q | q
        · rw [q]
          exact lt_irr _
        · have := pw.1 (c.enc m) (List.mem_map_of_mem q)
          rw [dataLe_eq] at this
          simpa using this
    have : a = m := lt_anti h (h3 a ha) le
    subst this
    exact ⟨a, r.map c.enc, by rw [e, List.map_cons], h2, h1⟩
end
end PV

set_option maxHeartbeats 4000000
/-! PV: constants of the module; loops by index; what is often asked of codecs. -/
namespace PV
open PySem PyProof.Rows L2
/-- a constant of the module: two numbers -/
theorem glob_2 {K : PySem.W.Frag} {mg : Str → Option Value} {x : Str} {f : Addr} {od : Option Addr} {i j : Int} {ti tj : Tok} {n : Nat} {sl : Array (Option Value)} (hm : mg x = some (.ref f)) (l : K.lookup f = some ⟨.type "tuple", od, .seq #[.int i ti, .int j tj] n, sl⟩) :
    ∃ v u d, mg x = some u ∧ RelV v u ∧ (some (PyData.tuple [.int i, .int j])) = some d ∧ ∀ (W0 : World) H, Rp ⟨K, W0⟩ H v d :=
  ⟨.ref f, .ref f, _, hm, rfl, rfl, fun W0 H => .tup (.inr ⟨_, #[.int i ti, .int j tj], n, l, rfl, rfl, by show 2 ≤ sizeLine; decide, .cons (show RelV (.int i) (.int i ti) from ⟨ti, rfl⟩) (.cons (show RelV (.int j) (.int j tj) from ⟨tj, rfl⟩) .nil)⟩) (.cons (.int i) (.cons (.int j) .nil))⟩
section
variable {α : Type} {c : Cod α} {n : Nat}
theorem ne_self_c (h : CodOk c n) (hn : n ≤ 20) (x : α) : dCmp .ne (c.enc x) (c.enc x) = some false := by
  classical
  rw [d_ne h hn]
  simp
theorem eq_self_c (h : CodOk c n) (hn : n ≤ 20) (x : α) : dCmp .eq (c.enc x) (c.enc x) = some true := by
  classical
  rw [d_eq h hn]
  simp
theorem ne_nil_c (h : CodOk c n) (hn : n < 20) (xs : List α) : dCmp .ne (.list (xs.map c.enc)) (.list []) = some (!xs.isEmpty) := by
  classical
  rw [show PyData.list (xs.map c.enc) = (cL c).enc xs from rfl, show PyData.list [] = (cL c).enc [] from rfl, d_ne (ok_L h) (by omega)]
  cases xs <;> simp
theorem eq_nil_c (h : CodOk c n) (hn : n < 20) (xs : List α) : dCmp .eq (.list (xs.map c.enc)) (.list []) = some xs.isEmpty := by
  classical
  rw [show PyData.list (xs.map c.enc) = (cL c).enc xs from rfl, show PyData.list [] = (cL c).enc [] from rfl, d_eq (ok_L h) (by omega)]
  cases xs <;> simp
end
theorem rng_nat (n : Nat) : rng 0 (n : Int) = (List.range n).map cNat.enc := by
  rw [rng_map, show ((n : Int) - 0).toNat = n by omega]
  exact List.map_congr_left fun k _ => by simp
theorem rng_1 (n : Nat) : rng 1 ((n : Int) + 1) = (List.range n).map fun (k : Nat) => PyData.int ((k : Int) + 1) := by
  rw [rng_map, show ((n : Int) + 1 - 1).toNat = n by omega]
  exact List.map_congr_left fun k _ => by rw [Int.add_comm]
theorem okR_nat {n : Nat} (h : n ≤ 1000) : okR 0 (n : Int) = true := by unfold okR LINE; exact decide_eq_true (by omega)
theorem okR_1 {n : Nat} (h : n ≤ 1000) : okR 1 ((n : Int) + 1) = true := by unfold okR LINE; exact decide_eq_true (by omega)
theorem slot_enc {α : Type} {c : Cod α} (h : ∀ x, ∃ ds, c.enc x = .tuple ds) (e : E) (x : α) : slotOf e (c.enc x) = .sh (c.enc x) := by
  obtain ⟨ds, q⟩ := h x
  rw [q]
  exact slot_tup
theorem Wr.call {T : Nat → List D → Option D} {f : Nat} {ds : List D} {v : D} {Q : D → Prop} (h : T f ds = some v) (q : Wr (Q v)) : Wr ((fun n ds => ofO (T n ds) : Nat → List D → W D) f ds Q) := Wr.mk ⟨v, h, q.out⟩
/-- a loop, by the turn -/
theorem forL_idx {α : Type} {g : D → Env → Option Fl} {ρ0 : Env} (e : α → D) (st : Nat → Env) : ∀ (xs : List α) (s : Nat),
    (∀ k (hk : k < xs.length), ∃ ρ', g (e xs[k]) (st (s + k)) = some (.nx ρ') ∧ msk ρ0 ρ' = st (s + k + 1)) → forL optM g ρ0 (xs.map e) (st s) = some (.nx (st (s + xs.length)))
  | [], s, _ => by unfold forL; rfl
  | x :: xs, s, h => by
    obtain ⟨ρ', h1, h2⟩ := h 0 (by simp)
    rw [List.map_cons]
    unfold forL
    have h1 : g (e x) (st s) = some (.nx ρ') := h1
    rw [o_bind, h1]
    show forL optM g ρ0 (xs.map e) (msk ρ0 ρ') = _
    have h2 : msk ρ0 ρ' = st (s + 1) := h2
    rw [h2, forL_idx e st xs (s + 1) fun k hk => by
      have := h (k + 1) (by simp; omega)
      rw [show s + 1 + k = s + (k + 1) by omega]
      exact this, List.length_cons, show s + 1 + xs.length = s + (xs.length + 1) by omega]
/-- a loop over numbers from 0 on -/
theorem forL_rng {g : D → Env → Option Fl} {ρ0 : Env} (st : Nat → Env) (n : Nat) (h : ∀ k, k < n → ∃ ρ', g (.int k) (st k) = some (.nx ρ') ∧ msk ρ0 ρ' = st (k + 1)) : forL optM g ρ0 ((List.range n).map cNat.enc) (st 0) = some (.nx (st n)) := by
  have key := forL_idx (g := g) (ρ0 := ρ0) cNat.enc st (List.range n) 0 fun k hk => by
    rw [List.length_range] at hk
    obtain ⟨ρ', h1, h2⟩ := h k hk
    refine ⟨ρ', ?_, ?_⟩
    · rw [List.getElem_range, Nat.zero_add]
      exact h1
    · rw [Nat.zero_add]
      exact h2
  rw [List.length_range, Nat.zero_add] at key
  exact key
/-- a row picked out of a list or a tuple -/
def gPick2 : List D → W D := fun ds R => ∃ xs : List D, (ds = [.list xs] ∨ ds = [.tuple xs]) ∧ 0 < xs.length ∧ ∀ x ∈ xs, R x
theorem Wr.pick2 {xs : List D} {Q : D → Prop} (h0 : xs ≠ []) (h : ∀ x ∈ xs, Wr (Q x)) : Wr (gPick2 [.list xs] Q) := Wr.mk ⟨xs, .inl rfl, List.length_pos_iff.mpr h0, fun x hx => (h x hx).out⟩
theorem Wr.pick2t {xs : List D} {Q : D → Prop} (h0 : xs ≠ []) (h : ∀ x ∈ xs, Wr (Q x)) : Wr (gPick2 [.tuple xs] Q) := Wr.mk ⟨xs, .inr rfl, List.length_pos_iff.mpr h0, fun x hx => (h x hx).out⟩
section
variable {PG : Program} {W0 : World} {K : PySem.W.Frag} {mg : Str → Option Value} {base : Heap} {k j : Nat} {x : Str} {st : Stmt} {N ps : List Str}
/-- a def by another table than its own promise (one that calls itself) -/
theorem mk_pureR {C : Nat → Option D} {T : Nat → List D → Option D} {GG : Nat → List D → W D} {fs : List (Nat × Str × Nat × Bool)} {gl : List (Nat × Str)} (h : Has K mg x st) (hbd : Bnd x st ps) (m : Md PG W0 K mg base ⟨C, fun n ds => ofO (T n ds), GG, none, 1000⟩ fs gl k) (S : FnScope N ps (defScope st)) (hps : ps.length ≤ N.length) {b : Ss}
    (hc : chkSs ⟨N, defScope st, defScope st, 1000, fs, gl⟩ b (defBody st) = true) {g : List D → Option D} (hr : ∀ ds d, g ds = some d → run optM C T (fun _ _ => none) N.length b ds = some d) : DefOk PG W0 K mg base (k + 1) x (spF ps.length (fun ds => ofO (g ds)) ⟨K, W0⟩) := by
  obtain ⟨a, fd, h1, h2, F⟩ := h
  refine ⟨a, fd, ps, h1, h2, F.binds hbd, fn_pure m rfl F S hps hc fun ds R q => ?_⟩
  obtain ⟨d, hd, q⟩ := q
  exact gv_run (fun n ds => gv_ofO _) (fun n ds => gv_none) N.length b ds d (hr ds d hd) R q
/-- no promise at all -/
theorem mk_vac (h : Has K mg x st) (hbd : Bnd x st ps) : DefOk PG W0 K mg base k x (spF ps.length (fun _ => ofO none) ⟨K, W0⟩) := by
  obtain ⟨a, fd, h1, h2, F⟩ := h
  refine ⟨a, fd, ps, h1, h2, F.binds hbd, ⟨fun vs H Q E h => h.1, fun A outer s H args us vs Q E hr he hb hv hs => ?_⟩⟩
  obtain ⟨_, _, _, _, _, _, ⟨_, q, _⟩, _⟩ := hs
  cases q
end
end PV

set_option maxHeartbeats 4000000
/-! PV: fractions in least terms, more. -/
namespace PV
open PySem
theorem cop_dvd {u a b : Int} (h : Int.gcd u a = 1) (h2 : u ∣ a * b) : u ∣ b := by
  have e : Int.gcd (u * b) (a * b) = b.natAbs := by rw [Int.gcd_mul_right, h, Nat.one_mul]
  have h7 : u ∣ (Int.gcd (u * b) (a * b) : Int) := Int.dvd_coe_gcd (Int.dvd_mul_of_dvd_left (Int.dvd_refl u)) h2
  rw [e] at h7
  exact Int.dvd_natAbs.mp h7
theorem pos_left {c q : Int} (h : 0 < c * q) (hq : 0 < q) : 0 < c := by
  by_cases h1 : 0 < c
  · exact h1
  · have : c * q ≤ 0 * q := Int.mul_le_mul_of_nonneg_right (by omega) (Int.le_of_lt hq)
    omega
structure Red (p : Int × Int) : Prop where
  pos : 0 < p.2
  cop : Int.gcd p.1 p.2 = 1
theorem fr_red {a b : Int} (h : 0 < b) : Red (fr a b) := by
  have hg := gcd_pos (a := a) h
  have e1 := fdiv_dvd hg (Int.gcd_dvd_left .. : (Int.gcd a b : Int) ∣ a)
  have e2 := fdiv_dvd hg (Int.gcd_dvd_right .. : (Int.gcd a b : Int) ∣ b)
  refine ⟨(fr_rep h).pos, ?_⟩
  have key : Int.gcd ((fr a b).1 * (Int.gcd a b : Int)) ((fr a b).2 * (Int.gcd a b : Int)) = Int.gcd (fr a b).1 (fr a b).2 * Int.gcd a b := by
    rw [Int.gcd_mul_right]
    simp
  have e3 : (fr a b).1 * (Int.gcd a b : Int) = a := e1
  have e4 : (fr a b).2 * (Int.gcd a b : Int) = b := e2
  rw [e3, e4] at key
  have hg' : 0 < Int.gcd a b := by omega
  have : 1 * Int.gcd a b = Int.gcd (fr a b).1 (fr a b).2 * Int.gcd a b := by rw [← key, Nat.one_mul]
  exact (Nat.eq_of_mul_eq_mul_right hg' this).symm
theorem red_one (a : Int) : Red (a, 1) := ⟨Int.one_pos, by simp⟩
theorem FR.dvd {p : Int × Int} {a b : Int} (h : FR p a b) (r : Red p) : p.2 ∣ b := by
  have h1 : p.2 ∣ p.1 * b := ⟨a, by rw [h.eq, Int.mul_comm]⟩
  exact cop_dvd (by rw [Int.gcd_comm]; exact r.cop) h1
theorem FR.le {p : Int × Int} {a b : Int} (h : FR p a b) (r : Red p) : p.2 ≤ b := Int.le_of_dvd h.pos2 (h.dvd r)
theorem FR.uniq {p q : Int × Int} {a b c d : Int} (h : FR p a b) (r : Red p) (h' : FR q c d) (r' : Red q) (e : a * d = c * b) : p = q := by
  have key : p.1 * q.2 = q.1 * p.2 := by
    have bd : b * d ≠ 0 := Int.ne_of_gt (Int.mul_pos h.pos2 h'.pos2)
    refine Int.eq_of_mul_eq_mul_right bd ?_
    rw [show p.1 * q.2 * (b * d) = (p.1 * b) * (q.2 * d) by ac_rfl, h.eq, show q.1 * p.2 * (b * d) = (q.1 * d) * (p.2 * b) by ac_rfl, h'.eq]
    rw [show a * p.2 * (q.2 * d) = (a * d) * (p.2 * q.2) by ac_rfl, e]
    ac_rfl
  have d1 : p.2 ∣ q.2 := cop_dvd (a := p.1) (by rw [Int.gcd_comm]; exact r.cop) ⟨q.1, by rw [key, Int.mul_comm]⟩
  have d2 : q.2 ∣ p.2 := cop_dvd (a := q.1) (by rw [Int.gcd_comm]; exact r'.cop) ⟨p.1, by rw [← key, Int.mul_comm]⟩
  have e2 : p.2 = q.2 := Int.le_antisymm (Int.le_of_dvd r'.pos d1) (Int.le_of_dvd r.pos d2)
  have e1 : p.1 = q.1 := by
    rw [e2] at key
    exact Int.eq_of_mul_eq_mul_right (Int.ne_of_gt r'.pos) key
  exact Prod.ext e1 e2
theorem fr_self {p : Int × Int} (r : Red p) : fr p.1 p.2 = p := by
  unfold fr
  rw [r.cop]
  exact Prod.ext (by simp) (by simp)
theorem FR.refl {p : Int × Int} (r : Red p) : FR p p.1 p.2 := ⟨r.pos, r.pos, rfl⟩
theorem FR.mul {p q : Int × Int} {a b c d : Int} (h : FR p a b) (h' : FR q c d) : FR (fr (p.1 * q.1) (p.2 * q.2)) (a * c) (b * d) := by
  have r := fr_rep (a := p.1 * q.1) (Int.mul_pos h.pos h'.pos)
  generalize fr (p.1 * q.1) (p.2 * q.2) = z at r ⊢
  refine ⟨r.pos, Int.mul_pos h.pos2 h'.pos2, ?_⟩
  have pq : p.2 * q.2 ≠ 0 := Int.ne_of_gt (Int.mul_pos h.pos h'.pos)
  refine Int.eq_of_mul_eq_mul_right pq ?_
  rw [show z.1 * (b * d) * (p.2 * q.2) = z.1 * (p.2 * q.2) * (b * d) by ac_rfl, r.eq]
  rw [show p.1 * q.1 * z.2 * (b * d) = (p.1 * b) * (q.1 * d) * z.2 by ac_rfl, h.eq, h'.eq]
  ac_rfl
theorem FR.num_pos {q : Int × Int} {c d : Int} (h : FR q c d) : 0 < q.1 ↔ 0 < c := by
  have h1 := h.eq
  constructor
  · intro hq
    have : 0 < c * q.2 := by rw [← h1]; exact Int.mul_pos hq h.pos2
    exact pos_left this h.pos
  · intro hc
    have : 0 < q.1 * d := by rw [h1]; exact Int.mul_pos hc h.pos
    exact pos_left this h.pos2
theorem FR.div {p q : Int × Int} {a b c d : Int} (h : FR p a b) (h' : FR q c d) (hc : 0 < c) : FR (fr (p.1 * q.2) (p.2 * q.1)) (a * d) (b * c) := by
  have hq := h'.num_pos.mpr hc
  exact h.mul (q := (q.2, q.1)) (c := d) (d := c) ⟨hq, hc, by simp only; rw [Int.mul_comm q.2 c, ← h'.eq, Int.mul_comm]⟩
/-- what the divisor of a sum's parts may be -/
theorem gcd_sum {x y b d : Int} (hb : Int.gcd x b = 1) (hd : Int.gcd y d = 1) : Int.gcd (x * d + y * b) (b * d) ∣ Int.gcd b d * Int.gcd b d := by
  -- g divides b * d and x d + y b
  have g1 : (Int.gcd (x * d + y * b) (b * d) : Int) ∣ x * d + y * b := Int.gcd_dvd_left ..
  have g2 : (Int.gcd (x * d + y * b) (b * d) : Int) ∣ b * d := Int.gcd_dvd_right ..
  generalize hg : (Int.gcd (x * d + y * b) (b * d) : Int) = g at g1 g2
  -- g divides b² y and d² x, hence with the coprimes b², d²
  have h1 : g ∣ y * (b * b) := by
    have : y * (b * b) = (x * d + y * b) * b - x * (b * d) := by
      rw [Int.add_mul, show x * (b * d) = x * d * b by ac_rfl, show y * b * b = y * (b * b) by ac_rfl]
      omega
    rw [this]
    exact Int.dvd_sub (Int.dvd_mul_of_dvd_left g1) (Int.dvd_mul_of_dvd_right g2)
  have h2 : g ∣ x * (d * d) := by
    have : x * (d * d) = (x * d + y * b) * d - y * (b * d) := by
      rw [Int.add_mul, show y * b * d = y * (b * d) by ac_rfl, show x * d * d = x * (d * d) by ac_rfl]
      omega
    rw [this]
    exact Int.dvd_sub (Int.dvd_mul_of_dvd_left g1) (Int.dvd_mul_of_dvd_right g2)
  have h3 : g ∣ d * (b * b) := by rw [show d * (b * b) = (b * d) * b by ac_rfl]; exact Int.dvd_mul_of_dvd_left g2
  have h4 : g ∣ b * (d * d) := by rw [show b * (d * d) = (b * d) * d by ac_rfl]; exact Int.dvd_mul_of_dvd_left g2
  have comb : ∀ {u v m : Int}, Int.gcd u v = 1 → g ∣ u * m → g ∣ v * m → g ∣ m := fun {u v m} huv h5 h6 => by
    have : Int.gcd (u * m) (v * m) = m.natAbs := by rw [Int.gcd_mul_right, huv, Nat.one_mul]
    have h7 : g ∣ (Int.gcd (u * m) (v * m) : Int) := Int.dvd_coe_gcd h5 h6
    rw [this] at h7
    exact Int.dvd_natAbs.mp h7
  have k1 : g ∣ b * b := comb hd h1 h3
  have k2 : g ∣ d * d := comb hb h2 h4
  have k3 : g ∣ (Int.gcd (b * b) (d * d) : Int) := Int.dvd_coe_gcd k1 k2
  have k4 : Int.gcd (b * b) (d * d) = Int.gcd b d * Int.gcd b d := by
    have := Int.pow_gcd_pow (m := d) (n := b) (k := 2)
    simp only [Int.pow_succ, Int.pow_zero, Int.one_mul, Nat.pow_succ, Nat.pow_zero, Nat.one_mul] at this
    exact this
  rw [k4] at k3
  rw [← hg] at k3
  exact Int.ofNat_dvd.mp (by simpa using k3)
theorem FR.scale {p : Int × Int} {a b k : Int} (h : FR p (a * k) (b * k)) (hk : 0 < k) : FR p a b := by
  have hb : 0 < b := pos_left h.pos2 hk
  refine ⟨h.pos, hb, ?_⟩
  refine Int.eq_of_mul_eq_mul_right (Int.ne_of_gt hk) ?_
  rw [Int.mul_assoc, h.eq]
  ac_rfl
theorem FR.scale_up {p : Int × Int} {a b k : Int} (h : FR p a b) (hk : 0 < k) : FR p (a * k) (b * k) := by
  refine ⟨h.pos, Int.mul_pos h.pos2 hk, ?_⟩
  rw [← Int.mul_assoc, h.eq]
  ac_rfl
theorem FR.num_le {p : Int × Int} {a b m : Int} (h : FR p a b) (r : Red p) (ha : a.natAbs ≤ m) : (p.1.natAbs : Int) ≤ m := by
  have h1 : p.1.natAbs * b.natAbs = a.natAbs * p.2.natAbs := by rw [← Int.natAbs_mul, h.eq, Int.natAbs_mul]
  have h2 := h.le r
  have h3 := h.pos
  have h4 : p.1.natAbs * p.2.natAbs ≤ a.natAbs * p.2.natAbs := by
    rw [← h1]
    exact Nat.mul_le_mul_left _ (by omega)
  have := Nat.le_of_mul_le_mul_right h4 (by omega)
  omega
/-! sums and the like, with what the model needs -/
def fadd (p q : Int × Int) : Int × Int := fr (p.1 * q.2 + q.1 * p.2) (p.2 * q.2)
def fsub (p q : Int × Int) : Int × Int := fr (p.1 * q.2 - q.1 * p.2) (p.2 * q.2)
def fmul (p q : Int × Int) : Int × Int := fr (p.1 * q.1) (p.2 * q.2)
def fdv (p q : Int × Int) : Int × Int := fr (p.1 * q.2) (p.2 * q.1)
def flt (p q : Int × Int) : Bool := decide (p.1 * q.2 < q.1 * p.2)
def okG (_ b : Int) : Bool := decide (0 < b ∧ b < 2 ^ 190)
def okS (p q : Int × Int) : Bool := small64 p.2 && small64 q.2
theorem okG_of {a b : Int} (h : 0 < b ∧ b < 2 ^ 190) : okG a b = true := decide_eq_true h
def S_frG := spec (A2 cInt cInt) (fun p => okG p.1 p.2) fun p => cF.enc (fr p.1 p.2)
def S_comG := spec (A2 cInt cInt) (fun p => decide (0 < p.2 ∧ p.2 < 2 ^ 190)) fun p => .int (Int.gcd p.1 p.2)
def okAdd (p q : Int × Int) : Bool := okS p q && okG (p.1 * q.2 + q.1 * p.2) (p.2 * q.2)
def okSub (p q : Int × Int) : Bool := okS p q && okG (p.1 * q.2 - q.1 * p.2) (p.2 * q.2)
def okMul (p q : Int × Int) : Bool := okS p q && ((small64 p.1 || small64 q.1) && okG (p.1 * q.1) (p.2 * q.2))
def okDv (p q : Int × Int) : Bool := okS p q && okG (p.1 * q.2) (p.2 * q.1)
def S_add := spec (A2 cF cF) (fun z => okAdd z.1 z.2) fun z => cF.enc (fadd z.1 z.2)
def S_sub := spec (A2 cF cF) (fun z => okSub z.1 z.2) fun z => cF.enc (fsub z.1 z.2)
def S_mul := spec (A2 cF cF) (fun z => okMul z.1 z.2) fun z => cF.enc (fmul z.1 z.2)
def S_dv := spec (A2 cF cF) (fun z => okDv z.1 z.2) fun z => cF.enc (fdv z.1 z.2)
def S_lt := spec (A2 cF cF) (fun z => okS z.1 z.2) fun z => .bool (flt z.1 z.2)
def ftot (xs : List (Int × Int)) : Int × Int := xs.foldl fadd (0, 1)
def okTot : (Int × Int) → List (Int × Int) → Bool
  | _, [] => true
  | a, x :: xs => okAdd a x && okTot (fadd a x) xs
def S_tot := spec (A1 (cL cF)) (fun xs => okTot (0, 1) xs) fun xs => cF.enc (ftot xs)
/-- Euclid's steps -/
theorem euclid (n : Nat) : ∀ (m : Nat) (s : Int × Int), 0 ≤ s.2 → s.2 < 2 ^ m → 2 * m ≤ n → (loopN (fun s : Int × Int => (s.2, s.1.fmod s.2)) (fun s => !decide (s.2 = 0)) n s).2 = 0 ∧ (loopN (fun s : Int × Int => (s.2, s.1.fmod s.2)) (fun s => !decide (s.2 = 0)) n s).1.natAbs = Int.gcd s.1 s.2 := by
  induction n using Nat.strongRecOn with
  | ind n ih =>
    intro m s h0 h1 hn
    have zero : ∀ (n : Nat) (s : Int × Int), s.2 = 0 → loopN (fun s : Int × Int => (s.2, s.1.fmod s.2)) (fun s => !decide (s.2 = 0)) n s = s := fun n s e => by
      cases n with
      | zero => rfl
      | succ n => unfold loopN; rw [if_neg (by simp [e])]
    by_cases e : s.2 = 0
    · rw [zero n s e]
      exact ⟨e, by rw [e, Int.gcd_zero_right]⟩
    · cases m with
      | zero =>
        rw [Int.pow_zero] at h1
        omega
      | succ m =>
        obtain ⟨k, rfl⟩ : ∃ k, n = k + 2 := ⟨n - 2, by omega⟩
        have hpos : 0 < s.2 := by omega
        have f1 := Int.fmod_nonneg_of_pos s.1 hpos
        have f2 := Int.fmod_lt_of_pos s.1 hpos
        have e1 : loopN (fun s : Int × Int => (s.2, s.1.fmod s.2)) (fun s => !decide (s.2 = 0)) (k + 2) s = loopN (fun s : Int × Int => (s.2, s.1.fmod s.2)) (fun s => !decide (s.2 = 0)) (k + 1) (s.2, s.1.fmod s.2) := by
          conv => { lhs; unfold loopN }
          rw [if_pos (by simp [e])]
        have g1 : Int.gcd s.2 (s.1.fmod s.2) = Int.gcd s.1 s.2 := gcd_fmod _ _
        rw [e1, ← g1]
        generalize s.1.fmod s.2 = r at f1 f2
        by_cases er : r = 0
        · rw [zero _ _ (by exact er)]
          exact ⟨er, by rw [er, Int.gcd_zero_right]⟩
        · have rpos : 0 < r := by omega
          have f3 := Int.fmod_nonneg_of_pos s.2 rpos
          have f4 := Int.fmod_lt_of_pos s.2 rpos
          have e2 : loopN (fun s : Int × Int => (s.2, s.1.fmod s.2)) (fun s => !decide (s.2 = 0)) (k + 1) (s.2, r) = loopN (fun s : Int × Int => (s.2, s.1.fmod s.2)) (fun s => !decide (s.2 = 0)) k (r, s.2.fmod r) := by
            conv => { lhs; unfold loopN }
            rw [if_pos (by simp [er])]
          have g2 : Int.gcd r (s.2.fmod r) = Int.gcd s.2 r := gcd_fmod _ _
          rw [e2, ← g2]
          refine ih k (by omega) m (r, s.2.fmod r) f3 ?_ (by omega)
          simp only
          have hd : s.2 = r * s.2.fdiv r + s.2.fmod r := by
            have := Int.fmod_def s.2 r
            omega
          have hq : 1 ≤ s.2.fdiv r := by
            rcases Int.lt_trichotomy 0 (s.2.fdiv r) with q | q | q
            · omega
            · rw [← q, Int.mul_zero] at hd
              omega
            · have : r * s.2.fdiv r ≤ r * (-1) := Int.mul_le_mul_of_nonneg_left (by omega) (by omega)
              omega
          have : r * 1 ≤ r * s.2.fdiv r := Int.mul_le_mul_of_nonneg_left hq (by omega)
          rw [Int.pow_succ] at h1
          omega
end PV

set_option maxHeartbeats 4000000
/-! PV: the greatest of numbers; the least of pairs; the first that is found in order. -/
namespace PV
open PySem PySem.W PyProof.Rows L2
section
variable {α : Type} {c : Cod α} {n : Nat}
theorem alikes_c (h : CodOk c n) (l : List α) : allAlike (l.map c.enc) = true := by
  unfold allAlike
  rw [List.all_eq_true]
  intro d hd
  rw [List.all_eq_true]
  intro d' hd'
  obtain ⟨a, _, rfl⟩ := List.mem_map.mp hd
  obtain ⟨b, _, rfl⟩ := List.mem_map.mp hd'
  exact h.al a b
theorem nns_c (h : CodOk c n) (l : List α) : (l.map c.enc).all (fun d => !isN d) = true := by
  rw [List.all_eq_true]
  intro d hd
  obtain ⟨a, _, rfl⟩ := List.mem_map.mp hd
  rw [h.nn]
  rfl
theorem fold_max2 : ∀ (r : List Int) (a : Int), (r.foldl max a = a ∨ r.foldl max a ∈ r) ∧ a ≤ r.foldl max a ∧ ∀ x ∈ r, x ≤ r.foldl max a
  | [], a => ⟨.inl rfl, Int.le_refl _, by simp⟩
  | y :: r, a => by
    obtain ⟨h1, h2, h3⟩ := fold_max2 r (max a y)
    rw [List.foldl_cons]
    have q1 : a ≤ max a y := by omega
    have q2 : y ≤ max a y := by omega
    refine ⟨?_, by omega, fun x hx => ?_⟩
    · rcases h1 with e | e
      · rcases Int.le_total a y with c | c
        · have : max a y = y := by omega
          exact .inr (List.mem_cons.mpr (.inl (by rw [e, this])))
        · have : max a y = a := by omega
          exact .inl (by rw [e, this])
      · exact .inr (List.mem_cons_of_mem _ e)
    · rcases List.mem_cons.mp hx with rfl | hx
      · omega
      · exact h3 x hx
/-- the greatest of numbers -/
theorem dMax_int {l : List Int} {M : Int} (hm : M ∈ l) (h : ∀ x ∈ l, x ≤ M) : dMax (l.map cInt.enc) = some (.int M) := by
  cases l with
  | nil => cases hm
  | cons x xs =>
    have h1 : shs ((x :: xs).map cInt.enc) = true := ok_int.shs20 (by decide) (x :: xs)
    have h2 := alikes_c ok_int (x :: xs)
    have h3 := nns_c ok_int (x :: xs)
    have e : (x :: xs).map cInt.enc = .int x :: xs.map .int := rfl
    rw [e] at h1 h2 h3 ⊢
    show (if (shs (PyData.int x :: xs.map .int) && (allAlike (PyData.int x :: xs.map .int) && (PyData.int x :: xs.map .int).all (fun d => !isN d))) = true then some (maxD (.int x) (xs.map .int)) else none) = _
    rw [h1, h2, h3, maxD_ints]
    obtain ⟨q1, q2, q3⟩ := fold_max2 xs x
    have hle : xs.foldl max x ≤ M := by
      rcases q1 with q | q
      · rw [q]; exact h x (by simp)
      · exact h _ (by simp [q])
    have hge : M ≤ xs.foldl max x := by
      rcases List.mem_cons.mp hm with rfl | hm
      · exact q2
      · exact q3 M hm
    have : xs.foldl max x = M := by omega
    rw [this]
    rfl
/-- the least, named -/
theorem dMin_is (h : CodOk c n) (hn : n ≤ 20) {l : List α} {m : α} (hm : m ∈ l) (hl : ∀ a ∈ l, dataLt (c.enc a) (c.enc m) = false) : dMin (l.map c.enc) = some (c.enc m) := by
  obtain ⟨m', h1, h2, h3⟩ := dMin_of h hn (l := l) (fun e => by rw [e] at hm; cases hm)
  rw [h2, lt_anti h (hl m' h1) (h3 m hm)]
/-- the least of pairs: by a number, then by the thing -/
theorem dMin_pair (h : CodOk c n) (hn : n < 20) {l : List α} (μ : α → Int) {m : α} (hm : m ∈ l) (hl : ∀ a ∈ l, μ m ≤ μ a) (he : ∀ a ∈ l, μ a = μ m → dataLt (c.enc a) (c.enc m) = false) : dMin (l.map fun a => PyData.tuple [.int (μ a), c.enc a]) = some (.tuple [.int (μ m), c.enc m]) := by
  have h2 : CodOk (c2 cInt c) (n + 1) := ok_2 ok_int h (by omega) (Nat.le_refl _)
  have e : (l.map fun a => PyData.tuple [.int (μ a), c.enc a]) = (l.map fun a => (μ a, a)).map (c2 cInt c).enc := by rw [List.map_map]; rfl
  rw [e]
  refine dMin_is (m := (μ m, m)) h2 (by omega) (List.mem_map.mpr ⟨m, hm, rfl⟩) fun p hp => ?_
  obtain ⟨a, ha, rfl⟩ := List.mem_map.mp hp
  show dataLt (.tuple [.int (μ a), c.enc a]) (.tuple [.int (μ m), c.enc m]) = false
  rw [dataLt_pair (by simp [alike]) (h.al a m), dataLt_int]
  have q := hl a ha
  split
  · rename_i e2
    have e2 : μ a = μ m := by simpa [PyData.eqv] using e2
    split
    · rfl
    · exact he a ha e2
  · simp only [decide_eq_false_iff_not]
    omega
/-- in a row in order: what is found first is the least of those that are so -/
theorem find_least {R : α → α → Prop} (hr : ∀ a, R a a) {p : α → Bool} {l : List α} (hp : l.Pairwise R) {a : α} (hf : l.find? p = some a) : ∀ b ∈ l, p b = true → R a b := by
  obtain ⟨_, as, bs, e, ha⟩ := List.find?_eq_some_iff_append.mp hf
  intro b hb hpb
  rw [e] at hb hp
  rcases List.mem_append.mp hb with hb | hb
  · have := ha b hb
    simp [hpb] at this
  · rcases List.mem_cons.mp hb with rfl | hb
    · exact hr b
    · exact (List.pairwise_cons.mp (List.pairwise_append.mp hp).2.1).1 b hb
end
end PV

set_option maxHeartbeats 4000000
/-! PV: while with draws in its turns. -/
namespace PV
open PySem PyProof.Rows L2
section
variable {C : Nat → Option D} {T : Nat → List D → Option D} {G : Nat → List D → W D}
/-- a while by what holds at each turn; the question asked is pure -/
theorem whl_R {t : E} {b : Ss} {ρ : Env} {R : Fl → Prop} (J : Nat → Env → Prop) (h0 : ∃ n, J n (frz (esc true t) ρ))
    (step : ∀ n ρ1, J n ρ1 → ∃ c : Bool, ev optM C T (fun _ _ => none) t ρ1 = some (.bool c) ∧ (c = true → ∀ Q : Fl → Prop, (∀ ρ2, (∃ k, k < n ∧ J k (frz (esc true t) (msk (frz (esc true t) ρ) ρ2))) → Wr (Q (.nx ρ2))) → Wr (exs wM C (fun n ds => ofO (T n ds)) G b ρ1 Q)) ∧ (c = false → Wr (R (.nx ρ1)))) :
    Wr (ex wM C (fun n ds => ofO (T n ds)) G (.whl t b) ρ R) := by
  refine Wr.mk ?_
  unfold ex
  refine ⟨J, h0, fun n ρ1 hJ => ?_⟩
  obtain ⟨c, hc, hy, hn⟩ := step n ρ1 hJ
  unfold whlStep
  rw [w_bind]
  show wM.bind (ev wM C (fun n ds => ofO (T n ds)) G t ρ1) (fun x => wM.lift (bool? x)) _
  rw [w_bind]
  refine w_ev hc ?_
  rw [w_lift]
  refine ⟨c, rfl, ?_⟩
  cases c with
  | true =>
    rw [if_pos rfl, w_bind]
    exact (hy rfl _ fun ρ2 h => Wr.mk h).out
  | false =>
    rw [if_neg (by simp)]
    exact (hn rfl).out
end
end PV

set_option maxHeartbeats 4000000
/-! The defs of the law, as core terms. -/
namespace PW
open PySem PyProof.Rows L2 PV

def topS (i : Nat) : Stmt := PySem.Challenge.pw_bondslaid_k00_whole_courses_and_joints.main.body.getD i (.Pass ⟨0, 0, 0, 0⟩)
abbrev id_is_number : Nat := 0
abbrev id_set_of : Nat := 1
abbrev id_width_of : Nat := 2
abbrev id_ends_of : Nat := 3
abbrev id_mirrored : Nat := 4
abbrev id_joints_in : Nat := 5
abbrev id_law_draws : Nat := 6
abbrev id_law_next : Nat := 7
abbrev id_law_same : Nat := 8
abbrev id_law_ends : Nat := 9
abbrev id_law_joints : Nat := 10
abbrev id_law_shared : Nat := 11
abbrev id_is_from : Nat := 12
abbrev id_joints_of : Nat := 13
abbrev id_bricks_in : Nat := 14
abbrev id_brick_at : Nat := 15
abbrev id_touching : Nat := 16
abbrev id_cut_out : Nat := 17
abbrev id_shared_stretch : Nat := 18
abbrev id_law_pick : Nat := 19
abbrev id_law_course : Nat := 20
abbrev id_is_course : Nat := 21
abbrev id_bonded : Nat := 22
abbrev id_laps_of : Nat := 23
abbrev id_upper_bricks : Nat := 24
abbrev id_lower_bricks : Nat := 25
abbrev id_run_at : Nat := 26
abbrev id_law_bent : Nat := 27
abbrev id_is_laid : Nat := 28
abbrev id_longest_crack : Nat := 29
abbrev id_law : Nat := 30
abbrev s_is_number : Stmt := topS 1
abbrev n_is_number : List Str := ["thing"]
theorem sc_is_number : FnScope n_is_number ["thing"] (defScope s_is_number) := ⟨rfl, rfl, rfl, by decide +kernel, rfl, by decide +kernel, by decide +kernel⟩
abbrev s_set_of : Stmt := topS 3
abbrev n_set_of : List Str := ["things"]
theorem sc_set_of : FnScope n_set_of ["things"] (defScope s_set_of) := ⟨rfl, rfl, rfl, by decide +kernel, rfl, by decide +kernel, by decide +kernel⟩
abbrev s_width_of : Stmt := topS 7
abbrev n_width_of : List Str := ["wall"]
theorem sc_width_of : FnScope n_width_of ["wall"] (defScope s_width_of) := ⟨rfl, rfl, rfl, by decide +kernel, rfl, by decide +kernel, by decide +kernel⟩
abbrev s_ends_of : Stmt := topS 8
abbrev n_ends_of : List Str := ["course", "found", "at", "long"]
theorem sc_ends_of : FnScope n_ends_of ["course"] (defScope s_ends_of) := ⟨rfl, rfl, rfl, by decide +kernel, rfl, by decide +kernel, by decide +kernel⟩
abbrev s_mirrored : Stmt := topS 17
abbrev n_mirrored : List Str := ["wall", "course"]
theorem sc_mirrored : FnScope n_mirrored ["wall"] (defScope s_mirrored) := ⟨rfl, rfl, rfl, by decide +kernel, rfl, by decide +kernel, by decide +kernel⟩
abbrev s_joints_in : Stmt := topS 21
abbrev n_joints_in : List Str := ["wall", "course"]
theorem sc_joints_in : FnScope n_joints_in ["wall"] (defScope s_joints_in) := ⟨rfl, rfl, rfl, by decide +kernel, rfl, by decide +kernel, by decide +kernel⟩
abbrev s_law_draws : Stmt := topS 24
abbrev n_law_draws : List Str := ["script", "many", "draws", "mixed", "k", "cell", "rest", "turn"]
theorem sc_law_draws : FnScope n_law_draws ["script", "many"] (defScope s_law_draws) := ⟨rfl, rfl, rfl, by decide +kernel, rfl, by decide +kernel, by decide +kernel⟩
abbrev s_law_next : Stmt := topS 25
abbrev n_law_next : List Str := ["w", "many"]
theorem sc_law_next : FnScope n_law_next ["w", "many"] (defScope s_law_next) := ⟨rfl, rfl, rfl, by decide +kernel, rfl, by decide +kernel, by decide +kernel⟩
abbrev s_law_same : Stmt := topS 26
abbrev n_law_same : List Str := ["seen", "due", "waiting", "one", "other", "keys", "key", "k"]
theorem sc_law_same : FnScope n_law_same ["seen", "due"] (defScope s_law_same) := ⟨rfl, rfl, rfl, by decide +kernel, rfl, by decide +kernel, by decide +kernel⟩
abbrev s_law_ends : Stmt := topS 29
abbrev n_law_ends : List Str := ["course", "n"]
theorem sc_law_ends : FnScope n_law_ends ["course"] (defScope s_law_ends) := ⟨rfl, rfl, rfl, by decide +kernel, rfl, by decide +kernel, by decide +kernel⟩
abbrev s_law_joints : Stmt := topS 30
abbrev n_law_joints : List Str := ["course", "n"]
theorem sc_law_joints : FnScope n_law_joints ["course"] (defScope s_law_joints) := ⟨rfl, rfl, rfl, by decide +kernel, rfl, by decide +kernel, by decide +kernel⟩
abbrev s_law_shared : Stmt := topS 31
abbrev n_law_shared : List Str := ["one", "other"]
theorem sc_law_shared : FnScope n_law_shared ["one", "other"] (defScope s_law_shared) := ⟨rfl, rfl, rfl, by decide +kernel, rfl, by decide +kernel, by decide +kernel⟩
abbrev s_is_from : Stmt := topS 2
abbrev n_is_from : List Str := ["thing", "least"]
theorem sc_is_from : FnScope n_is_from ["thing", "least"] (defScope s_is_from) := ⟨rfl, rfl, rfl, by decide +kernel, rfl, by decide +kernel, by decide +kernel⟩
abbrev s_joints_of : Stmt := topS 9
abbrev n_joints_of : List Str := ["course", "_", "end"]
theorem sc_joints_of : FnScope n_joints_of ["course"] (defScope s_joints_of) := ⟨rfl, rfl, rfl, by decide +kernel, rfl, by decide +kernel, by decide +kernel⟩
abbrev s_bricks_in : Stmt := topS 12
abbrev n_bricks_in : List Str := ["wall", "lengths", "course", "long"]
theorem sc_bricks_in : FnScope n_bricks_in ["wall"] (defScope s_bricks_in) := ⟨rfl, rfl, rfl, by decide +kernel, rfl, by decide +kernel, by decide +kernel⟩
abbrev s_brick_at : Stmt := topS 13
abbrev n_brick_at : List Str := ["wall", "k", "place", "begin", "end", "span"]
theorem sc_brick_at : FnScope n_brick_at ["wall", "k", "place"] (defScope s_brick_at) := ⟨rfl, rfl, rfl, by decide +kernel, rfl, by decide +kernel, by decide +kernel⟩
abbrev s_touching : Stmt := topS 14
abbrev n_touching : List Str := ["course", "span", "ends", "n"]
theorem sc_touching : FnScope n_touching ["course", "span"] (defScope s_touching) := ⟨rfl, rfl, rfl, by decide +kernel, rfl, by decide +kernel, by decide +kernel⟩
abbrev s_cut_out : Stmt := topS 20
abbrev n_cut_out : List Str := ["wall", "begin", "end", "found", "course", "parts", "first", "last", "part"]
theorem sc_cut_out : FnScope n_cut_out ["wall", "begin", "end"] (defScope s_cut_out) := ⟨rfl, rfl, rfl, by decide +kernel, rfl, by decide +kernel, by decide +kernel⟩
abbrev s_shared_stretch : Stmt := topS 22
abbrev n_shared_stretch : List Str := ["wall", "k", "n", "m", "begin", "end", "first", "last"]
theorem sc_shared_stretch : FnScope n_shared_stretch ["wall", "k", "n", "m"] (defScope s_shared_stretch) := ⟨rfl, rfl, rfl, by decide +kernel, rfl, by decide +kernel, by decide +kernel⟩
abbrev s_law_pick : Stmt := topS 27
abbrev n_law_pick : List Str := ["w", "rows"]
theorem sc_law_pick : FnScope n_law_pick ["w", "rows"] (defScope s_law_pick) := ⟨rfl, rfl, rfl, by decide +kernel, rfl, by decide +kernel, by decide +kernel⟩
abbrev s_law_course : Stmt := topS 28
abbrev n_law_course : List Str := ["w", "wide", "found", "left", "long"]
theorem sc_law_course : FnScope n_law_course ["w", "wide"] (defScope s_law_course) := ⟨rfl, rfl, rfl, by decide +kernel, rfl, by decide +kernel, by decide +kernel⟩
abbrev s_is_course : Stmt := topS 5
abbrev n_is_course : List Str := ["thing", "one"]
theorem sc_is_course : FnScope n_is_course ["thing"] (defScope s_is_course) := ⟨rfl, rfl, rfl, by decide +kernel, rfl, by decide +kernel, by decide +kernel⟩
abbrev s_bonded : Stmt := topS 10
abbrev n_bonded : List Str := ["wall", "k", "both", "place"]
theorem sc_bonded : FnScope n_bonded ["wall"] (defScope s_bonded) := ⟨rfl, rfl, rfl, by decide +kernel, rfl, by decide +kernel, by decide +kernel⟩
abbrev s_laps_of : Stmt := topS 11
abbrev n_laps_of : List Str := ["wall", "found", "one", "other", "gaps", "a", "b"]
theorem sc_laps_of : FnScope n_laps_of ["wall"] (defScope s_laps_of) := ⟨rfl, rfl, rfl, by decide +kernel, rfl, by decide +kernel, by decide +kernel⟩
abbrev s_upper_bricks : Stmt := topS 15
abbrev n_upper_bricks : List Str := ["wall", "k", "n"]
theorem sc_upper_bricks : FnScope n_upper_bricks ["wall", "k", "n"] (defScope s_upper_bricks) := ⟨rfl, rfl, rfl, by decide +kernel, rfl, by decide +kernel, by decide +kernel⟩
abbrev s_lower_bricks : Stmt := topS 16
abbrev n_lower_bricks : List Str := ["wall", "k", "n"]
theorem sc_lower_bricks : FnScope n_lower_bricks ["wall", "k", "n"] (defScope s_lower_bricks) := ⟨rfl, rfl, rfl, by decide +kernel, rfl, by decide +kernel, by decide +kernel⟩
abbrev s_run_at : Stmt := topS 18
abbrev n_run_at : List Str := ["wall", "place", "best", "now", "course"]
theorem sc_run_at : FnScope n_run_at ["wall", "place"] (defScope s_run_at) := ⟨rfl, rfl, rfl, by decide +kernel, rfl, by decide +kernel, by decide +kernel⟩
abbrev s_law_bent : Stmt := topS 32
abbrev n_law_bent : List Str := ["w", "wall", "wide", "near_1", "rows", "near_2"]
theorem sc_law_bent : FnScope n_law_bent ["w", "wall"] (defScope s_law_bent) := ⟨rfl, rfl, rfl, by decide +kernel, rfl, by decide +kernel, by decide +kernel⟩
abbrev s_is_laid : Stmt := topS 6
abbrev n_is_laid : List Str := ["thing", "course"]
theorem sc_is_laid : FnScope n_is_laid ["thing"] (defScope s_is_laid) := ⟨rfl, rfl, rfl, by decide +kernel, rfl, by decide +kernel, by decide +kernel⟩
abbrev s_longest_crack : Stmt := topS 19
abbrev n_longest_crack : List Str := ["wall", "places", "rows", "place", "course"]
theorem sc_longest_crack : FnScope n_longest_crack ["wall"] (defScope s_longest_crack) := ⟨rfl, rfl, rfl, by decide +kernel, rfl, by decide +kernel, by decide +kernel⟩
abbrev s_law : Stmt := topS 33
abbrev n_law : List Str := "script" :: "w" :: "turn" :: "wide" :: "wall" :: "rows" :: "over" :: "laps" :: "k" :: "gaps" :: "place" :: "counts" :: "cracks" :: "course" :: "long" :: "best" :: "now" :: "row" :: "due" :: "n" :: "spans" :: "here" :: "begin" :: "end" :: "cut" :: "sizes" :: "m" :: "step" :: "value" :: "right" :: "span" :: "own" :: "one" :: []
theorem sc_law : FnScope n_law ["script"] (defScope s_law) := ⟨rfl, rfl, rfl, by decide +kernel, rfl, by decide +kernel, by decide +kernel⟩
def b_is_number : Ss := (.cons (.ret (.and (.isin (.var 0) .int) (.not (.isin (.var 0) .bool))))
  .nil)
abbrev f_is_number : List (Nat × Str × Nat × Bool) := []
abbrev g_is_number : List (Nat × Str) := []
theorem c_is_number : chkSs ⟨n_is_number, defScope s_is_number, defScope s_is_number, 1000, f_is_number, g_is_number⟩ b_is_number (defBody s_is_number) = true := by decide +kernel
def b_set_of : Ss := (.cons (.ret (.bi .tuple (.bi .sset (.var 0))))
  .nil)
abbrev f_set_of : List (Nat × Str × Nat × Bool) := []
abbrev g_set_of : List (Nat × Str) := []
theorem c_set_of : chkSs ⟨n_set_of, defScope s_set_of, defScope s_set_of, 1000, f_set_of, g_set_of⟩ b_set_of (defBody s_set_of) = true := by decide +kernel
def b_width_of : Ss := (.cons (.ret (.bi .sum (.ix (.var 0) (.int 0))))
  .nil)
abbrev f_width_of : List (Nat × Str × Nat × Bool) := []
abbrev g_width_of : List (Nat × Str) := []
theorem c_width_of : chkSs ⟨n_width_of, defScope s_width_of, defScope s_width_of, 1000, f_width_of, g_width_of⟩ b_width_of (defBody s_width_of) = true := by decide +kernel
def ends_of_B0 : Ss := (.cons (.app 1 (.tup (.cons (.var 2) (.cons (.bin .add (.var 2) (.var 3)) .nil))))
  (.cons (.aug 2 .add (.var 3))
  .nil))
def b_ends_of : Ss := (.cons (.asgp [1, 2] (.cons (.lst .nil) (.cons (.int 0) .nil)))
  (.cons (.for_ (.nm 3) (.val (.var 0)) ends_of_B0)
  (.cons (.ret (.bi .tuple (.var 1)))
  .nil)))
abbrev f_ends_of : List (Nat × Str × Nat × Bool) := []
abbrev g_ends_of : List (Nat × Str) := []
theorem c_ends_of : chkSs ⟨n_ends_of, defScope s_ends_of, defScope s_ends_of, 1000, f_ends_of, g_ends_of⟩ b_ends_of (defBody s_ends_of) = true := by decide +kernel
def b_mirrored : Ss := (.cons (.ret (.bi .tuple (.comp [1] (.nm 1) (.val (.var 0)) .yes (.rev (.var 1)))))
  .nil)
abbrev f_mirrored : List (Nat × Str × Nat × Bool) := []
abbrev g_mirrored : List (Nat × Str) := []
theorem c_mirrored : chkSs ⟨n_mirrored, defScope s_mirrored, defScope s_mirrored, 1000, f_mirrored, g_mirrored⟩ b_mirrored (defBody s_mirrored) = true := by decide +kernel
def b_joints_in : Ss := (.cons (.ret (.bi .sum (.comp [1] (.nm 1) (.val (.var 0)) .yes (.bin .sub (.bi .len (.var 1)) (.int 1)))))
  .nil)
abbrev f_joints_in : List (Nat × Str × Nat × Bool) := []
abbrev g_joints_in : List (Nat × Str) := []
theorem c_joints_in : chkSs ⟨n_joints_in, defScope s_joints_in, defScope s_joints_in, 1000, f_joints_in, g_joints_in⟩ b_joints_in (defBody s_joints_in) = true := by decide +kernel
def law_same_B0 : Ss := (.cons (.popt (.tp (.cons (.nm 3) (.cons (.nm 4) .nil))) 2)
  (.cons (.ite (.isin (.var 4) .dict) (.cons (.ite (.or (.not (.isin (.var 3) .dict)) (.or (.cmp .ne (.bi .len (.var 3)) (.bi .len (.var 4))) (.cmp .ne (.comp [6] (.nm 6) (.val (.var 4)) (.cmp .notin (.var 6) (.var 3)) (.var 6)) (.lst .nil)))) (.cons (.ret (.bl false))
  .nil) .nil)
  (.cons (.asg 5 (.bi .dict (.comp [6] (.nm 6) (.val (.var 3)) .yes (.tup (.cons (.var 6) (.cons (.var 6) .nil))))))
  (.cons (.ext 2 (.bin .add (.comp [6] (.nm 6) (.val (.var 4)) .yes (.tup (.cons (.ix (.var 3) (.var 6)) (.cons (.ix (.var 4) (.var 6)) .nil)))) (.comp [6] (.nm 6) (.val (.var 4)) .yes (.tup (.cons (.ix (.var 5) (.var 6)) (.cons (.var 6) .nil))))))
  .nil))) (.cons (.ite (.or (.isin (.var 4) .tuple) (.isin (.var 4) .list)) (.cons (.ite (.or (.cmp .ne (.isin (.var 3) .tuple) (.isin (.var 4) .tuple)) (.or (.cmp .ne (.isin (.var 3) .list) (.isin (.var 4) .list)) (.cmp .ne (.bi .len (.var 3)) (.bi .len (.var 4))))) (.cons (.ret (.bl false))
  .nil) .nil)
  (.cons (.ext 2 (.comp [7] (.nm 7) (.r1 (.bi .len (.var 4))) .yes (.tup (.cons (.ix (.var 3) (.var 7)) (.cons (.ix (.var 4) (.var 7)) .nil)))))
  .nil)) (.cons (.ite (.or (.cmp .ne (.isin (.var 3) .bool) (.isin (.var 4) .bool)) (.or (.cmp .ne (.isin (.var 3) .int) (.isin (.var 4) .int)) (.or (.cmp .ne (.isin (.var 3) .str) (.isin (.var 4) .str)) (.cmp .ne (.var 3) (.var 4))))) (.cons (.ret (.bl false))
  .nil) .nil)
  .nil))
  .nil))
  .nil))
def b_law_same : Ss := (.cons (.asg 2 (.lst (.cons (.tup (.cons (.var 0) (.cons (.var 1) .nil))) .nil)))
  (.cons (.whl (.cmp .ne (.var 2) (.lst .nil)) law_same_B0)
  (.cons (.ret (.bl true))
  .nil)))
abbrev f_law_same : List (Nat × Str × Nat × Bool) := []
abbrev g_law_same : List (Nat × Str) := []
theorem c_law_same : chkSs ⟨n_law_same, defScope s_law_same, defScope s_law_same, 1000, f_law_same, g_law_same⟩ b_law_same (defBody s_law_same) = true := by decide +kernel
def b_law_ends : Ss := (.cons (.ret (.comp [1] (.nm 1) (.r1 (.bi .len (.var 0))) .yes (.tup (.cons (.bi .sum (.sl (.var 0) .none (.var 1))) (.cons (.bi .sum (.sl (.var 0) .none (.bin .add (.var 1) (.int 1)))) .nil)))))
  .nil)
abbrev f_law_ends : List (Nat × Str × Nat × Bool) := []
abbrev g_law_ends : List (Nat × Str) := []
theorem c_law_ends : chkSs ⟨n_law_ends, defScope s_law_ends, defScope s_law_ends, 1000, f_law_ends, g_law_ends⟩ b_law_ends (defBody s_law_ends) = true := by decide +kernel
def b_law_joints : Ss := (.cons (.ret (.comp [1] (.nm 1) (.r2 (.int 1) (.bi .len (.var 0))) .yes (.bi .sum (.sl (.var 0) .none (.var 1)))))
  .nil)
abbrev f_law_joints : List (Nat × Str × Nat × Bool) := []
abbrev g_law_joints : List (Nat × Str) := []
theorem c_law_joints : chkSs ⟨n_law_joints, defScope s_law_joints, defScope s_law_joints, 1000, f_law_joints, g_law_joints⟩ b_law_joints (defBody s_law_joints) = true := by decide +kernel
def b_law_shared : Ss := (.cons (.ret (.mx (.int 0) (.bin .sub (.mn (.ix (.var 0) (.int 1)) (.ix (.var 1) (.int 1))) (.mx (.ix (.var 0) (.int 0)) (.ix (.var 1) (.int 0))))))
  .nil)
abbrev f_law_shared : List (Nat × Str × Nat × Bool) := []
abbrev g_law_shared : List (Nat × Str) := []
theorem c_law_shared : chkSs ⟨n_law_shared, defScope s_law_shared, defScope s_law_shared, 1000, f_law_shared, g_law_shared⟩ b_law_shared (defBody s_law_shared) = true := by decide +kernel
def b_is_from : Ss := (.cons (.ret (.and (.call id_is_number (.cons (.var 0) .nil)) (.cmp .ge (.var 0) (.var 1))))
  .nil)
abbrev f_is_from : List (Nat × Str × Nat × Bool) := [(id_is_number, "is_number", 1, false)]
abbrev g_is_from : List (Nat × Str) := []
theorem c_is_from : chkSs ⟨n_is_from, defScope s_is_from, defScope s_is_from, 1000, f_is_from, g_is_from⟩ b_is_from (defBody s_is_from) = true := by decide +kernel
def b_joints_of : Ss := (.cons (.ret (.bi .tuple (.comp [1, 2] (.tp (.cons (.nm 1) (.cons (.nm 2) .nil))) (.val (.sl (.call id_ends_of (.cons (.var 0) .nil)) .none (.neg (.int 1)))) .yes (.var 2))))
  .nil)
abbrev f_joints_of : List (Nat × Str × Nat × Bool) := [(id_ends_of, "ends_of", 1, false)]
abbrev g_joints_of : List (Nat × Str) := []
theorem c_joints_of : chkSs ⟨n_joints_of, defScope s_joints_of, defScope s_joints_of, 1000, f_joints_of, g_joints_of⟩ b_joints_of (defBody s_joints_of) = true := by decide +kernel
def b_bricks_in : Ss := (.cons (.asg 1 (.comp2 [2, 3] [3] (.nm 2) (.val (.var 0)) .yes (.nm 3) (.val (.var 2)) .yes (.var 3)))
  (.cons (.ret (.bi .dict (.comp [3] (.nm 3) (.val (.call id_set_of (.cons (.var 1) .nil))) .yes (.tup (.cons (.var 3) (.cons (.count (.var 1) (.var 3)) .nil))))))
  .nil))
abbrev f_bricks_in : List (Nat × Str × Nat × Bool) := [(id_set_of, "set_of", 1, false)]
abbrev g_bricks_in : List (Nat × Str) := []
theorem c_bricks_in : chkSs ⟨n_bricks_in, defScope s_bricks_in, defScope s_bricks_in, 1000, f_bricks_in, g_bricks_in⟩ b_bricks_in (defBody s_bricks_in) = true := by decide +kernel
def b_brick_at : Ss := (.cons (.asgt (.tp (.cons (.nm 3) (.cons (.nm 4) .nil))) (.ix (.comp [5] (.nm 5) (.val (.call id_ends_of (.cons (.ix (.var 0) (.var 1)) .nil))) (.chain .le .lt (.ix (.var 5) (.int 0)) (.var 2) (.ix (.var 5) (.int 1))) (.var 5)) (.int 0)))
  (.cons (.ret (.tup (.cons (.var 3) (.cons (.bin .sub (.var 4) (.var 3)) .nil))))
  .nil))
abbrev f_brick_at : List (Nat × Str × Nat × Bool) := [(id_ends_of, "ends_of", 1, false)]
abbrev g_brick_at : List (Nat × Str) := []
theorem c_brick_at : chkSs ⟨n_brick_at, defScope s_brick_at, defScope s_brick_at, 1000, f_brick_at, g_brick_at⟩ b_brick_at (defBody s_brick_at) = true := by decide +kernel
def b_touching : Ss := (.cons (.asg 2 (.call id_ends_of (.cons (.var 0) .nil)))
  (.cons (.ret (.bi .tuple (.comp [3] (.nm 3) (.r1 (.bi .len (.var 2))) (.and (.cmp .lt (.ix (.ix (.var 2) (.var 3)) (.int 0)) (.ix (.var 1) (.int 1))) (.cmp .lt (.ix (.var 1) (.int 0)) (.ix (.ix (.var 2) (.var 3)) (.int 1)))) (.var 3))))
  .nil))
abbrev f_touching : List (Nat × Str × Nat × Bool) := [(id_ends_of, "ends_of", 1, false)]
abbrev g_touching : List (Nat × Str) := []
theorem c_touching : chkSs ⟨n_touching, defScope s_touching, defScope s_touching, 1000, f_touching, g_touching⟩ b_touching (defBody s_touching) = true := by decide +kernel
def cut_out_B0 : Ss := (.cons (.asg 5 (.comp [6, 7] (.tp (.cons (.nm 6) (.cons (.nm 7) .nil))) (.val (.call id_ends_of (.cons (.var 4) .nil))) .yes (.bin .sub (.mn (.var 2) (.var 7)) (.mx (.var 1) (.var 6)))))
  (.cons (.app 3 (.bi .tuple (.comp [8] (.nm 8) (.val (.var 5)) (.cmp .gt (.var 8) (.int 0)) (.var 8))))
  .nil))
def b_cut_out : Ss := (.cons (.asg 3 (.lst .nil))
  (.cons (.for_ (.nm 4) (.val (.var 0)) cut_out_B0)
  (.cons (.ret (.bi .tuple (.var 3)))
  .nil)))
abbrev f_cut_out : List (Nat × Str × Nat × Bool) := [(id_ends_of, "ends_of", 1, false)]
abbrev g_cut_out : List (Nat × Str) := []
theorem c_cut_out : chkSs ⟨n_cut_out, defScope s_cut_out, defScope s_cut_out, 1000, f_cut_out, g_cut_out⟩ b_cut_out (defBody s_cut_out) = true := by decide +kernel
def b_shared_stretch : Ss := (.cons (.asgt (.tp (.cons (.nm 4) (.cons (.nm 5) .nil))) (.ix (.call id_ends_of (.cons (.ix (.var 0) (.var 1)) .nil)) (.var 2)))
  (.cons (.asgt (.tp (.cons (.nm 6) (.cons (.nm 7) .nil))) (.ix (.call id_ends_of (.cons (.ix (.var 0) (.bin .sub (.var 1) (.int 1))) .nil)) (.var 3)))
  (.cons (.ret (.mx (.int 0) (.bin .sub (.mn (.var 5) (.var 7)) (.mx (.var 4) (.var 6)))))
  .nil)))
abbrev f_shared_stretch : List (Nat × Str × Nat × Bool) := [(id_ends_of, "ends_of", 1, false)]
abbrev g_shared_stretch : List (Nat × Str) := []
theorem c_shared_stretch : chkSs ⟨n_shared_stretch, defScope s_shared_stretch, defScope s_shared_stretch, 1000, f_shared_stretch, g_shared_stretch⟩ b_shared_stretch (defBody s_shared_stretch) = true := by decide +kernel
def b_law_pick : Ss := (.cons (.ret (.ix (.var 1) (.callw id_law_next (.cons (.bi .len (.var 1)) .nil))))
  .nil)
abbrev f_law_pick : List (Nat × Str × Nat × Bool) := [(id_law_next, "_law_next", 2, true)]
abbrev g_law_pick : List (Nat × Str) := []
theorem c_law_pick : chkSs ⟨n_law_pick, defScope s_law_pick, defScope s_law_pick, 0, f_law_pick, g_law_pick⟩ b_law_pick (defBody s_law_pick) = true := by decide +kernel
def law_course_B0 : Ss := (.cons (.asg 4 (.mn (.var 3) (.bin .add (.int 1) (.callw id_law_next (.cons (.int 4) .nil)))))
  (.cons (.asgp [2, 3] (.cons (.bin .add (.var 2) (.tup (.cons (.var 4) .nil))) (.cons (.bin .sub (.var 3) (.var 4)) .nil)))
  .nil))
def b_law_course : Ss := (.cons (.asgp [2, 3] (.cons (.tup .nil) (.cons (.var 1) .nil)))
  (.cons (.whl (.cmp .gt (.var 3) (.int 0)) law_course_B0)
  (.cons (.ret (.var 2))
  .nil)))
abbrev f_law_course : List (Nat × Str × Nat × Bool) := [(id_law_next, "_law_next", 2, true)]
abbrev g_law_course : List (Nat × Str) := []
theorem c_law_course : chkSs ⟨n_law_course, defScope s_law_course, defScope s_law_course, 0, f_law_course, g_law_course⟩ b_law_course (defBody s_law_course) = true := by decide +kernel
def b_is_course : Ss := (.cons (.ret (.and (.isin (.var 0) .tuple) (.and (.cmp .ne (.var 0) (.tup .nil)) (.bi .all (.comp [1] (.nm 1) (.val (.var 0)) .yes (.call id_is_from (.cons (.var 1) (.cons (.int 1) .nil))))))))
  .nil)
abbrev f_is_course : List (Nat × Str × Nat × Bool) := [(id_is_from, "is_from", 2, false)]
abbrev g_is_course : List (Nat × Str) := []
theorem c_is_course : chkSs ⟨n_is_course, defScope s_is_course, defScope s_is_course, 1000, f_is_course, g_is_course⟩ b_is_course (defBody s_is_course) = true := by decide +kernel
def bonded_B0 : Ss := (.cons (.asg 2 (.comp [3] (.nm 3) (.val (.call id_joints_of (.cons (.ix (.var 0) (.var 1)) .nil))) (.cmp .in_ (.var 3) (.call id_joints_of (.cons (.ix (.var 0) (.bin .add (.var 1) (.int 1))) .nil))) (.var 3)))
  (.cons (.ite (.cmp .ne (.var 2) (.lst .nil)) (.cons (.ret (.tup (.cons (.str "no") (.cons (.var 1) (.cons (.ix (.var 2) (.int 0)) .nil)))))
  .nil) .nil)
  .nil))
def b_bonded : Ss := (.cons (.for_ (.nm 1) (.r1 (.bin .sub (.bi .len (.var 0)) (.int 1))) bonded_B0)
  (.cons (.ret (.tup (.cons (.str "yes") .nil)))
  .nil))
abbrev f_bonded : List (Nat × Str × Nat × Bool) := [(id_joints_of, "joints_of", 1, false)]
abbrev g_bonded : List (Nat × Str) := []
theorem c_bonded : chkSs ⟨n_bonded, defScope s_bonded, defScope s_bonded, 1000, f_bonded, g_bonded⟩ b_bonded (defBody s_bonded) = true := by decide +kernel
def laps_of_B0 : Ss := (.cons (.asg 4 (.comp2 [5, 6] [6] (.nm 5) (.val (.call id_joints_of (.cons (.var 2) .nil))) .yes (.nm 6) (.val (.call id_joints_of (.cons (.var 3) .nil))) .yes (.bi .abs (.bin .sub (.var 5) (.var 6)))))
  (.cons (.app 1 (.ife (.cmp .ne (.var 4) (.lst .nil)) (.bi .min (.var 4)) .none))
  .nil))
def b_laps_of : Ss := (.cons (.asg 1 (.lst .nil))
  (.cons (.for_ (.tp (.cons (.nm 2) (.cons (.nm 3) .nil))) (.zip (.var 0) (.sl (.var 0) (.int 1) .none)) laps_of_B0)
  (.cons (.ret (.bi .tuple (.var 1)))
  .nil)))
abbrev f_laps_of : List (Nat × Str × Nat × Bool) := [(id_joints_of, "joints_of", 1, false)]
abbrev g_laps_of : List (Nat × Str) := []
theorem c_laps_of : chkSs ⟨n_laps_of, defScope s_laps_of, defScope s_laps_of, 1000, f_laps_of, g_laps_of⟩ b_laps_of (defBody s_laps_of) = true := by decide +kernel
def b_upper_bricks : Ss := (.cons (.ret (.call id_touching (.cons (.ix (.var 0) (.bin .add (.var 1) (.int 1))) (.cons (.ix (.call id_ends_of (.cons (.ix (.var 0) (.var 1)) .nil)) (.var 2)) .nil))))
  .nil)
abbrev f_upper_bricks : List (Nat × Str × Nat × Bool) := [(id_ends_of, "ends_of", 1, false), (id_touching, "touching", 2, false)]
abbrev g_upper_bricks : List (Nat × Str) := []
theorem c_upper_bricks : chkSs ⟨n_upper_bricks, defScope s_upper_bricks, defScope s_upper_bricks, 1000, f_upper_bricks, g_upper_bricks⟩ b_upper_bricks (defBody s_upper_bricks) = true := by decide +kernel
def b_lower_bricks : Ss := (.cons (.ret (.call id_touching (.cons (.ix (.var 0) (.bin .sub (.var 1) (.int 1))) (.cons (.ix (.call id_ends_of (.cons (.ix (.var 0) (.var 1)) .nil)) (.var 2)) .nil))))
  .nil)
abbrev f_lower_bricks : List (Nat × Str × Nat × Bool) := [(id_ends_of, "ends_of", 1, false), (id_touching, "touching", 2, false)]
abbrev g_lower_bricks : List (Nat × Str) := []
theorem c_lower_bricks : chkSs ⟨n_lower_bricks, defScope s_lower_bricks, defScope s_lower_bricks, 1000, f_lower_bricks, g_lower_bricks⟩ b_lower_bricks (defBody s_lower_bricks) = true := by decide +kernel
def run_at_B0 : Ss := (.cons (.asg 3 (.ife (.cmp .in_ (.var 1) (.call id_joints_of (.cons (.var 4) .nil))) (.bin .add (.var 3) (.int 1)) (.int 0)))
  (.cons (.asg 2 (.mx (.var 2) (.var 3)))
  .nil))
def b_run_at : Ss := (.cons (.asgp [2, 3] (.cons (.int 0) (.cons (.int 0) .nil)))
  (.cons (.for_ (.nm 4) (.val (.var 0)) run_at_B0)
  (.cons (.ret (.var 2))
  .nil)))
abbrev f_run_at : List (Nat × Str × Nat × Bool) := [(id_joints_of, "joints_of", 1, false)]
abbrev g_run_at : List (Nat × Str) := []
theorem c_run_at : chkSs ⟨n_run_at, defScope s_run_at, defScope s_run_at, 1000, f_run_at, g_run_at⟩ b_run_at (defBody s_run_at) = true := by decide +kernel
def b_law_bent : Ss := (.cons (.asg 2 (.bi .sum (.ix (.var 1) (.int 0))))
  (.cons (.asg 3 (.lst (.cons (.tup (.cons (.var 1) (.cons (.bl true) .nil))) (.cons (.tup (.cons (.var 1) (.cons (.bl true) .nil))) (.cons (.tup (.cons (.tup (.cons (.tup (.cons (.int 1) .nil)) .nil)) (.cons (.bl true) .nil))) (.cons (.tup (.cons (.bi .list (.var 1)) (.cons (.bl false) .nil))) (.cons (.tup (.cons .none (.cons (.bl false) .nil))) (.cons (.tup (.cons (.tup .nil) (.cons (.bl false) .nil))) (.cons (.tup (.cons (.bin .add (.var 1) (.tup (.cons (.tup .nil) .nil))) (.cons (.bl false) .nil))) .nil)))))))))
  (.cons (.asg 4 (.bin .add (.var 3) (.lst (.cons (.tup (.cons (.bin .add (.var 1) (.tup (.cons (.bi .list (.ix (.var 1) (.int 0))) .nil))) (.cons (.bl false) .nil))) (.cons (.tup (.cons (.bin .add (.var 1) (.tup (.cons (.tup (.cons (.bin .add (.var 2) (.int 1)) .nil)) .nil))) (.cons (.bl false) .nil))) (.cons (.tup (.cons (.bin .add (.var 1) (.tup (.cons (.tup (.cons (.var 2) (.cons (.int 0) .nil))) .nil))) (.cons (.bl false) .nil))) .nil))))))
  (.cons (.asg 5 (.lst (.cons (.tup (.cons (.bin .add (.var 1) (.tup (.cons (.tup (.cons (.bin .add (.var 2) (.int 1)) (.cons (.bin .sub (.int 0) (.int 1)) .nil))) .nil))) (.cons (.bl false) .nil))) (.cons (.tup (.cons (.bin .add (.var 1) (.tup (.cons (.bin .mul (.tup (.cons (.str "1") .nil)) (.var 2)) .nil))) (.cons (.bl false) .nil))) (.cons (.tup (.cons (.bin .add (.var 1) (.tup (.cons (.bin .mul (.tup (.cons (.bl true) .nil)) (.var 2)) .nil))) (.cons (.bl false) .nil))) .nil)))))
  (.cons (.ret (.callw id_law_pick (.cons (.bin .add (.bin .add (.var 4) (.var 5)) (.lst (.cons (.tup (.cons (.bin .add (.var 1) (.tup (.cons (.int 5) .nil))) (.cons (.bl false) .nil))) (.cons (.tup (.cons (.bin .add (.var 1) (.tup (.cons (.tup (.cons .none .nil)) .nil))) (.cons (.bl false) .nil))) (.cons (.tup (.cons (.bin .add (.var 1) (.tup (.cons (.bin .mul (.tup (.cons (.int 1) .nil)) (.var 2)) .nil))) (.cons (.bl true) .nil))) .nil))))) .nil)))
  .nil)))))
abbrev f_law_bent : List (Nat × Str × Nat × Bool) := [(id_law_pick, "_law_pick", 2, true)]
abbrev g_law_bent : List (Nat × Str) := []
theorem c_law_bent : chkSs ⟨n_law_bent, defScope s_law_bent, defScope s_law_bent, 0, f_law_bent, g_law_bent⟩ b_law_bent (defBody s_law_bent) = true := by decide +kernel
def b_is_laid : Ss := (.cons (.ite (.or (.not (.isin (.var 0) .tuple)) (.or (.cmp .eq (.var 0) (.tup .nil)) (.not (.bi .all (.comp [1] (.nm 1) (.val (.var 0)) .yes (.call id_is_course (.cons (.var 1) .nil))))))) (.cons (.ret (.bl false))
  .nil) .nil)
  (.cons (.ret (.bi .all (.comp [1] (.nm 1) (.val (.var 0)) .yes (.cmp .eq (.bi .sum (.var 1)) (.bi .sum (.ix (.var 0) (.int 0)))))))
  .nil))
abbrev f_is_laid : List (Nat × Str × Nat × Bool) := [(id_is_course, "is_course", 1, false)]
abbrev g_is_laid : List (Nat × Str) := []
theorem c_is_laid : chkSs ⟨n_is_laid, defScope s_is_laid, defScope s_is_laid, 1000, f_is_laid, g_is_laid⟩ b_is_laid (defBody s_is_laid) = true := by decide +kernel
def b_longest_crack : Ss := (.cons (.asg 1 (.call id_set_of (.cons (.comp2 [4, 3] [3] (.nm 4) (.val (.var 0)) .yes (.nm 3) (.val (.call id_joints_of (.cons (.var 4) .nil))) .yes (.var 3)) .nil)))
  (.cons (.asg 2 (.comp [3] (.nm 3) (.val (.var 1)) .yes (.tup (.cons (.neg (.call id_run_at (.cons (.var 0) (.cons (.var 3) .nil)))) (.cons (.var 3) .nil)))))
  (.cons (.ret (.ife (.cmp .ne (.var 2) (.lst .nil)) (.tup (.cons (.neg (.ix (.bi .min (.var 2)) (.int 0))) (.cons (.ix (.bi .min (.var 2)) (.int 1)) .nil))) (.tup (.cons (.int 0) (.cons .none .nil)))))
  .nil)))
abbrev f_longest_crack : List (Nat × Str × Nat × Bool) := [(id_set_of, "set_of", 1, false), (id_joints_of, "joints_of", 1, false), (id_run_at, "run_at", 2, false)]
abbrev g_longest_crack : List (Nat × Str) := []
theorem c_longest_crack : chkSs ⟨n_longest_crack, defScope s_longest_crack, defScope s_longest_crack, 1000, f_longest_crack, g_longest_crack⟩ b_longest_crack (defBody s_longest_crack) = true := by decide +kernel
def b_law_s1 : S := (.ret (.bl true))
def law_B1_s1 : S := (.ite (.not (.call id_law_same (.cons (.call id_is_laid (.cons (.var 28) .nil)) (.cons (.var 29) .nil)))) (.cons (.ret (.bl false))
  .nil) .nil)
def law_B1_s0 : S := (.asgt (.tp (.cons (.nm 28) (.cons (.nm 29) .nil))) (.callw id_law_bent (.cons (.var 4) .nil)))
def law_B1 : Ss := (.cons law_B1_s0 (.cons law_B1_s1 .nil))
def law_B0_s22 : S := (.for_ (.nm 27) (.r1 (.int 3)) law_B1)
def law_B0_s21 : S := (.ite (.cmp .gt (.var 8) (.int 0)) (.cons (.asg 25 (.comp [30] (.nm 30) (.val (.ix (.var 20) (.bin .sub (.var 8) (.int 1)))) .yes (.call id_law_shared (.cons (.ix (.ix (.var 20) (.var 8)) (.var 19)) (.cons (.var 30) .nil)))))
  (.cons (.asg 26 (.callw id_law_next (.cons (.bi .len (.var 25)) .nil)))
  (.cons (.ite (.not (.call id_law_same (.cons (.tup (.cons (.call id_lower_bricks (.cons (.var 4) (.cons (.var 8) (.cons (.var 19) .nil)))) (.cons (.call id_shared_stretch (.cons (.var 4) (.cons (.var 8) (.cons (.var 19) (.cons (.var 26) .nil))))) .nil))) (.cons (.tup (.cons (.bi .tuple (.comp [32] (.nm 32) (.r1 (.bi .len (.var 25))) (.cmp .gt (.ix (.var 25) (.var 32)) (.int 0)) (.var 32))) (.cons (.ix (.var 25) (.var 26)) .nil))) .nil)))) (.cons (.ret (.bl false))
  .nil) .nil)
  .nil))) .nil)
def law_B0_s20 : S := (.ite (.and (.cmp .lt (.bin .add (.var 8) (.int 1)) (.bi .len (.var 4))) (.not (.call id_law_same (.cons (.call id_upper_bricks (.cons (.var 4) (.cons (.var 8) (.cons (.var 19) .nil)))) (.cons (.bi .tuple (.comp [26] (.nm 26) (.r1 (.bi .len (.ix (.var 4) (.bin .add (.var 8) (.int 1))))) (.cmp .gt (.call id_law_shared (.cons (.ix (.ix (.var 20) (.var 8)) (.var 19)) (.cons (.ix (.ix (.var 20) (.bin .add (.var 8) (.int 1))) (.var 26)) .nil))) (.int 0)) (.var 26))) .nil))))) (.cons (.ret (.bl false))
  .nil) .nil)
def law_B0_s19 : S := (.ite (.not (.call id_law_same (.cons (.tup (.cons (.call id_brick_at (.cons (.var 4) (.cons (.var 8) (.cons (.var 10) .nil)))) (.cons (.call id_mirrored (.cons (.var 4) .nil)) (.cons (.call id_cut_out (.cons (.var 4) (.cons (.var 22) (.cons (.var 23) .nil)))) (.cons (.call id_joints_in (.cons (.var 4) .nil)) .nil))))) (.cons (.var 18) .nil)))) (.cons (.ret (.bl false))
  .nil) .nil)
def law_B0_s18 : S := (.asg 18 (.tup (.cons (.tup (.cons (.ix (.var 21) (.int 0)) (.cons (.bin .sub (.ix (.var 21) (.int 1)) (.ix (.var 21) (.int 0))) .nil))) (.cons (.bi .tuple (.comp [13] (.nm 13) (.val (.var 4)) .yes (.rev (.var 13)))) (.cons (.bi .tuple (.var 24)) (.cons (.bi .sum (.comp [17] (.nm 17) (.val (.var 5)) .yes (.bi .len (.var 17)))) .nil))))))
def law_B2_s0 : S := (.app 24 (.bi .tuple (.comp [30] (.nm 30) (.val (.var 17)) (.cmp .gt (.call id_law_shared (.cons (.var 30) (.cons (.tup (.cons (.var 22) (.cons (.var 23) .nil))) .nil))) (.int 0)) (.call id_law_shared (.cons (.var 30) (.cons (.tup (.cons (.var 22) (.cons (.var 23) .nil))) .nil))))))
def law_B2 : Ss := (.cons law_B2_s0 .nil)
def law_B0_s17 : S := (.for_ (.nm 17) (.val (.var 20)) law_B2)
def law_B0_s16 : S := (.asg 24 (.lst .nil))
def law_B0_s15 : S := (.asg 23 (.bin .add (.bin .add (.var 22) (.int 1)) (.callw id_law_next (.cons (.bin .sub (.var 3) (.var 22)) .nil))))
def law_B0_s14 : S := (.asg 22 (.callw id_law_next (.cons (.var 3) .nil)))
def law_B0_s13 : S := (.asg 21 (.ix (.comp [30] (.nm 30) (.val (.ix (.var 20) (.var 8))) (.chain .le .lt (.ix (.var 30) (.int 0)) (.var 10) (.ix (.var 30) (.int 1))) (.var 30)) (.int 0)))
def law_B0_s12 : S := (.asg 20 (.comp [13] (.nm 13) (.val (.var 4)) .yes (.call id_law_ends (.cons (.var 13) .nil))))
def law_B0_s11 : S := (.asg 19 (.callw id_law_next (.cons (.bi .len (.ix (.var 4) (.var 8))) .nil)))
def law_B0_s10 : S := (.asgp [8, 10] (.cons (.callw id_law_next (.cons (.bi .len (.var 4)) .nil)) (.cons (.callw id_law_next (.cons (.var 3) .nil)) .nil)))
def law_B0_s9 : S := (.ite (.not (.call id_law_same (.cons (.tup (.cons (.call id_width_of (.cons (.var 4) .nil)) (.cons (.call id_joints_of (.cons (.ix (.var 4) (.int 0)) .nil)) (.cons (.call id_bonded (.cons (.var 4) .nil)) (.cons (.call id_laps_of (.cons (.var 4) .nil)) (.cons (.call id_bricks_in (.cons (.var 4) .nil)) (.cons (.call id_longest_crack (.cons (.var 4) .nil)) .nil))))))) (.cons (.var 18) .nil)))) (.cons (.ret (.bl false))
  .nil) .nil)
def law_B0_s8 : S := (.asg 18 (.tup (.cons (.var 3) (.cons (.bi .tuple (.ix (.var 5) (.int 0))) (.cons (.ife (.cmp .ne (.var 6) (.lst .nil)) (.bin .add (.tup (.cons (.str "no") .nil)) (.ix (.var 6) (.int 0))) (.tup (.cons (.str "yes") .nil))) (.cons (.bi .tuple (.var 7)) (.cons (.var 11) (.cons (.ife (.cmp .ne (.var 12) (.lst .nil)) (.tup (.cons (.bin .sub (.int 0) (.ix (.bi .min (.var 12)) (.int 0))) (.cons (.ix (.bi .min (.var 12)) (.int 1)) .nil))) (.tup (.cons (.int 0) (.cons .none .nil)))) .nil))))))))
def law_B3_s2 : S := (.asg 12 (.bin .add (.var 12) (.ife (.cmp .gt (.var 15) (.int 0)) (.lst (.cons (.tup (.cons (.bin .sub (.int 0) (.var 15)) (.cons (.var 10) .nil))) .nil)) (.lst .nil))))
def law_B4_s1 : S := (.asg 15 (.mx (.var 15) (.var 16)))
def law_B4_s0 : S := (.asg 16 (.ife (.cmp .in_ (.var 10) (.var 17)) (.bin .add (.var 16) (.int 1)) (.int 0)))
def law_B4 : Ss := (.cons law_B4_s0 (.cons law_B4_s1 .nil))
def law_B3_s1 : S := (.for_ (.nm 17) (.val (.var 5)) law_B4)
def law_B3_s0 : S := (.asgp [15, 16] (.cons (.int 0) (.cons (.int 0) .nil)))
def law_B3 : Ss := (.cons law_B3_s0 (.cons law_B3_s1 (.cons law_B3_s2 .nil)))
def law_B0_s7 : S := (.for_ (.nm 10) (.r2 (.int 1) (.var 3)) law_B3)
def law_B6_s0 : S := (.seti 11 (.var 14) (.bin .add (.get2 (.var 11) (.var 14) (.int 0)) (.int 1)))
def law_B6 : Ss := (.cons law_B6_s0 .nil)
def law_B5_s0 : S := (.for_ (.nm 14) (.val (.var 13)) law_B6)
def law_B5 : Ss := (.cons law_B5_s0 .nil)
def law_B0_s6 : S := (.for_ (.nm 13) (.val (.var 4)) law_B5)
def law_B0_s5 : S := (.asgp [11, 12] (.cons (.dct .nil) (.cons (.lst .nil) .nil)))
def law_B7_s3 : S := (.app 7 (.ife (.cmp .ne (.var 9) (.lst .nil)) (.bi .min (.var 9)) .none))
def law_B8_s0 : S := (.asg 9 (.bin .add (.var 9) (.comp [31] (.nm 31) (.val (.ix (.var 5) (.bin .add (.var 8) (.int 1)))) .yes (.bi .abs (.bin .sub (.var 10) (.var 31))))))
def law_B8 : Ss := (.cons law_B8_s0 .nil)
def law_B7_s2 : S := (.for_ (.nm 10) (.val (.ix (.var 5) (.var 8))) law_B8)
def law_B7_s1 : S := (.asg 9 (.lst .nil))
def law_B7_s0 : S := (.asg 6 (.bin .add (.var 6) (.comp [10] (.nm 10) (.val (.ix (.var 5) (.var 8))) (.cmp .in_ (.var 10) (.ix (.var 5) (.bin .add (.var 8) (.int 1)))) (.tup (.cons (.var 8) (.cons (.var 10) .nil))))))
def law_B7 : Ss := (.cons law_B7_s0 (.cons law_B7_s1 (.cons law_B7_s2 (.cons law_B7_s3 .nil))))
def law_B0_s4 : S := (.for_ (.nm 8) (.r1 (.bin .sub (.bi .len (.var 4)) (.int 1))) law_B7)
def law_B0_s3 : S := (.asgp [6, 7] (.cons (.lst .nil) (.cons (.lst .nil) .nil)))
def law_B0_s2 : S := (.asg 5 (.comp [13] (.nm 13) (.val (.var 4)) .yes (.call id_law_joints (.cons (.var 13) .nil))))
def law_B0_s1 : S := (.asg 4 (.bi .tuple (.comp [8] (.nm 8) (.r1 (.bin .add (.int 1) (.callw id_law_next (.cons (.int 4) .nil)))) .yes (.callw id_law_course (.cons (.var 3) .nil)))))
def law_B0_s0 : S := (.asg 3 (.bin .add (.int 1) (.callw id_law_next (.cons (.int 9) .nil))))
def law_B0 : Ss := (.cons law_B0_s0 (.cons law_B0_s1 (.cons law_B0_s2 (.cons law_B0_s3 (.cons law_B0_s4 (.cons law_B0_s5 (.cons law_B0_s6 (.cons law_B0_s7 (.cons law_B0_s8 (.cons law_B0_s9 (.cons law_B0_s10 (.cons law_B0_s11 (.cons law_B0_s12 (.cons law_B0_s13 (.cons law_B0_s14 (.cons law_B0_s15 (.cons law_B0_s16 (.cons law_B0_s17 (.cons law_B0_s18 (.cons law_B0_s19 (.cons law_B0_s20 (.cons law_B0_s21 (.cons law_B0_s22 .nil)))))))))))))))))))))))
def b_law_s0 : S := (.for_ (.nm 2) (.r1 (.int 5)) law_B0)
def b_law : Ss := (.cons b_law_s0 (.cons b_law_s1 .nil))
abbrev f_law : List (Nat × Str × Nat × Bool) := [(id_width_of, "width_of", 1, false), (id_mirrored, "mirrored", 1, false), (id_joints_in, "joints_in", 1, false), (id_law_next, "_law_next", 2, true), (id_law_same, "_law_same", 2, false), (id_law_ends, "_law_ends", 1, false), (id_law_joints, "_law_joints", 1, false), (id_law_shared, "_law_shared", 2, false), (id_joints_of, "joints_of", 1, false), (id_bricks_in, "bricks_in", 1, false), (id_brick_at, "brick_at", 3, false), (id_cut_out, "cut_out", 3, false), (id_shared_stretch, "shared_stretch", 4, false), (id_law_course, "_law_course", 2, true), (id_bonded, "bonded", 1, false), (id_laps_of, "laps_of", 1, false), (id_upper_bricks, "upper_bricks", 3, false), (id_lower_bricks, "lower_bricks", 3, false), (id_law_bent, "_law_bent", 2, true), (id_is_laid, "is_laid", 1, false), (id_longest_crack, "longest_crack", 1, false)]
abbrev g_law : List (Nat × Str) := []
theorem c_law : chkSs ⟨n_law, defScope s_law, defScope s_law, 1, f_law, g_law⟩ b_law (defBody s_law).tail = true := by decide +kernel
end PW

set_option maxHeartbeats 4000000
/-! Courses and joints: typed. -/
namespace PW
open PySem PyProof.Rows L2 PV
abbrev Fr2 := Int × Int
abbrev Crs := List Int
abbrev Wal := List Crs
def cC : Cod Crs := cT cInt
def cW : Cod Wal := cT cC
abbrev G0 : Nat → List D → Option D := fun _ _ => none
def C0 : Nat → Option D := fun _ => none
def at0 (c : Crs) (n : Nat) : Int := c.getD n 0
def atC (w : Wal) (k : Nat) : Crs := w.getD k []
def endAt (c : Crs) (n : Nat) : Int × Int := ((c.take n).sum, (c.take (n + 1)).sum)
def endsP (c : Crs) : List (Int × Int) := (List.range c.length).map (endAt c)
def mx (a b : Int) : Int := if b > a then b else a
def mn (a b : Int) : Int := if b < a then b else a
def cutS (a b : Int × Int) : Int := mn a.2 b.2 - mx a.1 b.1
def ovl (a b : Int × Int) : Int := mx 0 (cutS a b)
def jts (c : Crs) : Crs := (List.range (c.length - 1)).map fun n => (c.take (n + 1)).sum
def hereL (c : Crs) (p : Int) : List (Int × Int) := (endsP c).filter fun s => decide (s.1 ≤ p) && decide (p < s.2)
def hereP (c : Crs) (p : Int) : Int × Int := (hereL c p).headD (0, 0)
def touP (c : Crs) (s : Int × Int) : List Nat := (List.range c.length).filter fun n => decide ((endAt c n).1 < s.2) && decide (s.1 < (endAt c n).2)
def cutP (c : Crs) (b e : Int) : Crs := ((endsP c).map fun s => cutS (b, e) s).filter fun x => decide (0 < x)
def absI (i : Int) : Int := if i < 0 then -i else i
def bothP (w : Wal) (k : Nat) : Crs := (jts (atC w k)).filter fun p => decide (p ∈ jts (atC w (k + 1)))
def bndD (w : Wal) : D := match (List.range (w.length - 1)).find? (fun k => !(bothP w k).isEmpty) with
  | some k => .tuple [.str "no", .int k, .int ((bothP w k).headD 0)]
  | none => .tuple [.str "yes"]
def gapsP (a b : Crs) : Crs := (jts a).flatMap fun x => (jts b).map fun y => absI (x - y)
def lapD (g : Crs) : D := if g = [] then .none else (dMin (g.map cInt.enc)).getD .none
def lapsD (w : Wal) : List D := (List.range (w.length - 1)).map fun k => lapD (gapsP (atC w k) (atC w (k + 1)))
def brkD (w : Wal) : List (D × D) := (uniqS w.flatten).map fun x => (.int x, .int (w.flatten.countP fun y => decide (y = x)))
def runS (p : Int) (z : Int × Int) (c : Crs) : Int × Int := let now := if p ∈ jts c then z.2 + 1 else 0; (mx z.1 now, now)
def runP (w : Wal) (p : Int) : Int := (w.foldl (runS p) (0, 0)).1
def plc (w : Wal) : Crs := uniqS (w.flatMap jts)
def cP : Cod (Int × Int) := c2 cInt cInt
def ckR (w : Wal) : List (Int × Int) := (plc w).map fun p => (-(runP w p), p)
def ckO : Option D → D
  | some (.tuple [.int a, b]) => .tuple [.int (-a), b]
  | _ => .none
def ckD (l : List (Int × Int)) : D := if l = [] then .tuple [.int 0, .none] else ckO (dMin (l.map cP.enc))
/-! what is a wall -/
def numB : D → Bool
  | .int _ => true
  | _ => false
def fromB (l : Int) : D → Bool
  | .int i => decide (l ≤ i)
  | _ => false
def crsB : D → Bool
  | .tuple xs => !xs.isEmpty && xs.all (fromB 1)
  | _ => false
def sumD : D → Int
  | .tuple xs => ((ints? xs).getD []).sum
  | _ => 0
def laidB : D → Bool
  | .tuple xs => !xs.isEmpty && xs.all crsB && xs.all fun x => decide (sumD x = sumD (xs.headD .none))
  | _ => false
/-! conditions -/
structure CrOk (wide : Int) (c : Crs) : Prop where
  sum : c.sum = wide
  it : ∀ l ∈ c, 1 ≤ l ∧ l ≤ 4
structure WOk (wide : Int) (w : Wal) : Prop where
  wd : 1 ≤ wide ∧ wide ≤ 9
  len : 1 ≤ w.length ∧ w.length ≤ 4
  it : ∀ c ∈ w, CrOk wide c
open Classical in
noncomputable def okW (w : Wal) : Bool := decide (∃ wide, WOk wide w)
def okS (r : Crs) : Bool := decide (r.length ≤ 1000) && decide ((uniqS r).length < 64)
def okC (c : Crs) : Bool := decide (c.length ≤ 10)
/-! one value beside another, dicts in any order -/
mutual
def psq : D → Nat
  | .list xs => psqs xs + 1
  | .tuple xs => psqs xs + 1
  | .dict kvs => 2 * kvs.length + 1
  | _ => 1
def psqs : List D → Nat
  | [] => 0
  | x :: xs => psq x + psqs xs
end
def scalI : D → Bool
  | .int _ => true
  | _ => false
structure DctOk (ka kb : List (D × D)) : Prop where
  len : ka.length = kb.length
  ia : ∀ p ∈ ka, scalI p.1 = true ∧ scalI p.2 = true
  ib : ∀ p ∈ kb, scalI p.1 = true ∧ scalI p.2 = true
  na : (ka.map (·.1)).Nodup
  nb : (kb.map (·.1)).Nodup
  at_ : ∀ p ∈ kb, keyAt p.1 ka = some p.2
inductive Par : D × D → Prop
  | refl (d : D) (h : shal 10 d = true) : Par (d, d)
  | dct (ka kb : List (D × D)) (h : DctOk ka kb) : Par (.dict ka, .dict kb)
inductive Par2 : D × D → Prop
  | par (p : D × D) (h : Par p) : Par2 p
  | tup (xs ys : List D) (hl : xs.length = ys.length) (h : ∀ p ∈ xs.zip ys, Par p) : Par2 (.tuple xs, .tuple ys)
open Classical in
noncomputable def S_same2 : List D → Option D
  | [a, b] => if Par2 (a, b) ∧ psq b ≤ 100000 then some (.bool true) else none
  | _ => none
/-! the defs -/
def S_num : List D → Option D
  | [d] => some (.bool (numB d))
  | _ => none
def S_from : List D → Option D
  | [d, .int l] => some (.bool (fromB l d))
  | _ => none
def S_crs : List D → Option D
  | [d] => if sh d = true then some (.bool (crsB d)) else none
  | _ => none
def S_laid : List D → Option D
  | [d] => if sh d = true then some (.bool (laidB d)) else none
  | _ => none
def S_set := spec (A1 (cL cInt)) okS fun r => cC.enc (uniqS r)
noncomputable def S_wid := spec (A1 cW) okW fun w => .int (atC w 0).sum
def S_ends := spec (A1 cC) okC fun c => (cT cP).enc (endsP c)
def S_lends := spec (A1 cC) okC fun c => (cL cP).enc (endsP c)
noncomputable def S_mir := spec (A1 cW) okW fun w => cW.enc (w.map List.reverse)
noncomputable def S_jin := spec (A1 cW) okW fun w => .int (w.map fun c => ((c.length : Int) - 1)).sum
def S_jts := spec (A1 cC) okC fun c => cC.enc (jts c)
def S_ljts := spec (A1 cC) okC fun c => (cL cInt).enc (jts c)
def S_lsh := spec (A2 cP cP) (fun _ => true) fun z => .int (ovl z.1 z.2)
noncomputable def S_brk := spec (A1 cW) okW fun w => .dict (brkD w)
noncomputable def S_bat := spec (A3 cW cNat cInt) (fun z => okW z.1 && decide (z.2.1 < z.1.length) && !(hereL (atC z.1 z.2.1) z.2.2).isEmpty) fun z => cP.enc ((hereP (atC z.1 z.2.1) z.2.2).1, (hereP (atC z.1 z.2.1) z.2.2).2 - (hereP (atC z.1 z.2.1) z.2.2).1)
def S_tou := spec (A2 cC cP) (fun z => okC z.1) fun z => (cT cNat).enc (touP z.1 z.2)
noncomputable def S_cut := spec (A3 cW cInt cInt) (fun z => okW z.1) fun z => cW.enc (z.1.map fun c => cutP c z.2.1 z.2.2)
noncomputable def S_shst := spec (A4 cW cNat cNat cNat) (fun z => okW z.1 && decide (0 < z.2.1 ∧ z.2.1 < z.1.length ∧ z.2.2.1 < (atC z.1 z.2.1).length ∧ z.2.2.2 < (atC z.1 (z.2.1 - 1)).length)) fun z => .int (ovl (endAt (atC z.1 z.2.1) z.2.2.1) (endAt (atC z.1 (z.2.1 - 1)) z.2.2.2))
noncomputable def S_bnd := spec (A1 cW) okW bndD
noncomputable def S_lap := spec (A1 cW) okW fun w => .tuple (lapsD w)
noncomputable def S_up := spec (A3 cW cNat cNat) (fun z => okW z.1 && decide (z.2.1 + 1 < z.1.length ∧ z.2.2 < (atC z.1 z.2.1).length)) fun z => (cT cNat).enc (touP (atC z.1 (z.2.1 + 1)) (endAt (atC z.1 z.2.1) z.2.2))
noncomputable def S_lo := spec (A3 cW cNat cNat) (fun z => okW z.1 && decide (0 < z.2.1 ∧ z.2.1 < z.1.length ∧ z.2.2 < (atC z.1 z.2.1).length)) fun z => (cT cNat).enc (touP (atC z.1 (z.2.1 - 1)) (endAt (atC z.1 z.2.1) z.2.2))
noncomputable def S_run := spec (A2 cW cInt) (fun z => okW z.1) fun z => .int (runP z.1 z.2)
noncomputable def S_crk := spec (A1 cW) okW fun w => ckD (ckR w)
noncomputable def SS : Nat → List D → Option D
  | 0 => S_num
  | 1 => S_set
  | 2 => S_wid
  | 3 => S_ends
  | 4 => S_mir
  | 5 => S_jin
  | 8 => S_same2
  | 9 => S_lends
  | 10 => S_ljts
  | 11 => S_lsh
  | 12 => S_from
  | 13 => S_jts
  | 14 => S_brk
  | 15 => S_bat
  | 16 => S_tou
  | 17 => S_cut
  | 18 => S_shst
  | 21 => S_crs
  | 22 => S_bnd
  | 23 => S_lap
  | 24 => S_up
  | 25 => S_lo
  | 26 => S_run
  | 28 => S_laid
  | 29 => S_crk
  | _ => fun _ => none
theorem e_C (c : Crs) : cC.enc c = .tuple (c.map cInt.enc) := rfl
theorem e_W (w : Wal) : cW.enc w = .tuple (w.map cC.enc) := rfl
theorem e_P (p : Int × Int) : cP.enc p = .tuple [.int p.1, .int p.2] := rfl
theorem ok_P : CodOk cP 1 := ok_2 ok_int ok_int (by decide) (by decide)
theorem ok_C : CodOk cC 1 := ok_T ok_int
theorem ok_W : CodOk cW 2 := ok_T ok_C
end PW

set_option maxHeartbeats 4000000
/-! Courses and joints: numbers; one value beside another. -/
namespace PW
open PySem PyProof.Rows L2 PV
theorem r_is_number : ∀ ds d, SS id_is_number ds = some d → run optM C0 SS G0 n_is_number.length b_is_number ds = some d := by
  intro ds d h
  change S_num ds = some d at h
  unfold S_num at h
  split at h
  · rename_i x
    cases h
    refine run_of ?_
    unfold b_is_number
    cases x <;> simp [esc, escs, dIs, numB]
  · cases h
theorem r_is_from : ∀ ds d, SS id_is_from ds = some d → run optM C0 SS G0 n_is_from.length b_is_from ds = some d := by
  intro ds d h
  change S_from ds = some d at h
  unfold S_from at h
  split at h
  · rename_i x l
    cases h
    refine run_of ?_
    have e : SS id_is_number [x] = some (.bool (numB x)) := rfl
    unfold b_is_from
    cases x <;> simp [esc, escs, e, numB, fromB]
  · cases h
/-! dicts of whole numbers -/
theorem scal_int {a : D} (h : scalI a = true) : ∃ i, a = .int i := by
  cases a <;> simp [scalI] at h
  exact ⟨_, rfl⟩
theorem eqv_same {a : D} (ha : scalI a = true) : PyData.eqv a a = true := by
  obtain ⟨i, rfl⟩ := scal_int ha
  simp [PyData.eqv]
theorem eqv_other {a b : D} (ha : scalI a = true) (hb : scalI b = true) (h : a ≠ b) : PyData.eqv a b = false := by
  obtain ⟨i, rfl⟩ := scal_int ha
  obtain ⟨j, rfl⟩ := scal_int hb
  have : i ≠ j := fun e => h (by rw [e])
  simpa [PyData.eqv] using this
theorem okKey_int {k : D} {l : List (D × D)} (hk : scalI k = true) (h : ∀ p ∈ l, scalI p.1 = true) : okKey k l = true := by
  obtain ⟨i, rfl⟩ := scal_int hk
  unfold okKey
  have : (l.all fun p => scalK p.1) = true := List.all_eq_true.mpr fun p hp => by
    obtain ⟨j, e⟩ := scal_int (h p hp)
    rw [e]
    rfl
  rw [this]
  rfl
theorem keyAt_mem : ∀ {l : List (D × D)}, (∀ p ∈ l, scalI p.1 = true) → (l.map (·.1)).Nodup → ∀ p ∈ l, keyAt p.1 l = some p.2
  | [], _, _, p, hp => by cases hp
  | q :: l, hs, hn, p, hp => by
    rw [List.map_cons, List.nodup_cons] at hn
    unfold keyAt
    rcases List.mem_cons.mp hp with e | e
    · subst e; simp [eqv_same (hs p hp)]
    · have hne : ¬ q.1 = p.1 := fun c => hn.1 (by rw [c]; exact List.mem_map_of_mem e)
      rw [eqv_other (hs q (by simp)) (hs p hp) hne]
      exact keyAt_mem (fun r hr => hs r (by simp [hr])) hn.2 p e
theorem keyAt_none : ∀ {l : List (D × D)} {k : D}, (∀ p ∈ l, scalI p.1 = true) → scalI k = true → k ∉ l.map (·.1) → keyAt k l = none
  | [], _, _, _, _ => rfl
  | q :: l, k, hs, hk, hn => by
    rw [List.map_cons, List.mem_cons, not_or] at hn
    unfold keyAt
    rw [eqv_other (hs q (by simp)) hk (fun c => hn.1 c.symm)]
    exact keyAt_none (fun r hr => hs r (by simp [hr])) hk hn.2
theorem keyAt_in : ∀ {l : List (D × D)} {k v : D}, (∀ p ∈ l, scalI p.1 = true) → scalI k = true → keyAt k l = some v → (k, v) ∈ l
  | [], _, _, _, _, h => by cases h
  | q :: l, k, v, hs, hk, h => by
    unfold keyAt at h
    by_cases c : q.1 = k
    · rw [c] at h
      simp [eqv_same hk] at h
      rw [← c, ← h]
      simp
    · rw [eqv_other (hs q (by simp)) hk c] at h
      simp at h
      exact List.mem_cons_of_mem _ (keyAt_in (fun r hr => hs r (by simp [hr])) hk h)
theorem keyAt_dup : ∀ {l : List (D × D)} {k v : D}, (∀ p ∈ l, scalI p.1 = true) → scalI k = true → keyAt k l = some v → keyAt k (l.map fun q => (q.1, q.1)) = some k
  | [], _, _, _, _, h => by cases h
  | q :: l, k, v, hs, hk, h => by
    unfold keyAt at h
    rw [List.map_cons]
    unfold keyAt
    by_cases c : q.1 = k
    · simp [c, eqv_same hk]
    · simp [eqv_other (hs q (by simp)) hk c] at h ⊢
      exact keyAt_dup (fun r hr => hs r (by simp [hr])) hk h
theorem keyPut_new : ∀ {l : List (D × D)} {k v : D}, (∀ p ∈ l, scalI p.1 = true) → scalI k = true → k ∉ l.map (·.1) → keyPut k v l = l ++ [(k, v)]
  | [], _, _, _, _, _ => rfl
  | q :: l, k, v, hs, hk, hn => by
    rw [List.map_cons, List.mem_cons, not_or] at hn
    unfold keyPut
    rw [eqv_other (hs q (by simp)) hk (fun c => hn.1 c.symm)]
    simp only [Bool.false_eq_true, if_false, List.cons_append]
    rw [keyPut_new (fun r hr => hs r (by simp [hr])) hk hn.2]
theorem okR_nat' {n : Nat} (h : n ≤ 100000) : okR 0 (n : Int) = true := by unfold okR LINE; exact decide_eq_true (by omega)
theorem ne_scal : ∀ x : D, PV.kidsOf x = [] → (∀ kv, x ≠ .dict kv) → (∀ xs, x ≠ .list xs) → (∀ xs, x ≠ .tuple xs) → dCmp .ne x x = some false
  | .none, _, _, _, _ => rfl
  | .bool b, _, _, _, _ => by cases b <;> rfl
  | .int i, _, _, _, _ => by simp
  | .str s, _, _, _, _ => by
    show (if (sh (.str s) && sh (.str s)) = true then some (!PyData.eqv (.str s) (.str s)) else (dEqX (.str s) (.str s)).map (!·)) = _
    rw [if_pos (by rfl)]
    simp [PyData.eqv]
  | .list xs, _, _, h, _ => absurd rfl (h xs)
  | .tuple xs, _, _, _, h => absurd rfl (h xs)
  | .dict xs, _, h, _, _ => absurd rfl (h xs)
def prD (p : D × D) : D := .tuple [p.1, p.2]
theorem pairs_new : ∀ (l acc : List (D × D)), (∀ p ∈ l, scalI p.1 = true) → (∀ p ∈ acc, scalI p.1 = true) → ((acc ++ l).map (·.1)).Nodup → dPairs (l.map prD) acc = some (acc ++ l)
  | [], acc, _, _, _ => by simp [dPairs]
  | p :: l, acc, hl, ha, hn => by
    have hp := hl p (by simp)
    have hni : p.1 ∉ acc.map (·.1) := fun c => by
      rw [List.map_append, List.nodup_append] at hn
      exact hn.2.2 _ c p.1 (by simp) rfl
    rw [List.map_cons]
    show (if okKey p.1 acc then dPairs (l.map prD) (keyPut p.1 p.2 acc) else none) = _
    rw [if_pos (okKey_int hp ha), keyPut_new ha hp hni, pairs_new l (acc ++ [(p.1, p.2)]) (fun q hq => hl q (by simp [hq])) (fun q hq => by
      rcases List.mem_append.mp hq with hq | hq
      · exact ha q hq
      · rw [List.mem_singleton.mp hq]; exact hp) (by simpa using hn)]
    simp
theorem dict_new {l : List (D × D)} (hl : ∀ p ∈ l, scalI p.1 = true) (hn : (l.map (·.1)).Nodup) (hs : l.length ≤ 100000) : dBi .dict (.list (l.map prD)) = some (.dict l) := by
  show (if (l.map prD).length ≤ LINE then (dPairs (l.map prD) []).map PyData.dict else none) = _
  rw [if_pos (by rw [List.length_map]; unfold LINE; omega), pairs_new l [] hl (by simp) (by simpa using hn)]
  rfl
/-! one value beside another -/
def kids : D × D → List (D × D)
  | (.list xs, .list ys) => xs.zip ys
  | (.tuple xs, .tuple ys) => xs.zip ys
  | (.dict _, .dict kb) => (kb.map fun p => (p.2, p.2)) ++ kb.map fun p => (p.1, p.1)
  | _ => []
theorem psqs_app : ∀ xs ys : List D, psqs (xs ++ ys) = psqs xs + psqs ys
  | [], ys => by simp [psqs]
  | x :: xs, ys => by simp [psqs, psqs_app xs ys, Nat.add_assoc]
theorem psq_pos (x : D) : 1 ≤ psq x := by cases x <;> simp [psq]
theorem psqs_len : ∀ xs : List D, xs.length ≤ psqs xs
  | [] => by simp
  | x :: xs => by
    have := psqs_len xs
    have := psq_pos x
    simp [psqs]
    omega
theorem psqs_scal : ∀ {xs : List D}, (∀ x ∈ xs, scalI x = true) → psqs xs = xs.length
  | [], _ => rfl
  | x :: xs, h => by
    obtain ⟨i, rfl⟩ := scal_int (h x (by simp))
    have := psqs_scal (xs := xs) fun y hy => h y (by simp [hy])
    simp [psqs, psq, this]
    omega
theorem zip_snd {xs ys : List D} (h : xs.length = ys.length) : (xs.zip ys).map (·.2) = ys := by
  rw [List.map_snd_zip (by omega)]
theorem zip_self : ∀ xs : List D, ∀ p ∈ xs.zip xs, p.1 = p.2 ∧ p.1 ∈ xs
  | [], p, hp => by cases hp
  | x :: xs, p, hp => by
    rcases List.mem_cons.mp hp with e | e
    · subst e; simp
    · have := zip_self xs p e
      exact ⟨this.1, by simp [this.2]⟩
theorem kids_ok {p : D × D} (h : Par2 p) : (∀ q ∈ kids p, Par2 q) ∧ psqs ((kids p).map (·.2)) < psq p.2 := by
  have refl : ∀ {q : D × D} {xs : List D}, q ∈ xs.zip xs → xs.all (shal 10) = true → Par q := fun {q xs} hq hs => by
    obtain ⟨e1, e2⟩ := zip_self xs q hq
    have := Par.refl q.1 (List.all_eq_true.mp hs _ e2)
    rw [show q = (q.1, q.1) from Prod.ext rfl e1.symm]
    exact this
  cases h with
  | par _ h =>
    cases h with
    | refl d h =>
      have hk := kids_sh h
      cases d with
      | list xs => exact ⟨fun q hq => .par _ (refl hq hk), by show psqs ((xs.zip xs).map (·.2)) < psqs xs + 1; rw [zip_snd rfl]; omega⟩
      | tuple xs => exact ⟨fun q hq => .par _ (refl hq hk), by show psqs ((xs.zip xs).map (·.2)) < psqs xs + 1; rw [zip_snd rfl]; omega⟩
      | dict kv => simp [shal] at h
      | _ => exact ⟨fun q hq => (by cases hq), by simp [kids, psqs, psq]⟩
    | dct ka kb h =>
      have sc : ∀ d : D, scalI d = true → Par2 (d, d) := fun d hd => by
        obtain ⟨i, rfl⟩ := scal_int hd
        exact .par _ (.refl _ rfl)
      refine ⟨fun q hq => ?_, ?_⟩
      · rcases List.mem_append.mp hq with hq | hq
        · obtain ⟨r, hr, rfl⟩ := List.mem_map.mp hq
          exact sc _ (h.ib r hr).2
        · obtain ⟨r, hr, rfl⟩ := List.mem_map.mp hq
          exact sc _ (h.ib r hr).1
      · show psqs (((kb.map fun p => (p.2, p.2)) ++ kb.map fun p => (p.1, p.1)).map (·.2)) < 2 * kb.length + 1
        rw [psqs_scal]
        · simp; omega
        · intro x hx
          obtain ⟨q, hq, rfl⟩ := List.mem_map.mp hx
          rcases List.mem_append.mp hq with hq | hq
          · obtain ⟨r, hr, rfl⟩ := List.mem_map.mp hq
            exact (h.ib r hr).2
          · obtain ⟨r, hr, rfl⟩ := List.mem_map.mp hq
            exact (h.ib r hr).1
  | tup xs ys hl h => exact ⟨fun q hq => .par _ (h q hq), by show psqs ((xs.zip ys).map (·.2)) < psqs ys + 1; rw [zip_snd hl]; omega⟩
theorem zip_get {xs ys : List D} (h : xs.length = ys.length) : ((List.range ys.length).map fun i => prD (xs.getD i .none, ys.getD i .none)) = (xs.zip ys).map prD := by
  refine List.ext_getElem (by simp [h]) fun i h1 h2 => ?_
  have hi : i < ys.length := by simpa using h1
  simp [hi, h ▸ hi]
section
variable {a b : D} {ys : List (D × D)}
theorem turn_seq {x y : D} {xs zs : List D} (hx : ∀ i : Nat, i < xs.length → dIx x (.int (i : Int)) = some (xs.getD i .none)) (hy : ∀ i : Nat, i < zs.length → dIx y (.int (i : Int)) = some (zs.getD i .none)) (hl : xs.length = zs.length) (s0 s1 s2 : PV.Slot) :
    compL optM (oStep C0 SS G0 (.nm 7) .yes (.tup (.cons (.ix (.var 3) (.var 7)) (.cons (.ix (.var 4) (.var 7)) .nil))) [s0, s1, s2, .sh x, .sh y, .no, .no, .no]) (rng 0 (zs.length : Int)) = some ((xs.zip zs).map prD) := by
  rw [rng_map, show ((zs.length : Int) - 0).toNat = zs.length by omega, compL_all (f := fun i => prD (xs.getD i .none, zs.getD i .none)) fun i hi => by
    have hi := List.mem_range.mp hi
    have e1 := hx i (by omega)
    have e2 := hy i hi
    simp only [Int.zero_add]
    generalize xs.getD i .none = u at e1 ⊢
    generalize zs.getD i .none = v at e2 ⊢
    simp [oStep, e1, e2, prD]]
  exact congrArg some (zip_get hl)
theorem same_L {xs zs : List D} (hl : xs.length = zs.length) (hz : zs.length ≤ 100000) (l3 : (ys.map prD).length + ((xs.zip zs).map prD).length ≤ LINE) : exs optM C0 SS G0 law_same_B0 [.sh a, .sh b, .ow (.list (ys.map prD ++ [prD (.list xs, .list zs)])), .no, .no, .no, .no, .no] = some (.nx [.sh a, .sh b, .ow (.list (ys.map prD ++ (xs.zip zs).map prD)), .sh (.list xs), .sh (.list zs), .no, .no, .no]) := by
  have kk := turn_seq (x := .list xs) (y := .list zs) (fun i hi => by simp [atI_get hi, hi]) (fun i hi => by simp [atI_get hi, hi]) hl
  have ok : okR 0 (zs.length : Int) = true := okR_nat' hz
  generalize (xs.zip zs).map prD = w at kk l3 ⊢
  generalize ys.map prD = y0 at l3 ⊢
  unfold law_same_B0 prD
  simp [esc, escs, escS, dIs, ok, kk, dExt, hl, l3]
theorem same_T {xs zs : List D} (hl : xs.length = zs.length) (hz : zs.length ≤ 100000) (l3 : (ys.map prD).length + ((xs.zip zs).map prD).length ≤ LINE) : exs optM C0 SS G0 law_same_B0 [.sh a, .sh b, .ow (.list (ys.map prD ++ [prD (.tuple xs, .tuple zs)])), .no, .no, .no, .no, .no] = some (.nx [.sh a, .sh b, .ow (.list (ys.map prD ++ (xs.zip zs).map prD)), .sh (.tuple xs), .sh (.tuple zs), .no, .no, .no]) := by
  have kk := turn_seq (x := .tuple xs) (y := .tuple zs) (fun i hi => by simp [atI_get hi, hi]) (fun i hi => by simp [atI_get hi, hi]) hl
  have ok : okR 0 (zs.length : Int) = true := okR_nat' hz
  generalize (xs.zip zs).map prD = w at kk l3 ⊢
  generalize ys.map prD = y0 at l3 ⊢
  unfold law_same_B0 prD
  simp [esc, escs, escS, dIs, ok, kk, dExt, hl, l3]
theorem same_D {ka kb : List (D × D)} (h : DctOk ka kb) (hkb : kb.length ≤ 100000) (l4' : (ys.map prD).length + (((kb.map fun p => (p.2, p.2)).map prD).length + ((kb.map fun p => (p.1, p.1)).map prD).length) ≤ LINE) : exs optM C0 SS G0 law_same_B0 [.sh a, .sh b, .ow (.list (ys.map prD ++ [prD (.dict ka, .dict kb)])), .no, .no, .no, .no, .no] = some (.nx [.sh a, .sh b, .ow (.list (ys.map prD ++ ((kb.map fun p => (p.2, p.2)).map prD ++ (kb.map fun p => (p.1, p.1)).map prD))), .sh (.dict ka), .sh (.dict kb), .ow (.dict (ka.map fun q => (q.1, q.1))), .no, .no]) := by
  have sa : ∀ p ∈ ka, scalI p.1 = true := fun p hp => (h.ia p hp).1
  have sb : ∀ p ∈ kb, scalI p.1 = true := fun p hp => (h.ib p hp).1
  have hlen := h.len
  have c1 : ∀ s0 s1 s2 : PV.Slot, compL optM (oStep C0 SS G0 (.nm 6) (.cmp .notin (.var 6) (.var 3)) (.var 6) [s0, s1, s2, .sh (.dict ka), .sh (.dict kb), .no, .no, .no]) (kb.map (·.1)) = some [] := fun s0 s1 s2 => by
    have := compL_fil (g := oStep C0 SS G0 (.nm 6) (.cmp .notin (.var 6) (.var 3)) (.var 6) [s0, s1, s2, .sh (.dict ka), .sh (.dict kb), .no, .no, .no]) (xs := kb) (e := fun p : D × D => p.1) (f := fun p : D × D => p.1) (p := fun _ => false) fun p hp => by
      have e1 := okKey_int (sb p hp) sa
      have e2 := h.at_ p hp
      simp [oStep, dCmp, e1, e2]
    rw [List.filter_eq_nil_iff.mpr (by simp)] at this
    exact this
  have c2' : ∀ s0 s1 s2 : PV.Slot, compL optM (oStep C0 SS G0 (.nm 6) .yes (.tup (.cons (.var 6) (.cons (.var 6) .nil))) [s0, s1, s2, .sh (.dict ka), .sh (.dict kb), .no, .no, .no]) (ka.map (·.1)) = some ((ka.map fun q => (q.1, q.1)).map prD) := fun s0 s1 s2 => by
    rw [List.map_map]
    exact compL_all fun p _ => by simp [oStep, prD]
  have d1 : dBi .dict (.list ((ka.map fun q => (q.1, q.1)).map prD)) = some (.dict (ka.map fun q => (q.1, q.1))) := dict_new (fun p hp => by
    obtain ⟨q, hq, rfl⟩ := List.mem_map.mp hp
    exact sa q hq) (by rw [List.map_map]; exact h.na) (by rw [List.length_map]; omega)
  have c3 : ∀ s0 s1 s2 s5 : PV.Slot, compL optM (oStep C0 SS G0 (.nm 6) .yes (.tup (.cons (.ix (.var 3) (.var 6)) (.cons (.ix (.var 4) (.var 6)) .nil))) [s0, s1, s2, .sh (.dict ka), .sh (.dict kb), s5, .no, .no]) (kb.map (·.1)) = some ((kb.map fun p => (p.2, p.2)).map prD) := fun s0 s1 s2 s5 => by
    rw [List.map_map]
    exact compL_all fun p hp => by
      have e1 := okKey_int (sb p hp) sa
      have e2 := h.at_ p hp
      have e3 := okKey_int (sb p hp) sb
      have e4 := keyAt_mem sb h.nb p hp
      simp [oStep, prD, e1, e2, e3, e4]
  have c4 : ∀ s0 s1 s2 : PV.Slot, ∀ s5 : PV.Slot, s5.val = some (.dict (ka.map fun q => (q.1, q.1))) → compL optM (oStep C0 SS G0 (.nm 6) .yes (.tup (.cons (.ix (.var 5) (.var 6)) (.cons (.var 6) .nil))) [s0, s1, s2, .sh (.dict ka), .sh (.dict kb), s5, .no, .no]) (kb.map (·.1)) = some ((kb.map fun p => (p.1, p.1)).map prD) := fun s0 s1 s2 s5 h5 => by
    rw [List.map_map]
    exact compL_all fun p hp => by
      have e1 := okKey_int (l := ka.map fun q => (q.1, q.1)) (sb p hp) fun r hr => by
        obtain ⟨q, hq, rfl⟩ := List.mem_map.mp hr
        exact sa q hq
      have e2 := keyAt_dup sa (sb p hp) (h.at_ p hp)
      generalize (ka.map fun q => (q.1, q.1)) = z at h5 e1 e2
      simp [oStep, prD, h5, e1, e2]
  have ne0 : dCmp .ne (.list []) (.list []) = some false := rfl
  have sl : ∀ e : E, e.fresh = true → ∀ z, slotOf e (.dict z) = .ow (.dict z) := fun e he z => by simp [slotOf, he, isMut]
  have fd : ∀ e : E, E.fresh (.bi .dict e) = true := fun _ => rfl
  have c4' := fun s0 s1 s2 => c4 s0 s1 s2 (.ow (.dict (ka.map fun q => (q.1, q.1)))) rfl
  have c4'' := fun s0 s1 s2 => c4 s0 s1 s2 (.sh (.dict (ka.map fun q => (q.1, q.1)))) rfl
  have l4 : ((kb.map fun p => (p.2, p.2)).map prD).length + ((kb.map fun p => (p.1, p.1)).map prD).length ≤ LINE := by simp; unfold LINE; omega
  have il : ∀ k : List (D × D), iter? (.dict k) = some (k.map (·.1)) := fun _ => rfl
  generalize (kb.map fun p => (p.2, p.2)).map prD = w1 at c3 l4' l4 ⊢
  generalize (kb.map fun p => (p.1, p.1)).map prD = w2 at c4' c4'' l4' l4 ⊢
  generalize (ka.map fun q => (q.1, q.1)).map prD = w3 at c2' d1
  generalize (ka.map fun q => (q.1, q.1)) = z at d1 c4' c4'' ⊢
  have iA := il ka
  have iB := il kb
  generalize ka.map (·.1) = ks at c2' iA
  generalize kb.map (·.1) = ls at c1 c3 c4' c4'' iB
  generalize ys.map prD = y0 at l4' ⊢
  unfold law_same_B0 prD
  simp [-iter_d, esc, escs, escS, dIs, hlen, iA, iB, c1, ne0, c2', d1, sl, fd, c3, c4', c4'', l4, dExt, l4']
theorem same_turn {p : D × D} (hp : Par2 p) (hn : psqs (ys.map (·.2)) + psq p.2 ≤ 100000) : ∃ s3 s4 s5 : PV.Slot, (∃ x y, s3 = .sh x ∧ s4 = .sh y) ∧ (s5 = .no ∨ ∃ k, s5 = .sh k ∨ s5 = .ow k) ∧ exs optM C0 SS G0 law_same_B0 [.sh a, .sh b, .ow (.list (ys.map prD ++ [prD p])), .no, .no, .no, .no, .no] = some (.nx [.sh a, .sh b, .ow (.list ((ys ++ kids p).map prD)), s3, s4, s5, .no, .no]) := by
  have l1 := psqs_len (ys.map (·.2))
  rw [List.length_map] at l1
  obtain ⟨_, hk⟩ := kids_ok hp
  have l2 := psqs_len ((kids p).map (·.2))
  rw [List.length_map] at l2
  have l3 : (ys.map prD).length + ((kids p).map prD).length ≤ LINE := by simp; unfold LINE; omega
  have l5 : (kids p).length ≤ 100000 := by omega
  cases hp with
  | tup xs zs hl h =>
    have ek : kids (.tuple xs, .tuple zs) = xs.zip zs := rfl
    rw [ek] at l3 l5 ⊢
    rw [List.map_append]
    exact ⟨.sh (.tuple xs), .sh (.tuple zs), .no, ⟨_, _, rfl, rfl⟩, .inl rfl, same_T hl (by rw [List.length_zip] at l5; omega) l3⟩
  | par _ hp =>
    cases hp with
    | refl d h =>
      cases d with
      | list xs =>
        have ek : kids (.list xs, .list xs) = xs.zip xs := rfl
        rw [ek] at l3 l5 ⊢
        rw [List.map_append]
        exact ⟨.sh (.list xs), .sh (.list xs), .no, ⟨_, _, rfl, rfl⟩, .inl rfl, same_L rfl (by rw [List.length_zip] at l5; omega) l3⟩
      | tuple xs =>
        have ek : kids (.tuple xs, .tuple xs) = xs.zip xs := rfl
        rw [ek] at l3 l5 ⊢
        rw [List.map_append]
        exact ⟨.sh (.tuple xs), .sh (.tuple xs), .no, ⟨_, _, rfl, rfl⟩, .inl rfl, same_T rfl (by rw [List.length_zip] at l5; omega) l3⟩
      | dict kv => simp [shal] at h
      | none => exact ⟨.sh .none, .sh .none, .no, ⟨_, _, rfl, rfl⟩, .inl rfl, by rw [show kids (_, _) = [] from rfl, List.append_nil]; generalize ys.map prD = y0; unfold law_same_B0 prD; simp [esc, dIs, ne_scal .none rfl (by simp) (by simp) (by simp)]⟩
      | bool i => exact ⟨.sh (.bool i), .sh (.bool i), .no, ⟨_, _, rfl, rfl⟩, .inl rfl, by rw [show kids (_, _) = [] from rfl, List.append_nil]; generalize ys.map prD = y0; unfold law_same_B0 prD; simp [esc, dIs, ne_scal (.bool i) rfl (by simp) (by simp) (by simp)]⟩
      | int i => exact ⟨.sh (.int i), .sh (.int i), .no, ⟨_, _, rfl, rfl⟩, .inl rfl, by rw [show kids (_, _) = [] from rfl, List.append_nil]; generalize ys.map prD = y0; unfold law_same_B0 prD; simp [esc, dIs, ne_scal (.int i) rfl (by simp) (by simp) (by simp)]⟩
      | str i => exact ⟨.sh (.str i), .sh (.str i), .no, ⟨_, _, rfl, rfl⟩, .inl rfl, by rw [show kids (_, _) = [] from rfl, List.append_nil]; generalize ys.map prD = y0; unfold law_same_B0 prD; simp [esc, dIs, ne_scal (.str i) rfl (by simp) (by simp) (by simp)]⟩
    | dct ka kb h =>
      have ek : kids (.dict ka, .dict kb) = (kb.map fun p => (p.2, p.2)) ++ kb.map fun p => (p.1, p.1) := rfl
      rw [ek] at l3 l5 ⊢
      rw [List.map_append, List.map_append]
      rw [List.map_append, List.length_append] at l3
      exact ⟨_, _, _, ⟨_, _, rfl, rfl⟩, .inr ⟨_, .inr rfl⟩, same_D h (by simp at l5; omega) l3⟩
end
def nextN (s : List (D × D)) : List (D × D) := match s.getLast? with
  | some x => s.dropLast ++ kids x
  | none => s
theorem nextN_app (ys : List (D × D)) (x : D × D) : nextN (ys ++ [x]) = ys ++ kids x := by
  unfold nextN
  simp
theorem ne_prs (s : List (D × D)) : dCmp .ne (.list (s.map prD)) (.list []) = some (!s.isEmpty) := by
  cases s with
  | nil => rfl
  | cons p s =>
    show (if (sh (.list ((p :: s).map prD)) && sh (.list [])) = true then some (!PyData.eqv (.list ((p :: s).map prD)) (.list [])) else (dEqX (.list ((p :: s).map prD)) (.list [])).map (!·)) = _
    split
    · rfl
    · rfl
theorem r_law_same : ∀ ds d, SS id_law_same ds = some d → run optM C0 SS G0 n_law_same.length b_law_same ds = some d := by
  intro ds d h
  change S_same2 ds = some d at h
  unfold S_same2 at h
  split at h
  · rename_i a b
    split at h
    · rename_i hok
      cases h
      refine run_of ?_
      have key := whO_go (step := wBody C0 SS G0 (.cmp .ne (.var 2) (.lst .nil)) law_same_B0 [.sh a, .sh b, .ow (.list [prD (a, b)]), .no, .no, .no, .no, .no]) (fun s : List (D × D) => [.sh a, .sh b, .ow (.list (s.map prD)), .no, .no, .no, .no, .no]) (fun s => psqs (s.map (·.2))) nextN (fun s => !s.isEmpty) (fun s => (∀ p ∈ s, Par2 p) ∧ psqs (s.map (·.2)) ≤ 100000) (fun s hI => ?_) _ [(a, b)] (Nat.le_refl _) ⟨fun p hp => by rw [List.mem_singleton.mp hp]; exact hok.1, by simp [psqs]; exact hok.2⟩
      · obtain ⟨s, k1, _, k3⟩ := key
        have : s = [] := by simpa using k3
        subst this
        unfold b_law_same
        simp [esc, escs, prD] at k1 ⊢
        simp [k1]
      · have nn := ne_prs s
        rcases nil_or_app s with rfl | ⟨ys, x, rfl⟩
        · simp at nn
          exact ⟨fun z => by simp at z, fun _ => wBody_end (by simp [nn])⟩
        · have h1 := hI.1
          have h2 := hI.2
          rw [List.map_append, psqs_app] at h2
          simp only [List.map_cons, List.map_nil, psqs, Nat.add_zero] at h2
          have hx : Par2 x := h1 x (by simp)
          obtain ⟨hk1, hk2⟩ := kids_ok hx
          refine ⟨fun _ => ⟨?_, ⟨?_, ?_⟩, ?_⟩, fun z => by simp at z⟩
          · obtain ⟨s3, s4, s5, ⟨u, v, e3, e4⟩, e5, st⟩ := same_turn (a := a) (b := b) (ys := ys) hx h2
            subst e3 e4
            rw [wBody_go (ρ' := [.sh a, .sh b, .ow (.list ((ys ++ kids x).map prD)), .sh u, .sh v, s5, .no, .no]) (by simp at nn; simp [nn]) (by simpa using st), nextN_app]
            rcases e5 with rfl | ⟨k, rfl | rfl⟩ <;> simp [esc, escs]
          · rw [nextN_app]
            intro p hp
            rcases List.mem_append.mp hp with hp | hp
            · exact h1 p (by simp [hp])
            · exact hk1 p hp
          · rw [nextN_app, List.map_append, psqs_app]
            omega
          · rw [nextN_app, List.map_append, List.map_append, psqs_app, psqs_app]
            simp only [List.map_cons, List.map_nil, psqs]
            omega
    · cases h
  · cases h
theorem SS_law_same {a b : D} (h : Par2 (a, b)) (hs : psq b ≤ 100000) : SS id_law_same [a, b] = some (.bool true) := by
  show S_same2 [a, b] = _
  unfold S_same2
  exact if_pos ⟨h, hs⟩
end PW

set_option maxHeartbeats 4000000
/-! Courses and joints: ends, joints. -/
namespace PW
open PySem PyProof.Rows L2 PV
@[simp] theorem mx_is {a b : Int} : dMx (.int a) (.int b) = some (.int (mx a b)) := rfl
@[simp] theorem mn_is {a b : Int} : dMn (.int a) (.int b) = some (.int (mn a b)) := rfl
theorem take_succ_sum (c : Crs) (n : Nat) (hn : n < c.length) : (c.take (n + 1)).sum = (c.take n).sum + at0 c n := by
  have e : at0 c n = c[n] := by simp [at0, hn]
  rw [List.take_add_one, List.getElem?_eq_getElem hn, List.sum_append, e]
  simp
theorem r_ends_of : ∀ ds d, SS id_ends_of ds = some d → run optM C0 SS G0 n_ends_of.length b_ends_of ds = some d := by
  intro ds d h
  obtain ⟨c, h1, hp, rfl⟩ := spec_some (show S_ends ds = some d from h)
  obtain rfl := A1_some h1
  simp only [okC, decide_eq_true_eq] at hp
  refine run_of ?_
  have kf := forL_idx (g := fBody C0 SS G0 (.nm 3) ends_of_B0) (ρ0 := [.sh (cC.enc c), .ow (.list []), .sh (.int 0), .no]) cInt.enc
    (fun n => [.sh (cC.enc c), .ow (.list (((List.range n).map (endAt c)).map cP.enc)), .sh (.int (c.take n).sum), .no]) c 0 fun k hk => by
      have hl : (((List.range k).map (endAt c)).map cP.enc).length < LINE := by simp; unfold LINE; omega
      have e1 := take_succ_sum c k hk
      have e2 : at0 c k = c[k] := by simp [at0, hk]
      rw [e2] at e1
      refine ⟨[.sh (cC.enc c), .ow (.list (((List.range (k + 1)).map (endAt c)).map cP.enc)), .sh (.int (c.take (k + 1)).sum), .sh (.int c[k])], ?_, by simp⟩
      have e3 : ((List.range (k + 1)).map (endAt c)).map cP.enc = ((List.range k).map (endAt c)).map cP.enc ++ [.tuple [.int (c.take k).sum, .int ((c.take k).sum + c[k])]] := by
        rw [List.range_succ, List.map_append, List.map_append, List.map_cons, List.map_nil, List.map_cons, List.map_nil]
        show _ ++ [PyData.tuple [.int (c.take k).sum, .int (c.take (k + 1)).sum]] = _
        rw [e1]
      rw [e3, e1, Nat.zero_add]
      generalize ((List.range k).map (endAt c)).map cP.enc = w at hl ⊢
      generalize (c.take k).sum = s
      generalize c[k] = x
      generalize cC.enc c = y
      simp [fBody, ends_of_B0, esc, escs, dApp, hl]
  have it : iter? (cC.enc c) = some (c.map cInt.enc) := rfl
  rw [Nat.zero_add] at kf
  simp only [List.range_zero, List.map_nil, List.take_zero, List.sum_nil] at kf
  show _ = some (Fl.rt (.tuple ((endsP c).map cP.enc)))
  unfold endsP
  generalize ((List.range c.length).map (endAt c)).map cP.enc = w at kf ⊢
  generalize c.map cInt.enc = q at it kf
  generalize cC.enc c = y at it kf ⊢
  unfold b_ends_of
  simp [esc, escs, escF, setAll, it, kf]
theorem SS_ends_of {c : Crs} (h : c.length ≤ 10) : SS id_ends_of [cC.enc c] = some ((cT cP).enc (endsP c)) := by
  show S_ends [cC.enc c] = _
  unfold S_ends
  exact spec_of (A1_enc cC c) (decide_eq_true h)
theorem sum_c (c : Crs) : dBi .sum (.tuple (c.map cInt.enc)) = some (.int c.sum) := by
  have e := i_sumf (xs := c) (f := fun x => x)
  rw [List.map_id' c] at e
  exact e
theorem r_law_ends : ∀ ds d, SS id_law_ends ds = some d → run optM C0 SS G0 n_law_ends.length b_law_ends ds = some d := by
  intro ds d h
  obtain ⟨c, h1, hp, rfl⟩ := spec_some (show S_lends ds = some d from h)
  obtain rfl := A1_some h1
  simp only [okC, decide_eq_true_eq] at hp
  refine run_of ?_
  have il : dBi .len (cC.enc c) = some (.int c.length) := by simp [e_C]
  have ok := okR_nat (n := c.length) (by omega)
  have er := rng_nat c.length
  have cc : compL optM (oStep C0 SS G0 (.nm 1) .yes (.tup (.cons (.bi .sum (.sl (.var 0) .none (.var 1))) (.cons (.bi .sum (.sl (.var 0) .none (.bin .add (.var 1) (.int 1)))) .nil))) [.sh (cC.enc c), .no]) ((List.range c.length).map cNat.enc) = some ((endsP c).map cP.enc) := by
    unfold endsP
    rw [List.map_map]
    refine compL_all fun k hk => ?_
    have c1 : cut (c.map cInt.enc) none (some (k : Int)) = (c.take k).map cInt.enc := by rw [cut_to, List.map_take]
    have c2' : cut (c.map cInt.enc) none (some ((k : Int) + 1)) = (c.take (k + 1)).map cInt.enc := by rw [show (k : Int) + 1 = ((k + 1 : Nat) : Int) by omega, cut_to, List.map_take]
    have s1 := sum_c (c.take k)
    have s2 := sum_c (c.take (k + 1))
    show oStep _ _ _ _ _ _ _ (.int (k : Int)) = some (some (.tuple [.int (c.take k).sum, .int (c.take (k + 1)).sum]))
    simp only [e_C]
    generalize (c.take k).sum = v1 at s1 ⊢
    generalize (c.take (k + 1)).sum = v2 at s2 ⊢
    generalize (c.take k).map cInt.enc = w1 at c1 s1
    generalize (c.take (k + 1)).map cInt.enc = w2 at c2' s2
    generalize c.map cInt.enc = w at c1 c2' ⊢
    simp [oStep, bound?, c1, c2', s1, s2]
  show _ = some (Fl.rt (.list ((endsP c).map cP.enc)))
  generalize (endsP c).map cP.enc = w at cc ⊢
  generalize (List.range c.length).map cNat.enc = r at er cc
  generalize cC.enc c = y at il cc ⊢
  unfold b_law_ends
  simp [esc, escs, escS, il, ok, er, cc]
theorem SS_law_ends {c : Crs} (h : c.length ≤ 10) : SS id_law_ends [cC.enc c] = some (.list ((endsP c).map cP.enc)) := by
  show S_lends [cC.enc c] = _
  unfold S_lends
  exact spec_of (A1_enc cC c) (decide_eq_true h)
theorem ends_at {c : Crs} {n : Nat} (h : n < c.length) : dIx ((cT cP).enc (endsP c)) (.int (n : Int)) = some (cP.enc (endAt c n)) := by
  show atI ((endsP c).map cP.enc) _ = _
  unfold endsP
  rw [PV.atI_get (by simpa using h), List.getElem_map, List.getElem_map, List.getElem_range]
theorem lends_at {c : Crs} {n : Nat} (h : n < c.length) : dIx (.list ((endsP c).map cP.enc)) (.int (n : Int)) = some (cP.enc (endAt c n)) := ends_at h
section
variable {wide : Int} {c up dn : Crs} {w : Wal} {n m k : Nat}
theorem sum_len : ∀ (c : Crs), (∀ l ∈ c, 1 ≤ l ∧ l ≤ 4) → (c.length : Int) ≤ c.sum
  | [], _ => by simp
  | l :: c, h => by
    have h1 := h l (by simp)
    have h2 := sum_len c fun x hx => h x (by simp [hx])
    simp only [List.length_cons, List.sum_cons]
    omega
theorem CrOk.len (h : CrOk wide c) (hw : 1 ≤ wide ∧ wide ≤ 9) : 1 ≤ c.length ∧ c.length ≤ 9 := by
  have h1 := sum_len c h.it
  have h2 := h.sum
  refine ⟨?_, by omega⟩
  cases c with
  | nil => simp at h2; omega
  | cons => simp
theorem at0_mem (h : n < c.length) : at0 c n ∈ c := by
  have : at0 c n = c[n] := by simp [at0, h]
  rw [this]
  exact List.getElem_mem h
theorem CrOk.at (h : CrOk wide c) (hn : n < c.length) : 1 ≤ at0 c n ∧ at0 c n ≤ 4 := h.it _ (at0_mem hn)
theorem end_dif (hn : n < c.length) : (endAt c n).2 - (endAt c n).1 = at0 c n := by
  show (c.take (n + 1)).sum - (c.take n).sum = _
  rw [take_succ_sum c n hn]
  omega
theorem atC_mem (hk : k < w.length) : atC w k ∈ w := by
  have : atC w k = w[k] := by simp [atC, hk]
  rw [this]
  exact List.getElem_mem hk
theorem WOk.cr (h : WOk wide w) (hk : k < w.length) : CrOk wide (atC w k) := h.it _ (atC_mem hk)
theorem WOk.cl (h : WOk wide w) (hk : k < w.length) : 1 ≤ (atC w k).length ∧ (atC w k).length ≤ 9 := (h.cr hk).len h.wd
theorem okW_it (h : okW w = true) : ∃ wide, WOk wide w := by
  unfold okW at h
  simpa using h
theorem okW_of (h : WOk wide w) : okW w = true := by
  unfold okW
  simpa using ⟨wide, h⟩
theorem w_at (hk : k < w.length) : dIx (cW.enc w) (.int (k : Int)) = some (cC.enc (atC w k)) := by
  have : atC w k = w[k] := by simp [atC, hk]
  rw [this, e_W]
  show atI _ _ = _
  rw [PV.atI_get (by simpa using hk), List.getElem_map]
theorem c_at (hn : n < c.length) : dIx (cC.enc c) (.int (n : Int)) = some (.int (at0 c n)) := by
  have : at0 c n = c[n] := by simp [at0, hn]
  rw [this, e_C]
  show atI _ _ = _
  rw [PV.atI_get (by simpa using hn), List.getElem_map]
  rfl
theorem c_len (c : Crs) : dBi .len (cC.enc c) = some (.int c.length) := by simp [e_C]
theorem w_len (w : Wal) : dBi .len (cW.enc w) = some (.int w.length) := by simp [e_W]
end
theorem r_width_of : ∀ ds d, SS id_width_of ds = some d → run optM C0 SS G0 n_width_of.length b_width_of ds = some d := by
  intro ds d h
  obtain ⟨w, h1, hp, rfl⟩ := spec_some (show S_wid ds = some d from h)
  obtain rfl := A1_some h1
  obtain ⟨wide, hw⟩ := okW_it hp
  refine run_of ?_
  have g : dIx (cW.enc w) (.int 0) = some (cC.enc (atC w 0)) := w_at (w := w) (k := 0) (by have := hw.len; omega)
  have s : dBi .sum (cC.enc (atC w 0)) = some (.int (atC w 0).sum) := sum_c _
  generalize (atC w 0).sum = v at s ⊢
  generalize cC.enc (atC w 0) = u at g s
  generalize cW.enc w = x at g ⊢
  unfold b_width_of
  simp [esc, escs, g, s]
theorem r_mirrored : ∀ ds d, SS id_mirrored ds = some d → run optM C0 SS G0 n_mirrored.length b_mirrored ds = some d := by
  intro ds d h
  obtain ⟨w, h1, hp, rfl⟩ := spec_some (show S_mir ds = some d from h)
  obtain rfl := A1_some h1
  refine run_of ?_
  have cc : compL optM (oStep C0 SS G0 (.nm 1) .yes (.rev (.var 1)) [.sh (cW.enc w), .no]) (w.map cC.enc) = some ((w.map List.reverse).map cC.enc) := by
    rw [List.map_map]
    refine compL_all fun c _ => ?_
    show oStep _ _ _ _ _ _ _ _ = some (some (cC.enc c.reverse))
    simp [oStep, e_C]
  have it : iter? (cW.enc w) = some (w.map cC.enc) := rfl
  have et : dBi .tuple (.list ((w.map List.reverse).map cC.enc)) = some (cW.enc (w.map List.reverse)) := rfl
  show _ = some (Fl.rt (cW.enc (w.map List.reverse)))
  generalize cW.enc (w.map List.reverse) = v at et ⊢
  generalize (w.map List.reverse).map cC.enc = u at cc et
  generalize w.map cC.enc = q at it cc
  generalize cW.enc w = x at it cc ⊢
  unfold b_mirrored
  simp [esc, escs, escS, it, cc, et]
theorem r_joints_in : ∀ ds d, SS id_joints_in ds = some d → run optM C0 SS G0 n_joints_in.length b_joints_in ds = some d := by
  intro ds d h
  obtain ⟨w, h1, hp, rfl⟩ := spec_some (show S_jin ds = some d from h)
  obtain rfl := A1_some h1
  refine run_of ?_
  have cc : compL optM (oStep C0 SS G0 (.nm 1) .yes (.bin .sub (.bi .len (.var 1)) (.int 1)) [.sh (cW.enc w), .no]) (w.map cC.enc) = some (w.map fun c => .int ((c.length : Int) - 1)) := by
    refine compL_all fun c _ => ?_
    have l := c_len c
    generalize cC.enc c = y at l ⊢
    simp [oStep, l]
  have it : iter? (cW.enc w) = some (w.map cC.enc) := rfl
  have et := i_sumf (xs := w) (f := fun c : Crs => (c.length : Int) - 1)
  show _ = some (Fl.rt (.int (w.map fun c => ((c.length : Int) - 1)).sum))
  generalize (w.map fun c => ((c.length : Int) - 1)).sum = v at et ⊢
  generalize (w.map fun c => PyData.int ((c.length : Int) - 1)) = u at cc et
  generalize w.map cC.enc = q at it cc
  generalize cW.enc w = x at it cc ⊢
  unfold b_joints_in
  simp [esc, escs, escS, it, cc, et]
theorem ends_cut (c : Crs) : cut ((endsP c).map cP.enc) none (some (-1)) = (List.range (c.length - 1)).map fun n => cP.enc (endAt c n) := by
  unfold endsP
  cases hc : c.length with
  | zero => rfl
  | succ m =>
    rw [List.range_succ, List.map_append, List.map_append, List.map_cons, List.map_nil, List.map_cons, List.map_nil, cut_last, List.map_map]
    rfl
theorem r_joints_of : ∀ ds d, SS id_joints_of ds = some d → run optM C0 SS G0 n_joints_of.length b_joints_of ds = some d := by
  intro ds d h
  obtain ⟨c, h1, hp, rfl⟩ := spec_some (show S_jts ds = some d from h)
  obtain rfl := A1_some h1
  simp only [okC, decide_eq_true_eq] at hp
  refine run_of ?_
  have e1 := SS_ends_of (c := c) hp
  have sl : dSl ((cT cP).enc (endsP c)) none (some (-1)) = some (.tuple ((List.range (c.length - 1)).map fun n => cP.enc (endAt c n))) := by
    rw [← ends_cut]
    rfl
  have cc : compL optM (oStep C0 SS G0 (.tp (.cons (.nm 1) (.cons (.nm 2) .nil))) .yes (.var 2) [.sh (cC.enc c), .no, .no]) ((List.range (c.length - 1)).map fun n => cP.enc (endAt c n)) = some ((jts c).map cInt.enc) := by
    unfold jts
    rw [List.map_map]
    refine compL_all fun n _ => ?_
    show oStep _ _ _ _ _ _ _ (.tuple [.int (endAt c n).1, .int (endAt c n).2]) = some (some (.int (endAt c n).2))
    generalize cC.enc c = y
    simp [oStep]
  have et : dBi .tuple (.list ((jts c).map cInt.enc)) = some (cC.enc (jts c)) := rfl
  generalize cC.enc (jts c) = v at et ⊢
  generalize (jts c).map cInt.enc = u at cc et
  generalize ((List.range (c.length - 1)).map fun n => cP.enc (endAt c n)) = q at sl cc
  generalize (cT cP).enc (endsP c) = z at e1 sl
  generalize cC.enc c = x at e1 cc ⊢
  unfold b_joints_of
  simp [esc, escs, escS, bound?, e1, sl, cc, et]
theorem SS_joints_of {c : Crs} (h : c.length ≤ 10) : SS id_joints_of [cC.enc c] = some (cC.enc (jts c)) := by
  show S_jts [cC.enc c] = _
  unfold S_jts
  exact spec_of (A1_enc cC c) (decide_eq_true h)
theorem r_law_joints : ∀ ds d, SS id_law_joints ds = some d → run optM C0 SS G0 n_law_joints.length b_law_joints ds = some d := by
  intro ds d h
  obtain ⟨c, h1, hp, rfl⟩ := spec_some (show S_ljts ds = some d from h)
  obtain rfl := A1_some h1
  simp only [okC, decide_eq_true_eq] at hp
  refine run_of ?_
  have il : dBi .len (cC.enc c) = some (.int c.length) := by simp [e_C]
  have ok : okR 1 (c.length : Int) = true := by unfold okR LINE; exact decide_eq_true (by omega)
  have er : rng 1 (c.length : Int) = (List.range (c.length - 1)).map fun n : Nat => .int (1 + n) := by rw [rng_map, show ((c.length : Int) - 1).toNat = c.length - 1 by omega]
  have cc : compL optM (oStep C0 SS G0 (.nm 1) .yes (.bi .sum (.sl (.var 0) .none (.var 1))) [.sh (cC.enc c), .no]) ((List.range (c.length - 1)).map fun n : Nat => .int (1 + n)) = some ((jts c).map cInt.enc) := by
    unfold jts
    rw [List.map_map]
    refine compL_all fun n _ => ?_
    have c2' : cut (c.map cInt.enc) none (some (1 + (n : Int))) = (c.take (n + 1)).map cInt.enc := by rw [show 1 + (n : Int) = ((n + 1 : Nat) : Int) by omega, cut_to, List.map_take]
    have s2 := sum_c (c.take (n + 1))
    show oStep _ _ _ _ _ _ _ (.int (1 + (n : Int))) = some (some (.int (c.take (n + 1)).sum))
    simp only [e_C]
    generalize (c.take (n + 1)).sum = v2 at s2 ⊢
    generalize (c.take (n + 1)).map cInt.enc = w2 at c2' s2
    generalize c.map cInt.enc = w at c2' ⊢
    simp [oStep, bound?, c2', s2]
  show _ = some (Fl.rt (.list ((jts c).map cInt.enc)))
  generalize (jts c).map cInt.enc = w at cc ⊢
  generalize ((List.range (c.length - 1)).map fun n : Nat => PyData.int (1 + n)) = r at er cc
  generalize cC.enc c = y at il cc ⊢
  unfold b_law_joints
  simp [esc, escs, escS, il, ok, er, cc]
theorem SS_law_joints {c : Crs} (h : c.length ≤ 10) : SS id_law_joints [cC.enc c] = some (.list ((jts c).map cInt.enc)) := by
  show S_ljts [cC.enc c] = _
  unfold S_ljts
  exact spec_of (A1_enc cC c) (decide_eq_true h)
theorem r_law_shared : ∀ ds d, SS id_law_shared ds = some d → run optM C0 SS G0 n_law_shared.length b_law_shared ds = some d := by
  intro ds d h
  obtain ⟨⟨a, b⟩, h1, hp, rfl⟩ := spec_some (show S_lsh ds = some d from h)
  obtain rfl := A2_some h1
  refine run_of ?_
  unfold b_law_shared
  simp [esc, escs, e_P, ovl, cutS, mx, mn]
theorem SS_law_shared (a b : Int × Int) : SS id_law_shared [cP.enc a, cP.enc b] = some (.int (ovl a b)) := by
  show S_lsh [cP.enc a, cP.enc b] = _
  unfold S_lsh
  exact spec_of (A2_enc cP cP a b) rfl
/-! sets of numbers -/
theorem uniq_ext {a b : Crs} (h : ∀ x, x ∈ a ↔ x ∈ b) : ∀ x, x ∈ uniqS a ↔ x ∈ uniqS b := fun x => by rw [mem_uniq, mem_uniq, h x]
theorem uniq_nodup (r : Crs) : (uniqS r).Nodup := (uniq_asc r).imp fun h => by omega
theorem uniq_len (ns : Crs) : (uniqS ns).length ≤ ns.length := (uniq_nodup ns).length_le_of_subset fun x hx => (mem_uniq x ns).mp hx
theorem okS_of {r : Crs} (h : r.length ≤ 60) : okS r = true := by
  have := uniq_len r
  unfold okS
  rw [decide_eq_true (by omega), decide_eq_true (by omega)]
  rfl
theorem r_set_of : ∀ ds d, SS id_set_of ds = some d → run optM C0 SS G0 n_set_of.length b_set_of ds = some d := by
  intro ds d h
  obtain ⟨r, h1, hp, rfl⟩ := spec_some (show S_set ds = some d from h)
  obtain rfl := A1_some h1
  refine run_of ?_
  have h2 : r.length ≤ 1000 ∧ (uniqS r).length < 64 := by simpa [okS] using hp
  have e : dBi .sset ((cL cInt).enc r) = some (.list ((uniqS r).map cInt.enc)) := by
    show ((items (.list (r.map PyData.int))).bind fun xs => (ints? xs).bind fun ns => if ns.length ≤ 1000 ∧ (uniqS ns).length < 64 then some (PyData.list ((uniqS ns).map .int)) else none) = _
    simp [h2]
  have et : dBi .tuple (.list ((uniqS r).map cInt.enc)) = some (cC.enc (uniqS r)) := rfl
  generalize cC.enc (uniqS r) = y at et ⊢
  generalize (uniqS r).map cInt.enc = z at e et
  generalize (cL cInt).enc r = x at e ⊢
  unfold b_set_of
  simp [esc, escs, e, et]
theorem SS_set_of {r : Crs} (h : okS r = true) : SS id_set_of [.list (r.map cInt.enc)] = some (cC.enc (uniqS r)) := by
  show S_set [(cL cInt).enc r] = _
  unfold S_set
  exact spec_of (A1_enc (cL cInt) r) h
end PW

set_option maxHeartbeats 4000000
/-! Courses and joints: the defs. -/
namespace PW
open PySem PyProof.Rows L2 PV
theorem ix0_l {x : D} {r : List D} : dIx (.list (x :: r)) (.int 0) = some x := PV.atI_get (xs := x :: r) (i := 0) (by simp)
theorem ix0_t {x : D} {r : List D} : dIx (.tuple (x :: r)) (.int 0) = some x := PV.atI_get (xs := x :: r) (i := 0) (by simp)
theorem r_touching : ∀ ds d, SS id_touching ds = some d → run optM C0 SS G0 n_touching.length b_touching ds = some d := by
  intro ds d h
  obtain ⟨⟨c, s⟩, h1, hp, rfl⟩ := spec_some (show S_tou ds = some d from h)
  obtain rfl := A2_some h1
  simp only [okC, decide_eq_true_eq] at hp
  refine run_of ?_
  have e1 := SS_ends_of (c := c) hp
  have il : dBi .len ((cT cP).enc (endsP c)) = some (.int c.length) := by simp [endsP]
  have ok := okR_nat (n := c.length) (by omega)
  have er := rng_nat c.length
  have cc : compL optM (oStep C0 SS G0 (.nm 3) (.and (.cmp .lt (.ix (.ix (.var 2) (.var 3)) (.int 0)) (.ix (.var 1) (.int 1))) (.cmp .lt (.ix (.var 1) (.int 0)) (.ix (.ix (.var 2) (.var 3)) (.int 1)))) (.var 3) [.sh (cC.enc c), .sh (cP.enc s), .sh ((cT cP).enc (endsP c)), .no]) ((List.range c.length).map cNat.enc) = some ((touP c s).map cNat.enc) := by
    unfold touP
    refine compL_fil (p := fun n => decide ((endAt c n).1 < s.2) && decide (s.1 < (endAt c n).2)) fun n hn => ?_
    have g := ends_at (c := c) (List.mem_range.mp hn)
    rw [e_P] at g
    simp only [e_P]
    generalize (cT cP).enc (endsP c) = y at g ⊢
    generalize cC.enc c = x
    by_cases q1 : (endAt c n).1 < s.2 <;> by_cases q2 : s.1 < (endAt c n).2 <;> simp [oStep, g, q1, q2]
  have et : dBi .tuple (.list ((touP c s).map cNat.enc)) = some ((cT cNat).enc (touP c s)) := rfl
  have sl : ∀ e : E, slotOf e ((cT cP).enc (endsP c)) = .sh ((cT cP).enc (endsP c)) := fun e => slot_tup
  show _ = some (Fl.rt ((cT cNat).enc (touP c s)))
  generalize (cT cNat).enc (touP c s) = v at et ⊢
  generalize (touP c s).map cNat.enc = u at cc et
  generalize (List.range c.length).map cNat.enc = r at er cc
  generalize (cT cP).enc (endsP c) = y at e1 il cc sl
  generalize cC.enc c = x at e1 cc ⊢
  generalize cP.enc s = z at cc ⊢
  unfold b_touching
  simp [esc, escs, escS, e1, sl, il, ok, er, cc, et]
theorem SS_touching {c : Crs} (s : Int × Int) (h : c.length ≤ 10) : SS id_touching [cC.enc c, cP.enc s] = some ((cT cNat).enc (touP c s)) := by
  show S_tou [cC.enc c, cP.enc s] = _
  unfold S_tou
  exact spec_of (A2_enc cC cP c s) (decide_eq_true h)
section
variable {wide : Int} {w : Wal} {k n m : Nat}
theorem WOk.c10 (h : WOk wide w) (hk : k < w.length) : (atC w k).length ≤ 10 := by have := h.cl hk; omega
end
theorem r_upper_bricks : ∀ ds d, SS id_upper_bricks ds = some d → run optM C0 SS G0 n_upper_bricks.length b_upper_bricks ds = some d := by
  intro ds d h
  obtain ⟨⟨w, k, n⟩, h1, hp, rfl⟩ := spec_some (show S_up ds = some d from h)
  obtain rfl := A3_some h1
  simp only [Bool.and_eq_true, decide_eq_true_eq] at hp
  obtain ⟨wide, hw⟩ := okW_it hp.1
  obtain ⟨-, hk, hn⟩ := hp
  refine run_of ?_
  have g1 := w_at (w := w) (k := k + 1) hk
  rw [show ((k + 1 : Nat) : Int) = (k : Int) + 1 by omega] at g1
  have g2 := w_at (w := w) (k := k) (by omega)
  have e1 := SS_ends_of (c := atC w k) (hw.c10 (by omega))
  have g3 := ends_at (c := atC w k) hn
  have e2 := SS_touching (c := atC w (k + 1)) (endAt (atC w k) n) (hw.c10 hk)
  show exs _ _ _ _ _ [.sh (cW.enc w), .sh (.int k), .sh (.int n)] = some (Fl.rt ((cT cNat).enc (touP (atC w (k + 1)) (endAt (atC w k) n))))
  generalize (cT cNat).enc (touP (atC w (k + 1)) (endAt (atC w k) n)) = v at e2 ⊢
  generalize cP.enc (endAt (atC w k) n) = u at g3 e2
  generalize (cT cP).enc (endsP (atC w k)) = y at e1 g3
  generalize cC.enc (atC w k) = c1 at e1 g2
  generalize cC.enc (atC w (k + 1)) = c2' at e2 g1
  generalize cW.enc w = x at g1 g2 ⊢
  unfold b_upper_bricks
  simp [esc, escs, g1, g2, e1, g3, e2]
theorem r_lower_bricks : ∀ ds d, SS id_lower_bricks ds = some d → run optM C0 SS G0 n_lower_bricks.length b_lower_bricks ds = some d := by
  intro ds d h
  obtain ⟨⟨w, k, n⟩, h1, hp, rfl⟩ := spec_some (show S_lo ds = some d from h)
  obtain rfl := A3_some h1
  simp only [Bool.and_eq_true, decide_eq_true_eq] at hp
  obtain ⟨wide, hw⟩ := okW_it hp.1
  obtain ⟨-, hk0, hk, hn⟩ := hp
  refine run_of ?_
  have g1 := w_at (w := w) (k := k - 1) (by omega)
  rw [show ((k - 1 : Nat) : Int) = (k : Int) - 1 by omega] at g1
  have g2 := w_at (w := w) (k := k) (by omega)
  have e1 := SS_ends_of (c := atC w k) (hw.c10 (by omega))
  have g3 := ends_at (c := atC w k) hn
  have e2 := SS_touching (c := atC w (k - 1)) (endAt (atC w k) n) (hw.c10 (by omega))
  show exs _ _ _ _ _ [.sh (cW.enc w), .sh (.int k), .sh (.int n)] = some (Fl.rt ((cT cNat).enc (touP (atC w (k - 1)) (endAt (atC w k) n))))
  generalize (cT cNat).enc (touP (atC w (k - 1)) (endAt (atC w k) n)) = v at e2 ⊢
  generalize cP.enc (endAt (atC w k) n) = u at g3 e2
  generalize (cT cP).enc (endsP (atC w k)) = y at e1 g3
  generalize cC.enc (atC w k) = c1 at e1 g2
  generalize cC.enc (atC w (k - 1)) = c2' at e2 g1
  generalize cW.enc w = x at g1 g2 ⊢
  unfold b_lower_bricks
  simp [esc, escs, g1, g2, e1, g3, e2]
theorem r_shared_stretch : ∀ ds d, SS id_shared_stretch ds = some d → run optM C0 SS G0 n_shared_stretch.length b_shared_stretch ds = some d := by
  intro ds d h
  obtain ⟨⟨w, k, n, m⟩, h1, hp, rfl⟩ := spec_some (show S_shst ds = some d from h)
  obtain rfl := A4_some h1
  simp only [Bool.and_eq_true, decide_eq_true_eq] at hp
  obtain ⟨wide, hw⟩ := okW_it hp.1
  obtain ⟨-, hk0, hk, hn, hm⟩ := hp
  refine run_of ?_
  have g1 := w_at (w := w) (k := k - 1) (by omega)
  rw [show ((k - 1 : Nat) : Int) = (k : Int) - 1 by omega] at g1
  have g2 := w_at (w := w) (k := k) (by omega)
  have e1 := SS_ends_of (c := atC w k) (hw.c10 (by omega))
  have g3 := ends_at (c := atC w k) hn
  have e2 := SS_ends_of (c := atC w (k - 1)) (hw.c10 (by omega))
  have g4 := ends_at (c := atC w (k - 1)) hm
  rw [e_P] at g3 g4
  show exs _ _ _ _ _ [.sh (cW.enc w), .sh (.int k), .sh (.int n), .sh (.int m), .no, .no, .no, .no] = some (Fl.rt (.int (ovl (endAt (atC w k) n) (endAt (atC w (k - 1)) m))))
  generalize endAt (atC w k) n = u at g3 ⊢
  generalize endAt (atC w (k - 1)) m = u2 at g4 ⊢
  generalize (cT cP).enc (endsP (atC w k)) = y at e1 g3
  generalize (cT cP).enc (endsP (atC w (k - 1))) = y2 at e2 g4
  generalize cC.enc (atC w k) = c1 at e1 g2
  generalize cC.enc (atC w (k - 1)) = c2' at e2 g1
  generalize cW.enc w = x at g1 g2 ⊢
  unfold b_shared_stretch
  simp [esc, escs, g1, g2, e1, g3, e2, g4, ovl, cutS, mx, mn]
theorem r_brick_at : ∀ ds d, SS id_brick_at ds = some d → run optM C0 SS G0 n_brick_at.length b_brick_at ds = some d := by
  intro ds d h
  obtain ⟨⟨w, k, p⟩, h1, hp, rfl⟩ := spec_some (show S_bat ds = some d from h)
  obtain rfl := A3_some h1
  simp only [Bool.and_eq_true, decide_eq_true_eq] at hp
  obtain ⟨⟨hw, hk⟩, hne⟩ := hp
  obtain ⟨wide, hw⟩ := okW_it hw
  refine run_of ?_
  have g2 := w_at (w := w) (k := k) (by omega)
  have e1 := SS_ends_of (c := atC w k) (hw.c10 (by omega))
  have cc : compL optM (oStep C0 SS G0 (.nm 5) (.chain .le .lt (.ix (.var 5) (.int 0)) (.var 2) (.ix (.var 5) (.int 1))) (.var 5) [.sh (cW.enc w), .sh (.int k), .sh (.int p), .no, .no, .no]) ((endsP (atC w k)).map cP.enc) = some ((hereL (atC w k) p).map cP.enc) := by
    unfold hereL
    refine compL_fil (p := fun s : Int × Int => decide (s.1 ≤ p) && decide (p < s.2)) fun s _ => ?_
    rw [e_P]
    generalize cW.enc w = x
    by_cases q1 : s.1 ≤ p <;> by_cases q2 : p < s.2 <;> simp [oStep, q1, q2]
  have hh : ∃ r, hereL (atC w k) p = hereP (atC w k) p :: r := by
    unfold hereP
    cases e : hereL (atC w k) p with
    | nil => simp [e] at hne
    | cons x r => exact ⟨r, rfl⟩
  obtain ⟨r, hr⟩ := hh
  have i0 : dIx (.list ((hereL (atC w k) p).map cP.enc)) (.int 0) = some (.tuple [.int (hereP (atC w k) p).1, .int (hereP (atC w k) p).2]) := by
    rw [hr, List.map_cons]
    exact ix0_l
  have it : iter? ((cT cP).enc (endsP (atC w k))) = some ((endsP (atC w k)).map cP.enc) := rfl
  show exs _ _ _ _ _ [.sh (cW.enc w), .sh (.int k), .sh (.int p), .no, .no, .no] = some (Fl.rt (.tuple [.int (hereP (atC w k) p).1, .int ((hereP (atC w k) p).2 - (hereP (atC w k) p).1)]))
  generalize hereP (atC w k) p = u at i0 ⊢
  generalize (hereL (atC w k) p).map cP.enc = q at cc i0
  generalize (endsP (atC w k)).map cP.enc = l at it cc
  generalize (cT cP).enc (endsP (atC w k)) = y at e1 it
  generalize cC.enc (atC w k) = c1 at e1 g2
  generalize cW.enc w = x at g2 cc ⊢
  unfold b_brick_at
  simp [esc, escs, escS, g2, e1, it, cc, i0]
theorem r_cut_out : ∀ ds d, SS id_cut_out ds = some d → run optM C0 SS G0 n_cut_out.length b_cut_out ds = some d := by
  intro ds d h
  obtain ⟨⟨w, b, e⟩, h1, hp, rfl⟩ := spec_some (show S_cut ds = some d from h)
  obtain rfl := A3_some h1
  obtain ⟨wide, hw⟩ := okW_it hp
  have hw : WOk wide w := hw
  have hl := hw.len
  refine run_of ?_
  have kf := forL_fold (g := fBody C0 SS G0 (.nm 4) cut_out_B0) (ρ0 := [.sh (cW.enc w), .sh (.int b), .sh (.int e), .ow (.list []), .no, .no, .no, .no, .no]) cC.enc
    (fun s : Wal => [.sh (cW.enc w), .sh (.int b), .sh (.int e), .ow (.list (s.map cC.enc)), .no, .no, .no, .no, .no]) (fun s c => s ++ [cutP c b e]) (fun s xs => s.length + xs.length ≤ 10 ∧ ∀ c ∈ xs, c.length ≤ 10) (fun s c xs hI => by
      obtain ⟨i1, i2⟩ := hI
      have e1 := SS_ends_of (c := c) (i2 c (by simp))
      have it : iter? ((cT cP).enc (endsP c)) = some ((endsP c).map cP.enc) := rfl
      have c1 : ∀ s3 s4 : PV.Slot, compL optM (oStep C0 SS G0 (.tp (.cons (.nm 6) (.cons (.nm 7) .nil))) .yes (.bin .sub (.mn (.var 2) (.var 7)) (.mx (.var 1) (.var 6))) [.sh (cW.enc w), .sh (.int b), .sh (.int e), s3, s4, .no, .no, .no, .no]) ((endsP c).map cP.enc) = some (((endsP c).map fun s => cutS (b, e) s).map cInt.enc) := fun s3 s4 => by
        rw [List.map_map]
        refine compL_all fun s _ => ?_
        rw [e_P]
        show _ = some (some (PyData.int (cutS (b, e) s)))
        generalize cW.enc w = x
        simp [oStep, cutS, mx, mn]
      have c2' : ∀ s3 s4 s5 : PV.Slot, compL optM (oStep C0 SS G0 (.nm 8) (.cmp .gt (.var 8) (.int 0)) (.var 8) [.sh (cW.enc w), .sh (.int b), .sh (.int e), s3, s4, s5, .no, .no, .no]) (((endsP c).map fun s => cutS (b, e) s).map cInt.enc) = some ((cutP c b e).map cInt.enc) := fun s3 s4 s5 => by
        unfold cutP
        refine compL_fil (p := fun x => decide (0 < x)) fun x _ => ?_
        generalize cW.enc w = y
        by_cases q : 0 < x <;> simp [oStep, q]
      have et : dBi .tuple (.list ((cutP c b e).map cInt.enc)) = some (cC.enc (cutP c b e)) := rfl
      have hlen : (s.map cC.enc).length < LINE := by
        simp at i1 ⊢
        unfold LINE
        omega
      refine ⟨⟨[.sh (cW.enc w), .sh (.int b), .sh (.int e), .ow (.list ((s ++ [cutP c b e]).map cC.enc)), .sh (cC.enc c), .ow (.list (((endsP c).map fun s => cutS (b, e) s).map cInt.enc)), .no, .no, .no], ?_, by simp⟩, by simp at i1 ⊢; omega, fun y hy => i2 y (by simp [hy])⟩
      rw [List.map_append, List.map_cons, List.map_nil]
      generalize cC.enc (cutP c b e) = v at et ⊢
      generalize (cutP c b e).map cInt.enc = u at c2' et
      generalize ((endsP c).map fun s => cutS (b, e) s).map cInt.enc = u2 at c1 c2' ⊢
      generalize (endsP c).map cP.enc = l at it c1
      generalize (cT cP).enc (endsP c) = y at e1 it
      generalize cC.enc c = cc at e1 ⊢
      generalize s.map cC.enc = sv at hlen ⊢
      generalize cW.enc w = x at c1 c2' ⊢
      simp [fBody, cut_out_B0, esc, escs, escS, e1, it, c1, c2', et, hlen]) w [] ⟨by simp; omega, fun c hc => by have := (hw.it c hc).len hw.wd; omega⟩
  have ez : ∀ (xs s : Wal), xs.foldl (fun s c => s ++ [cutP c b e]) s = s ++ xs.map fun c => cutP c b e := fun xs => by
    induction xs with
    | nil => intro s; simp
    | cons x xs ih => intro s; simp [ih]
  rw [ez, List.nil_append] at kf
  have it : iter? (cW.enc w) = some (w.map cC.enc) := rfl
  have et : dBi .tuple (.list ((w.map fun c => cutP c b e).map cC.enc)) = some (cW.enc (w.map fun c => cutP c b e)) := rfl
  show exs _ _ _ _ _ [.sh (cW.enc w), .sh (.int b), .sh (.int e), .no, .no, .no, .no, .no, .no] = some (Fl.rt (cW.enc (w.map fun c => cutP c b e)))
  generalize cW.enc (w.map fun c => cutP c b e) = v at et ⊢
  simp only [List.map_nil] at kf
  generalize (w.map fun c => cutP c b e).map cC.enc = u at kf et
  generalize w.map cC.enc = l at it kf
  generalize cW.enc w = x at it kf ⊢
  unfold b_cut_out
  simp [esc, escs, escF, it, kf, et]
/-! what is a wall -/
theorem ne_t {xs : List D} (h : sh (.tuple xs) = true) : dCmp .ne (.tuple xs) (.tuple []) = some (!xs.isEmpty) := by
  show (if (sh (.tuple xs) && sh (.tuple [])) = true then some (!PyData.eqv (.tuple xs) (.tuple [])) else (dEqX (.tuple xs) (.tuple [])).map (!·)) = _
  rw [h]
  cases xs <;> rfl
theorem eq_t {xs : List D} (h : sh (.tuple xs) = true) : dCmp .eq (.tuple xs) (.tuple []) = some xs.isEmpty := by
  show (if (sh (.tuple xs) && sh (.tuple [])) = true then some (PyData.eqv (.tuple xs) (.tuple [])) else dEqX (.tuple xs) (.tuple [])) = _
  rw [h]
  cases xs <;> rfl
theorem compL_allD {g : D → Option (Option D)} {xs : List D} {f : D → D} (h : ∀ x ∈ xs, g x = some (some (f x))) : compL optM g xs = some (xs.map f) := by
  have := compL_all (g := g) (e := fun d : D => d) (xs := xs) h
  rw [List.map_id'] at this
  exact this
theorem r_is_course : ∀ ds d, SS id_is_course ds = some d → run optM C0 SS G0 n_is_course.length b_is_course ds = some d := by
  intro ds d h
  change S_crs ds = some d at h
  unfold S_crs at h
  split at h
  · rename_i x
    split at h
    · rename_i hs
      cases h
      refine run_of ?_
      cases x with
      | tuple xs =>
        have n1 := ne_t hs
        have cc : compL optM (oStep C0 SS G0 (.nm 1) .yes (.call id_is_from (.cons (.var 1) (.cons (.int 1) .nil))) [.sh (.tuple xs), .no]) xs = some (xs.map fun x => .bool (fromB 1 x)) := compL_allD fun x _ => by
          have e : SS id_is_from [x, .int 1] = some (.bool (fromB 1 x)) := rfl
          generalize fromB 1 x = b at e ⊢
          simp [oStep, e]
        have ea := i_allf (xs := xs) (f := fromB 1)
        have it : iter? (.tuple xs) = some xs := rfl
        have d1 : dIs (.tuple xs) .tuple = true := rfl
        show _ = some (Fl.rt (.bool (!xs.isEmpty && xs.all (fromB 1))))
        generalize xs.all (fromB 1) = b at ea ⊢
        generalize xs.isEmpty = b2 at n1 ⊢
        generalize (xs.map fun x => PyData.bool (fromB 1 x)) = u at cc ea
        generalize hx : PyData.tuple xs = y at n1 cc it d1 ⊢
        unfold b_is_course
        cases b2 <;> simp [esc, escs, escS, d1, n1, it, cc, ea]
      | _ => unfold b_is_course; simp [esc, escs, escS, dIs, crsB]
    · cases h
  · cases h
theorem SS_is_course {x : D} (h : sh x = true) : SS id_is_course [x] = some (.bool (crsB x)) := by
  show S_crs [x] = _
  unfold S_crs
  exact if_pos h
theorem ints_from : ∀ {ys : List D}, ys.all (fromB 1) = true → ∃ ms : List Int, ys = ms.map .int
  | [], _ => ⟨[], rfl⟩
  | y :: ys, h => by
    rw [List.all_cons, Bool.and_eq_true] at h
    obtain ⟨ms, e⟩ := ints_from h.2
    cases y <;> simp [fromB] at h
    exact ⟨_ :: ms, by rw [e]; rfl⟩
theorem sum_crs {x : D} (h : crsB x = true) : dBi .sum x = some (.int (sumD x)) := by
  cases x with
  | tuple xs =>
    simp only [crsB, Bool.and_eq_true] at h
    obtain ⟨ms, rfl⟩ := ints_from h.2
    simp [sumD, dBi]
  | _ => simp [crsB] at h
theorem r_is_laid : ∀ ds d, SS id_is_laid ds = some d → run optM C0 SS G0 n_is_laid.length b_is_laid ds = some d := by
  intro ds d h
  change S_laid ds = some d at h
  unfold S_laid at h
  split at h
  · rename_i x
    split at h
    · rename_i hs
      cases h
      refine run_of ?_
      cases x with
      | tuple xs =>
        have n1 := eq_t hs
        have hsx : ∀ x ∈ xs, sh x = true := fun x hx => shal_mono _ (n := 19) (by decide) (List.all_eq_true.mp (show xs.all (shal 19) = true from hs) x hx)
        have c1 : compL optM (oStep C0 SS G0 (.nm 1) .yes (.call id_is_course (.cons (.var 1) .nil)) [.sh (.tuple xs), .no]) xs = some (xs.map fun x => .bool (crsB x)) := compL_allD fun x hx => by
          have e := SS_is_course (hsx x hx)
          generalize crsB x = b at e ⊢
          simp [oStep, e]
        have ea := i_allf (xs := xs) (f := crsB)
        have it : iter? (.tuple xs) = some xs := rfl
        have d1 : dIs (.tuple xs) .tuple = true := rfl
        by_cases q1 : xs.isEmpty = true
        · have : laidB (.tuple xs) = false := by simp [laidB, q1]
          rw [this]
          rw [q1] at n1
          generalize hx : PyData.tuple xs = y at n1 d1 ⊢
          unfold b_is_laid
          simp [esc, escs, escS, d1, n1]
        · have q1 : xs.isEmpty = false := by simpa using q1
          rw [q1] at n1
          by_cases q2 : xs.all crsB = true
          · have hh : ∃ x0 r, xs = x0 :: r := by
              cases xs with
              | nil => simp at q1
              | cons a r => exact ⟨a, r, rfl⟩
            obtain ⟨x0, r, e0⟩ := hh
            have i0 : dIx (.tuple xs) (.int 0) = some (xs.headD .none) := by rw [e0]; exact ix0_t
            have s0 : dBi .sum (xs.headD .none) = some (.int (sumD (xs.headD .none))) := sum_crs (List.all_eq_true.mp q2 _ (by rw [e0]; simp))
            have c2' : compL optM (oStep C0 SS G0 (.nm 1) .yes (.cmp .eq (.bi .sum (.var 1)) (.bi .sum (.ix (.var 0) (.int 0)))) [.sh (.tuple xs), .no]) xs = some (xs.map fun x => .bool (decide (sumD x = sumD (xs.headD .none)))) := compL_allD fun x hx => by
              have s1 := sum_crs (List.all_eq_true.mp q2 x hx)
              generalize sumD x = u at s1 ⊢
              generalize sumD (xs.headD .none) = u0 at s0 ⊢
              generalize xs.headD .none = z at i0 s0
              generalize hx : PyData.tuple xs = y at i0 ⊢
              simp [oStep, s1, i0, s0]
            have eb := i_allf (xs := xs) (f := fun x => decide (sumD x = sumD (xs.headD .none)))
            have : laidB (.tuple xs) = xs.all fun x => decide (sumD x = sumD (xs.headD .none)) := by simp [laidB, q1, q2]
            rw [this]
            rw [q2] at ea
            generalize (xs.all fun x => decide (sumD x = sumD (xs.headD .none))) = b at eb ⊢
            generalize (xs.map fun x => PyData.bool (decide (sumD x = sumD (xs.headD .none)))) = u at c2' eb
            generalize (xs.map fun x => PyData.bool (crsB x)) = u2 at c1 ea
            generalize hx : PyData.tuple xs = y at n1 c1 c2' it d1 ⊢
            unfold b_is_laid
            simp [esc, escs, escS, d1, n1, it, c1, ea, c2', eb]
          · have q2 : xs.all crsB = false := by simpa using q2
            have : laidB (.tuple xs) = false := by simp only [laidB, q1, q2]; rfl
            rw [this]
            rw [q2] at ea
            generalize (xs.map fun x => PyData.bool (crsB x)) = u2 at c1 ea
            generalize hx : PyData.tuple xs = y at n1 c1 it d1 ⊢
            unfold b_is_laid
            simp [esc, escs, escS, d1, n1, it, c1, ea]
      | _ => unfold b_is_laid; simp [esc, escs, escS, dIs, laidB]
    · cases h
  · cases h
theorem SS_is_laid {x : D} (h : sh x = true) : SS id_is_laid [x] = some (.bool (laidB x)) := by
  show S_laid [x] = _
  unfold S_laid
  exact if_pos h
end PW

set_option maxHeartbeats 4000000
/-! Courses and joints: bricks, bonds, laps, cracks. -/
namespace PW
open PySem PyProof.Rows L2 PV
theorem flat_map : ∀ w : Wal, w.flatMap (fun c => c.map cInt.enc) = w.flatten.map cInt.enc
  | [] => rfl
  | c :: w => by rw [List.flatMap_cons, List.flatten_cons, List.map_append, flat_map w]
theorem sum_le : ∀ (w : Wal) (f : Crs → Nat) (b : Nat), (∀ c ∈ w, f c ≤ b) → (w.map f).sum ≤ b * w.length
  | [], _, _, _ => by simp
  | c :: w, f, b, h => by
    have h1 := h c (by simp)
    have h2 := sum_le w f b fun d hd => h d (by simp [hd])
    simp only [List.map_cons, List.sum_cons, List.length_cons, Nat.mul_add]
    omega
section
variable {wide : Int} {w : Wal}
theorem WOk.l9 (h : WOk wide w) : ∀ c ∈ w, c.length ≤ 9 := fun c hc => ((h.it c hc).len h.wd).2
theorem WOk.flat (h : WOk wide w) : w.flatten.length ≤ 36 := by
  have := sum_le w List.length 9 h.l9
  have := h.len
  rw [List.length_flatten]
  omega
theorem jts_len (c : Crs) : (jts c).length = c.length - 1 := by simp [jts]
theorem WOk.flatJ (h : WOk wide w) : (w.flatMap jts).length ≤ 36 := by
  have := sum_le w (fun c => (jts c).length) 9 fun c hc => by
    have := h.l9 c hc
    rw [jts_len]
    omega
  have := h.len
  rw [List.length_flatMap]
  omega
end
theorem cnt_int (x : Int) (l : Crs) : dCount (.int x) (.list (l.map cInt.enc)) = some (.int (l.countP fun y => decide (y = x))) := by
  have h1 : sh (.int x) = true := rfl
  have h2 : shs (l.map cInt.enc) = true := ok_int.shs20 (by decide) l
  show (if (sh (.int x) && shs (l.map cInt.enc)) = true then some (PyData.int ((l.map cInt.enc).countP fun y => PyData.eqv y (.int x))) else none) = _
  rw [h1, h2, List.countP_map]
  have : ((fun y => PyData.eqv y (.int x)) ∘ cInt.enc) = fun y : Int => decide (y = x) := funext fun y => ok_int.eqd y x
  rw [this]
  rfl
theorem brk_sc (w : Wal) : ∀ p ∈ brkD w, scalI p.1 = true ∧ scalI p.2 = true := fun p hp => by
  obtain ⟨x, _, rfl⟩ := List.mem_map.mp hp
  exact ⟨rfl, rfl⟩
theorem int_nodup {l : Crs} (h : l.Nodup) : (l.map PyData.int).Nodup := by
  rw [List.Nodup, List.pairwise_map]
  exact h.imp fun h e => h (by injection e)
theorem brk_nd (w : Wal) : ((brkD w).map (·.1)).Nodup := by
  unfold brkD
  rw [List.map_map]
  exact int_nodup (uniq_nodup _)
theorem r_bricks_in : ∀ ds d, SS id_bricks_in ds = some d → run optM C0 SS G0 n_bricks_in.length b_bricks_in ds = some d := by
  intro ds d h
  obtain ⟨w, h1, hp, rfl⟩ := spec_some (show S_brk ds = some d from h)
  obtain rfl := A1_some h1
  obtain ⟨wide, hw⟩ := okW_it hp
  refine run_of ?_
  have hf := hw.flat
  have it : iter? (cW.enc w) = some (w.map cC.enc) := rfl
  have c1 : compLL optM (oSrc C0 SS G0 (.nm 2) .yes [3] (.val (.var 2)) [.sh (cW.enc w), .no, .no, .no]) (oStep C0 SS G0 (.nm 3) .yes (.var 3)) [] (w.map cC.enc) = some (w.flatten.map cInt.enc) := by
    rw [compLL_all (e' := cInt.enc) (ρ := fun c => [.sh (cW.enc w), .no, .sh (cC.enc c), .no]) (bs := fun c => c) (ys := fun c => c.map cInt.enc) w []
      (fun c _ => by
        have ic : iter? (cC.enc c) = some (c.map cInt.enc) := rfl
        generalize c.map cInt.enc = q at ic ⊢
        generalize cC.enc c = y at ic ⊢
        simp [oSrc, ic]) (fun c _ => compL_all fun x _ => by simp [oStep]) ?_]
    · rw [List.nil_append, flat_map]
    · rw [List.length_flatten] at hf
      have hf : (w.map fun c => c.length).sum ≤ 36 := hf
      unfold LINE
      simp only [List.length_nil]
      omega
  have e2 := SS_set_of (r := w.flatten) (okS_of (by omega))
  have iu : iter? (cC.enc (uniqS w.flatten)) = some ((uniqS w.flatten).map cInt.enc) := rfl
  have c2' : ∀ s1 : PV.Slot, s1.val = some (.list (w.flatten.map cInt.enc)) → compL optM (oStep C0 SS G0 (.nm 3) .yes (.tup (.cons (.var 3) (.cons (.count (.var 1) (.var 3)) .nil))) [.sh (cW.enc w), s1, .no, .no]) ((uniqS w.flatten).map cInt.enc) = some ((brkD w).map prD) := fun s1 hs => by
    unfold brkD
    rw [List.map_map]
    refine compL_all fun x _ => ?_
    have hc := cnt_int x w.flatten
    show _ = some (some (PyData.tuple [.int x, .int (w.flatten.countP fun y => decide (y = x))]))
    generalize (w.flatten.countP fun y => decide (y = x)) = v at hc ⊢
    generalize w.flatten.map cInt.enc = q at hc hs
    generalize cW.enc w = y
    simp [oStep, hs, hc]
  have hd := dict_new (l := brkD w) (fun p hp => (brk_sc w p hp).1) (brk_nd w) (by
    have := uniq_len w.flatten
    unfold brkD
    rw [List.length_map]
    omega)
  have c3 := c2' (.ow (.list (w.flatten.map cInt.enc))) rfl
  have c4 := c2' (.sh (.list (w.flatten.map cInt.enc))) rfl
  show _ = some (Fl.rt (.dict (brkD w)))
  generalize (brkD w).map prD = u at c3 c4 hd
  generalize brkD w = v at hd ⊢
  generalize (uniqS w.flatten).map cInt.enc = q at iu c3 c4
  generalize cC.enc (uniqS w.flatten) = z at e2 iu
  generalize w.flatten.map cInt.enc = l at c1 e2 c3 c4
  generalize w.map cC.enc = m at it c1
  generalize cW.enc w = x at it c1 c3 c4 ⊢
  unfold b_bricks_in
  simp [esc, escs, escS, it, c1, e2, iu, c3, c4, hd]
theorem SS_bricks_in {wide : Int} {w : Wal} (h : WOk wide w) : SS id_bricks_in [cW.enc w] = some (.dict (brkD w)) := spec_of (p := okW) (A1_enc cW w) (okW_of h)
theorem rng_pred {n : Nat} (h : n ≤ 1000) : okR 0 ((n : Int) - 1) = true ∧ rng 0 ((n : Int) - 1) = (List.range (n - 1)).map cNat.enc := by
  refine ⟨by unfold okR LINE; exact decide_eq_true (by omega), ?_⟩
  rw [rng_map, show ((n : Int) - 1 - 0).toNat = n - 1 by omega]
  exact List.map_congr_left fun k _ => by simp
theorem r_bonded : ∀ ds d, SS id_bonded ds = some d → run optM C0 SS G0 n_bonded.length b_bonded ds = some d := by
  intro ds d h
  obtain ⟨w, h1, hp, rfl⟩ := spec_some (show S_bnd ds = some d from h)
  obtain rfl := A1_some h1
  obtain ⟨wide, hw⟩ := okW_it hp
  have hl := hw.len
  refine run_of ?_
  have kf := forL_find (g := fBody C0 SS G0 (.nm 1) bonded_B0) (ρ0 := [.sh (cW.enc w), .no, .no, .no]) cNat.enc (fun k => !(bothP w k).isEmpty) (fun k => .tuple [.str "no", .int k, .int ((bothP w k).headD 0)]) (List.range (w.length - 1)) fun k hk => by
    have hk := List.mem_range.mp hk
    have g1 := w_at (w := w) (k := k + 1) (by omega)
    rw [show ((k + 1 : Nat) : Int) = (k : Int) + 1 by omega] at g1
    have g2 := w_at (w := w) (k := k) (by omega)
    have e1 := SS_joints_of (c := atC w k) (hw.c10 (by omega))
    have e2 := SS_joints_of (c := atC w (k + 1)) (hw.c10 (by omega))
    have it : iter? (cC.enc (jts (atC w k))) = some ((jts (atC w k)).map cInt.enc) := rfl
    have cc : compL optM (oStep C0 SS G0 (.nm 3) (.cmp .in_ (.var 3) (.call id_joints_of (.cons (.ix (.var 0) (.bin .add (.var 1) (.int 1))) .nil))) (.var 3) [.sh (cW.enc w), .sh (.int k), .no, .no]) ((jts (atC w k)).map cInt.enc) = some ((bothP w k).map cInt.enc) := by
      unfold bothP
      refine compL_fil (p := fun p => decide (p ∈ jts (atC w (k + 1)))) fun p _ => ?_
      have ci : dCmp .in_ (.int p) (cC.enc (jts (atC w (k + 1)))) = some (decide (p ∈ jts (atC w (k + 1)))) := d_in_t ok_int (by decide) p _
      generalize decide (p ∈ jts (atC w (k + 1))) = b at ci ⊢
      generalize cC.enc (jts (atC w (k + 1))) = y at e2 ci
      generalize cC.enc (atC w (k + 1)) = c at g1 e2
      generalize cW.enc w = x at g1 ⊢
      cases b <;> simp [oStep, g1, e2, ci]
    have n1 := ne_nil_c ok_int (by decide) (bothP w k)
    have i0 : ∀ x r, bothP w k = x :: r → dIx (.list ((bothP w k).map cInt.enc)) (.int 0) = some (.int ((bothP w k).headD 0)) := fun x r e => by
      rw [e, List.map_cons]
      exact ix0_l
    show (_ → fBody _ _ _ _ _ (PyData.int (k : Int)) _ = _) ∧ (_ → ∃ ρ', fBody _ _ _ _ _ (PyData.int (k : Int)) _ = _ ∧ _)
    cases hb : bothP w k with
    | nil =>
      rw [hb] at n1 cc
      refine ⟨fun q => by simp at q, fun _ => ?_⟩
      refine ⟨[.sh (cW.enc w), .sh (.int k), .ow (.list []), .no], ?_, by simp⟩
      simp only [List.map_nil, List.isEmpty_nil, Bool.not_true] at n1 cc
      generalize (jts (atC w k)).map cInt.enc = q at it cc
      generalize cC.enc (jts (atC w k)) = y at e1 it
      generalize cC.enc (atC w k) = c at g2 e1
      generalize cW.enc w = x at g2 cc ⊢
      simp [fBody, bonded_B0, esc, escs, escS, g2, e1, it, cc, n1]
    | cons z r =>
      have i0 := i0 z r hb
      rw [hb] at n1 cc i0
      refine ⟨fun _ => ?_, fun q => by simp at q⟩
      rw [show (!(z :: r).isEmpty) = true from rfl] at n1
      generalize (z :: r).headD 0 = hd at i0 ⊢
      generalize (z :: r).map cInt.enc = u at n1 cc i0
      generalize (jts (atC w k)).map cInt.enc = q at it cc
      generalize cC.enc (jts (atC w k)) = y at e1 it
      generalize cC.enc (atC w k) = c at g2 e1
      generalize cW.enc w = x at g2 cc ⊢
      simp [fBody, bonded_B0, esc, escs, escS, g2, e1, it, cc, n1, i0]
  have il := w_len w
  obtain ⟨ok, er⟩ := rng_pred (n := w.length) (by omega)
  show _ = some (Fl.rt (bndD w))
  unfold bndD
  generalize (List.range (w.length - 1)).find? (fun k => !(bothP w k).isEmpty) = o at kf ⊢
  generalize (List.range (w.length - 1)).map cNat.enc = r at er kf
  generalize (w.length : Int) = nn at il ok er
  generalize cW.enc w = x at il kf ⊢
  unfold b_bonded
  cases o <;> simp at kf <;> simp [esc, escs, escF, il, ok, er, kf]
theorem SS_bonded {wide : Int} {w : Wal} (h : WOk wide w) : SS id_bonded [cW.enc w] = some (bndD w) := spec_of (p := okW) (A1_enc cW w) (okW_of h)
theorem lap_app (g : Crs) : ∃ m, (g = [] ∧ lapD g = .none) ∨ (g ≠ [] ∧ dBi .min (.list (g.map cInt.enc)) = some (.int m) ∧ lapD g = .int m) := by
  by_cases e : g = []
  · exact ⟨0, .inl ⟨e, if_pos e⟩⟩
  · obtain ⟨m, _, h, _⟩ := dMin_of ok_int (by decide) e
    refine ⟨m, .inr ⟨e, h, ?_⟩⟩
    unfold lapD
    rw [if_neg e, h]
    rfl
theorem pairs_w (w : Wal) : zip2 (w.map cC.enc) ((w.drop 1).map cC.enc) = (List.range (w.length - 1)).map fun k => PyData.tuple [cC.enc (atC w k), cC.enc (atC w (k + 1))] := by
  unfold zip2
  refine List.ext_getElem (by simp) fun k h1 h2 => ?_
  have hk : k < w.length - 1 := by simpa using h2
  have e1 : atC w k = w[k]'(by omega) := by simp [atC, show k < w.length by omega]
  have e2 : atC w (k + 1) = w[k + 1]'(by omega) := by simp [atC, show k + 1 < w.length by omega]
  simp [e1, e2, Nat.add_comm 1 k]
theorem gap_comp (a b : Crs) (s : PV.Slot) (s1 : PV.Slot) (ha : a.length ≤ 10) (hb : b.length ≤ 10) : compLL optM (oSrc C0 SS G0 (.nm 5) .yes [6] (.val (.call id_joints_of (.cons (.var 3) .nil))) [s, s1, .sh (cC.enc a), .sh (cC.enc b), .no, .no, .no]) (oStep C0 SS G0 (.nm 6) .yes (.bi .abs (.bin .sub (.var 5) (.var 6)))) [] ((jts a).map cInt.enc) = some ((gapsP a b).map cInt.enc) := by
  have e2 := SS_joints_of hb
  rw [compLL_all (e' := cInt.enc) (ρ := fun x => [s, s1, .sh (cC.enc a), .sh (cC.enc b), .no, .sh (.int x), .no]) (bs := fun _ => jts b) (ys := fun x => ((jts b).map fun y => absI (x - y)).map cInt.enc) (jts a) []
    (fun x _ => by
      have ic : iter? (cC.enc (jts b)) = some ((jts b).map cInt.enc) := rfl
      generalize (jts b).map cInt.enc = q at ic ⊢
      generalize cC.enc (jts b) = y at e2 ic
      generalize cC.enc b = z at e2 ⊢
      generalize cC.enc a = z2
      simp [oSrc, e2, ic]) (fun x _ => by
        rw [List.map_map]
        refine compL_all fun y _ => ?_
        show _ = some (some (PyData.int (absI (x - y))))
        generalize cC.enc b = z
        generalize cC.enc a = z2
        simp [oStep, absI]) ?_]
  · unfold gapsP
    rw [List.nil_append, List.map_flatMap]
  · have e : ((jts a).map fun _ => (jts b).length).sum = (jts b).length * (jts a).length := by
      generalize (jts b).length = n
      generalize jts a = l
      induction l with
      | nil => simp
      | cons x l ih => rw [List.map_cons, List.sum_cons, ih, List.length_cons, Nat.mul_add]; omega
    have h1 := jts_len a
    have h2 := jts_len b
    have h3 := Nat.mul_le_mul (show (jts b).length ≤ 9 by omega) (show (jts a).length ≤ 9 by omega)
    rw [e]
    unfold LINE
    simp only [List.length_nil]
    omega
theorem r_laps_of : ∀ ds d, SS id_laps_of ds = some d → run optM C0 SS G0 n_laps_of.length b_laps_of ds = some d := by
  intro ds d h
  obtain ⟨w, h1, hp, rfl⟩ := spec_some (show S_lap ds = some d from h)
  obtain rfl := A1_some h1
  obtain ⟨wide, hw⟩ := okW_it hp
  have hl := hw.len
  refine run_of ?_
  have kf := forL_fold (g := fBody C0 SS G0 (.tp (.cons (.nm 2) (.cons (.nm 3) .nil))) laps_of_B0) (ρ0 := [.sh (cW.enc w), .ow (.list []), .no, .no, .no, .no, .no]) (fun k : Nat => PyData.tuple [cC.enc (atC w k), cC.enc (atC w (k + 1))])
    (fun s : List D => [.sh (cW.enc w), .ow (.list s), .no, .no, .no, .no, .no]) (fun s k => s ++ [lapD (gapsP (atC w k) (atC w (k + 1)))]) (fun s xs => s.length + xs.length ≤ 10 ∧ ∀ k ∈ xs, k + 1 < w.length) (fun s k xs hI => by
      obtain ⟨i1, i2⟩ := hI
      have hk := i2 k (by simp)
      have a10 := hw.c10 (k := k) (by omega)
      have b10 := hw.c10 (k := k + 1) (by omega)
      have e1 := SS_joints_of a10
      have it : iter? (cC.enc (jts (atC w k))) = some ((jts (atC w k)).map cInt.enc) := rfl
      have cc := gap_comp (atC w k) (atC w (k + 1)) (.sh (cW.enc w)) (.ow (.list s)) a10 b10
      have n1 := ne_nil_c ok_int (by decide) (gapsP (atC w k) (atC w (k + 1)))
      have hlen : s.length < LINE := by
        simp at i1
        unfold LINE
        omega
      refine ⟨⟨[.sh (cW.enc w), .ow (.list (s ++ [lapD (gapsP (atC w k) (atC w (k + 1)))])), .sh (cC.enc (atC w k)), .sh (cC.enc (atC w (k + 1))), .ow (.list ((gapsP (atC w k) (atC w (k + 1))).map cInt.enc)), .no, .no], ?_, by simp⟩, by simp at i1 ⊢; omega, fun y hy => i2 y (by simp [hy])⟩
      obtain ⟨m, ⟨g1, g2⟩ | ⟨g1, g2, g3⟩⟩ := lap_app (gapsP (atC w k) (atC w (k + 1)))
      · rw [g2]
        rw [g1] at n1 cc ⊢
        simp only [List.map_nil, List.isEmpty_nil, Bool.not_true] at n1 cc ⊢
        generalize (jts (atC w k)).map cInt.enc = q at it cc
        generalize cC.enc (jts (atC w k)) = y at e1 it
        generalize cC.enc (atC w k) = c at e1 cc ⊢
        generalize cC.enc (atC w (k + 1)) = c2' at cc ⊢
        generalize cW.enc w = x at cc ⊢
        simp [fBody, laps_of_B0, esc, escs, escS, e1, it, cc, n1, hlen]
      · rw [g3]
        have ge : (gapsP (atC w k) (atC w (k + 1))).isEmpty = false := by simpa using g1
        rw [ge] at n1
        generalize (gapsP (atC w k) (atC w (k + 1))).map cInt.enc = u at n1 cc g2 ⊢
        generalize (jts (atC w k)).map cInt.enc = q at it cc
        generalize cC.enc (jts (atC w k)) = y at e1 it
        generalize cC.enc (atC w k) = c at e1 cc ⊢
        generalize cC.enc (atC w (k + 1)) = c2' at cc ⊢
        generalize cW.enc w = x at cc ⊢
        simp [fBody, laps_of_B0, esc, escs, escS, e1, it, cc, n1, g2, hlen]) (List.range (w.length - 1)) [] ⟨by simp; omega, fun k hk => by have := List.mem_range.mp hk; omega⟩
  have ez : ∀ (xs : List Nat) (s : List D), xs.foldl (fun s k => s ++ [lapD (gapsP (atC w k) (atC w (k + 1)))]) s = s ++ xs.map fun k => lapD (gapsP (atC w k) (atC w (k + 1))) := fun xs => by
    induction xs with
    | nil => intro s; simp
    | cons x xs ih => intro s; simp [ih]
  rw [ez, List.nil_append] at kf
  have sl : dSl (cW.enc w) (some 1) none = some (.tuple ((w.drop 1).map cC.enc)) := by
    show some (PyData.tuple (cut (w.map cC.enc) (some ((1 : Nat) : Int)) none)) = _
    rw [cut_from, List.map_drop]
  have z : zipD (cW.enc w) (.tuple ((w.drop 1).map cC.enc)) = some ((List.range (w.length - 1)).map fun k => PyData.tuple [cC.enc (atC w k), cC.enc (atC w (k + 1))]) := by
    rw [← pairs_w]
    rfl
  show _ = some (Fl.rt (.tuple (lapsD w)))
  have el : lapsD w = (List.range (w.length - 1)).map fun k => lapD (gapsP (atC w k) (atC w (k + 1))) := rfl
  rw [← el] at kf
  generalize lapsD w = v at kf ⊢
  generalize ((List.range (w.length - 1)).map fun k => PyData.tuple [cC.enc (atC w k), cC.enc (atC w (k + 1))]) = r at z kf
  generalize PyData.tuple ((w.drop 1).map cC.enc) = d1 at sl z
  generalize cW.enc w = x at sl z kf ⊢
  unfold b_laps_of
  simp [esc, escs, escF, bound?, sl, z, kf]
theorem SS_laps_of {wide : Int} {w : Wal} (h : WOk wide w) : SS id_laps_of [cW.enc w] = some (.tuple (lapsD w)) := spec_of (p := okW) (f := fun w => .tuple (lapsD w)) (A1_enc cW w) (okW_of h)
theorem r_run_at : ∀ ds d, SS id_run_at ds = some d → run optM C0 SS G0 n_run_at.length b_run_at ds = some d := by
  intro ds d h
  obtain ⟨⟨w, p⟩, h1, hp, rfl⟩ := spec_some (show S_run ds = some d from h)
  obtain rfl := A2_some h1
  obtain ⟨wide, hw⟩ := okW_it hp
  have hw : WOk wide w := hw
  refine run_of ?_
  have kf := forL_fold (g := fBody C0 SS G0 (.nm 4) run_at_B0) (ρ0 := [.sh (cW.enc w), .sh (.int p), .sh (.int 0), .sh (.int 0), .no]) cC.enc
    (fun z : Int × Int => [.sh (cW.enc w), .sh (.int p), .sh (.int z.1), .sh (.int z.2), .no]) (runS p) (fun _ xs => ∀ c ∈ xs, c.length ≤ 10) (fun z c xs hI => by
      have e1 := SS_joints_of (c := c) (hI c (by simp))
      have ci : dCmp .in_ (.int p) (cC.enc (jts c)) = some (decide (p ∈ jts c)) := d_in_t ok_int (by decide) p _
      refine ⟨⟨[.sh (cW.enc w), .sh (.int p), .sh (.int (runS p z c).1), .sh (.int (runS p z c).2), .sh (cC.enc c)], ?_, by simp⟩, fun y hy => hI y (by simp [hy])⟩
      unfold runS
      generalize cC.enc (jts c) = y at e1 ci
      generalize cC.enc c = cc at e1 ⊢
      generalize cW.enc w = x
      by_cases q : p ∈ jts c <;> simp [q] at ci <;> simp [fBody, run_at_B0, esc, escs, e1, ci, q, mx]) w (0, 0) fun c hc => by have := hw.l9 c hc; omega
  have it : iter? (cW.enc w) = some (w.map cC.enc) := rfl
  show exs _ _ _ _ _ [.sh (cW.enc w), .sh (.int p), .no, .no, .no] = some (Fl.rt (.int (runP w p)))
  unfold runP
  generalize w.foldl (runS p) (0, 0) = v at kf ⊢
  generalize w.map cC.enc = l at it kf
  generalize cW.enc w = x at it kf ⊢
  unfold b_run_at
  simp [esc, escs, escF, setAll, it, kf]
theorem SS_run_at {wide : Int} {w : Wal} (h : WOk wide w) (p : Int) : SS id_run_at [cW.enc w, .int p] = some (.int (runP w p)) := spec_of (p := fun z : Wal × Int => okW z.1) (f := fun z => .int (runP z.1 z.2)) (A2_enc cW cInt w p) (okW_of h)
theorem ck_is {l : List (Int × Int)} (h : l ≠ []) : ∃ m ∈ l, dBi .min (.list (l.map cP.enc)) = some (cP.enc m) ∧ ckD l = .tuple [.int (-m.1), .int m.2] := by
  obtain ⟨m, hm, h1, _⟩ := dMin_of ok_P (by decide) h
  refine ⟨m, hm, h1, ?_⟩
  unfold ckD
  rw [if_neg h, h1]
  rfl
theorem r_longest_crack : ∀ ds d, SS id_longest_crack ds = some d → run optM C0 SS G0 n_longest_crack.length b_longest_crack ds = some d := by
  intro ds d h
  obtain ⟨w, h1, hp, rfl⟩ := spec_some (show S_crk ds = some d from h)
  obtain rfl := A1_some h1
  obtain ⟨wide, hw⟩ := okW_it hp
  refine run_of ?_
  have hf := hw.flatJ
  have it : iter? (cW.enc w) = some (w.map cC.enc) := rfl
  have c1 : compLL optM (oSrc C0 SS G0 (.nm 4) .yes [3] (.val (.call id_joints_of (.cons (.var 4) .nil))) [.sh (cW.enc w), .no, .no, .no, .no]) (oStep C0 SS G0 (.nm 3) .yes (.var 3)) [] (w.map cC.enc) = some ((w.flatMap jts).map cInt.enc) := by
    rw [compLL_all (e' := cInt.enc) (ρ := fun c => [.sh (cW.enc w), .no, .no, .no, .sh (cC.enc c)]) (bs := fun c => jts c) (ys := fun c => (jts c).map cInt.enc) w []
      (fun c hc => by
        have e1 := SS_joints_of (c := c) (by have := hw.l9 c hc; omega)
        have ic : iter? (cC.enc (jts c)) = some ((jts c).map cInt.enc) := rfl
        generalize (jts c).map cInt.enc = q at ic ⊢
        generalize cC.enc (jts c) = z at e1 ic
        generalize cC.enc c = y at e1 ⊢
        simp [oSrc, e1, ic]) (fun c _ => compL_all fun x _ => by simp [oStep]) ?_]
    · rw [List.nil_append, List.map_flatMap]
    · rw [List.length_flatMap] at hf
      unfold LINE
      simp only [List.length_nil]
      omega
  have e2 := SS_set_of (r := w.flatMap jts) (okS_of (by omega))
  have iu : iter? (cC.enc (plc w)) = some ((plc w).map cInt.enc) := rfl
  have c2' : ∀ s1 : PV.Slot, compL optM (oStep C0 SS G0 (.nm 3) .yes (.tup (.cons (.neg (.call id_run_at (.cons (.var 0) (.cons (.var 3) .nil)))) (.cons (.var 3) .nil))) [.sh (cW.enc w), s1, .no, .no, .no]) ((plc w).map cInt.enc) = some ((ckR w).map cP.enc) := fun s1 => by
    unfold ckR
    rw [List.map_map]
    refine compL_all fun p _ => ?_
    have e := SS_run_at hw p
    show _ = some (some (PyData.tuple [.int (-(runP w p)), .int p]))
    generalize runP w p = v at e ⊢
    generalize cW.enc w = y at e ⊢
    simp [oStep, e]
  have n1 := ne_nil_c ok_P (by decide) (ckR w)
  have e2 : SS id_set_of [.list ((w.flatMap jts).map cInt.enc)] = some (cC.enc (plc w)) := e2
  have sl : ∀ e : E, slotOf e (cC.enc (plc w)) = .sh (cC.enc (plc w)) := fun e => slot_tup
  show _ = some (Fl.rt (ckD (ckR w)))
  by_cases q : ckR w = []
  · rw [q] at n1 c2' ⊢
    simp only [List.map_nil, List.isEmpty_nil, Bool.not_true] at n1 c2'
    rw [show ckD [] = .tuple [.int 0, .none] from rfl]
    generalize (plc w).map cInt.enc = u at iu c2'
    generalize cC.enc (plc w) = z at e2 iu sl
    generalize (w.flatMap jts).map cInt.enc = l at c1 e2
    generalize w.map cC.enc = m at it c1
    generalize cW.enc w = x at it c1 c2' ⊢
    unfold b_longest_crack
    simp [esc, escs, escS, it, c1, e2, sl, iu, c2', n1]
  · obtain ⟨m, _, m1, m2⟩ := ck_is q
    have qe : (ckR w).isEmpty = false := by simpa using q
    rw [m2]
    rw [qe] at n1
    rw [e_P] at m1
    generalize (ckR w).map cP.enc = v at n1 c2' m1
    generalize (plc w).map cInt.enc = u at iu c2'
    generalize cC.enc (plc w) = z at e2 iu sl
    generalize (w.flatMap jts).map cInt.enc = l at c1 e2
    generalize w.map cC.enc = mm at it c1
    generalize cW.enc w = x at it c1 c2' ⊢
    unfold b_longest_crack
    simp [esc, escs, escS, it, c1, e2, sl, iu, c2', n1, m1]
theorem SS_longest_crack {wide : Int} {w : Wal} (h : WOk wide w) : SS id_longest_crack [cW.enc w] = some (ckD (ckR w)) := spec_of (p := okW) (f := fun w => ckD (ckR w)) (A1_enc cW w) (okW_of h)
end PW

set_option maxHeartbeats 4000000
/-! Courses and joints: plain laws. -/
namespace PW
open PySem PyProof.Rows L2 PV
/-! counts -/
def cntV (d : List (D × D)) (x : Int) : Int := match keyAt (.int x) d with
  | some (.int v) => v + 1
  | _ => 1
def cntS (d : List (D × D)) (x : Int) : List (D × D) := keyPut (.int x) (.int (cntV d x)) d
def cntF (l : Crs) : List (D × D) := l.foldl cntS []
structure CntI (l : Crs) (d : List (D × D)) : Prop where
  nd : (d.map (·.1)).Nodup
  it : ∀ p ∈ d, ∃ x ∈ l, p = (.int x, .int (l.countP fun y => decide (y = x)))
  all : ∀ x ∈ l, PyData.int x ∈ d.map (·.1)
theorem CntI.sc {l : Crs} {d : List (D × D)} (h : CntI l d) : ∀ p ∈ d, scalI p.1 = true ∧ scalI p.2 = true := fun p hp => by
  obtain ⟨x, _, rfl⟩ := h.it p hp
  exact ⟨rfl, rfl⟩
theorem keyPut_old : ∀ {l : List (D × D)} {k v : D}, (∀ p ∈ l, scalI p.1 = true) → scalI k = true → (l.map (·.1)).Nodup → k ∈ l.map (·.1) → (keyPut k v l).map (·.1) = l.map (·.1) ∧ ∀ p ∈ keyPut k v l, (p.1 = k ∧ p.2 = v) ∨ (p.1 ≠ k ∧ p ∈ l)
  | [], _, _, _, _, _, h => by cases h
  | q :: l, k, v, hs, hk, hn, hm => by
    rw [List.map_cons, List.nodup_cons] at hn
    unfold keyPut
    by_cases c : q.1 = k
    · rw [c, eqv_same hk]
      refine ⟨by simp [c], fun p hp => ?_⟩
      simp only [if_true] at hp
      rcases List.mem_cons.mp hp with e | e
      · rw [e]; exact .inl ⟨rfl, rfl⟩
      · refine .inr ⟨fun e2 => hn.1 ?_, by simp [e]⟩
        rw [c, ← e2]
        exact List.mem_map_of_mem e
    · rw [eqv_other (hs q (by simp)) hk c]
      simp only [Bool.false_eq_true, if_false]
      have hm : k ∈ l.map (·.1) := by
        rcases List.mem_cons.mp hm with e | e
        · exact absurd e.symm c
        · exact e
      obtain ⟨h1, h2⟩ := keyPut_old (v := v) (fun r hr => hs r (by simp [hr])) hk hn.2 hm
      refine ⟨by simp [h1], fun p hp => ?_⟩
      rcases List.mem_cons.mp hp with e | e
      · rw [e]; exact .inr ⟨c, by simp⟩
      · rcases h2 p e with h | h
        · exact .inl h
        · exact .inr ⟨h.1, by simp [h.2]⟩
theorem cnt_step {l : Crs} {d : List (D × D)} (h : CntI l d) (x : Int) : CntI (l ++ [x]) (cntS d x) := by
  have hs : ∀ p ∈ d, scalI p.1 = true := fun p hp => (h.sc p hp).1
  have cc : ∀ z : Int, ((l ++ [x]).countP fun y => decide (y = z)) = (l.countP fun y => decide (y = z)) + if x = z then 1 else 0 := fun z => by
    rw [List.countP_append]
    by_cases e : x = z <;> simp [e]
  by_cases hm : PyData.int x ∈ d.map (·.1)
  · obtain ⟨p, hp, e⟩ := List.mem_map.mp hm
    obtain ⟨z, hz, rfl⟩ := h.it p hp
    have : z = x := by injection e
    subst this
    have hv : keyAt (.int z) d = some (.int (l.countP fun y => decide (y = z))) := keyAt_mem hs h.nd _ hp
    have hv : cntV d z = ((l ++ [z]).countP fun y => decide (y = z)) := by
      unfold cntV
      rw [hv, cc z]
      simp
    obtain ⟨k1, k2⟩ := keyPut_old (v := .int (cntV d z)) hs rfl h.nd hm
    refine ⟨by unfold cntS; rw [k1]; exact h.nd, fun q hq => ?_, fun y hy => ?_⟩
    · rcases k2 q hq with ⟨a, b⟩ | ⟨a, b⟩
      · exact ⟨z, by simp, Prod.ext a (by rw [b, hv])⟩
      · obtain ⟨y, hy, rfl⟩ := h.it q b
        have hne : ¬ z = y := fun e => a (by simp [e])
        exact ⟨y, by simp [hy], by rw [cc y, if_neg hne]; rfl⟩
    · unfold cntS
      rw [k1]
      rcases List.mem_append.mp hy with hy | hy
      · exact h.all y hy
      · rw [List.mem_singleton.mp hy]; exact hm
  · have hnl : x ∉ l := fun c => hm (h.all x c)
    have hc : cntS d x = d ++ [(.int x, .int 1)] := by
      unfold cntS
      rw [keyPut_new hs rfl hm]
      unfold cntV
      rw [keyAt_none hs rfl hm]
    have h0 : (l.countP fun y => decide (y = x)) = 0 := List.countP_eq_zero.mpr fun y hy => by
      simp only [decide_eq_true_eq]
      exact fun e => hnl (e ▸ hy)
    rw [hc]
    refine ⟨?_, fun q hq => ?_, fun y hy => ?_⟩
    · rw [List.map_append, List.nodup_append]
      refine ⟨h.nd, by simp, fun a ha b hb e => hm ?_⟩
      simp at hb
      rw [← hb, ← e]
      exact ha
    · rcases List.mem_append.mp hq with hq | hq
      · obtain ⟨y, hy, rfl⟩ := h.it q hq
        have hne : ¬ x = y := fun e => hnl (e ▸ hy)
        exact ⟨y, by simp [hy], by rw [cc y, if_neg hne]; rfl⟩
      · rw [List.mem_singleton.mp hq]
        exact ⟨x, by simp, by rw [cc x, h0]; simp⟩
    · rcases List.mem_append.mp hy with hy | hy
      · rw [List.map_append]
        exact List.mem_append_left _ (h.all y hy)
      · rw [List.mem_singleton.mp hy]
        simp
theorem cnt_all : ∀ (l pre : Crs) (d : List (D × D)), CntI pre d → CntI (pre ++ l) (l.foldl cntS d)
  | [], pre, d, h => by simpa using h
  | x :: l, pre, d, h => by
    have := cnt_all l (pre ++ [x]) (cntS d x) (cnt_step h x)
    simpa using this
theorem cnt_is (l : Crs) : CntI l (cntF l) := cnt_all l [] [] ⟨by simp, by simp, by simp⟩
theorem cnt_len {l : Crs} {d : List (D × D)} (h : CntI l d) : d.length ≤ l.length := by
  have : (d.map (·.1)).length ≤ (l.map PyData.int).length := h.nd.length_le_of_subset fun k hk => by
    obtain ⟨p, hp, rfl⟩ := List.mem_map.mp hk
    obtain ⟨x, hx, rfl⟩ := h.it p hp
    exact List.mem_map_of_mem hx
  simpa using this
theorem brk_dct (w : Wal) : DctOk (brkD w) (cntF w.flatten) := by
  have h := cnt_is w.flatten
  have ks : (brkD w).map (·.1) = (uniqS w.flatten).map PyData.int := by unfold brkD; rw [List.map_map]; rfl
  refine ⟨?_, brk_sc w, h.sc, brk_nd w, h.nd, fun p hp => ?_⟩
  · have : ((brkD w).map (·.1)).Perm ((cntF w.flatten).map (·.1)) := (List.perm_ext_iff_of_nodup (brk_nd w) h.nd).mpr fun k => by
      rw [ks]
      constructor
      · intro hk
        obtain ⟨x, hx, rfl⟩ := List.mem_map.mp hk
        exact h.all x ((mem_uniq x _).mp hx)
      · intro hk
        obtain ⟨p, hp, rfl⟩ := List.mem_map.mp hk
        obtain ⟨x, hx, rfl⟩ := h.it p hp
        exact List.mem_map_of_mem ((mem_uniq x _).mpr hx)
    simpa using this.length_eq
  · obtain ⟨x, hx, rfl⟩ := h.it p hp
    have hm : (PyData.int x, PyData.int (w.flatten.countP fun y => decide (y = x))) ∈ brkD w := List.mem_map_of_mem (f := fun x => (PyData.int x, PyData.int (w.flatten.countP fun y => decide (y = x)))) ((mem_uniq x _).mpr hx)
    exact keyAt_mem (fun p hp => (brk_sc w p hp).1) (brk_nd w) _ hm
/-! the first joint over a joint -/
def ovL (w : Wal) (xs : List Nat) : List (Nat × Int) := xs.flatMap fun j => (bothP w j).map fun p => (j, p)
def cNI : Cod (Nat × Int) := c2 cNat cInt
theorem ok_NI : CodOk cNI 1 := ok_2 ok_nat ok_int (by decide) (by decide)
theorem ov_find (w : Wal) : ∀ xs : List Nat, (ovL w xs = [] ∧ xs.find? (fun k => !(bothP w k).isEmpty) = none) ∨ ∃ k r, xs.find? (fun k => !(bothP w k).isEmpty) = some k ∧ ovL w xs = (k, (bothP w k).headD 0) :: r
  | [] => .inl ⟨rfl, rfl⟩
  | k :: xs => by
    unfold ovL
    rw [List.flatMap_cons]
    cases e : bothP w k with
    | nil =>
      rcases ov_find w xs with ⟨h1, h2⟩ | ⟨j, r, h1, h2⟩
      · exact .inl ⟨by rw [List.map_nil, List.nil_append]; exact h1, by simp [List.find?_cons, e]; simpa using h2⟩
      · exact .inr ⟨j, r, by simp [List.find?_cons, e]; simpa using h1, by rw [List.map_nil, List.nil_append]; exact h2⟩
    | cons p r => exact .inr ⟨k, _, by simp [List.find?_cons, e], by rw [e]; rfl⟩
theorem bnd_is (w : Wal) : (ovL w (List.range (w.length - 1)) = [] ∧ bndD w = .tuple [.str "yes"]) ∨ ∃ k p r, ovL w (List.range (w.length - 1)) = (k, p) :: r ∧ bndD w = .tuple [.str "no", .int k, .int p] := by
  unfold bndD
  rcases ov_find w (List.range (w.length - 1)) with ⟨h1, h2⟩ | ⟨k, r, h1, h2⟩
  · rw [h2]
    exact .inl ⟨h1, rfl⟩
  · rw [h1]
    exact .inr ⟨k, _, r, h2, rfl⟩
/-! cracks -/
theorem run_le (p : Int) : ∀ (w : Wal) (z : Int × Int), 0 ≤ z.2 → z.1 ≤ (w.foldl (runS p) z).1 ∧ ((∃ c ∈ w, p ∈ jts c) → 0 < (w.foldl (runS p) z).1) ∧ ((∀ c ∈ w, p ∉ jts c) → z.1 ≥ 0 → (w.foldl (runS p) z).1 = z.1)
  | [], z, _ => by
    refine ⟨Int.le_refl _, ?_, fun _ _ => rfl⟩
    rintro ⟨c, h, _⟩
    cases h
  | c :: w, z, hz => by
    have h2 : 0 ≤ (runS p z c).2 := by unfold runS; simp only; split <;> omega
    have h1 : z.1 ≤ (runS p z c).1 := by unfold runS mx; simp only; split <;> omega
    obtain ⟨a1, a2, a3⟩ := run_le p w (runS p z c) h2
    rw [List.foldl_cons]
    refine ⟨Int.le_trans h1 a1, ?_, ?_⟩
    · rintro ⟨d, hd, hp⟩
      rcases List.mem_cons.mp hd with e | e
      · subst e
        have : 0 < (runS p z d).1 := by
          unfold runS mx
          simp only [hp, if_true]
          split <;> omega
        omega
      · exact a2 ⟨d, e, hp⟩
    · intro hn h0
      have hc := hn c (by simp)
      have e : (runS p z c).1 = z.1 := by
        unfold runS mx
        simp only [hc, if_false]
        split <;> omega
      rw [a3 (fun d hd => hn d (by simp [hd])) (by omega), e]
theorem run_pos (w : Wal) (p : Int) : 0 < runP w p ↔ ∃ c ∈ w, p ∈ jts c := by
  obtain ⟨a1, a2, a3⟩ := run_le p w (0, 0) (Int.le_refl _)
  constructor
  · intro h
    by_cases q : ∃ c ∈ w, p ∈ jts c
    · exact q
    · have := a3 (fun c hc hp => q ⟨c, hc, hp⟩) (Int.le_refl _)
      unfold runP at h
      rw [this] at h
      simp at h
  · exact a2
def lawCk (w : Wal) (n : Nat) : List (Int × Int) := ((List.range n).filter fun (k : Nat) => decide (0 < runP w ((k : Int) + 1))).map fun (k : Nat) => (-(runP w ((k : Int) + 1)), (k : Int) + 1)
section
variable {wide : Int} {w : Wal} {c : Crs}
theorem take_pos : ∀ (c : Crs) (n : Nat), (∀ l ∈ c, 1 ≤ l ∧ l ≤ 4) → n ≤ c.length → (n : Int) ≤ (c.take n).sum ∧ (c.take n).sum + ((c.length - n : Nat) : Int) ≤ c.sum
  | [], n, _, hn => by simp at hn; subst hn; simp
  | l :: c, 0, h, _ => by
    have := sum_len (l :: c) h
    simpa using this
  | l :: c, n + 1, h, hn => by
    have h1 := h l (by simp)
    have h2 := take_pos c n (fun x hx => h x (by simp [hx])) (by simpa using hn)
    simp only [List.take_succ_cons, List.sum_cons, List.length_cons]
    omega
theorem jts_in (h : CrOk wide c) {p : Int} (hp : p ∈ jts c) : 1 ≤ p ∧ p < wide := by
  unfold jts at hp
  obtain ⟨n, hn, rfl⟩ := List.mem_map.mp hp
  have hn := List.mem_range.mp hn
  have := take_pos c (n + 1) h.it (by omega)
  have := h.sum
  omega
theorem ck_mem (h : WOk wide w) (x : Int × Int) : x ∈ lawCk w (wide - 1).toNat ↔ x ∈ ckR w := by
  have hm : ∀ p, p ∈ plc w ↔ 0 < runP w p := fun p => by
    unfold plc
    rw [mem_uniq, run_pos, List.mem_flatMap]
  unfold lawCk ckR
  rw [List.mem_map, List.mem_map]
  constructor
  · rintro ⟨k, hk, rfl⟩
    obtain ⟨h1, h2⟩ := List.mem_filter.mp hk
    exact ⟨_, (hm _).mpr (by simpa using h2), rfl⟩
  · rintro ⟨p, hp, rfl⟩
    have hp := (hm p).mp hp
    obtain ⟨c, hc, hj⟩ := (run_pos w p).mp hp
    obtain ⟨p1, p2⟩ := jts_in (h.it c hc) hj
    refine ⟨(p - 1).toNat, List.mem_filter.mpr ⟨List.mem_range.mpr (by omega), ?_⟩, ?_⟩
    · rw [show (((p - 1).toNat : Nat) : Int) + 1 = p by omega]
      simpa using hp
    · rw [show (((p - 1).toNat : Nat) : Int) + 1 = p by omega]
theorem ck_law (h : WOk wide w) : ckD (lawCk w (wide - 1).toNat) = ckD (ckR w) := by
  have hm := ck_mem h
  by_cases e : lawCk w (wide - 1).toNat = []
  · have e2 : ckR w = [] := List.eq_nil_iff_forall_not_mem.mpr fun x hx => by
      have := (hm x).mpr hx
      rw [e] at this
      cases this
    rw [e, e2]
  · have e2 : ckR w ≠ [] := fun c => e (List.eq_nil_iff_forall_not_mem.mpr fun x hx => by
      have := (hm x).mp hx
      rw [c] at this
      cases this)
    obtain ⟨m, _, m1, m2⟩ := dMin_same ok_P (by decide) e hm
    unfold ckD
    rw [if_neg e, if_neg e2, m1, m2]
/-! places -/
theorem here_ne (h : CrOk wide c) {p : Int} (hp : 0 ≤ p ∧ p < wide) : hereL c p ≠ [] := by
  have key : ∀ n : Nat, n ≤ c.length → p < (c.take n).sum → ∃ j, j < n ∧ (endAt c j).1 ≤ p ∧ p < (endAt c j).2 := fun n => by
    induction n with
    | zero => intro _ h; simp at h; omega
    | succ n ih =>
      intro hn hl
      by_cases q : p < (c.take n).sum
      · obtain ⟨j, j1, j2⟩ := ih (by omega) q
        exact ⟨j, by omega, j2⟩
      · exact ⟨n, by omega, by show (c.take n).sum ≤ p; omega, hl⟩
  obtain ⟨j, j1, j2, j3⟩ := key c.length (Nat.le_refl _) (by rw [List.take_length, h.sum]; omega)
  intro e
  have : endAt c j ∈ hereL c p := by
    unfold hereL endsP
    exact List.mem_filter.mpr ⟨List.mem_map_of_mem (List.mem_range.mpr j1), by simp [j2, j3]⟩
  rw [e] at this
  cases this
theorem ovl_pos (a b : Int × Int) (ha : a.1 < a.2) (hb : b.1 < b.2) : decide (0 < ovl b a) = (decide (a.1 < b.2) && decide (b.1 < a.2)) := by
  unfold ovl cutS mx mn
  rw [Bool.eq_iff_iff]
  simp only [decide_eq_true_eq, Bool.and_eq_true]
  repeat' split
  all_goals omega
theorem end_lt {n : Nat} (h : CrOk wide c) (hn : n < c.length) : (endAt c n).1 < (endAt c n).2 := by
  have := end_dif hn
  have := h.at hn
  omega
theorem tou_law (h : CrOk wide c) {s : Int × Int} (hs : s.1 < s.2) : ((List.range c.length).filter fun n => decide (0 < ovl s (endAt c n))) = touP c s := by
  unfold touP
  refine List.filter_congr fun n hn => ?_
  exact ovl_pos _ _ (end_lt h (List.mem_range.mp hn)) hs
theorem cut_law (c : Crs) (b e : Int) : ((endsP c).filter fun s => decide (0 < ovl s (b, e))).map (fun s => ovl s (b, e)) = cutP c b e := by
  unfold cutP
  generalize endsP c = l
  have hx : ∀ s : Int × Int, ovl s (b, e) = mx 0 (cutS (b, e) s) := fun s => by
    unfold ovl cutS mx mn
    repeat' split
    all_goals omega
  induction l with
  | nil => rfl
  | cons s l ih =>
    rw [List.map_cons, List.filter_cons, List.filter_cons]
    have e1 := hx s
    by_cases q : 0 < cutS (b, e) s
    · have e2 : ovl s (b, e) = cutS (b, e) s := by rw [e1]; unfold mx; split <;> omega
      rw [e2, if_pos (by simpa using q), if_pos (by simpa using q), List.map_cons, ih, e2]
    · have e2 : ovl s (b, e) = 0 := by rw [e1]; unfold mx; split <;> omega
      rw [e2, if_neg (by simp), if_neg (by simpa using q), ih]
end
end PW

set_option maxHeartbeats 4000000
/-! Courses and joints: the law's statements. -/
namespace PW
open PySem PyProof.Rows L2 PV
def eV (t : Int) (s3 s4 s5 s6 s7 s8 s10 s11 s12 s18 s19 s20 s21 s22 s23 s24 s25 s26 : PV.Slot) : PV.Env := [.no, .no, .sh (.int t), s3, s4, s5, s6, s7, s8, .no, s10, s11, s12, .no, .no, .no, .no, .no, s18, s19, s20, s21, s22, s23, s24, s25, s26, .no, .no, .no, .no, .no, .no]
def eA (t wide : Int) (w : D) (s5 s6 s7 s11 s12 s18 : PV.Slot) : PV.Env := eV t (.sh (.int wide)) (.sh w) s5 s6 s7 .no .no s11 s12 s18 .no .no .no .no .no .no .no .no
def rowD (c : Crs) : D := .list ((jts c).map cInt.enc)
section
variable {t wide : Int} {w : Wal} {k n : Nat} {s5 s6 s7 s8 s11 s12 s18 : PV.Slot}
theorem row_at (hk : k < w.length) : dIx (.list (w.map rowD)) (.int (k : Int)) = some (rowD (atC w k)) := by
  have : atC w k = w[k] := by simp [atC, hk]
  rw [this]
  show atI _ _ = _
  rw [PV.atI_get (by simpa using hk), List.getElem_map]
theorem k2 (hw : WOk wide w) : ex optM C0 SS G0 law_B0_s2 (eA t wide (cW.enc w) .no .no .no .no .no .no) = some (.nx (eA t wide (cW.enc w) (.ow (.list (w.map rowD))) .no .no .no .no .no)) := by
  have cc : compL optM (oStep C0 SS G0 (.nm 13) .yes (.call id_law_joints (.cons (.var 13) .nil)) (eA t wide (cW.enc w) .no .no .no .no .no .no)) (w.map cC.enc) = some (w.map rowD) := by
    refine compL_all fun c hc => ?_
    have e := SS_law_joints (c := c) (by have := hw.l9 c hc; omega)
    show _ = some (some (PyData.list ((jts c).map cInt.enc)))
    generalize PyData.list ((jts c).map cInt.enc) = v at e ⊢
    generalize cC.enc c = y at e ⊢
    unfold eA eV
    generalize cW.enc w = x
    simp [oStep, e]
  have it : iter? (cW.enc w) = some (w.map cC.enc) := rfl
  generalize w.map rowD = v at cc ⊢
  generalize w.map cC.enc = u at it cc
  unfold eA eV at cc ⊢
  generalize cW.enc w = x at it cc ⊢
  simp [law_B0_s2, esc, escs, escS, it, cc]
theorem k3 {x : D} : ex optM C0 SS G0 law_B0_s3 (eA t wide x s5 .no .no .no .no .no) = some (.nx (eA t wide x s5 (.ow (.list [])) (.ow (.list [])) .no .no .no)) := by
  simp [law_B0_s3, eA, eV, esc, escs, setAll]
def e4 (t wide : Int) (x : D) (r : List D) (s6 s7 s8 s9 : PV.Slot) : PV.Env := [.no, .no, .sh (.int t), .sh (.int wide), .sh x, .ow (.list r), s6, s7, s8, s9, .no, .no, .no, .no, .no, .no, .no, .no, .no, .no, .no, .no, .no, .no, .no, .no, .no, .no, .no, .no, .no, .no, .no]
theorem in4 {x : D} (hk : k + 1 < w.length) (hw : WOk wide w) : forL optM (fBody C0 SS G0 (.nm 10) law_B8) (e4 t wide x (w.map rowD) s6 s7 (.sh (.int k)) (.ow (.list []))) ((jts (atC w k)).map cInt.enc) (e4 t wide x (w.map rowD) s6 s7 (.sh (.int k)) (.ow (.list []))) = some (.nx (e4 t wide x (w.map rowD) s6 s7 (.sh (.int k)) (.ow (.list ((gapsP (atC w k) (atC w (k + 1))).map cInt.enc))))) := by
  have hA := hw.c10 (k := k) (by omega)
  have hB := hw.c10 hk
  have hjA := jts_len (atC w k)
  have hjB := jts_len (atC w (k + 1))
  have kf := forL_fold (g := fBody C0 SS G0 (.nm 10) law_B8) (ρ0 := e4 t wide x (w.map rowD) s6 s7 (.sh (.int k)) (.ow (.list []))) cInt.enc
    (fun g : Crs => e4 t wide x (w.map rowD) s6 s7 (.sh (.int k)) (.ow (.list (g.map cInt.enc)))) (fun g z => g ++ (jts (atC w (k + 1))).map fun y => absI (z - y)) (fun g xs => g.length + 9 * xs.length ≤ 100) (fun g z xs hI => by
      have g1 := row_at (w := w) (k := k + 1) hk
      rw [show ((k + 1 : Nat) : Int) = (k : Int) + 1 by omega] at g1
      have cc : ∀ s9 : PV.Slot, compL optM (oStep C0 SS G0 (.nm 31) .yes (.bi .abs (.bin .sub (.var 10) (.var 31))) ((e4 t wide x (w.map rowD) s6 s7 (.sh (.int k)) s9).set 10 (.sh (.int z)))) ((jts (atC w (k + 1))).map cInt.enc) = some (((jts (atC w (k + 1))).map fun y => absI (z - y)).map cInt.enc) := fun s9 => by
        rw [List.map_map]
        refine compL_all fun y _ => ?_
        show _ = some (some (PyData.int (absI (z - y))))
        unfold e4
        simp [oStep, absI]
      have it : iter? (rowD (atC w (k + 1))) = some ((jts (atC w (k + 1))).map cInt.enc) := rfl
      have hl : (g.map cInt.enc).length + (((jts (atC w (k + 1))).map fun y => absI (z - y)).map cInt.enc).length ≤ LINE := by
        simp at hI ⊢
        unfold LINE
        omega
      refine ⟨⟨(e4 t wide x (w.map rowD) s6 s7 (.sh (.int k)) (.ow (.list ((g ++ (jts (atC w (k + 1))).map fun y => absI (z - y)).map cInt.enc)))).set 10 (.sh (.int z)), ?_, by simp [e4]⟩, by simp at hI ⊢; omega⟩
      rw [List.map_append]
      generalize (((jts (atC w (k + 1))).map fun y => absI (z - y)).map cInt.enc) = v at cc hl ⊢
      generalize (jts (atC w (k + 1))).map cInt.enc = q at it cc
      generalize rowD (atC w (k + 1)) = y at g1 it
      generalize g.map cInt.enc = gv at hl ⊢
      generalize w.map rowD = r at g1 cc ⊢
      unfold e4 at cc ⊢
      simp only [List.set] at cc
      simp [fBody, law_B8, law_B8_s0, esc, escs, escS, g1, it, cc, hl]) (jts (atC w k)) [] (by simp; omega)
  have ez : ∀ (xs g : Crs), xs.foldl (fun g z => g ++ (jts (atC w (k + 1))).map fun y => absI (z - y)) g = g ++ xs.flatMap fun z => (jts (atC w (k + 1))).map fun y => absI (z - y) := fun xs => by
    induction xs with
    | nil => intro g; simp
    | cons x xs ih => intro g; simp [ih]
  rw [ez, List.nil_append] at kf
  exact kf
def lapL (w : Wal) (n : Nat) : List D := (List.range n).map fun k => lapD (gapsP (atC w k) (atC w (k + 1)))
theorem ov_len (hw : WOk wide w) (hn : n ≤ w.length) : (ovL w (List.range n)).length ≤ 9 * n := by
  unfold ovL
  rw [List.length_flatMap]
  have : ∀ xs : List Nat, (∀ k ∈ xs, k < w.length) → (xs.map fun j => ((bothP w j).map fun p => (j, p)).length).sum ≤ 9 * xs.length := fun xs => by
    induction xs with
    | nil => simp
    | cons x xs ih =>
      intro h
      have h1 := ih fun k hk => h k (by simp [hk])
      have h2 := hw.cl (h x (by simp))
      have h3 : (bothP w x).length ≤ (jts (atC w x)).length := List.length_filter_le _ _
      have h4 := jts_len (atC w x)
      simp only [List.map_cons, List.sum_cons, List.length_map, List.length_cons]
      simp only [List.length_map] at h1
      omega
  have := this (List.range n) fun k hk => by have := List.mem_range.mp hk; omega
  simpa using this
theorem k4 (hw : WOk wide w) : ex optM C0 SS G0 law_B0_s4 (eA t wide (cW.enc w) (.ow (.list (w.map rowD))) (.ow (.list [])) (.ow (.list [])) .no .no .no) = some (.nx (eA t wide (cW.enc w) (.ow (.list (w.map rowD))) (.ow (.list ((ovL w (List.range (w.length - 1))).map cNI.enc))) (.ow (.list (lapsD w))) .no .no .no)) := by
  have hl := hw.len
  have kf := forL_rng (g := fBody C0 SS G0 (.nm 8) law_B7) (ρ0 := e4 t wide (cW.enc w) (w.map rowD) (.ow (.list [])) (.ow (.list [])) .no .no) (fun n => e4 t wide (cW.enc w) (w.map rowD) (.ow (.list ((ovL w (List.range n)).map cNI.enc))) (.ow (.list (lapL w n))) .no .no) (w.length - 1) fun k hk => by
    have g1 := row_at (w := w) (k := k + 1) (by omega)
    rw [show ((k + 1 : Nat) : Int) = (k : Int) + 1 by omega] at g1
    have g2 := row_at (w := w) (k := k) (by omega)
    have it : iter? (rowD (atC w k)) = some ((jts (atC w k)).map cInt.enc) := rfl
    have cc : ∀ s6 s7 : PV.Slot, compL optM (oStep C0 SS G0 (.nm 10) (.cmp .in_ (.var 10) (.ix (.var 5) (.bin .add (.var 8) (.int 1)))) (.tup (.cons (.var 8) (.cons (.var 10) .nil))) (e4 t wide (cW.enc w) (w.map rowD) s6 s7 (.sh (.int k)) .no)) ((jts (atC w k)).map cInt.enc) = some (((bothP w k).map fun p => (k, p)).map cNI.enc) := fun s6 s7 => by
      unfold bothP
      rw [List.map_map]
      refine compL_fil (p := fun p => decide (p ∈ jts (atC w (k + 1)))) fun p _ => ?_
      have ci : dCmp .in_ (.int p) (rowD (atC w (k + 1))) = some (decide (p ∈ jts (atC w (k + 1)))) := d_in_l ok_int (by decide) p _
      show _ = some (if _ then some (PyData.tuple [.int k, .int p]) else none)
      generalize decide (p ∈ jts (atC w (k + 1))) = b at ci ⊢
      generalize rowD (atC w (k + 1)) = y at g1 ci
      generalize w.map rowD = r at g1 ⊢
      unfold e4
      cases b <;> simp [oStep, g1, ci]
    have fl := fun s6 s7 => in4 (t := t) (x := cW.enc w) (s6 := s6) (s7 := s7) (show k + 1 < w.length by omega) hw
    have n1 := ne_nil_c ok_int (by decide) (gapsP (atC w k) (atC w (k + 1)))
    have e6 : (ovL w (List.range (k + 1))).map cNI.enc = (ovL w (List.range k)).map cNI.enc ++ ((bothP w k).map fun p => (k, p)).map cNI.enc := by
      unfold ovL
      rw [List.range_succ, List.flatMap_append, List.map_append]
      simp
    have e7 : lapL w (k + 1) = lapL w k ++ [lapD (gapsP (atC w k) (atC w (k + 1)))] := by
      unfold lapL
      rw [List.range_succ, List.map_append]
      rfl
    have l7 : (lapL w k).length < LINE := by unfold lapL LINE; rw [List.length_map, List.length_range]; omega
    have l6 : ((ovL w (List.range k)).map cNI.enc).length + (((bothP w k).map fun p => (k, p)).map cNI.enc).length ≤ LINE := by
      rw [← List.length_append, ← e6, List.length_map]
      have := ov_len hw (n := k + 1) (by omega)
      unfold LINE
      omega
    refine ⟨(e4 t wide (cW.enc w) (w.map rowD) (.ow (.list ((ovL w (List.range (k + 1))).map cNI.enc))) (.ow (.list (lapL w (k + 1)))) (.sh (.int k)) (.ow (.list ((gapsP (atC w k) (atC w (k + 1))).map cInt.enc)))), ?_, by simp [e4]⟩
    rw [e6, e7]
    generalize ((bothP w k).map fun p => (k, p)).map cNI.enc = u6 at cc l6 ⊢
    generalize (ovL w (List.range k)).map cNI.enc = v6 at l6 ⊢
    obtain ⟨m, ⟨q1, q2⟩ | ⟨q1, q2, q3⟩⟩ := lap_app (gapsP (atC w k) (atC w (k + 1)))
    · rw [q2]
      rw [q1] at n1 fl ⊢
      simp only [List.map_nil, List.isEmpty_nil, Bool.not_true] at n1 fl ⊢
      generalize lapL w k = v7 at l7 ⊢
      generalize (jts (atC w k)).map cInt.enc = q at it cc fl
      generalize rowD (atC w k) = y at g2 it
      generalize rowD (atC w (k + 1)) = y2 at g1
      generalize w.map rowD = r at g1 g2 cc fl ⊢
      unfold e4 at cc fl ⊢
      generalize cW.enc w = x at cc fl ⊢
      simp [fBody, law_B7, law_B7_s0, law_B7_s1, law_B7_s2, law_B7_s3, esc, escs, escS, escF, g2, it, cc, l6, l7, fl, n1]
    · rw [q3]
      have ge : (gapsP (atC w k) (atC w (k + 1))).isEmpty = false := by simpa using q1
      rw [ge] at n1
      generalize (gapsP (atC w k) (atC w (k + 1))).map cInt.enc = u at n1 fl q2 ⊢
      generalize lapL w k = v7 at l7 ⊢
      generalize (jts (atC w k)).map cInt.enc = q at it cc fl
      generalize rowD (atC w k) = y at g2 it
      generalize rowD (atC w (k + 1)) = y2 at g1
      generalize w.map rowD = r at g1 g2 cc fl ⊢
      unfold e4 at cc fl ⊢
      generalize cW.enc w = x at cc fl ⊢
      simp [fBody, law_B7, law_B7_s0, law_B7_s1, law_B7_s2, law_B7_s3, esc, escs, escS, escF, g2, it, cc, l6, l7, fl, n1, q2]
  obtain ⟨ok, er⟩ := rng_pred (n := w.length) (by omega)
  have il := w_len w
  have e0 : lapL w (w.length - 1) = lapsD w := rfl
  have e00 : lapL w 0 = [] := rfl
  have e000 : ovL w (List.range 0) = [] := rfl
  rw [e0, e00, e000] at kf
  simp only [List.map_nil] at kf
  generalize lapsD w = v7 at kf ⊢
  generalize (ovL w (List.range (w.length - 1))).map cNI.enc = v6 at kf ⊢
  generalize (List.range (w.length - 1)).map cNat.enc = q at er kf
  generalize (w.length : Int) = nn at il ok er
  generalize w.map rowD = r at kf ⊢
  unfold e4 at kf
  unfold eA eV
  generalize cW.enc w = x at il kf ⊢
  simp [law_B0_s4, esc, escs, escS, escF, il, ok, er, kf]
theorem k5 {x : D} : ex optM C0 SS G0 law_B0_s5 (eA t wide x s5 s6 s7 .no .no .no) = some (.nx (eA t wide x s5 s6 s7 (.ow (.dict [])) (.ow (.list [])) .no)) := by
  have sl : ∀ z, slotOf (.dct .nil) (.dict z) = .ow (.dict z) := fun z => rfl
  simp [law_B0_s5, eA, eV, esc, escs, setAll, sl]
def ScD (d : List (D × D)) : Prop := ∀ p ∈ d, scalI p.1 = true ∧ scalI p.2 = true
theorem keyPut_sc : ∀ {d : List (D × D)} {k v : D}, ScD d → scalI k = true → scalI v = true → ScD (keyPut k v d) ∧ (keyPut k v d).length ≤ d.length + 1
  | [], k, v, _, hk, hv => ⟨fun p hp => by rw [List.mem_singleton.mp hp]; exact ⟨hk, hv⟩, by simp [keyPut]⟩
  | q :: d, k, v, h, hk, hv => by
    have hq := h q (by simp)
    obtain ⟨h1, h2⟩ := keyPut_sc (d := d) (fun p hp => h p (by simp [hp])) hk hv
    unfold keyPut
    split
    · refine ⟨fun p hp => ?_, by simp⟩
      rcases List.mem_cons.mp hp with e | e
      · rw [e]; exact ⟨hq.1, hv⟩
      · exact h p (by simp [e])
    · refine ⟨fun p hp => ?_, by simp only [List.length_cons]; omega⟩
      rcases List.mem_cons.mp hp with e | e
      · rw [e]; exact hq
      · exact h1 p e
theorem cnt_get {d : List (D × D)} (h : ScD d) (z : Int) : (dBin .add ((keyAt (.int z) d).getD (.int 0)) (.int 1)) = some (.int (cntV d z)) := by
  unfold cntV
  cases e : keyAt (.int z) d with
  | none => rfl
  | some v =>
    have := (h _ (keyAt_in (fun p hp => (h p hp).1) rfl e)).2
    obtain ⟨i, rfl⟩ := scal_int this
    rfl
theorem in6 {x : D} (c : Crs) (d : List (D × D)) (s13 : PV.Slot) (hd : ScD d) (hl : d.length + c.length ≤ 1000) : forL optM (fBody C0 SS G0 (.nm 14) law_B6) ((eA t wide x s5 s6 s7 (.ow (.dict d)) s12 .no).set 13 s13) (c.map cInt.enc) ((eA t wide x s5 s6 s7 (.ow (.dict d)) s12 .no).set 13 s13) = some (.nx ((eA t wide x s5 s6 s7 (.ow (.dict (c.foldl cntS d))) s12 .no).set 13 s13)) :=
  forL_fold (g := fBody C0 SS G0 (.nm 14) law_B6) (ρ0 := (eA t wide x s5 s6 s7 (.ow (.dict d)) s12 .no).set 13 s13) cInt.enc
    (fun d : List (D × D) => (eA t wide x s5 s6 s7 (.ow (.dict d)) s12 .no).set 13 s13) cntS (fun d xs => ScD d ∧ d.length + xs.length ≤ 1000) (fun d z xs hI => by
      obtain ⟨i1, i2⟩ := hI
      have ok := okKey_int (k := .int z) rfl fun p hp => (i1 p hp).1
      have hg := cnt_get i1 z
      have hll : d.length < LINE := by simp at i2; unfold LINE; omega
      obtain ⟨p1, p2⟩ := keyPut_sc (k := .int z) (v := .int (cntV d z)) i1 rfl rfl
      refine ⟨⟨((eA t wide x s5 s6 s7 (.ow (.dict (cntS d z))) s12 .no).set 13 s13).set 14 (.sh (.int z)), ?_, by simp [eA, eV]⟩, p1, by unfold cntS; simp only [List.length_cons] at i2; omega⟩
      unfold cntS
      simp [fBody, law_B6, law_B6_s0, eA, eV, esc, escs, ok, hg, hll]) c d ⟨hd, hl⟩
theorem fold_sc (c : Crs) : ∀ d : List (D × D), ScD d → ScD (c.foldl cntS d) ∧ (c.foldl cntS d).length ≤ d.length + c.length := by
  induction c with
  | nil => intro d h; exact ⟨h, by simp⟩
  | cons x c ih =>
    intro d h
    obtain ⟨p1, p2⟩ := keyPut_sc (k := .int x) (v := .int (cntV d x)) h rfl rfl
    obtain ⟨q1, q2⟩ := ih (cntS d x) p1
    refine ⟨q1, ?_⟩
    have p2 : (cntS d x).length ≤ d.length + 1 := p2
    simp only [List.foldl_cons, List.length_cons]
    omega
theorem k6 (hw : WOk wide w) : ex optM C0 SS G0 law_B0_s6 (eA t wide (cW.enc w) s5 s6 s7 (.ow (.dict [])) s12 .no) = some (.nx (eA t wide (cW.enc w) s5 s6 s7 (.ow (.dict (cntF w.flatten))) s12 .no)) := by
  have kf := forL_fold (g := fBody C0 SS G0 (.nm 13) law_B5) (ρ0 := eA t wide (cW.enc w) s5 s6 s7 (.ow (.dict [])) s12 .no) cC.enc
    (fun d : List (D × D) => eA t wide (cW.enc w) s5 s6 s7 (.ow (.dict d)) s12 .no) (fun d c => c.foldl cntS d) (fun d xs => ScD d ∧ d.length + 10 * xs.length ≤ 100 ∧ ∀ c ∈ xs, c.length ≤ 9) (fun d c xs hI => by
      obtain ⟨i1, i2, i3⟩ := hI
      have hc := i3 c (by simp)
      simp only [List.length_cons] at i2
      have fl := in6 (t := t) (wide := wide) (s5 := s5) (s6 := s6) (s7 := s7) (s12 := s12) (x := cW.enc w) c d (.sh (cC.enc c)) i1 (by omega)
      obtain ⟨p1, p2⟩ := fold_sc c d i1
      have it : iter? (cC.enc c) = some (c.map cInt.enc) := rfl
      refine ⟨⟨(eA t wide (cW.enc w) s5 s6 s7 (.ow (.dict (c.foldl cntS d))) s12 .no).set 13 (.sh (cC.enc c)), ?_, by simp [eA, eV]⟩, p1, by omega, fun y hy => i3 y (by simp [hy])⟩
      generalize c.foldl cntS d = v at fl ⊢
      generalize c.map cInt.enc = q at it fl
      generalize cC.enc c = y at it fl ⊢
      unfold eA eV at fl ⊢
      simp only [List.set] at fl
      generalize cW.enc w = x at fl ⊢
      simp [fBody, law_B5, law_B5_s0, esc, escs, escF, it, fl]) w [] ⟨fun p hp => (by cases hp), by have := hw.len; simp; omega, hw.l9⟩
  have ez : w.foldl (fun d c => c.foldl cntS d) [] = cntF w.flatten := by
    unfold cntF
    rw [List.foldl_flatten]
  rw [ez] at kf
  have it : iter? (cW.enc w) = some (w.map cC.enc) := rfl
  generalize cntF w.flatten = v at kf ⊢
  generalize w.map cC.enc = q at it kf
  unfold eA eV at kf ⊢
  generalize cW.enc w = x at it kf ⊢
  simp [law_B0_s6, esc, escs, escF, it, kf]
theorem k7 (hw : WOk wide w) : ∃ s5' : PV.Slot, (s5' = .ow (.list (w.map rowD)) ∨ s5' = .sh (.list (w.map rowD))) ∧ ex optM C0 SS G0 law_B0_s7 (eA t wide (cW.enc w) (.ow (.list (w.map rowD))) s6 s7 s11 (.ow (.list [])) .no) = some (.nx (eA t wide (cW.enc w) s5' s6 s7 s11 (.ow (.list ((lawCk w (wide - 1).toNat).map cP.enc))) .no)) := by
  have inner : ∀ (p : Int) (s12 : PV.Slot), forL optM (fBody C0 SS G0 (.nm 17) law_B4) ((((eA t wide (cW.enc w) (.sh (.list (w.map rowD))) s6 s7 s11 s12 .no).set 10 (.sh (.int p))).set 15 (.sh (.int 0))).set 16 (.sh (.int 0))) (w.map rowD) ((((eA t wide (cW.enc w) (.sh (.list (w.map rowD))) s6 s7 s11 s12 .no).set 10 (.sh (.int p))).set 15 (.sh (.int 0))).set 16 (.sh (.int 0))) = some (.nx ((((eA t wide (cW.enc w) (.sh (.list (w.map rowD))) s6 s7 s11 s12 .no).set 10 (.sh (.int p))).set 15 (.sh (.int (runP w p)))).set 16 (.sh (.int (w.foldl (runS p) (0, 0)).2)))) := fun p s12 => by
    have kf := forL_fold (g := fBody C0 SS G0 (.nm 17) law_B4) (ρ0 := (((eA t wide (cW.enc w) (.sh (.list (w.map rowD))) s6 s7 s11 s12 .no).set 10 (.sh (.int p))).set 15 (.sh (.int 0))).set 16 (.sh (.int 0))) rowD
      (fun z : Int × Int => (((eA t wide (cW.enc w) (.sh (.list (w.map rowD))) s6 s7 s11 s12 .no).set 10 (.sh (.int p))).set 15 (.sh (.int z.1))).set 16 (.sh (.int z.2))) (runS p) (fun _ _ => True) (fun z c xs _ => by
        have ci : dCmp .in_ (.int p) (rowD c) = some (decide (p ∈ jts c)) := d_in_l ok_int (by decide) p _
        refine ⟨⟨((((eA t wide (cW.enc w) (.sh (.list (w.map rowD))) s6 s7 s11 s12 .no).set 10 (.sh (.int p))).set 15 (.sh (.int (runS p z c).1))).set 16 (.sh (.int (runS p z c).2))).set 17 (.sh (rowD c)), ?_, by simp [eA, eV]⟩, trivial⟩
        unfold runS
        generalize w.map rowD = r
        unfold eA eV
        generalize cW.enc w = x
        generalize rowD c = y at ci ⊢
        by_cases q : p ∈ jts c <;> simp [q] at ci <;> simp [fBody, law_B4, law_B4_s0, law_B4_s1, esc, escs, ci, q, mx]) w (0, 0) trivial
    exact kf
  have kf := forL_fold (g := fBody C0 SS G0 (.nm 10) law_B3) (ρ0 := eA t wide (cW.enc w) (.ow (.list (w.map rowD))) s6 s7 s11 (.ow (.list [])) .no) (fun k : Nat => PyData.int (1 + (k : Int)))
    (fun l : List (Int × Int) × Bool => eA t wide (cW.enc w) (if l.2 = true then .sh (.list (w.map rowD)) else .ow (.list (w.map rowD))) s6 s7 s11 (.ow (.list (l.1.map cP.enc))) .no) (fun l (k : Nat) => (if decide (0 < runP w ((k : Int) + 1)) = true then l.1 ++ [(-(runP w ((k : Int) + 1)), (k : Int) + 1)] else l.1, true)) (fun l xs => l.1.length + xs.length ≤ 100) (fun l k xs hI => by
      obtain ⟨l, b⟩ := l
      have fl := fun s12 => inner ((k : Int) + 1) s12
      have hll : (l.map cP.enc).length + 1 ≤ LINE := by simp at hI ⊢; unfold LINE; omega
      have hll0 : (l.map cP.enc).length ≤ LINE := by omega
      simp only [List.length_cons] at hI
      refine ⟨⟨(((((eA t wide (cW.enc w) (.sh (.list (w.map rowD))) s6 s7 s11 (.ow (.list ((if decide (0 < runP w ((k : Int) + 1)) = true then l ++ [(-(runP w ((k : Int) + 1)), (k : Int) + 1)] else l).map cP.enc))) .no).set 10 (.sh (.int ((k : Int) + 1)))).set 15 (.sh (.int (runP w ((k : Int) + 1))))).set 16 (.sh (.int (w.foldl (runS ((k : Int) + 1)) (0, 0)).2)))), ?_, by simp [eA, eV]⟩, by show (if _ then _ else _ : List (Int × Int)).length + _ ≤ _; split <;> simp only [List.length_append, List.length_cons, List.length_nil] <;> omega⟩
      generalize (w.foldl (runS ((k : Int) + 1)) (0, 0)).2 = v2 at fl ⊢
      rw [show 1 + (k : Int) = (k : Int) + 1 by omega]
      by_cases q : 0 < runP w ((k : Int) + 1)
      · dsimp only
        rw [show (if decide (0 < runP w ((k : Int) + 1)) = true then l ++ [(-(runP w ((k : Int) + 1)), (k : Int) + 1)] else l) = l ++ [(-(runP w ((k : Int) + 1)), (k : Int) + 1)] from if_pos (by simpa using q), List.map_append, List.map_cons, List.map_nil, e_P]
        generalize l.map cP.enc = lv at hll hll0 ⊢
        generalize runP w ((k : Int) + 1) = v1 at fl q ⊢
        have it : ∀ r : List D, iter? (.list r) = some r := fun _ => rfl
        generalize w.map rowD = r at fl ⊢
        unfold eA eV at fl ⊢
        simp only [List.set] at fl
        generalize cW.enc w = x at fl ⊢
        cases b <;> simp [fBody, law_B3, law_B3_s0, law_B3_s1, law_B3_s2, esc, escs, escF, setAll, fl, q, hll]
      · dsimp only
        rw [show (if decide (0 < runP w ((k : Int) + 1)) = true then l ++ [(-(runP w ((k : Int) + 1)), (k : Int) + 1)] else l) = l from if_neg (by simpa using q)]
        generalize l.map cP.enc = lv at hll hll0 ⊢
        generalize runP w ((k : Int) + 1) = v1 at fl q ⊢
        generalize w.map rowD = r at fl ⊢
        unfold eA eV at fl ⊢
        simp only [List.set] at fl
        generalize cW.enc w = x at fl ⊢
        cases b <;> simp [fBody, law_B3, law_B3_s0, law_B3_s1, law_B3_s2, esc, escs, escF, setAll, fl, q, hll0]) (List.range (wide - 1).toNat) ([], false) (by have := hw.wd; simp; omega)
  have ef : ∀ (xs : List Nat) (s : List (Int × Int) × Bool), (xs.foldl (fun l (k : Nat) => (if decide (0 < runP w ((k : Int) + 1)) = true then l.1 ++ [(-(runP w ((k : Int) + 1)), (k : Int) + 1)] else l.1, true)) s).1 = xs.foldl (fun l (k : Nat) => if decide (0 < runP w ((k : Int) + 1)) = true then l ++ [(-(runP w ((k : Int) + 1)), (k : Int) + 1)] else l) s.1 := fun xs => by
    induction xs with
    | nil => intro s; rfl
    | cons x xs ih => intro s; rw [List.foldl_cons, List.foldl_cons, ih]
  have ez := fold_fil (fun k : Nat => decide (0 < runP w ((k : Int) + 1))) (fun k : Nat => (-(runP w ((k : Int) + 1)), (k : Int) + 1)) (List.range (wide - 1).toNat) []
  have e1 := ef (List.range (wide - 1).toNat) ([], false)
  rw [ez, List.nil_append] at e1
  have el : lawCk w (wide - 1).toNat = ((List.range (wide - 1).toNat).filter fun k : Nat => decide (0 < runP w ((k : Int) + 1))).map fun k : Nat => (-(runP w ((k : Int) + 1)), (k : Int) + 1) := rfl
  rw [← el] at e1
  generalize (List.range (wide - 1).toNat).foldl (fun l (k : Nat) => (if decide (0 < runP w ((k : Int) + 1)) = true then l.1 ++ [(-(runP w ((k : Int) + 1)), (k : Int) + 1)] else l.1, true)) (([], false) : List (Int × Int) × Bool) = z at kf e1
  obtain ⟨z1, z2⟩ := z
  have e1 : z1 = lawCk w (wide - 1).toNat := e1
  subst e1
  refine ⟨if z2 = true then .sh (.list (w.map rowD)) else .ow (.list (w.map rowD)), by cases z2 <;> simp, ?_⟩
  have ok : okR 1 wide = true := by have := hw.wd; unfold okR LINE; exact decide_eq_true (by omega)
  have er : rng 1 wide = (List.range (wide - 1).toNat).map fun k : Nat => PyData.int (1 + (k : Int)) := rng_map 1 wide
  simp only [List.map_nil, Bool.false_eq_true, if_false] at kf
  generalize (lawCk w (wide - 1).toNat).map cP.enc = v at kf ⊢
  generalize ((List.range (wide - 1).toNat).map fun k : Nat => PyData.int (1 + (k : Int))) = q at er kf
  generalize w.map rowD = r at kf ⊢
  unfold eA eV at kf ⊢
  generalize cW.enc w = x at kf ⊢
  simp [law_B0_s7, esc, escs, escF, ok, er, kf]
def dueV (wide : Int) (w : Wal) : D := .tuple [.int wide, cC.enc (jts (atC w 0)), bndD w, .tuple (lapsD w), .dict (cntF w.flatten), ckD (ckR w)]
theorem k8 (hw : WOk wide w) (h5 : s5 = .ow (.list (w.map rowD)) ∨ s5 = .sh (.list (w.map rowD))) : ex optM C0 SS G0 law_B0_s8 (eA t wide (cW.enc w) s5 (.ow (.list ((ovL w (List.range (w.length - 1))).map cNI.enc))) (.ow (.list (lapsD w))) (.ow (.dict (cntF w.flatten))) (.ow (.list ((lawCk w (wide - 1).toNat).map cP.enc))) .no) = some (.nx (eA t wide (cW.enc w) s5 (.ow (.list ((ovL w (List.range (w.length - 1))).map cNI.enc))) (.ow (.list (lapsD w))) (.sh (.dict (cntF w.flatten))) (.ow (.list ((lawCk w (wide - 1).toNat).map cP.enc))) (.sh (dueV wide w)))) := by
  have g0 : dIx (.list (w.map rowD)) (.int 0) = some (rowD (atC w 0)) := row_at (w := w) (k := 0) (by have := hw.len; omega)
  have t0 : dBi .tuple (rowD (atC w 0)) = some (cC.enc (jts (atC w 0))) := rfl
  have n1 := ne_nil_c ok_NI (by decide) (ovL w (List.range (w.length - 1)))
  have n2 := ne_nil_c ok_P (by decide) (lawCk w (wide - 1).toNat)
  have s5v : s5.val = some (.list (w.map rowD)) := by rcases h5 with rfl | rfl <;> rfl
  have hb : ∃ b1 : Bool, dCmp .ne (.list ((ovL w (List.range (w.length - 1))).map cNI.enc)) (.list []) = some b1 ∧ ((b1 = false ∧ bndD w = .tuple [.str "yes"]) ∨ (b1 = true ∧ ∃ y : D, ∃ k p : D, dIx (.list ((ovL w (List.range (w.length - 1))).map cNI.enc)) (.int 0) = some (.tuple [k, p]) ∧ bndD w = .tuple [.str "no", k, p])) := by
    refine ⟨_, n1, ?_⟩
    rcases bnd_is w with ⟨q1, q2⟩ | ⟨k, p, r, q1, q2⟩
    · rw [q1]; exact .inl ⟨rfl, q2⟩
    · rw [q1]; exact .inr ⟨rfl, .none, .int k, .int p, by rw [List.map_cons]; exact ix0_l, q2⟩
  have hc : ∃ b2 : Bool, dCmp .ne (.list ((lawCk w (wide - 1).toNat).map cP.enc)) (.list []) = some b2 ∧ ((b2 = false ∧ ckD (ckR w) = .tuple [.int 0, .none]) ∨ (b2 = true ∧ ∃ a b : Int, dBi .min (.list ((lawCk w (wide - 1).toNat).map cP.enc)) = some (.tuple [.int a, .int b]) ∧ ckD (ckR w) = .tuple [.int (0 - a), .int b])) := by
    refine ⟨_, n2, ?_⟩
    rw [← ck_law hw]
    by_cases q : lawCk w (wide - 1).toNat = []
    · rw [q]; exact .inl ⟨rfl, rfl⟩
    · obtain ⟨m, _, m1, m2⟩ := ck_is q
      refine .inr ⟨by simpa using q, m.1, m.2, m1, ?_⟩
      rw [m2, Int.zero_sub]
  obtain ⟨b1, hb1, hb2⟩ := hb
  obtain ⟨b2, hc1, hc2⟩ := hc
  unfold dueV
  generalize bndD w = D1 at hb2 ⊢
  generalize ckD (ckR w) = D2 at hc2 ⊢
  generalize lapsD w = lv
  generalize cntF w.flatten = cv
  generalize (ovL w (List.range (w.length - 1))).map cNI.enc = ov at hb1 hb2 ⊢
  generalize (lawCk w (wide - 1).toNat).map cP.enc = kv at hc1 hc2 ⊢
  generalize cC.enc (jts (atC w 0)) = jv at t0 ⊢
  generalize rowD (atC w 0) = r0 at g0 t0
  generalize w.map rowD = r at g0 s5v
  generalize cW.enc w = x
  clear n1 n2 h5
  rcases hb2 with ⟨rfl, rfl⟩ | ⟨rfl, _, k, p, i1, rfl⟩ <;> rcases hc2 with ⟨rfl, rfl⟩ | ⟨rfl, a, b, j1, rfl⟩
  · simp [law_B0_s8, eA, eV, esc, escs, s5v, g0, t0, hb1, hc1]
  · simp [law_B0_s8, eA, eV, esc, escs, s5v, g0, t0, hb1, hc1, j1]
  · simp [law_B0_s8, eA, eV, esc, escs, s5v, g0, t0, hb1, hc1, i1, LINE]
  · simp [law_B0_s8, eA, eV, esc, escs, s5v, g0, t0, hb1, hc1, i1, j1, LINE]
end
end PW

set_option maxHeartbeats 4000000
/-! Courses and joints: the law's statements, more. -/
namespace PW
open PySem PyProof.Rows L2 PV
theorem psqs_int : ∀ l : Crs, psqs (l.map cInt.enc) = l.length
  | [] => rfl
  | x :: l => by simp [psqs, psq, psqs_int l]; omega
theorem shC (c : Crs) : shal 10 (cC.enc c) = true := shal_mono _ (n := 1) (by decide) (ok_C.sh c)
theorem shW (w : Wal) : shal 10 (cW.enc w) = true := shal_mono _ (n := 2) (by decide) (ok_W.sh w)
theorem lap_ok (g : Crs) : shal 9 (lapD g) = true ∧ psq (lapD g) = 1 := by
  obtain ⟨m, ⟨_, e⟩ | ⟨_, _, e⟩⟩ := lap_app g <;> rw [e] <;> exact ⟨rfl, rfl⟩
theorem laps_ok (w : Wal) : shal 10 (.tuple (lapsD w)) = true ∧ psqs (lapsD w) = w.length - 1 := by
  unfold lapsD
  constructor
  · show ((List.range (w.length - 1)).map _).all (shal 9) = true
    rw [List.all_eq_true]
    intro d hd
    obtain ⟨k, _, rfl⟩ := List.mem_map.mp hd
    exact (lap_ok _).1
  · generalize w.length - 1 = n
    induction n with
    | zero => rfl
    | succ n ih => rw [List.range_succ, List.map_append, psqs_app, ih]; simp [psqs, (lap_ok _).2]
theorem bnd_ok (w : Wal) : shal 10 (bndD w) = true ∧ psq (bndD w) ≤ 4 := by
  rcases bnd_is w with ⟨_, e⟩ | ⟨k, p, r, _, e⟩ <;> rw [e]
  · exact ⟨rfl, by decide⟩
  · exact ⟨rfl, by show 1 + (1 + (1 + 0)) + 1 ≤ 4; decide⟩
theorem ckD_ok (l : List (Int × Int)) : shal 10 (ckD l) = true ∧ psq (ckD l) ≤ 3 := by
  by_cases e : l = []
  · rw [e]; exact ⟨rfl, by decide⟩
  · obtain ⟨m, _, _, h⟩ := ck_is e
    rw [h]
    exact ⟨rfl, by show 1 + (1 + 0) + 1 ≤ 3; decide⟩
section
variable {t wide : Int} {w : Wal} {k n : Nat} {p b e : Int} {s3 s5 s6 s7 s8 s10 s11 s12 s18 s19 s20 s21 s22 s23 s24 s25 s26 : PV.Slot}
def saidV (wide : Int) (w : Wal) : D := .tuple [.int wide, cC.enc (jts (atC w 0)), bndD w, .tuple (lapsD w), .dict (brkD w), ckD (ckR w)]
theorem due_par (hw : WOk wide w) : Par2 (saidV wide w, dueV wide w) ∧ psq (dueV wide w) ≤ 100000 := by
  have hl := hw.len
  constructor
  · refine .tup _ _ rfl fun q hq => ?_
    simp only [List.zip_cons_cons, List.zip_nil_left, List.mem_cons, List.not_mem_nil, or_false] at hq
    rcases hq with e | e | e | e | e | e <;> subst e
    · exact .refl _ rfl
    · exact .refl _ (shC _)
    · exact .refl _ (bnd_ok w).1
    · exact .refl _ (laps_ok w).1
    · exact .dct _ _ (brk_dct w)
    · exact .refl _ (ckD_ok _).1
  · have h1 := (bnd_ok w).2
    have h2 := (laps_ok w).2
    have h3 := (ckD_ok (ckR w)).2
    have h4 := cnt_len (cnt_is w.flatten)
    have h5 := hw.flat
    have h6 := jts_len (atC w 0)
    have h7 := hw.cl (k := 0) (by omega)
    have h8 := psqs_int (jts (atC w 0))
    unfold dueV
    simp only [psq, psqs, e_C, h2, h8]
    omega
theorem SS_width_of (hw : WOk wide w) : SS id_width_of [cW.enc w] = some (.int wide) := by
  have e := spec_of (p := okW) (f := fun w => .int (atC w 0).sum) (A1_enc cW w) (okW_of hw)
  rw [(hw.cr (k := 0) (by have := hw.len; omega)).sum] at e
  exact e
theorem k9 (hw : WOk wide w) : ex optM C0 SS G0 law_B0_s9 (eA t wide (cW.enc w) s5 s6 s7 s11 s12 (.sh (dueV wide w))) = some (.nx (eA t wide (cW.enc w) s5 s6 s7 s11 s12 (.sh (dueV wide w)))) := by
  have hl := hw.len
  have e1 := SS_width_of hw
  have g0 : dIx (cW.enc w) (.int 0) = some (cC.enc (atC w 0)) := w_at (w := w) (k := 0) (by omega)
  have e2 := SS_joints_of (c := atC w 0) (hw.c10 (by omega))
  have e3 := SS_bonded hw
  have e4 := SS_laps_of hw
  have e5 := SS_bricks_in hw
  have e6 := SS_longest_crack hw
  have e7 := SS_law_same (due_par hw).1 (due_par hw).2
  unfold saidV at e7
  generalize dueV wide w = v at e7 ⊢
  generalize ckD (ckR w) = v6 at e6 e7
  generalize brkD w = v5 at e5 e7
  generalize lapsD w = v4 at e4 e7
  generalize bndD w = v3 at e3 e7
  generalize cC.enc (jts (atC w 0)) = v2 at e2 e7
  generalize cC.enc (atC w 0) = c at g0 e2
  unfold eA eV
  generalize cW.enc w = x at g0 e1 e3 e4 e5 e6 ⊢
  simp [law_B0_s9, esc, escs, e1, g0, e2, e3, e4, e5, e6, e7]
/-! after the draws of a brick and a place -/
def spD (c : Crs) : D := .list ((endsP c).map cP.enc)
theorem sp_at (hk : k < w.length) : dIx (.list (w.map spD)) (.int (k : Int)) = some (spD (atC w k)) := by
  have : atC w k = w[k] := by simp [atC, hk]
  rw [this]
  show atI _ _ = _
  rw [PV.atI_get (by simpa using hk), List.getElem_map]
theorem k12 (hw : WOk wide w) : ex optM C0 SS G0 law_B0_s12 (eV t s3 (.sh (cW.enc w)) s5 s6 s7 s8 s10 s11 s12 s18 s19 .no .no .no .no .no .no .no) = some (.nx (eV t s3 (.sh (cW.enc w)) s5 s6 s7 s8 s10 s11 s12 s18 s19 (.ow (.list (w.map spD))) .no .no .no .no .no .no)) := by
  have cc : compL optM (oStep C0 SS G0 (.nm 13) .yes (.call id_law_ends (.cons (.var 13) .nil)) (eV t s3 (.sh (cW.enc w)) s5 s6 s7 s8 s10 s11 s12 s18 s19 .no .no .no .no .no .no .no)) (w.map cC.enc) = some (w.map spD) := by
    refine compL_all fun c hc => ?_
    have e := SS_law_ends (c := c) (by have := hw.l9 c hc; omega)
    show _ = some (some (spD c))
    have e : SS id_law_ends [cC.enc c] = some (spD c) := e
    generalize spD c = v at e ⊢
    generalize cC.enc c = y at e ⊢
    unfold eV
    generalize cW.enc w = x
    simp [oStep, e]
  have it : iter? (cW.enc w) = some (w.map cC.enc) := rfl
  generalize w.map spD = v at cc ⊢
  generalize w.map cC.enc = u at it cc
  unfold eV at cc ⊢
  generalize cW.enc w = x at it cc ⊢
  simp [law_B0_s12, esc, escs, escS, it, cc]
theorem k13 (hw : WOk wide w) (hk : k < w.length) (hp : 0 ≤ p ∧ p < wide) : ex optM C0 SS G0 law_B0_s13 (eV t s3 (.sh (cW.enc w)) s5 s6 s7 (.sh (.int k)) (.sh (.int p)) s11 s12 s18 s19 (.ow (.list (w.map spD))) .no .no .no .no .no .no) = some (.nx (eV t s3 (.sh (cW.enc w)) s5 s6 s7 (.sh (.int k)) (.sh (.int p)) s11 s12 s18 s19 (.ow (.list (w.map spD))) (.sh (cP.enc (hereP (atC w k) p))) .no .no .no .no .no)) := by
  have g := sp_at hk
  have hne := here_ne (hw.cr hk) hp
  have hh : ∃ r, hereL (atC w k) p = hereP (atC w k) p :: r := by
    unfold hereP
    cases e : hereL (atC w k) p with
    | nil => exact absurd e hne
    | cons x r => exact ⟨r, rfl⟩
  obtain ⟨r, hr⟩ := hh
  have cc : ∀ s20 : PV.Slot, compL optM (oStep C0 SS G0 (.nm 30) (.chain .le .lt (.ix (.var 30) (.int 0)) (.var 10) (.ix (.var 30) (.int 1))) (.var 30) (eV t s3 (.sh (cW.enc w)) s5 s6 s7 (.sh (.int k)) (.sh (.int p)) s11 s12 s18 s19 s20 .no .no .no .no .no .no)) ((endsP (atC w k)).map cP.enc) = some ((hereL (atC w k) p).map cP.enc) := fun s20 => by
    unfold hereL
    refine compL_fil (p := fun s : Int × Int => decide (s.1 ≤ p) && decide (p < s.2)) fun s _ => ?_
    rw [e_P]
    unfold eV
    generalize cW.enc w = x
    by_cases q1 : s.1 ≤ p <;> by_cases q2 : p < s.2 <;> simp [oStep, q1, q2]
  have it : iter? (spD (atC w k)) = some ((endsP (atC w k)).map cP.enc) := rfl
  have i0 : dIx (.list ((hereL (atC w k) p).map cP.enc)) (.int 0) = some (cP.enc (hereP (atC w k) p)) := by
    rw [hr, List.map_cons]
    exact ix0_l
  have sl : ∀ e : E, slotOf e (cP.enc (hereP (atC w k) p)) = .sh (cP.enc (hereP (atC w k) p)) := fun e => slot_tup
  generalize cP.enc (hereP (atC w k) p) = u at i0 sl ⊢
  generalize (hereL (atC w k) p).map cP.enc = q at cc i0
  generalize (endsP (atC w k)).map cP.enc = l at it cc
  generalize spD (atC w k) = y at g it
  generalize w.map spD = sp at g ⊢
  unfold eV at cc ⊢
  generalize cW.enc w = x at cc ⊢
  simp [law_B0_s13, esc, escs, escS, g, it, cc, i0, sl]
theorem k16 {x : D} : ex optM C0 SS G0 law_B0_s16 (eV t s3 (.sh x) s5 s6 s7 s8 s10 s11 s12 s18 s19 s20 s21 s22 s23 .no .no .no) = some (.nx (eV t s3 (.sh x) s5 s6 s7 s8 s10 s11 s12 s18 s19 s20 s21 s22 s23 (.ow (.list [])) .no .no)) := by
  simp [law_B0_s16, eV, esc, escs]
theorem k17 {x : D} (hl : w.length ≤ 10) : ex optM C0 SS G0 law_B0_s17 (eV t s3 (.sh x) s5 s6 s7 s8 s10 s11 s12 s18 s19 (.ow (.list (w.map spD))) s21 (.sh (.int b)) (.sh (.int e)) (.ow (.list [])) .no .no) = some (.nx (eV t s3 (.sh x) s5 s6 s7 s8 s10 s11 s12 s18 s19 (.sh (.list (w.map spD))) s21 (.sh (.int b)) (.sh (.int e)) (.ow (.list ((w.map fun c => cutP c b e).map cC.enc))) .no .no)) := by
  have kf := forL_fold (g := fBody C0 SS G0 (.nm 17) law_B2) (ρ0 := eV t s3 (.sh x) s5 s6 s7 s8 s10 s11 s12 s18 s19 (.sh (.list (w.map spD))) s21 (.sh (.int b)) (.sh (.int e)) (.ow (.list [])) .no .no) spD
    (fun s : Wal => eV t s3 (.sh x) s5 s6 s7 s8 s10 s11 s12 s18 s19 (.sh (.list (w.map spD))) s21 (.sh (.int b)) (.sh (.int e)) (.ow (.list (s.map cC.enc))) .no .no) (fun s c => s ++ [cutP c b e]) (fun s xs => s.length + xs.length ≤ 10) (fun s c xs hI => by
      have it : iter? (spD c) = some ((endsP c).map cP.enc) := rfl
      have cc : ∀ s17 s24 : PV.Slot, compL optM (oStep C0 SS G0 (.nm 30) (.cmp .gt (.call id_law_shared (.cons (.var 30) (.cons (.tup (.cons (.var 22) (.cons (.var 23) .nil))) .nil))) (.int 0)) (.call id_law_shared (.cons (.var 30) (.cons (.tup (.cons (.var 22) (.cons (.var 23) .nil))) .nil))) ((eV t s3 (.sh x) s5 s6 s7 s8 s10 s11 s12 s18 s19 (.sh (.list (w.map spD))) s21 (.sh (.int b)) (.sh (.int e)) s24 .no .no).set 17 s17)) ((endsP c).map cP.enc) = some ((cutP c b e).map cInt.enc) := fun s17 s24 => by
        rw [← cut_law, List.map_map]
        refine compL_fil (p := fun s => decide (0 < ovl s (b, e))) fun s _ => ?_
        have e1 := SS_law_shared s (b, e)
        rw [show cP.enc (b, e) = .tuple [.int b, .int e] from rfl] at e1
        show _ = some (if _ then some (PyData.int (ovl s (b, e))) else none)
        generalize ovl s (b, e) = v at e1 ⊢
        generalize cP.enc s = u at e1 ⊢
        generalize w.map spD = sp
        unfold eV
        simp only [List.set]
        by_cases q : 0 < v <;> simp [oStep, e1, q]
      have et : dBi .tuple (.list ((cutP c b e).map cInt.enc)) = some (cC.enc (cutP c b e)) := rfl
      have hlen : (s.map cC.enc).length < LINE := by simp at hI ⊢; unfold LINE; omega
      refine ⟨⟨(eV t s3 (.sh x) s5 s6 s7 s8 s10 s11 s12 s18 s19 (.sh (.list (w.map spD))) s21 (.sh (.int b)) (.sh (.int e)) (.ow (.list ((s ++ [cutP c b e]).map cC.enc))) .no .no).set 17 (.sh (spD c)), ?_, by simp [eV]⟩, by simp at hI ⊢; omega⟩
      rw [List.map_append, List.map_cons, List.map_nil]
      generalize cC.enc (cutP c b e) = v at et ⊢
      generalize (cutP c b e).map cInt.enc = u at cc et
      generalize (endsP c).map cP.enc = l at it cc
      generalize spD c = y at it ⊢
      generalize s.map cC.enc = sv at hlen ⊢
      generalize w.map spD = sp at cc ⊢
      unfold eV at cc ⊢
      simp only [List.set] at cc
      simp [fBody, law_B2, law_B2_s0, esc, escs, escS, it, cc, et, hlen]) w [] (by simp; omega)
  have ez : ∀ (xs s : Wal), xs.foldl (fun s c => s ++ [cutP c b e]) s = s ++ xs.map fun c => cutP c b e := fun xs => by
    induction xs with
    | nil => intro s; simp
    | cons x xs ih => intro s; simp [ih]
  rw [ez, List.nil_append] at kf
  simp only [List.map_nil] at kf
  generalize (w.map fun c => cutP c b e).map cC.enc = u at kf ⊢
  generalize w.map spD = sp at kf ⊢
  unfold eV at kf ⊢
  simp [law_B0_s17, esc, escs, escF, kf]
def hV (w : Wal) (k : Nat) (p : Int) : D := cP.enc ((hereP (atC w k) p).1, (hereP (atC w k) p).2 - (hereP (atC w k) p).1)
def due2 (w : Wal) (k : Nat) (p b e : Int) : D := .tuple [hV w k p, cW.enc (w.map List.reverse), cW.enc (w.map fun c => cutP c b e), .int (w.map fun c => ((c.length : Int) - 1)).sum]
theorem k18 (hw : WOk wide w) (h5 : s5 = .ow (.list (w.map rowD)) ∨ s5 = .sh (.list (w.map rowD))) : ex optM C0 SS G0 law_B0_s18 (eV t s3 (.sh (cW.enc w)) s5 s6 s7 s8 s10 s11 s12 s18 s19 s20 (.sh (cP.enc (hereP (atC w k) p))) s22 s23 (.ow (.list ((w.map fun c => cutP c b e).map cC.enc))) .no .no) = some (.nx (eV t s3 (.sh (cW.enc w)) s5 s6 s7 s8 s10 s11 s12 (.sh (due2 w k p b e)) s19 s20 (.sh (cP.enc (hereP (atC w k) p))) s22 s23 (.ow (.list ((w.map fun c => cutP c b e).map cC.enc))) .no .no)) := by
  have s5v : s5.val = some (.list (w.map rowD)) := by rcases h5 with rfl | rfl <;> rfl
  have c1 : ∀ s18 s24 : PV.Slot, compL optM (oStep C0 SS G0 (.nm 13) .yes (.rev (.var 13)) (eV t s3 (.sh (cW.enc w)) s5 s6 s7 s8 s10 s11 s12 s18 s19 s20 (.sh (cP.enc (hereP (atC w k) p))) s22 s23 s24 .no .no)) (w.map cC.enc) = some ((w.map List.reverse).map cC.enc) := fun s18 s24 => by
    rw [List.map_map]
    refine compL_all fun c _ => ?_
    show _ = some (some (cC.enc c.reverse))
    unfold eV
    generalize cP.enc (hereP (atC w k) p) = u
    generalize cW.enc w = x
    simp [oStep, e_C]
  have c2' : ∀ s18 s24 : PV.Slot, compL optM (oStep C0 SS G0 (.nm 17) .yes (.bi .len (.var 17)) (eV t s3 (.sh (cW.enc w)) s5 s6 s7 s8 s10 s11 s12 s18 s19 s20 (.sh (cP.enc (hereP (atC w k) p))) s22 s23 s24 .no .no)) (w.map rowD) = some (w.map fun c => .int ((c.length : Int) - 1)) := fun s18 s24 => by
    refine compL_all fun c hc => ?_
    have hl : ((jts c).length : Int) = (c.length : Int) - 1 := by
      have := jts_len c
      have := (hw.it c hc).len hw.wd
      omega
    have il : dBi .len (rowD c) = some (.int ((c.length : Int) - 1)) := by rw [← hl]; simp [rowD]
    generalize rowD c = y at il ⊢
    unfold eV
    generalize cP.enc (hereP (atC w k) p) = u
    generalize cW.enc w = x
    simp [oStep, il]
  have es := i_sumf (xs := w) (f := fun c : Crs => (c.length : Int) - 1)
  have it1 : iter? (cW.enc w) = some (w.map cC.enc) := rfl
  have et1 : dBi .tuple (.list ((w.map List.reverse).map cC.enc)) = some (cW.enc (w.map List.reverse)) := rfl
  have et2 : dBi .tuple (.list ((w.map fun c => cutP c b e).map cC.enc)) = some (cW.enc (w.map fun c => cutP c b e)) := rfl
  have it2 : iter? (.list (w.map rowD)) = some (w.map rowD) := rfl
  unfold due2 hV
  rw [e_P] at c1 c2' ⊢
  rw [e_P]
  generalize (w.map fun c => ((c.length : Int) - 1)).sum = v1 at es ⊢
  generalize (w.map fun c => PyData.int ((c.length : Int) - 1)) = v2 at es c2'
  generalize cW.enc (w.map fun c => cutP c b e) = v3 at et2 ⊢
  generalize (w.map fun c => cutP c b e).map cC.enc = v4 at et2 ⊢
  generalize cW.enc (w.map List.reverse) = v5 at et1 ⊢
  generalize (w.map List.reverse).map cC.enc = v6 at et1 c1
  generalize w.map rowD = v7 at s5v c2' it2
  generalize w.map cC.enc = v8 at it1 c1
  generalize hereP (atC w k) p = hp at c1 c2' ⊢
  unfold eV at c1 c2' ⊢
  generalize cW.enc w = x at it1 c1 c2' ⊢
  simp [law_B0_s18, esc, escs, escS, s5v, it1, c1, et1, et2, c2', es]
theorem psq_W (w : Wal) (B : Nat) (h : ∀ c ∈ w, c.length ≤ B) : psq (cW.enc w) ≤ (B + 1) * w.length + 1 := by
  rw [e_W]
  show psqs (w.map cC.enc) + 1 ≤ _
  induction w with
  | nil => simp [psqs]
  | cons c w ih =>
    have h1 := h c (by simp)
    have h2 := ih fun d hd => h d (by simp [hd])
    simp only [List.map_cons, psqs, e_C, psq, psqs_int, List.length_cons, Nat.mul_add]
    omega
theorem k19 (hw : WOk wide w) (hk : k < w.length) (hp : 0 ≤ p ∧ p < wide) : ex optM C0 SS G0 law_B0_s19 (eV t s3 (.sh (cW.enc w)) s5 s6 s7 (.sh (.int k)) (.sh (.int p)) s11 s12 (.sh (due2 w k p b e)) s19 s20 s21 (.sh (.int b)) (.sh (.int e)) s24 s25 s26) = some (.nx (eV t s3 (.sh (cW.enc w)) s5 s6 s7 (.sh (.int k)) (.sh (.int p)) s11 s12 (.sh (due2 w k p b e)) s19 s20 s21 (.sh (.int b)) (.sh (.int e)) s24 s25 s26)) := by
  have hl := hw.len
  have hne := here_ne (hw.cr hk) hp
  have e1 : SS id_brick_at [cW.enc w, .int k, .int p] = some (hV w k p) := spec_of (p := fun z : Wal × Nat × Int => okW z.1 && decide (z.2.1 < z.1.length) && !(hereL (atC z.1 z.2.1) z.2.2).isEmpty) (f := fun z => cP.enc ((hereP (atC z.1 z.2.1) z.2.2).1, (hereP (atC z.1 z.2.1) z.2.2).2 - (hereP (atC z.1 z.2.1) z.2.2).1)) (A3_enc cW cNat cInt w k p) (by
    simp only [okW_of hw, Bool.true_and, hk, decide_true]
    simpa using hne)
  have e2 : SS id_mirrored [cW.enc w] = some (cW.enc (w.map List.reverse)) := spec_of (p := okW) (f := fun w : Wal => cW.enc (w.map List.reverse)) (A1_enc cW w) (okW_of hw)
  have e3 : SS id_cut_out [cW.enc w, .int b, .int e] = some (cW.enc (w.map fun c => cutP c b e)) := spec_of (p := fun z : Wal × Int × Int => okW z.1) (f := fun z => cW.enc (z.1.map fun c => cutP c z.2.1 z.2.2)) (A3_enc cW cInt cInt w b e) (okW_of hw)
  have e4 : SS id_joints_in [cW.enc w] = some (.int (w.map fun c => ((c.length : Int) - 1)).sum) := spec_of (p := okW) (f := fun w : Wal => PyData.int (w.map fun c : Crs => ((c.length : Int) - 1)).sum) (A1_enc cW w) (okW_of hw)
  have hs : shal 10 (due2 w k p b e) = true := by
    show [hV w k p, cW.enc (w.map List.reverse), cW.enc (w.map fun c => cutP c b e), PyData.int (w.map fun c => ((c.length : Int) - 1)).sum].all (shal 9) = true
    have a1 : ∀ u : Wal, shal 9 (cW.enc u) = true := fun u => shal_mono _ (n := 2) (by decide) (ok_W.sh u)
    simp only [List.all_cons, List.all_nil, a1, Bool.and_true, Bool.true_and]
    rfl
  have hz : psq (due2 w k p b e) ≤ 100000 := by
    have b1 := psq_W (w.map List.reverse) 9 fun c hc => by
      obtain ⟨d, hd, rfl⟩ := List.mem_map.mp hc
      have := hw.l9 d hd
      simpa using this
    have b2 := psq_W (w.map fun c => cutP c b e) 9 fun c hc => by
      obtain ⟨d, hd, rfl⟩ := List.mem_map.mp hc
      have := hw.l9 d hd
      have : (cutP d b e).length ≤ ((endsP d).map fun s => cutS (b, e) s).length := List.length_filter_le _ _
      simp [endsP] at this
      omega
    rw [List.length_map] at b1 b2
    have b3 : psq (hV w k p) = 3 := rfl
    unfold due2
    simp only [psq, psqs, b3]
    omega
  have e5 := SS_law_same (.par _ (.refl _ hs)) hz
  have ed : due2 w k p b e = .tuple [hV w k p, cW.enc (w.map List.reverse), cW.enc (w.map fun c => cutP c b e), .int (w.map fun c => ((c.length : Int) - 1)).sum] := rfl
  generalize due2 w k p b e = v at e5 ed ⊢
  generalize (w.map fun c => ((c.length : Int) - 1)).sum = v4 at e4 ed
  generalize cW.enc (w.map fun c => cutP c b e) = v3 at e3 ed
  generalize cW.enc (w.map List.reverse) = v2 at e2 ed
  generalize hV w k p = v1 at e1 ed
  unfold eV
  generalize cW.enc w = x at e1 e2 e3 e4 ⊢
  simp [law_B0_s19, esc, escs, e1, e2, e3, e4, ← ed, e5]
theorem span_at (hk : k < w.length) (hn : n < (atC w k).length) : dIx (spD (atC w k)) (.int (n : Int)) = some (cP.enc (endAt (atC w k) n)) := lends_at hn
theorem same_set (l : List Nat) (h : l.length ≤ 1000) : SS id_law_same [(cT cNat).enc l, (cT cNat).enc l] = some (.bool true) := by
  refine SS_law_same (.par _ (.refl _ (shal_mono _ (n := 1) (by decide) ((ok_T ok_nat).sh l)))) ?_
  have : ∀ l : List Nat, psqs (l.map cNat.enc) = l.length := fun l => by
    induction l with
    | nil => rfl
    | cons x l ih => simp [psqs, psq, ih]; omega
  rw [e_T]
  show psqs (l.map cNat.enc) + 1 ≤ _
  rw [this]
  omega
theorem k20 (hw : WOk wide w) (hk : k < w.length) (hn : n < (atC w k).length) : ex optM C0 SS G0 law_B0_s20 (eV t s3 (.sh (cW.enc w)) s5 s6 s7 (.sh (.int k)) s10 s11 s12 s18 (.sh (.int n)) (.sh (.list (w.map spD))) s21 s22 s23 s24 .no .no) = some (.nx (eV t s3 (.sh (cW.enc w)) s5 s6 s7 (.sh (.int k)) s10 s11 s12 s18 (.sh (.int n)) (.sh (.list (w.map spD))) s21 s22 s23 s24 .no .no)) := by
  have il := w_len w
  by_cases c : k + 1 < w.length
  · have g1 := w_at (w := w) (k := k + 1) c
    have g3 := sp_at (w := w) (k := k + 1) c
    rw [show ((k + 1 : Nat) : Int) = (k : Int) + 1 by omega] at g1 g3
    have g2 := sp_at (w := w) (k := k) hk
    have q1 := span_at hk hn
    have il2 := c_len (atC w (k + 1))
    have ok := okR_nat (n := (atC w (k + 1)).length) (by have := hw.cl c; omega)
    have er := rng_nat (atC w (k + 1)).length
    have e1 : SS id_upper_bricks [cW.enc w, .int k, .int n] = some ((cT cNat).enc (touP (atC w (k + 1)) (endAt (atC w k) n))) := spec_of (p := fun z : Wal × Nat × Nat => okW z.1 && decide (z.2.1 + 1 < z.1.length ∧ z.2.2 < (atC z.1 z.2.1).length)) (f := fun z => (cT cNat).enc (touP (atC z.1 (z.2.1 + 1)) (endAt (atC z.1 z.2.1) z.2.2))) (A3_enc cW cNat cNat w k n) (by simp [okW_of hw, c, hn])
    have cc : compL optM (oStep C0 SS G0 (.nm 26) (.cmp .gt (.call id_law_shared (.cons (.ix (.ix (.var 20) (.var 8)) (.var 19)) (.cons (.ix (.ix (.var 20) (.bin .add (.var 8) (.int 1))) (.var 26)) .nil))) (.int 0)) (.var 26) (eV t s3 (.sh (cW.enc w)) s5 s6 s7 (.sh (.int k)) s10 s11 s12 s18 (.sh (.int n)) (.sh (.list (w.map spD))) s21 s22 s23 s24 .no .no)) ((List.range (atC w (k + 1)).length).map cNat.enc) = some ((touP (atC w (k + 1)) (endAt (atC w k) n)).map cNat.enc) := by
      rw [← tou_law (hw.cr c) (end_lt (hw.cr hk) hn)]
      refine compL_fil (p := fun m => decide (0 < ovl (endAt (atC w k) n) (endAt (atC w (k + 1)) m))) fun m hm => ?_
      have q2 := span_at c (List.mem_range.mp hm)
      have e2 := SS_law_shared (endAt (atC w k) n) (endAt (atC w (k + 1)) m)
      show _ = some (if _ then some (PyData.int (m : Int)) else none)
      rw [e_nat]
      generalize ovl (endAt (atC w k) n) (endAt (atC w (k + 1)) m) = v at e2 ⊢
      generalize cP.enc (endAt (atC w k) n) = u1 at q1 e2
      generalize cP.enc (endAt (atC w (k + 1)) m) = u2 at q2 e2
      generalize spD (atC w k) = y1 at g2 q1
      generalize spD (atC w (k + 1)) = y2 at g3 q2
      generalize w.map spD = sp at g2 g3 ⊢
      unfold eV
      generalize cW.enc w = x
      by_cases q : 0 < v <;> simp [oStep, g2, g3, q1, q2, e2, q]
    have et : dBi .tuple (.list ((touP (atC w (k + 1)) (endAt (atC w k) n)).map cNat.enc)) = some ((cT cNat).enc (touP (atC w (k + 1)) (endAt (atC w k) n))) := rfl
    have es := same_set (touP (atC w (k + 1)) (endAt (atC w k) n)) (by
      have : (touP (atC w (k + 1)) (endAt (atC w k) n)).length ≤ (List.range (atC w (k + 1)).length).length := List.length_filter_le _ _
      have := hw.cl c
      rw [List.length_range] at *
      omega)
    have c' : (k : Int) + 1 < (w.length : Int) := by omega
    generalize (cT cNat).enc (touP (atC w (k + 1)) (endAt (atC w k) n)) = v at e1 et es
    generalize (touP (atC w (k + 1)) (endAt (atC w k) n)).map cNat.enc = u at cc et
    generalize (List.range (atC w (k + 1)).length).map cNat.enc = r at er cc
    generalize ((atC w (k + 1)).length : Int) = nn at il2 ok er
    generalize cC.enc (atC w (k + 1)) = y at g1 il2
    generalize (w.length : Int) = nw at il c'
    generalize w.map spD = sp at cc ⊢
    unfold eV at cc ⊢
    generalize cW.enc w = x at il g1 e1 cc ⊢
    simp [law_B0_s20, esc, escs, escS, il, c', e1, g1, il2, ok, er, cc, et, es]
  · have c' : ¬ (k : Int) + 1 < (w.length : Int) := by omega
    generalize (w.length : Int) = nw at il c'
    generalize w.map spD = sp
    unfold eV
    generalize cW.enc w = x at il ⊢
    simp [law_B0_s20, esc, escs, escS, il, c']
end
end PW

set_option maxHeartbeats 4000000
/-! Courses and joints: courses by draws; bent walls. -/
namespace PW
open PySem PySem.W PyProof.Rows L2 PV
/-- a course by draws -/
def gCourse : List D → W D := fun ds R => ∃ wide : Int, ds = [.int wide] ∧ (1 ≤ wide ∧ wide ≤ 9) ∧ ∀ c, CrOk wide c → R (cC.enc c)
theorem Wr.course {wide : Int} {Q : D → Prop} (hw : 1 ≤ wide ∧ wide ≤ 9) (h : ∀ c, CrOk wide c → Wr (Q (cC.enc c))) : Wr (gCourse [.int wide] Q) := Wr.mk ⟨wide, rfl, hw, fun c hc => (h c hc).out⟩
/-- a value by draws, with whether it is a wall -/
def gBent : List D → W D := fun ds R => ∃ (w : Wal) (wide : Int), WOk wide w ∧ ds = [cW.enc w] ∧ ∀ v b, sh v = true → laidB v = b → R (.tuple [v, .bool b])
theorem Wr.bent {w : Wal} {wide : Int} {Q : D → Prop} (hw : WOk wide w) (h : ∀ v b, sh v = true → laidB v = b → Wr (Q (.tuple [v, .bool b]))) : Wr (gBent [cW.enc w] Q) := Wr.mk ⟨w, wide, hw, rfl, fun v b h1 h2 => (h v b h1 h2).out⟩
def GG : Nat → List D → W D
  | 7 => gNext
  | 19 => gPick2
  | 20 => gCourse
  | 27 => gBent
  | _ => fun _ _ => False
abbrev FF : Nat → List D → W D := fun n ds => ofO (SS n ds)
@[simp] theorem GG_next {ds : List D} {Q : D → Prop} : GG id_law_next ds Q = gNext ds Q := rfl
@[simp] theorem GG_pick {ds : List D} {Q : D → Prop} : GG id_law_pick ds Q = gPick2 ds Q := rfl
theorem GG_bent {ds : List D} {Q : D → Prop} : GG id_law_bent ds Q = gBent ds Q := rfl
theorem GG_course {ds : List D} {Q : D → Prop} : GG id_law_course ds Q = gCourse ds Q := rfl
theorem hw_law_pick : ∀ ds R, GG id_law_pick ds R → exs wM C0 FF GG b_law_pick (.no :: (ds.map Slot.sh ++ List.replicate (n_law_pick.length - (1 + ds.length)) Slot.no)) fun f => (match f with
    | .nx _ => wM.pure PyData.none
    | .rt d => wM.pure d
    | .bk _ => wM.fail) R := by
  rintro ds R ⟨xs, e, h1, h2⟩
  rcases e with rfl | rfl <;>
  · unfold b_law_pick
    rw [WXs_cons]
    simp [esc, escs]
    refine ⟨h1, fun j j0 j1 => ?_⟩
    obtain ⟨k, rfl⟩ := Int.eq_ofNat_of_zero_le j0
    have hk : k < xs.length := by omega
    exact ⟨_, atI_get hk, h2 _ (List.getElem_mem hk)⟩
theorem wf_cons {s : S} {r : Ss} {ρ ρ' : PV.Env} {R : Fl → Prop} (h : ex optM C0 SS G0 s ρ = some (.nx ρ')) (q : Wr (exs wM C0 FF GG r ρ' R)) : Wr (exs wM C0 FF GG (.cons s r) ρ R) := Wr.cons h q
theorem wr_call {f : Nat} {ds : List D} {v : D} {Q : D → Prop} (h : SS f ds = some v) (q : Wr (Q v)) : Wr (FF f ds Q) := Wr.mk ⟨v, h, q.out⟩
theorem wf_ev {e : E} {d : D} {ρ : PV.Env} {Q : D → Prop} (h : ev optM C0 SS G0 e ρ = some d) (q : Wr (Q d)) : Wr (ev wM C0 FF GG e ρ Q) := Wr.mk (w_ev h q.out)
def eC (wide : Int) (c : Crs) (left : Int) (s4 : PV.Slot) : PV.Env := [.no, .sh (.int wide), .sh (cC.enc c), .sh (.int left), s4]
theorem hw_law_course : ∀ ds R, GG id_law_course ds R → exs wM C0 FF GG b_law_course (.no :: (ds.map Slot.sh ++ List.replicate (n_law_course.length - (1 + ds.length)) Slot.no)) fun f => (match f with
    | .nx _ => wM.pure PyData.none
    | .rt d => wM.pure d
    | .bk _ => wM.fail) R := by
  rintro ds R ⟨wide, rfl, hw, h⟩
  refine Wr.out ?_
  show Wr (exs wM C0 FF GG b_law_course [.no, .sh (.int wide), .no, .no, .no] _)
  unfold b_law_course
  refine wf_cons (ρ' := eC wide [] wide .no) ?_ ?_
  · have e : cC.enc [] = .tuple [] := rfl
    unfold eC
    rw [e]
    simp [esc, escs, setAll]
  rw [WXs_cons]
  have ef : ∀ c left s4, frz (esc true (.cmp .gt (.var 3) (.int 0))) (eC wide c left s4) = eC wide c left s4 := fun c left s4 => by
    unfold eC
    generalize cC.enc c = x
    simp [esc, escs]
  refine whl_R (fun n ρ => ∃ c left, ρ = eC wide c left .no ∧ left = (n : Int) ∧ c.sum + left = wide ∧ ∀ l ∈ c, 1 ≤ l ∧ l ≤ 4) ⟨wide.toNat, [], wide, by rw [ef], by omega, by simp, by simp⟩ fun n ρ1 hJ => ?_
  have hJ : ∃ c left, ρ1 = eC wide c left .no ∧ left = (n : Int) ∧ c.sum + left = wide ∧ ∀ l ∈ c, 1 ≤ l ∧ l ≤ 4 := hJ
  obtain ⟨c, left, e1, e2, e3, hc⟩ := hJ
  subst e1
  have hlen : c.length ≤ 9 := by
    have := sum_len c hc
    omega
  refine ⟨decide (0 < left), by simp [eC], fun hb Q hQ => ?_, fun hb => ?_⟩
  · have hb : 0 < left := by simpa using hb
    unfold law_course_B0
    rw [WXs_cons, WX_asg]
    have ef1 : frz (esc false (.mn (.var 3) (.bin .add (.int 1) (.callw id_law_next (.cons (.int 4) .nil))))) (eC wide c left .no) = eC wide c left .no := by
      unfold eC
      generalize cC.enc c = x
      simp [esc, escs]
    have g3 : ∀ s4, getV (eC wide c left s4) 3 = some (.int left) := fun s4 => rfl
    rw [ef1, W_mn, W_var]
    refine Wr.ex _ (g3 _) ?_
    rw [W_bin, W_int, W_callw, Ws_cons, W_int, Ws_nil, GG_next]
    refine Wr.next (by decide) fun j j0 j1 => ?_
    refine Wr.ex (.int (1 + j)) rfl ?_
    refine Wr.ex (.int (mn left (1 + j))) rfl ?_
    rw [fl3_nx]
    have hm : 1 ≤ mn left (1 + j) ∧ mn left (1 + j) ≤ 4 ∧ mn left (1 + j) ≤ left := by unfold mn; split <;> omega
    generalize mn left (1 + j) = l at hm ⊢
    have hlen2 : (c.map cInt.enc).length + 1 ≤ LINE := by simp; unfold LINE; omega
    refine wf_cons (ρ' := eC wide (c ++ [l]) (left - l) (.sh (.int l))) ?_ ?_
    · skip
      unfold eC
      simp only [e_C, List.map_append, List.map_cons, List.map_nil]
      generalize c.map cInt.enc = y at hlen2 ⊢
      simp [esc, escs, setAll, hlen2]
    · rw [WXs_nil]
      have em : msk (frz (esc true (.cmp .gt (.var 3) (.int 0))) (eC wide [] wide .no)) (eC wide (c ++ [l]) (left - l) (.sh (.int l))) = eC wide (c ++ [l]) (left - l) .no := by
        rw [ef]
        simp [eC]
      refine hQ _ ⟨(left - l).toNat, by omega, c ++ [l], left - l, by rw [em, ef], by omega, ?_, fun x hx => ?_⟩
      · rw [List.sum_append]
        simp only [List.sum_cons, List.sum_nil]
        omega
      · rcases List.mem_append.mp hx with hx | hx
        · exact hc x hx
        · rw [List.mem_singleton.mp hx]
          omega
  · have hb : ¬ 0 < left := by simpa using hb
    have hl0 : left = 0 := by omega
    rw [fl3_nx, WXs_cons, WX_ret]
    have ef2 : frz (esc false (.var 2)) (eC wide c left .no) = eC wide c left .no := by
      unfold eC
      generalize cC.enc c = x
      simp [esc, escs]
    have g2 : ∀ x : D, getV [.no, .sh (.int wide), .sh x, .sh (.int left), .no] 2 = some x := fun x => rfl
    rw [ef2, W_var]
    refine Wr.ex _ (g2 (cC.enc c)) ?_
    rw [fl3_rt]
    exact Wr.mk (h c ⟨by omega, hc⟩)

theorem laid_app {wide : Int} {w : Wal} (hw : WOk wide w) (x : D) : laidB (.tuple (w.map cC.enc ++ [x])) = (crsB x && decide (sumD x = wide)) := by
  have hc : ∀ c ∈ w, crsB (cC.enc c) = true ∧ sumD (cC.enc c) = wide := fun c hc => by
    have h := hw.it c hc
    have hl := h.len hw.wd
    refine ⟨?_, ?_⟩
    · show (!(c.map cInt.enc).isEmpty && (c.map cInt.enc).all (fromB 1)) = true
      have : (c.map cInt.enc).isEmpty = false := by cases c <;> simp at hl ⊢
      rw [this, List.all_eq_true.mpr fun d hd => ?_]
      · rfl
      · obtain ⟨l, hl, rfl⟩ := List.mem_map.mp hd
        exact decide_eq_true (h.it l hl).1
    · show ((ints? (c.map PyData.int)).getD []).sum = wide
      rw [PV.ints_map]
      exact h.sum
  have hl := hw.len
  have hh : ∃ c r, w = c :: r := by
    cases w with
    | nil => simp at hl
    | cons c r => exact ⟨c, r, rfl⟩
  obtain ⟨c0, r, e0⟩ := hh
  have hd : (w.map cC.enc ++ [x]).headD .none = cC.enc c0 := by rw [e0]; rfl
  have he : (w.map cC.enc ++ [x]).isEmpty = false := by simp
  have h0 := (hc c0 (by rw [e0]; simp)).2
  have a1 : (w.map cC.enc).all crsB = true := List.all_eq_true.mpr fun d hd => by
    obtain ⟨c, h, rfl⟩ := List.mem_map.mp hd
    exact (hc c h).1
  have a2 : ((w.map cC.enc).all fun x => decide (sumD x = wide)) = true := List.all_eq_true.mpr fun d hd => by
    obtain ⟨c, h, rfl⟩ := List.mem_map.mp hd
    exact decide_eq_true (hc c h).2
  unfold laidB
  simp only [he, hd, h0, List.all_append, a1, a2, List.all_cons, List.all_nil, Bool.and_true, Bool.true_and, Bool.not_false]
theorem laid_self {wide : Int} {w : Wal} (hw : WOk wide w) : laidB (.tuple (w.map cC.enc)) = true := by
  have hl := hw.len
  rcases nil_or_app w with rfl | ⟨u, c, rfl⟩
  · simp at hl
  · cases u with
    | nil =>
      have h := hw.it c (by simp)
      have hl := h.len hw.wd
      have h1 : crsB (cC.enc c) = true := by
        show (!(c.map cInt.enc).isEmpty && (c.map cInt.enc).all (fromB 1)) = true
        have : (c.map cInt.enc).isEmpty = false := by cases c <;> simp at hl ⊢
        rw [this, List.all_eq_true.mpr fun d hd => ?_]
        · rfl
        · obtain ⟨l, hl, rfl⟩ := List.mem_map.mp hd
          exact decide_eq_true (h.it l hl).1
      show (!([cC.enc c] : List D).isEmpty && [cC.enc c].all crsB && [cC.enc c].all fun x => decide (sumD x = sumD ([cC.enc c].headD .none))) = true
      simp [h1]
    | cons d u =>
      have hw' : WOk wide (d :: u) := ⟨hw.wd, by simp at hl ⊢; omega, fun x hx => hw.it x (List.mem_append_left _ hx)⟩
      rw [List.map_append, show [c].map cC.enc = [cC.enc c] from rfl, laid_app hw']
      have h := hw.it c (by simp)
      have hl := h.len hw.wd
      have h1 : crsB (cC.enc c) = true := by
        show (!(c.map cInt.enc).isEmpty && (c.map cInt.enc).all (fromB 1)) = true
        have : (c.map cInt.enc).isEmpty = false := by cases c <;> simp at hl ⊢
        rw [this, List.all_eq_true.mpr fun d hd => ?_]
        · rfl
        · obtain ⟨l, hl, rfl⟩ := List.mem_map.mp hd
          exact decide_eq_true (h.it l hl).1
      have h2 : sumD (cC.enc c) = wide := by
        show ((ints? (c.map PyData.int)).getD []).sum = wide
        rw [PV.ints_map]
        exact h.sum
      rw [h1, h2]
      simp
theorem tmul {x : D} {n : Int} (h : 1 ≤ n ∧ n ≤ 9) : dBin .mul (.tuple [x]) (.int n) = some (.tuple (List.replicate n.toNat x)) := by
  rcases (show n = 1 ∨ n = 2 ∨ n = 3 ∨ n = 4 ∨ n = 5 ∨ n = 6 ∨ n = 7 ∨ n = 8 ∨ n = 9 by omega) with e | e | e | e | e | e | e | e | e <;> rw [e] <;> rfl
def pr (v : D) (b : Bool) : D := .tuple [v, .bool b]
theorem hw_law_bent : ∀ ds R, GG id_law_bent ds R → exs wM C0 FF GG b_law_bent (.no :: (ds.map Slot.sh ++ List.replicate (n_law_bent.length - (1 + ds.length)) Slot.no)) fun f => (match f with
    | .nx _ => wM.pure PyData.none
    | .rt d => wM.pure d
    | .bk _ => wM.fail) R := by
  rintro ds R ⟨w, wide, hw, rfl, h⟩
  refine Wr.out ?_
  show Wr (exs wM C0 FF GG b_law_bent [.no, .sh (cW.enc w), .no, .no, .no, .no] _)
  have hl := hw.len
  have hwd := hw.wd
  have hc := hw.cr (k := 0) (by omega)
  have g0 : dIx (cW.enc w) (.int 0) = some (cC.enc (atC w 0)) := w_at (w := w) (k := 0) (by omega)
  have s0 : dBi .sum (cC.enc (atC w 0)) = some (.int wide) := by rw [← hc.sum]; exact sum_c _
  have shW : (w.map cC.enc).all (shal 18) = true := shals_mono _ (n := 1) (by decide) (ok_C.all w)
  have shA : ∀ x : D, shal 18 x = true → sh (.tuple (w.map cC.enc ++ [x])) = true := fun x hx => by
    show (w.map cC.enc ++ [x]).all (shal 19) = true
    rw [List.all_append, shals_mono _ (n := 18) (by decide) shW]
    simp [shal_mono _ (n := 18) (m := 19) (by decide) hx]
  have la := fun x => laid_app hw x
  have hR : ∀ v b, sh v = true → laidB v = b → R (pr v b) := h
  have m1 := tmul (x := .str "1") hwd
  have m2 := tmul (x := .bool true) hwd
  have m3 := tmul (x := .int 1) hwd
  have l0 : dBi .list (cC.enc (atC w 0)) = some (.list ((atC w 0).map cInt.enc)) := rfl
  have lw : dBi .list (cW.enc w) = some (.list (w.map cC.enc)) := rfl
  have hadd : ∀ y : D, dBin .add (cW.enc w) (.tuple [y]) = some (.tuple (w.map cC.enc ++ [y])) := fun y => by
    rw [e_W, b_addt, if_pos (by simp; unfold LINE; omega)]
  have hall : ∀ v ∈ ([pr (cW.enc w) true, pr (cW.enc w) true, pr (.tuple [.tuple [.int 1]]) true, pr (.list (w.map cC.enc)) false, pr .none false, pr (.tuple []) false, pr (.tuple (w.map cC.enc ++ [.tuple []])) false,
      pr (.tuple (w.map cC.enc ++ [.list ((atC w 0).map cInt.enc)])) false, pr (.tuple (w.map cC.enc ++ [.tuple [.int (wide + 1)]])) false, pr (.tuple (w.map cC.enc ++ [.tuple [.int wide, .int 0]])) false,
      pr (.tuple (w.map cC.enc ++ [.tuple [.int (wide + 1), .int (-1)]])) false, pr (.tuple (w.map cC.enc ++ [.tuple (List.replicate wide.toNat (.str "1"))])) false, pr (.tuple (w.map cC.enc ++ [.tuple (List.replicate wide.toNat (.bool true))])) false,
      pr (.tuple (w.map cC.enc ++ [.int 5])) false, pr (.tuple (w.map cC.enc ++ [.tuple [.none]])) false, pr (.tuple (w.map cC.enc ++ [.tuple (List.replicate wide.toNat (.int 1))])) true] : List D), R v := by
    have hrep : ∃ n, wide.toNat = n + 1 := ⟨wide.toNat - 1, by omega⟩
    obtain ⟨n, hn⟩ := hrep
    have shr : ∀ (x : D) (m : Nat), shal 0 x = true → shal 18 (.tuple (List.replicate m x)) = true := fun x m hx => by
      show (List.replicate m x).all (shal 17) = true
      rw [List.all_eq_true]
      intro y hy
      rw [List.eq_of_mem_replicate hy]
      exact shal_mono _ (n := 0) (by decide) hx
    intro v hv
    simp only [List.mem_cons, List.not_mem_nil, or_false] at hv
    rcases hv with e | e | e | e | e | e | e | e | e | e | e | e | e | e | e | e <;> subst e
    · exact hR _ _ (ok_W.sh20 (by decide) w) (laid_self hw)
    · exact hR _ _ (ok_W.sh20 (by decide) w) (laid_self hw)
    · exact hR _ _ rfl (by decide)
    · exact hR _ _ (shals_mono _ (n := 18) (m := 19) (by decide) shW) rfl
    · exact hR _ _ rfl rfl
    · exact hR _ _ rfl rfl
    · exact hR _ _ (shA _ rfl) (by rw [la]; rfl)
    · exact hR _ _ (shA _ (shals_mono _ (n := 0) (m := 17) (by decide) (ok_int.all _))) (by rw [la]; rfl)
    · exact hR _ _ (shA _ rfl) (by rw [la]; simp [sumD, ints?]; intro _; omega)
    · exact hR _ _ (shA _ rfl) (by rw [la]; simp [crsB, fromB])
    · exact hR _ _ (shA _ rfl) (by rw [la]; simp [crsB, fromB])
    · exact hR _ _ (shA _ (shr _ _ rfl)) (by rw [la, hn]; simp [crsB, fromB, List.replicate_succ])
    · exact hR _ _ (shA _ (shr _ _ rfl)) (by rw [la, hn]; simp [crsB, fromB, List.replicate_succ])
    · exact hR _ _ (shA _ rfl) (by rw [la]; rfl)
    · exact hR _ _ (shA _ rfl) (by rw [la]; rfl)
    · refine hR _ _ (shA _ (shr _ _ rfl)) ?_
      rw [la]
      have e1 : crsB (.tuple (List.replicate wide.toNat (.int 1))) = true := by
        show (!(List.replicate wide.toNat (PyData.int 1)).isEmpty && (List.replicate wide.toNat (PyData.int 1)).all (fromB 1)) = true
        rw [List.all_eq_true.mpr fun y hy => by rw [List.eq_of_mem_replicate hy]; rfl, hn]
        rfl
      have e2 : sumD (.tuple (List.replicate wide.toNat (.int 1))) = wide := by
        show ((ints? (List.replicate wide.toNat (PyData.int 1))).getD []).sum = wide
        have : List.replicate wide.toNat (PyData.int 1) = (List.replicate wide.toNat (1 : Int)).map PyData.int := by simp
        rw [this, PV.ints_map]
        have hs : ∀ m : Nat, (List.replicate m (1 : Int)).sum = m := fun m => by
          induction m with
          | zero => rfl
          | succ m ih => rw [List.replicate_succ, List.sum_cons, ih]; omega
        show (List.replicate wide.toNat (1 : Int)).sum = wide
        rw [hs]
        omega
      rw [e1, e2]
      simp
  clear hR la
  have ll : ∀ a b : List D, a.length + b.length ≤ 100 → dBin .add (.list a) (.list b) = some (.list (a ++ b)) := fun a b hab => by rw [b_addl, if_pos (by unfold LINE; omega)]
  have e2 : ex optM C0 SS G0 (.asg 2 (.bi .sum (.ix (.var 1) (.int 0)))) [.no, .sh (cW.enc w), .no, .no, .no, .no] = some (.nx [.no, .sh (cW.enc w), .sh (.int wide), .no, .no, .no]) := by
    generalize cC.enc (atC w 0) = c at g0 s0
    generalize cW.enc w = x at g0 ⊢
    simp [esc, escs, g0, s0]
  generalize w.map cC.enc = W at lw hadd hall
  generalize (atC w 0).map cInt.enc = C at l0 hall
  generalize List.replicate wide.toNat (PyData.str "1") = r1 at m1 hall
  generalize List.replicate wide.toNat (PyData.bool true) = r2 at m2 hall
  generalize List.replicate wide.toNat (PyData.int 1) = r3 at m3 hall
  generalize cC.enc (atC w 0) = c0 at g0 s0 l0
  clear shW shA
  generalize cW.enc w = x at g0 lw hadd hall e2 ⊢
  unfold b_law_bent
  refine wf_cons e2 ?_
  refine wf_cons (ρ' := [.no, .sh x, .sh (.int wide), .ow (.list [pr x true, pr x true, pr (.tuple [.tuple [.int 1]]) true, pr (.list W) false, pr .none false, pr (.tuple []) false, pr (.tuple (W ++ [.tuple []])) false]), .no, .no]) (by
    simp [esc, escs, lw, hadd, pr]) ?_
  refine wf_cons (ρ' := [.no, .sh x, .sh (.int wide), .ow (.list [pr x true, pr x true, pr (.tuple [.tuple [.int 1]]) true, pr (.list W) false, pr .none false, pr (.tuple []) false, pr (.tuple (W ++ [.tuple []])) false]),
      .ow (.list [pr x true, pr x true, pr (.tuple [.tuple [.int 1]]) true, pr (.list W) false, pr .none false, pr (.tuple []) false, pr (.tuple (W ++ [.tuple []])) false, pr (.tuple (W ++ [.list C])) false, pr (.tuple (W ++ [.tuple [.int (wide + 1)]])) false, pr (.tuple (W ++ [.tuple [.int wide, .int 0]])) false]), .no]) (by
    simp [esc, escs, hadd, pr, g0, l0, LINE]) ?_
  refine wf_cons (ρ' := [.no, .sh x, .sh (.int wide), .ow (.list [pr x true, pr x true, pr (.tuple [.tuple [.int 1]]) true, pr (.list W) false, pr .none false, pr (.tuple []) false, pr (.tuple (W ++ [.tuple []])) false]),
      .ow (.list [pr x true, pr x true, pr (.tuple [.tuple [.int 1]]) true, pr (.list W) false, pr .none false, pr (.tuple []) false, pr (.tuple (W ++ [.tuple []])) false, pr (.tuple (W ++ [.list C])) false, pr (.tuple (W ++ [.tuple [.int (wide + 1)]])) false, pr (.tuple (W ++ [.tuple [.int wide, .int 0]])) false]),
      .ow (.list [pr (.tuple (W ++ [.tuple [.int (wide + 1), .int (-1)]])) false, pr (.tuple (W ++ [.tuple r1])) false, pr (.tuple (W ++ [.tuple r2])) false])]) (by
    simp [esc, escs, hadd, pr, m1, m2]) ?_
  rw [WXs_cons, WX_ret, W_callw, Ws_cons]
  refine wf_ev (d := .list [pr x true, pr x true, pr (.tuple [.tuple [.int 1]]) true, pr (.list W) false, pr .none false, pr (.tuple []) false, pr (.tuple (W ++ [.tuple []])) false,
      pr (.tuple (W ++ [.list C])) false, pr (.tuple (W ++ [.tuple [.int (wide + 1)]])) false, pr (.tuple (W ++ [.tuple [.int wide, .int 0]])) false,
      pr (.tuple (W ++ [.tuple [.int (wide + 1), .int (-1)]])) false, pr (.tuple (W ++ [.tuple r1])) false, pr (.tuple (W ++ [.tuple r2])) false,
      pr (.tuple (W ++ [.int 5])) false, pr (.tuple (W ++ [.tuple [.none]])) false, pr (.tuple (W ++ [.tuple r3])) true]) ?_ ?_
  · simp [esc, escs, hadd, pr, m3, LINE]
  · rw [Ws_nil, GG_pick]
    refine Wr.pick2 (by simp) fun v hv => ?_
    rw [fl3_rt]
    exact Wr.mk (hall v hv)
end PW

set_option maxHeartbeats 4000000
/-! Courses and joints: the draws, the law. -/
namespace PW
open PySem PySem.W PyProof.Rows L2 PV
def E0 : PV.Env := [.no, .no, .no, .no, .no, .no, .no, .no, .no, .no, .no, .no, .no, .no, .no, .no, .no, .no, .no, .no, .no, .no, .no, .no, .no, .no, .no, .no, .no, .no, .no, .no, .no]
section
variable {t wide : Int} {R' : Fl → Prop} {rest : Ss} {w : Wal} {k n : Nat} {p b e : Int}
variable {s3 s5 s6 s7 s8 s10 s11 s12 s18 s19 s20 s21 s22 s23 s24 s25 s26 : PV.Slot}
theorem w0 (h : ∀ wide : Int, 1 ≤ wide ∧ wide ≤ 9 → Wr (exs wM C0 FF GG rest (eV t (.sh (.int wide)) .no .no .no .no .no .no .no .no .no .no .no .no .no .no .no .no .no) R')) : Wr (exs wM C0 FF GG (.cons law_B0_s0 rest) (E0.set 2 (.sh (.int t))) R') := by
  rw [WXs_cons]
  unfold law_B0_s0
  rw [WX_asg]
  have ef : frz (esc false (.bin .add (.int 1) (.callw id_law_next (.cons (.int 9) .nil)))) (E0.set 2 (.sh (.int t))) = E0.set 2 (.sh (.int t)) := by simp [E0, esc, escs]
  rw [ef, W_bin, W_int, W_callw, Ws_cons, W_int, Ws_nil, GG_next]
  refine Wr.next (by decide) fun j j0 j1 => ?_
  refine Wr.ex (.int (1 + j)) rfl ?_
  rw [fl3_nx]
  exact h (1 + j) (by omega)
theorem w1 (hw : 1 ≤ wide ∧ wide ≤ 9) (h : ∀ w : Wal, WOk wide w → Wr (exs wM C0 FF GG rest (eA t wide (cW.enc w) .no .no .no .no .no .no) R')) : Wr (exs wM C0 FF GG (.cons law_B0_s1 rest) (eV t (.sh (.int wide)) .no .no .no .no .no .no .no .no .no .no .no .no .no .no .no .no .no) R') := by
  rw [WXs_cons]
  unfold law_B0_s1
  rw [WX_asg]
  have ef : frz (esc false (.bi .tuple (.comp [8] (.nm 8) (.r1 (.bin .add (.int 1) (.callw id_law_next (.cons (.int 4) .nil)))) .yes (.callw id_law_course (.cons (.var 3) .nil))))) (eV t (.sh (.int wide)) .no .no .no .no .no .no .no .no .no .no .no .no .no .no .no .no .no) = eV t (.sh (.int wide)) .no .no .no .no .no .no .no .no .no .no .no .no .no .no .no .no .no := by simp [eV, escS, esc, escs]
  have ew : wip [8] (eV t (.sh (.int wide)) .no .no .no .no .no .no .no .no .no .no .no .no .no .no .no .no .no) = eV t (.sh (.int wide)) .no .no .no .no .no .no .no .no .no .no .no .no .no .no .no .no .no := by simp [eV]
  rw [ef, W_bi, W_comp, ew, WS_r1, W_bin, W_int, W_callw, Ws_cons, W_int, Ws_nil, GG_next]
  refine Wr.next (by decide) fun j j0 j1 => ?_
  refine Wr.ex (.int (1 + j)) rfl (Wr.ex (1 + j) rfl (Wr.and (by unfold okR LINE; exact decide_eq_true (by omega)) ?_))
  refine compL_R (fun i ys => ∃ u : Wal, ys = u.map cC.enc ∧ u.length = i ∧ ∀ c ∈ u, CrOk wide c) (fun i x ys hx hI R2 hR => ?_) ⟨[], rfl, rfl, by simp⟩ (fun zs hI => ?_)
  · have hI : ∃ u : Wal, ys = u.map cC.enc ∧ u.length = i ∧ ∀ c ∈ u, CrOk wide c := hI
    obtain ⟨u, e, hl, ha⟩ := hI
    have hxx : ∃ k : Int, x = .int k := by
      have := List.mem_of_getElem? hx
      rw [rng_map] at this
      obtain ⟨k, _, e⟩ := List.mem_map.mp this
      exact ⟨_, e.symm⟩
    obtain ⟨k, rfl⟩ := hxx
    have g3 : getV ((eV t (.sh (.int wide)) .no .no .no .no .no .no .no .no .no .no .no .no .no .no .no .no .no).set 8 (.sh (.int k))) 3 = some (.int wide) := rfl
    rw [oStepW_yes (ρ' := (eV t (.sh (.int wide)) .no .no .no .no .no .no .no .no .no .no .no .no .no .no .no .no .no).set 8 (.sh (.int k))) rfl, W_callw, Ws_cons, W_var]
    refine Wr.ex _ g3 ?_
    rw [Ws_nil, GG_course]
    refine Wr.course hw fun c hc => ?_
    refine hR _ ⟨u ++ [c], by rw [e, List.map_append]; rfl, by simp [hl], fun d hd => ?_⟩
    rcases List.mem_append.mp hd with hd | hd
    · exact ha d hd
    · rw [List.mem_singleton.mp hd]
      exact hc
  · have hI : ∃ u : Wal, zs = u.map cC.enc ∧ u.length = (rng 0 (1 + j)).length ∧ ∀ c ∈ u, CrOk wide c := hI
    obtain ⟨u, e, hl, ha⟩ := hI
    rw [rng_map, List.length_map, List.length_range] at hl
    subst e
    have et : dBi .tuple (.list (u.map cC.enc)) = some (cW.enc u) := rfl
    refine Wr.ex _ et ?_
    rw [fl3_nx]
    exact h u ⟨hw, by omega, ha⟩
theorem w10 (hw : WOk wide w) (h : ∀ (k : Nat) (p : Int), k < w.length → 0 ≤ p ∧ p < wide → Wr (exs wM C0 FF GG rest (eV t (.sh (.int wide)) (.sh (cW.enc w)) s5 s6 s7 (.sh (.int k)) (.sh (.int p)) s11 s12 s18 .no .no .no .no .no .no .no .no) R')) : Wr (exs wM C0 FF GG (.cons law_B0_s10 rest) (eA t wide (cW.enc w) s5 s6 s7 s11 s12 s18) R') := by
  have hl := hw.len
  have hwd := hw.wd
  rw [WXs_cons]
  unfold law_B0_s10
  rw [WX_asgp]
  have ef : frz (escs (.cons (.callw id_law_next (.cons (.bi .len (.var 4)) .nil)) (.cons (.callw id_law_next (.cons (.var 3) .nil)) .nil))) (eA t wide (cW.enc w) s5 s6 s7 s11 s12 s18) = eA t wide (cW.enc w) s5 s6 s7 s11 s12 s18 := by
    unfold eA eV
    generalize cW.enc w = x
    simp [esc, escs]
  have il := w_len w
  have g4 : ∀ x : D, getV (eA t wide x s5 s6 s7 s11 s12 s18) 4 = some x := fun x => rfl
  have g3 : ∀ x : D, getV (eA t wide x s5 s6 s7 s11 s12 s18) 3 = some (.int wide) := fun x => rfl
  rw [ef, Ws_cons, W_callw, Ws_cons, W_bi, W_var]
  refine Wr.ex _ (g4 _) ?_
  refine Wr.ex _ il ?_
  rw [Ws_nil, GG_next]
  refine Wr.next (by omega) fun j j0 j1 => ?_
  obtain ⟨j, rfl⟩ := Int.eq_ofNat_of_zero_le j0
  rw [Ws_cons, W_callw, Ws_cons, W_var]
  refine Wr.ex _ (g3 _) ?_
  rw [Ws_nil, GG_next]
  refine Wr.next (by omega) fun q q0 q1 => ?_
  rw [Ws_nil]
  refine Wr.ex _ (show setAll _ _ _ _ = some (eV t (.sh (.int wide)) (.sh (cW.enc w)) s5 s6 s7 (.sh (.int j)) (.sh (.int q)) s11 s12 s18 .no .no .no .no .no .no .no .no) by
    generalize cW.enc w = x
    simp [setAll, eA, eV]) ?_
  rw [fl3_nx]
  exact h j q (by omega) ⟨q0, q1⟩
theorem w11 (hw : WOk wide w) (hk : k < w.length) (h : ∀ n : Nat, n < (atC w k).length → Wr (exs wM C0 FF GG rest (eV t s3 (.sh (cW.enc w)) s5 s6 s7 (.sh (.int k)) s10 s11 s12 s18 (.sh (.int n)) .no .no .no .no .no .no .no) R')) : Wr (exs wM C0 FF GG (.cons law_B0_s11 rest) (eV t s3 (.sh (cW.enc w)) s5 s6 s7 (.sh (.int k)) s10 s11 s12 s18 .no .no .no .no .no .no .no .no) R') := by
  have hc := hw.cl hk
  rw [WXs_cons]
  unfold law_B0_s11
  rw [WX_asg]
  have ef : frz (esc false (.callw id_law_next (.cons (.bi .len (.ix (.var 4) (.var 8))) .nil))) (eV t s3 (.sh (cW.enc w)) s5 s6 s7 (.sh (.int k)) s10 s11 s12 s18 .no .no .no .no .no .no .no .no) = eV t s3 (.sh (cW.enc w)) s5 s6 s7 (.sh (.int k)) s10 s11 s12 s18 .no .no .no .no .no .no .no .no := by
    unfold eV
    generalize cW.enc w = x
    simp [esc, escs]
  have g := w_at hk
  have il := c_len (atC w k)
  have e1 : ev optM C0 SS G0 (.bi .len (.ix (.var 4) (.var 8))) (eV t s3 (.sh (cW.enc w)) s5 s6 s7 (.sh (.int k)) s10 s11 s12 s18 .no .no .no .no .no .no .no .no) = some (.int (atC w k).length) := by
    generalize ((atC w k).length : Int) = nn at il ⊢
    generalize cC.enc (atC w k) = c at g il
    unfold eV
    generalize cW.enc w = x at g ⊢
    simp [g, il]
  rw [ef, W_callw, Ws_cons]
  refine wf_ev e1 ?_
  rw [Ws_nil, GG_next]
  refine Wr.next (by omega) fun j j0 j1 => ?_
  obtain ⟨j, rfl⟩ := Int.eq_ofNat_of_zero_le j0
  rw [fl3_nx]
  have hq := h j (by omega)
  unfold eV at hq ⊢
  generalize cW.enc w = x at hq ⊢
  simpa using hq
theorem w14 {x : D} (hw : 1 ≤ wide) (h : ∀ b : Int, 0 ≤ b ∧ b < wide → Wr (exs wM C0 FF GG rest (eV t (.sh (.int wide)) (.sh x) s5 s6 s7 s8 s10 s11 s12 s18 s19 s20 s21 (.sh (.int b)) .no .no .no .no) R')) : Wr (exs wM C0 FF GG (.cons law_B0_s14 rest) (eV t (.sh (.int wide)) (.sh x) s5 s6 s7 s8 s10 s11 s12 s18 s19 s20 s21 .no .no .no .no .no) R') := by
  rw [WXs_cons]
  unfold law_B0_s14
  rw [WX_asg]
  have ef : frz (esc false (.callw id_law_next (.cons (.var 3) .nil))) (eV t (.sh (.int wide)) (.sh x) s5 s6 s7 s8 s10 s11 s12 s18 s19 s20 s21 .no .no .no .no .no) = eV t (.sh (.int wide)) (.sh x) s5 s6 s7 s8 s10 s11 s12 s18 s19 s20 s21 .no .no .no .no .no := by simp [eV, esc, escs]
  have g3 : getV (eV t (.sh (.int wide)) (.sh x) s5 s6 s7 s8 s10 s11 s12 s18 s19 s20 s21 .no .no .no .no .no) 3 = some (.int wide) := rfl
  rw [ef, W_callw, Ws_cons, W_var]
  refine Wr.ex _ g3 ?_
  rw [Ws_nil, GG_next]
  refine Wr.next (by omega) fun j j0 j1 => ?_
  rw [fl3_nx]
  have hq := h j ⟨j0, j1⟩
  unfold eV at hq ⊢
  simpa using hq
theorem w15 {x : D} (hb : 0 ≤ b ∧ b < wide) (h : ∀ e : Int, Wr (exs wM C0 FF GG rest (eV t (.sh (.int wide)) (.sh x) s5 s6 s7 s8 s10 s11 s12 s18 s19 s20 s21 (.sh (.int b)) (.sh (.int e)) .no .no .no) R')) : Wr (exs wM C0 FF GG (.cons law_B0_s15 rest) (eV t (.sh (.int wide)) (.sh x) s5 s6 s7 s8 s10 s11 s12 s18 s19 s20 s21 (.sh (.int b)) .no .no .no .no) R') := by
  rw [WXs_cons]
  unfold law_B0_s15
  rw [WX_asg]
  have ef : frz (esc false (.bin .add (.bin .add (.var 22) (.int 1)) (.callw id_law_next (.cons (.bin .sub (.var 3) (.var 22)) .nil)))) (eV t (.sh (.int wide)) (.sh x) s5 s6 s7 s8 s10 s11 s12 s18 s19 s20 s21 (.sh (.int b)) .no .no .no .no) = eV t (.sh (.int wide)) (.sh x) s5 s6 s7 s8 s10 s11 s12 s18 s19 s20 s21 (.sh (.int b)) .no .no .no .no := by simp [eV, esc, escs]
  have g3 : getV (eV t (.sh (.int wide)) (.sh x) s5 s6 s7 s8 s10 s11 s12 s18 s19 s20 s21 (.sh (.int b)) .no .no .no .no) 3 = some (.int wide) := rfl
  have g22 : getV (eV t (.sh (.int wide)) (.sh x) s5 s6 s7 s8 s10 s11 s12 s18 s19 s20 s21 (.sh (.int b)) .no .no .no .no) 22 = some (.int b) := rfl
  rw [ef, W_bin, W_bin, W_var]
  refine Wr.ex _ g22 ?_
  rw [W_int]
  refine Wr.ex (.int (b + 1)) rfl ?_
  rw [W_callw, Ws_cons, W_bin, W_var]
  refine Wr.ex _ g3 ?_
  rw [W_var]
  refine Wr.ex _ g22 ?_
  refine Wr.ex (.int (wide - b)) rfl ?_
  rw [Ws_nil, GG_next]
  refine Wr.next (by omega) fun j j0 j1 => ?_
  refine Wr.ex (.int (b + 1 + j)) rfl ?_
  rw [fl3_nx]
  have hq := h (b + 1 + j)
  unfold eV at hq ⊢
  simpa using hq
def szs (w : Wal) (k n : Nat) : Crs := (endsP (atC w (k - 1))).map fun s => ovl (endAt (atC w k) n) s
theorem szs_len (w : Wal) (k n : Nat) : (szs w k n).length = (atC w (k - 1)).length := by simp [szs, endsP]
theorem szs_at {m : Nat} (hm : m < (atC w (k - 1)).length) : dIx (.list ((szs w k n).map cInt.enc)) (.int (m : Int)) = some (.int (ovl (endAt (atC w k) n) (endAt (atC w (k - 1)) m))) := by
  show atI _ _ = _
  rw [PV.atI_get (by rw [List.length_map, szs_len]; exact hm)]
  simp [szs, endsP]
theorem w21 (hw : WOk wide w) (hk : k < w.length) (hn : n < (atC w k).length) (h : ∀ s25 s26 : PV.Slot, Wr (exs wM C0 FF GG rest (eV t s3 (.sh (cW.enc w)) s5 s6 s7 (.sh (.int k)) s10 s11 s12 s18 (.sh (.int n)) (.sh (.list (w.map spD))) s21 s22 s23 s24 s25 s26) R')) : Wr (exs wM C0 FF GG (.cons law_B0_s21 rest) (eV t s3 (.sh (cW.enc w)) s5 s6 s7 (.sh (.int k)) s10 s11 s12 s18 (.sh (.int n)) (.sh (.list (w.map spD))) s21 s22 s23 s24 .no .no) R') := by
  rw [WXs_cons]
  unfold law_B0_s21
  rw [WX_ite]
  have ef : frz (esc true (.cmp .gt (.var 8) (.int 0))) (eV t s3 (.sh (cW.enc w)) s5 s6 s7 (.sh (.int k)) s10 s11 s12 s18 (.sh (.int n)) (.sh (.list (w.map spD))) s21 s22 s23 s24 .no .no) = eV t s3 (.sh (cW.enc w)) s5 s6 s7 (.sh (.int k)) s10 s11 s12 s18 (.sh (.int n)) (.sh (.list (w.map spD))) s21 s22 s23 s24 .no .no := by
    generalize w.map spD = sp
    generalize cW.enc w = x
    simp [eV, esc, escs]
  have e0 : ev optM C0 SS G0 (.cmp .gt (.var 8) (.int 0)) (eV t s3 (.sh (cW.enc w)) s5 s6 s7 (.sh (.int k)) s10 s11 s12 s18 (.sh (.int n)) (.sh (.list (w.map spD))) s21 s22 s23 s24 .no .no) = some (.bool (decide (0 < (k : Int)))) := by
    generalize w.map spD = sp
    generalize cW.enc w = x
    simp [eV]
  rw [ef]
  refine wf_ev e0 ?_
  refine Wr.ex (decide (0 < (k : Int))) rfl ?_
  by_cases c : 0 < k
  · rw [if_pos (by simpa using c)]
    have hk1 : k - 1 < w.length := by omega
    have g1 := sp_at hk1
    rw [show ((k - 1 : Nat) : Int) = (k : Int) - 1 by omega] at g1
    have g2 := sp_at hk
    have q1 := span_at hk hn
    have it : iter? (spD (atC w (k - 1))) = some ((endsP (atC w (k - 1))).map cP.enc) := rfl
    have cc : compL optM (oStep C0 SS G0 (.nm 30) .yes (.call id_law_shared (.cons (.ix (.ix (.var 20) (.var 8)) (.var 19)) (.cons (.var 30) .nil))) (eV t s3 (.sh (cW.enc w)) s5 s6 s7 (.sh (.int k)) s10 s11 s12 s18 (.sh (.int n)) (.sh (.list (w.map spD))) s21 s22 s23 s24 .no .no)) ((endsP (atC w (k - 1))).map cP.enc) = some ((szs w k n).map cInt.enc) := by
      unfold szs
      rw [List.map_map]
      refine compL_all fun s _ => ?_
      have e2 := SS_law_shared (endAt (atC w k) n) s
      show _ = some (some (PyData.int (ovl (endAt (atC w k) n) s)))
      generalize ovl (endAt (atC w k) n) s = v at e2 ⊢
      generalize cP.enc (endAt (atC w k) n) = u1 at q1 e2
      generalize cP.enc s = u2 at e2 ⊢
      generalize spD (atC w k) = y1 at g2 q1
      generalize w.map spD = sp at g2 ⊢
      unfold eV
      generalize cW.enc w = x
      simp [oStep, g2, q1, e2]
    refine wf_cons (ρ' := eV t s3 (.sh (cW.enc w)) s5 s6 s7 (.sh (.int k)) s10 s11 s12 s18 (.sh (.int n)) (.sh (.list (w.map spD))) s21 s22 s23 s24 (.ow (.list ((szs w k n).map cInt.enc))) .no) ?_ ?_
    · generalize (szs w k n).map cInt.enc = v at cc ⊢
      generalize (endsP (atC w (k - 1))).map cP.enc = l at it cc
      generalize spD (atC w (k - 1)) = y at g1 it
      generalize w.map spD = sp at g1 cc ⊢
      unfold eV at cc ⊢
      generalize cW.enc w = x at cc ⊢
      simp [esc, escs, escS, g1, it, cc]
    have hc1 := hw.cl hk1
    rw [WXs_cons, WX_asg]
    have il : dBi .len (.list ((szs w k n).map cInt.enc)) = some (.int (atC w (k - 1)).length) := by rw [i_lenl, List.length_map, szs_len]
    have ef2 : frz (esc false (.callw id_law_next (.cons (.bi .len (.var 25)) .nil))) (eV t s3 (.sh (cW.enc w)) s5 s6 s7 (.sh (.int k)) s10 s11 s12 s18 (.sh (.int n)) (.sh (.list (w.map spD))) s21 s22 s23 s24 (.ow (.list ((szs w k n).map cInt.enc))) .no) = eV t s3 (.sh (cW.enc w)) s5 s6 s7 (.sh (.int k)) s10 s11 s12 s18 (.sh (.int n)) (.sh (.list (w.map spD))) s21 s22 s23 s24 (.ow (.list ((szs w k n).map cInt.enc))) .no := by
      generalize (szs w k n).map cInt.enc = v
      generalize w.map spD = sp
      generalize cW.enc w = x
      simp [eV, esc, escs]
    have g25 : ∀ x sp v : D, getV (eV t s3 (.sh x) s5 s6 s7 (.sh (.int k)) s10 s11 s12 s18 (.sh (.int n)) (.sh sp) s21 s22 s23 s24 (.ow v) .no) 25 = some v := fun x sp v => rfl
    rw [ef2, W_callw, Ws_cons, W_bi, W_var]
    refine Wr.ex _ (g25 _ _ _) ?_
    refine Wr.ex _ il ?_
    rw [Ws_nil, GG_next]
    refine Wr.next (by omega) fun m m0 m1 => ?_
    obtain ⟨m, rfl⟩ := Int.eq_ofNat_of_zero_le m0
    have hm : m < (atC w (k - 1)).length := by omega
    rw [fl3_nx]
    have e5 : (eV t s3 (.sh (cW.enc w)) s5 s6 s7 (.sh (.int k)) s10 s11 s12 s18 (.sh (.int n)) (.sh (.list (w.map spD))) s21 s22 s23 s24 (.ow (.list ((szs w k n).map cInt.enc))) .no).set 26 (slotOf (.callw id_law_next (.cons (.bi .len (.var 25)) .nil)) (.int (m : Int))) = eV t s3 (.sh (cW.enc w)) s5 s6 s7 (.sh (.int k)) s10 s11 s12 s18 (.sh (.int n)) (.sh (.list (w.map spD))) s21 s22 s23 s24 (.ow (.list ((szs w k n).map cInt.enc))) (.sh (.int m)) := by
      generalize (szs w k n).map cInt.enc = v
      generalize w.map spD = sp
      generalize cW.enc w = x
      simp [eV]
    rw [e5]
    have hcr := hw.cr hk1
    have e6 : SS id_lower_bricks [cW.enc w, .int k, .int n] = some ((cT cNat).enc (touP (atC w (k - 1)) (endAt (atC w k) n))) := spec_of (p := fun z : Wal × Nat × Nat => okW z.1 && decide (0 < z.2.1 ∧ z.2.1 < z.1.length ∧ z.2.2 < (atC z.1 z.2.1).length)) (f := fun z => (cT cNat).enc (touP (atC z.1 (z.2.1 - 1)) (endAt (atC z.1 z.2.1) z.2.2))) (A3_enc cW cNat cNat w k n) (by simp [okW_of hw, c, hk, hn])
    have e7 : SS id_shared_stretch [cW.enc w, .int k, .int n, .int m] = some (.int (ovl (endAt (atC w k) n) (endAt (atC w (k - 1)) m))) := spec_of (p := fun z : Wal × Nat × Nat × Nat => okW z.1 && decide (0 < z.2.1 ∧ z.2.1 < z.1.length ∧ z.2.2.1 < (atC z.1 z.2.1).length ∧ z.2.2.2 < (atC z.1 (z.2.1 - 1)).length)) (f := fun z => .int (ovl (endAt (atC z.1 z.2.1) z.2.2.1) (endAt (atC z.1 (z.2.1 - 1)) z.2.2.2))) (A4_enc cW cNat cNat cNat w k n m) (by simp [okW_of hw, c, hk, hn, hm])
    have ok := okR_nat (n := (atC w (k - 1)).length) (by omega)
    have er := rng_nat (atC w (k - 1)).length
    have c2' : ∀ s25 : PV.Slot, s25.val = some (.list ((szs w k n).map cInt.enc)) → compL optM (oStep C0 SS G0 (.nm 32) (.cmp .gt (.ix (.var 25) (.var 32)) (.int 0)) (.var 32) (eV t s3 (.sh (cW.enc w)) s5 s6 s7 (.sh (.int k)) s10 s11 s12 s18 (.sh (.int n)) (.sh (.list (w.map spD))) s21 s22 s23 s24 s25 (.sh (.int m)))) ((List.range (atC w (k - 1)).length).map cNat.enc) = some ((touP (atC w (k - 1)) (endAt (atC w k) n)).map cNat.enc) := fun s25 h25 => by
      rw [← tou_law hcr (end_lt (hw.cr hk) hn)]
      refine compL_fil (p := fun m => decide (0 < ovl (endAt (atC w k) n) (endAt (atC w (k - 1)) m))) fun j hj => ?_
      have q := szs_at (w := w) (k := k) (n := n) (List.mem_range.mp hj)
      show _ = some (if _ then some (PyData.int (j : Int)) else none)
      rw [e_nat]
      generalize ovl (endAt (atC w k) n) (endAt (atC w (k - 1)) j) = v at q ⊢
      generalize (szs w k n).map cInt.enc = sv at q h25
      generalize w.map spD = sp
      unfold eV
      generalize cW.enc w = x
      by_cases z : 0 < v <;> simp [oStep, h25, q, z]
    have et : dBi .tuple (.list ((touP (atC w (k - 1)) (endAt (atC w k) n)).map cNat.enc)) = some ((cT cNat).enc (touP (atC w (k - 1)) (endAt (atC w k) n))) := rfl
    have g6 := szs_at (w := w) (k := k) (n := n) hm
    have hlen : (touP (atC w (k - 1)) (endAt (atC w k) n)).length ≤ 9 := by
      have : (touP (atC w (k - 1)) (endAt (atC w k) n)).length ≤ (List.range (atC w (k - 1)).length).length := List.length_filter_le _ _
      rw [List.length_range] at this
      omega
    have es : SS id_law_same [.tuple [(cT cNat).enc (touP (atC w (k - 1)) (endAt (atC w k) n)), .int (ovl (endAt (atC w k) n) (endAt (atC w (k - 1)) m))], .tuple [(cT cNat).enc (touP (atC w (k - 1)) (endAt (atC w k) n)), .int (ovl (endAt (atC w k) n) (endAt (atC w (k - 1)) m))]] = some (.bool true) := by
      refine SS_law_same (.par _ (.refl _ ?_)) ?_
      · show [(cT cNat).enc (touP (atC w (k - 1)) (endAt (atC w k) n)), .int (ovl (endAt (atC w k) n) (endAt (atC w (k - 1)) m))].all (shal 9) = true
        have := shal_mono _ (n := 1) (m := 9) (by decide) ((ok_T ok_nat).sh (touP (atC w (k - 1)) (endAt (atC w k) n)))
        simp only [List.all_cons, this, List.all_nil, Bool.and_true, Bool.true_and]
        rfl
      · have : ∀ l : List Nat, psqs (l.map cNat.enc) = l.length := fun l => by
          induction l with
          | nil => rfl
          | cons x l ih => simp [psqs, psq, ih]; omega
        simp only [psq, psqs, e_T, this]
        omega
    have c3 := c2' (.ow (.list ((szs w k n).map cInt.enc))) rfl
    have c4 := c2' (.sh (.list ((szs w k n).map cInt.enc))) rfl
    refine wf_cons (ρ' := eV t s3 (.sh (cW.enc w)) s5 s6 s7 (.sh (.int k)) s10 s11 s12 s18 (.sh (.int n)) (.sh (.list (w.map spD))) s21 s22 s23 s24 (.ow (.list ((szs w k n).map cInt.enc))) (.sh (.int m))) ?_ ?_
    · generalize (cT cNat).enc (touP (atC w (k - 1)) (endAt (atC w k) n)) = v at e6 et es
      generalize ovl (endAt (atC w k) n) (endAt (atC w (k - 1)) m) = v2 at e7 g6 es
      generalize (touP (atC w (k - 1)) (endAt (atC w k) n)).map cNat.enc = u at c3 c4 et
      generalize (List.range (atC w (k - 1)).length).map cNat.enc = r at er c3 c4
      generalize ((atC w (k - 1)).length : Int) = nn at il ok er
      generalize PyData.list ((szs w k n).map cInt.enc) = sv at il c3 c4 g6 ⊢
      generalize w.map spD = sp at c3 c4 ⊢
      unfold eV at c3 c4 ⊢
      generalize cW.enc w = x at e6 e7 c3 c4 ⊢
      simp [esc, escs, escS, e6, e7, il, ok, er, c3, c4, et, g6, es]
    · rw [WXs_nil, fl3_nx]
      exact h _ _
  · rw [if_neg (by simpa using c)]
    rw [WXs_nil, fl3_nx]
    exact h _ _
theorem w22 (hw : WOk wide w) (h : Wr (R' (.nx (eV t s3 (.sh (cW.enc w)) s5 s6 s7 s8 s10 s11 s12 s18 s19 s20 s21 s22 s23 s24 s25 s26)))) : Wr (exs wM C0 FF GG (.cons law_B0_s22 .nil) (eV t s3 (.sh (cW.enc w)) s5 s6 s7 s8 s10 s11 s12 s18 s19 s20 s21 s22 s23 s24 s25 s26) R') := by
  rw [WXs_cons]
  unfold law_B0_s22
  rw [WX_for, WS_r1, W_int]
  have ef : frz (escF (.r1 (.int 3))) (eV t s3 (.sh (cW.enc w)) s5 s6 s7 s8 s10 s11 s12 s18 s19 s20 s21 s22 s23 s24 s25 s26) = eV t s3 (.sh (cW.enc w)) s5 s6 s7 s8 s10 s11 s12 s18 s19 s20 s21 s22 s23 s24 s25 s26 := by simp [escF, esc]
  rw [ef]
  refine Wr.ex 3 rfl (Wr.and (by decide) ?_)
  refine forL_R (fun i ρ => ρ = eV t s3 (.sh (cW.enc w)) s5 s6 s7 s8 s10 s11 s12 s18 s19 s20 s21 s22 s23 s24 s25 s26) (fun i x ρ hx hI R hR => ?_) rfl (fun ρ' hI => ?_)
  · have hI : ρ = eV t s3 (.sh (cW.enc w)) s5 s6 s7 s8 s10 s11 s12 s18 s19 s20 s21 s22 s23 s24 s25 s26 := hI
    subst hI
    rw [fBodyW_eq (ρ' := (eV t s3 (.sh (cW.enc w)) s5 s6 s7 s8 s10 s11 s12 s18 s19 s20 s21 s22 s23 s24 s25 s26).set 27 (.sh x)) (by simp)]
    unfold law_B1
    rw [WXs_cons]
    unfold law_B1_s0
    rw [WX_asgt]
    have ef2 : frz (esc false (.callw id_law_bent (.cons (.var 4) .nil))) ((eV t s3 (.sh (cW.enc w)) s5 s6 s7 s8 s10 s11 s12 s18 s19 s20 s21 s22 s23 s24 s25 s26).set 27 (.sh x)) = (eV t s3 (.sh (cW.enc w)) s5 s6 s7 s8 s10 s11 s12 s18 s19 s20 s21 s22 s23 s24 s25 s26).set 27 (.sh x) := by
      generalize cW.enc w = y
      simp [eV, esc, escs]
    have g4 : ∀ y : D, getV ((eV t s3 (.sh y) s5 s6 s7 s8 s10 s11 s12 s18 s19 s20 s21 s22 s23 s24 s25 s26).set 27 (.sh x)) 4 = some y := fun y => rfl
    rw [ef2, W_callw, Ws_cons, W_var]
    refine Wr.ex _ (g4 _) ?_
    rw [Ws_nil, GG_bent]
    refine Wr.bent hw fun v b hs hb => ?_
    refine Wr.ex ((((eV t s3 (.sh (cW.enc w)) s5 s6 s7 s8 s10 s11 s12 s18 s19 s20 s21 s22 s23 s24 s25 s26).set 27 (.sh x)).set 28 (.sh v)).set 29 (.sh (.bool b))) (by simp) ?_
    rw [fl3_nx]
    have e1 := SS_is_laid hs
    rw [hb] at e1
    have e2 := SS_law_same (a := .bool b) (b := .bool b) (.par _ (.refl _ rfl)) (by show 1 ≤ 100000; omega)
    refine wf_cons (ρ' := (((eV t s3 (.sh (cW.enc w)) s5 s6 s7 s8 s10 s11 s12 s18 s19 s20 s21 s22 s23 s24 s25 s26).set 27 (.sh x)).set 28 (.sh v)).set 29 (.sh (.bool b))) (by
      generalize cW.enc w = y
      simp [law_B1_s1, eV, esc, escs, e1, e2]) ?_
    rw [WXs_nil]
    refine hR _ ?_
    generalize cW.enc w = y
    simp [eV]
  · have hI : ρ' = eV t s3 (.sh (cW.enc w)) s5 s6 s7 s8 s10 s11 s12 s18 s19 s20 s21 s22 s23 s24 s25 s26 := hI
    subst hI
    rw [fl3_nx, WXs_nil]
    exact h
end
theorem law_turn (t : Int) (R : Fl → Prop) (h : ∀ ρ', msk E0 ρ' = E0 → Wr (R (.nx ρ'))) : Wr (exs wM C0 FF GG law_B0 (E0.set 2 (.sh (.int t))) R) := by
  unfold law_B0
  refine w0 fun wide hw => ?_
  refine w1 hw fun w hk => ?_
  refine wf_cons (k2 hk) (wf_cons k3 (wf_cons (k4 hk) (wf_cons k5 (wf_cons (k6 hk) ?_))))
  obtain ⟨s5', h5, e7⟩ := k7 (t := t) (s6 := .ow (.list ((ovL w (List.range (w.length - 1))).map cNI.enc))) (s7 := .ow (.list (lapsD w))) (s11 := .ow (.dict (cntF w.flatten))) hk
  refine wf_cons e7 (wf_cons (k8 hk h5) (wf_cons (k9 hk) ?_))
  refine w10 hk fun k p hkk hp => ?_
  refine w11 hk hkk fun n hn => ?_
  refine wf_cons (k12 hk) (wf_cons (k13 hk hkk hp) ?_)
  refine w14 hw.1 fun b hb => ?_
  refine w15 hb fun e => ?_
  refine wf_cons k16 (wf_cons (k17 (by have := hk.len; omega)) (wf_cons (k18 hk h5) (wf_cons (k19 hk hkk hp) (wf_cons (k20 hk hkk hn) ?_))))
  refine w21 hk hkk hn fun s25 s26 => ?_
  refine w22 hk ?_
  exact h _ (by simp [eV, E0])
theorem hlaw : exs wM C0 FF GG b_law (List.replicate n_law.length Slot.no) fun g => g = .rt (.bool true) := by
  refine Wr.out ?_
  unfold b_law
  rw [WXs_cons]
  unfold b_law_s0
  rw [WX_for, WS_r1, W_int]
  have ef : frz (escF (.r1 (.int 5))) (List.replicate n_law.length Slot.no) = E0 := rfl
  rw [ef]
  refine Wr.ex 5 rfl (Wr.and (by decide) ?_)
  refine forL_R (fun i ρ => ρ = E0) (fun i x ρ hx hI R hR => ?_) rfl (fun ρ' hI => ?_)
  · have hI : ρ = E0 := hI
    subst hI
    have hxx : ∃ k : Int, x = .int k := by
      have := List.mem_of_getElem? hx
      rw [rng_map] at this
      obtain ⟨k, _, e⟩ := List.mem_map.mp this
      exact ⟨_, e.symm⟩
    obtain ⟨k, e⟩ := hxx
    subst e
    rw [fBodyW_eq (ρ' := E0.set 2 (.sh (.int k))) rfl]
    exact law_turn k R hR
  · have hI : ρ' = E0 := hI
    subst hI
    unfold b_law_s1
    rw [fl3_nx, WXs_cons, WX_ret]
    have ef : frz (esc false (.bl true)) E0 = E0 := by simp [E0, esc]
    rw [ef, W_bl, fl3_rt]
    exact Wr.mk rfl
end PW

set_option maxHeartbeats 4000000
/-! The table of the defs, the head. -/
namespace PW
open PySem PyProof.Rows L2 PV
structure All (K : PySem.W.Frag) (mg : Str → Option Value) : Prop where
  blt : ∀ x ∈ bltN, mg x = none
  a_is_number : Has K mg "is_number" s_is_number
  a_set_of : Has K mg "set_of" s_set_of
  a_width_of : Has K mg "width_of" s_width_of
  a_ends_of : Has K mg "ends_of" s_ends_of
  a_mirrored : Has K mg "mirrored" s_mirrored
  a_joints_in : Has K mg "joints_in" s_joints_in
  a_law_draws : Has K mg "_law_draws" s_law_draws
  a_law_next : Has K mg "_law_next" s_law_next
  a_law_same : Has K mg "_law_same" s_law_same
  a_law_ends : Has K mg "_law_ends" s_law_ends
  a_law_joints : Has K mg "_law_joints" s_law_joints
  a_law_shared : Has K mg "_law_shared" s_law_shared
  a_is_from : Has K mg "is_from" s_is_from
  a_joints_of : Has K mg "joints_of" s_joints_of
  a_bricks_in : Has K mg "bricks_in" s_bricks_in
  a_brick_at : Has K mg "brick_at" s_brick_at
  a_touching : Has K mg "touching" s_touching
  a_cut_out : Has K mg "cut_out" s_cut_out
  a_shared_stretch : Has K mg "shared_stretch" s_shared_stretch
  a_law_pick : Has K mg "_law_pick" s_law_pick
  a_law_course : Has K mg "_law_course" s_law_course
  a_is_course : Has K mg "is_course" s_is_course
  a_bonded : Has K mg "bonded" s_bonded
  a_laps_of : Has K mg "laps_of" s_laps_of
  a_upper_bricks : Has K mg "upper_bricks" s_upper_bricks
  a_lower_bricks : Has K mg "lower_bricks" s_lower_bricks
  a_run_at : Has K mg "run_at" s_run_at
  a_law_bent : Has K mg "_law_bent" s_law_bent
  a_is_laid : Has K mg "is_laid" s_is_laid
  a_longest_crack : Has K mg "longest_crack" s_longest_crack
  a_law : Has K mg "law" s_law
section
variable {PG : Program} {W0 : World} {K : PySem.W.Frag} {mg : Str → Option Value} {base : Heap}
theorem md_is_number (A : All K mg) : Md PG W0 K mg base ⟨C0, (fun n ds => ofO (SS n ds)), GG, none, 1000⟩ f_is_number g_is_number 0 where
  blt := A.blt
  fns := fun f x n b h => by cases h
  hws := fun f x n h => by cases h
  gls := fun n x h => by cases h
theorem d_is_number (A : All K mg) : DefOk PG W0 K mg base 1 "is_number" (spF 1 (fun ds => ofO (SS id_is_number ds)) ⟨K, W0⟩) :=
  mk_pure (ps := ["thing"]) A.a_is_number (fun _ _ _ _ _ _ us hl => match us, hl with | [_], _ => rfl) (md_is_number A) sc_is_number (by decide) c_is_number r_is_number
theorem md_set_of (A : All K mg) : Md PG W0 K mg base ⟨C0, (fun n ds => ofO (SS n ds)), GG, none, 1000⟩ f_set_of g_set_of 0 where
  blt := A.blt
  fns := fun f x n b h => by cases h
  hws := fun f x n h => by cases h
  gls := fun n x h => by cases h
theorem d_set_of (A : All K mg) : DefOk PG W0 K mg base 1 "set_of" (spF 1 (fun ds => ofO (SS id_set_of ds)) ⟨K, W0⟩) :=
  mk_pure (ps := ["things"]) A.a_set_of (fun _ _ _ _ _ _ us hl => match us, hl with | [_], _ => rfl) (md_set_of A) sc_set_of (by decide) c_set_of r_set_of
theorem md_width_of (A : All K mg) : Md PG W0 K mg base ⟨C0, (fun n ds => ofO (SS n ds)), GG, none, 1000⟩ f_width_of g_width_of 0 where
  blt := A.blt
  fns := fun f x n b h => by cases h
  hws := fun f x n h => by cases h
  gls := fun n x h => by cases h
theorem d_width_of (A : All K mg) : DefOk PG W0 K mg base 1 "width_of" (spF 1 (fun ds => ofO (SS id_width_of ds)) ⟨K, W0⟩) :=
  mk_pure (ps := ["wall"]) A.a_width_of (fun _ _ _ _ _ _ us hl => match us, hl with | [_], _ => rfl) (md_width_of A) sc_width_of (by decide) c_width_of r_width_of
theorem md_ends_of (A : All K mg) : Md PG W0 K mg base ⟨C0, (fun n ds => ofO (SS n ds)), GG, none, 1000⟩ f_ends_of g_ends_of 0 where
  blt := A.blt
  fns := fun f x n b h => by cases h
  hws := fun f x n h => by cases h
  gls := fun n x h => by cases h
theorem d_ends_of (A : All K mg) : DefOk PG W0 K mg base 1 "ends_of" (spF 1 (fun ds => ofO (SS id_ends_of ds)) ⟨K, W0⟩) :=
  mk_pure (ps := ["course"]) A.a_ends_of (fun _ _ _ _ _ _ us hl => match us, hl with | [_], _ => rfl) (md_ends_of A) sc_ends_of (by decide) c_ends_of r_ends_of
theorem md_mirrored (A : All K mg) : Md PG W0 K mg base ⟨C0, (fun n ds => ofO (SS n ds)), GG, none, 1000⟩ f_mirrored g_mirrored 0 where
  blt := A.blt
  fns := fun f x n b h => by cases h
  hws := fun f x n h => by cases h
  gls := fun n x h => by cases h
theorem d_mirrored (A : All K mg) : DefOk PG W0 K mg base 1 "mirrored" (spF 1 (fun ds => ofO (SS id_mirrored ds)) ⟨K, W0⟩) :=
  mk_pure (ps := ["wall"]) A.a_mirrored (fun _ _ _ _ _ _ us hl => match us, hl with | [_], _ => rfl) (md_mirrored A) sc_mirrored (by decide) c_mirrored r_mirrored
theorem md_joints_in (A : All K mg) : Md PG W0 K mg base ⟨C0, (fun n ds => ofO (SS n ds)), GG, none, 1000⟩ f_joints_in g_joints_in 0 where
  blt := A.blt
  fns := fun f x n b h => by cases h
  hws := fun f x n h => by cases h
  gls := fun n x h => by cases h
theorem d_joints_in (A : All K mg) : DefOk PG W0 K mg base 1 "joints_in" (spF 1 (fun ds => ofO (SS id_joints_in ds)) ⟨K, W0⟩) :=
  mk_pure (ps := ["wall"]) A.a_joints_in (fun _ _ _ _ _ _ us hl => match us, hl with | [_], _ => rfl) (md_joints_in A) sc_joints_in (by decide) c_joints_in r_joints_in
theorem d_law_next (A : All K mg) : DefOk PG W0 K mg base 1 "_law_next" (spG 2 (GG id_law_next) ⟨K, W0⟩) := by
  obtain ⟨a, fd, h1, h2, F⟩ := A.a_law_next
  exact ⟨a, fd, _, h1, h2, F.binds (fun _ _ _ _ _ _ us hl => match us, hl with | [_, _], _ => rfl), ok_next F sc_law_next rfl (by decide +kernel) (A.blt _ (by decide)) (A.blt _ (by decide))⟩
theorem md_law_same (A : All K mg) : Md PG W0 K mg base ⟨C0, (fun n ds => ofO (SS n ds)), GG, none, 1000⟩ f_law_same g_law_same 0 where
  blt := A.blt
  fns := fun f x n b h => by cases h
  hws := fun f x n h => by cases h
  gls := fun n x h => by cases h
theorem d_law_same (A : All K mg) : DefOk PG W0 K mg base 1 "_law_same" (spF 2 (fun ds => ofO (SS id_law_same ds)) ⟨K, W0⟩) :=
  mk_pure (ps := ["seen", "due"]) A.a_law_same (fun _ _ _ _ _ _ us hl => match us, hl with | [_, _], _ => rfl) (md_law_same A) sc_law_same (by decide) c_law_same r_law_same
theorem md_law_ends (A : All K mg) : Md PG W0 K mg base ⟨C0, (fun n ds => ofO (SS n ds)), GG, none, 1000⟩ f_law_ends g_law_ends 0 where
  blt := A.blt
  fns := fun f x n b h => by cases h
  hws := fun f x n h => by cases h
  gls := fun n x h => by cases h
theorem d_law_ends (A : All K mg) : DefOk PG W0 K mg base 1 "_law_ends" (spF 1 (fun ds => ofO (SS id_law_ends ds)) ⟨K, W0⟩) :=
  mk_pure (ps := ["course"]) A.a_law_ends (fun _ _ _ _ _ _ us hl => match us, hl with | [_], _ => rfl) (md_law_ends A) sc_law_ends (by decide) c_law_ends r_law_ends
theorem md_law_joints (A : All K mg) : Md PG W0 K mg base ⟨C0, (fun n ds => ofO (SS n ds)), GG, none, 1000⟩ f_law_joints g_law_joints 0 where
  blt := A.blt
  fns := fun f x n b h => by cases h
  hws := fun f x n h => by cases h
  gls := fun n x h => by cases h
theorem d_law_joints (A : All K mg) : DefOk PG W0 K mg base 1 "_law_joints" (spF 1 (fun ds => ofO (SS id_law_joints ds)) ⟨K, W0⟩) :=
  mk_pure (ps := ["course"]) A.a_law_joints (fun _ _ _ _ _ _ us hl => match us, hl with | [_], _ => rfl) (md_law_joints A) sc_law_joints (by decide) c_law_joints r_law_joints
theorem md_law_shared (A : All K mg) : Md PG W0 K mg base ⟨C0, (fun n ds => ofO (SS n ds)), GG, none, 1000⟩ f_law_shared g_law_shared 0 where
  blt := A.blt
  fns := fun f x n b h => by cases h
  hws := fun f x n h => by cases h
  gls := fun n x h => by cases h
theorem d_law_shared (A : All K mg) : DefOk PG W0 K mg base 1 "_law_shared" (spF 2 (fun ds => ofO (SS id_law_shared ds)) ⟨K, W0⟩) :=
  mk_pure (ps := ["one", "other"]) A.a_law_shared (fun _ _ _ _ _ _ us hl => match us, hl with | [_, _], _ => rfl) (md_law_shared A) sc_law_shared (by decide) c_law_shared r_law_shared
theorem md_is_from (A : All K mg) : Md PG W0 K mg base ⟨C0, (fun n ds => ofO (SS n ds)), GG, none, 1000⟩ f_is_from g_is_from 1 where
  blt := A.blt
  fns := by
    intro f x n b h
    simp only [f_is_from, List.mem_cons, List.not_mem_nil, or_false, Prod.mk.injEq] at h
    rcases h with ⟨rfl, rfl, rfl, rfl⟩
    · exact (d_is_number A).mono (by decide)
  hws := by
    intro f x n h
    simp [f_is_from] at h
  gls := fun n x h => by cases h
theorem d_is_from (A : All K mg) : DefOk PG W0 K mg base 2 "is_from" (spF 2 (fun ds => ofO (SS id_is_from ds)) ⟨K, W0⟩) :=
  mk_pure (ps := ["thing", "least"]) A.a_is_from (fun _ _ _ _ _ _ us hl => match us, hl with | [_, _], _ => rfl) (md_is_from A) sc_is_from (by decide) c_is_from r_is_from
theorem md_joints_of (A : All K mg) : Md PG W0 K mg base ⟨C0, (fun n ds => ofO (SS n ds)), GG, none, 1000⟩ f_joints_of g_joints_of 1 where
  blt := A.blt
  fns := by
    intro f x n b h
    simp only [f_joints_of, List.mem_cons, List.not_mem_nil, or_false, Prod.mk.injEq] at h
    rcases h with ⟨rfl, rfl, rfl, rfl⟩
    · exact (d_ends_of A).mono (by decide)
  hws := by
    intro f x n h
    simp [f_joints_of] at h
  gls := fun n x h => by cases h
theorem d_joints_of (A : All K mg) : DefOk PG W0 K mg base 2 "joints_of" (spF 1 (fun ds => ofO (SS id_joints_of ds)) ⟨K, W0⟩) :=
  mk_pure (ps := ["course"]) A.a_joints_of (fun _ _ _ _ _ _ us hl => match us, hl with | [_], _ => rfl) (md_joints_of A) sc_joints_of (by decide) c_joints_of r_joints_of
theorem md_bricks_in (A : All K mg) : Md PG W0 K mg base ⟨C0, (fun n ds => ofO (SS n ds)), GG, none, 1000⟩ f_bricks_in g_bricks_in 1 where
  blt := A.blt
  fns := by
    intro f x n b h
    simp only [f_bricks_in, List.mem_cons, List.not_mem_nil, or_false, Prod.mk.injEq] at h
    rcases h with ⟨rfl, rfl, rfl, rfl⟩
    · exact (d_set_of A).mono (by decide)
  hws := by
    intro f x n h
    simp [f_bricks_in] at h
  gls := fun n x h => by cases h
theorem d_bricks_in (A : All K mg) : DefOk PG W0 K mg base 2 "bricks_in" (spF 1 (fun ds => ofO (SS id_bricks_in ds)) ⟨K, W0⟩) :=
  mk_pure (ps := ["wall"]) A.a_bricks_in (fun _ _ _ _ _ _ us hl => match us, hl with | [_], _ => rfl) (md_bricks_in A) sc_bricks_in (by decide) c_bricks_in r_bricks_in
theorem md_brick_at (A : All K mg) : Md PG W0 K mg base ⟨C0, (fun n ds => ofO (SS n ds)), GG, none, 1000⟩ f_brick_at g_brick_at 1 where
  blt := A.blt
  fns := by
    intro f x n b h
    simp only [f_brick_at, List.mem_cons, List.not_mem_nil, or_false, Prod.mk.injEq] at h
    rcases h with ⟨rfl, rfl, rfl, rfl⟩
    · exact (d_ends_of A).mono (by decide)
  hws := by
    intro f x n h
    simp [f_brick_at] at h
  gls := fun n x h => by cases h
theorem d_brick_at (A : All K mg) : DefOk PG W0 K mg base 2 "brick_at" (spF 3 (fun ds => ofO (SS id_brick_at ds)) ⟨K, W0⟩) :=
  mk_pure (ps := ["wall", "k", "place"]) A.a_brick_at (fun _ _ _ _ _ _ us hl => match us, hl with | [_, _, _], _ => rfl) (md_brick_at A) sc_brick_at (by decide) c_brick_at r_brick_at
theorem md_touching (A : All K mg) : Md PG W0 K mg base ⟨C0, (fun n ds => ofO (SS n ds)), GG, none, 1000⟩ f_touching g_touching 1 where
  blt := A.blt
  fns := by
    intro f x n b h
    simp only [f_touching, List.mem_cons, List.not_mem_nil, or_false, Prod.mk.injEq] at h
    rcases h with ⟨rfl, rfl, rfl, rfl⟩
    · exact (d_ends_of A).mono (by decide)
  hws := by
    intro f x n h
    simp [f_touching] at h
  gls := fun n x h => by cases h
theorem d_touching (A : All K mg) : DefOk PG W0 K mg base 2 "touching" (spF 2 (fun ds => ofO (SS id_touching ds)) ⟨K, W0⟩) :=
  mk_pure (ps := ["course", "span"]) A.a_touching (fun _ _ _ _ _ _ us hl => match us, hl with | [_, _], _ => rfl) (md_touching A) sc_touching (by decide) c_touching r_touching
theorem md_cut_out (A : All K mg) : Md PG W0 K mg base ⟨C0, (fun n ds => ofO (SS n ds)), GG, none, 1000⟩ f_cut_out g_cut_out 1 where
  blt := A.blt
  fns := by
    intro f x n b h
    simp only [f_cut_out, List.mem_cons, List.not_mem_nil, or_false, Prod.mk.injEq] at h
    rcases h with ⟨rfl, rfl, rfl, rfl⟩
    · exact (d_ends_of A).mono (by decide)
  hws := by
    intro f x n h
    simp [f_cut_out] at h
  gls := fun n x h => by cases h
theorem d_cut_out (A : All K mg) : DefOk PG W0 K mg base 2 "cut_out" (spF 3 (fun ds => ofO (SS id_cut_out ds)) ⟨K, W0⟩) :=
  mk_pure (ps := ["wall", "begin", "end"]) A.a_cut_out (fun _ _ _ _ _ _ us hl => match us, hl with | [_, _, _], _ => rfl) (md_cut_out A) sc_cut_out (by decide) c_cut_out r_cut_out
theorem md_shared_stretch (A : All K mg) : Md PG W0 K mg base ⟨C0, (fun n ds => ofO (SS n ds)), GG, none, 1000⟩ f_shared_stretch g_shared_stretch 1 where
  blt := A.blt
  fns := by
    intro f x n b h
    simp only [f_shared_stretch, List.mem_cons, List.not_mem_nil, or_false, Prod.mk.injEq] at h
    rcases h with ⟨rfl, rfl, rfl, rfl⟩
    · exact (d_ends_of A).mono (by decide)
  hws := by
    intro f x n h
    simp [f_shared_stretch] at h
  gls := fun n x h => by cases h
theorem d_shared_stretch (A : All K mg) : DefOk PG W0 K mg base 2 "shared_stretch" (spF 4 (fun ds => ofO (SS id_shared_stretch ds)) ⟨K, W0⟩) :=
  mk_pure (ps := ["wall", "k", "n", "m"]) A.a_shared_stretch (fun _ _ _ _ _ _ us hl => match us, hl with | [_, _, _, _], _ => rfl) (md_shared_stretch A) sc_shared_stretch (by decide) c_shared_stretch r_shared_stretch
theorem md_law_pick (A : All K mg) (t : Addr × Addr × List Int) : Md PG W0 K mg base ⟨C0, (fun n ds => ofO (SS n ds)), GG, some t, 0⟩ f_law_pick g_law_pick 1 where
  blt := A.blt
  fns := by
    intro f x n b h
    simp only [f_law_pick, List.mem_cons, List.not_mem_nil, or_false, Prod.mk.injEq] at h
    rcases h with ⟨rfl, rfl, rfl, rfl⟩
    · exact (d_law_next A).mono (by decide)
  hws := fun _ _ _ _ => rfl
  gls := fun n x h => by cases h
theorem d_law_pick (A : All K mg) : DefOk PG W0 K mg base 2 "_law_pick" (spG 2 (GG id_law_pick) ⟨K, W0⟩) :=
  mk_w (ps := ["w", "rows"]) A.a_law_pick (fun _ _ _ _ _ _ us hl => match us, hl with | [_, _], _ => rfl) (fun t => md_law_pick A t) sc_law_pick (by decide) c_law_pick hw_law_pick
theorem md_law_course (A : All K mg) (t : Addr × Addr × List Int) : Md PG W0 K mg base ⟨C0, (fun n ds => ofO (SS n ds)), GG, some t, 0⟩ f_law_course g_law_course 1 where
  blt := A.blt
  fns := by
    intro f x n b h
    simp only [f_law_course, List.mem_cons, List.not_mem_nil, or_false, Prod.mk.injEq] at h
    rcases h with ⟨rfl, rfl, rfl, rfl⟩
    · exact (d_law_next A).mono (by decide)
  hws := fun _ _ _ _ => rfl
  gls := fun n x h => by cases h
theorem d_law_course (A : All K mg) : DefOk PG W0 K mg base 2 "_law_course" (spG 2 (GG id_law_course) ⟨K, W0⟩) :=
  mk_w (ps := ["w", "wide"]) A.a_law_course (fun _ _ _ _ _ _ us hl => match us, hl with | [_, _], _ => rfl) (fun t => md_law_course A t) sc_law_course (by decide) c_law_course hw_law_course
theorem md_is_course (A : All K mg) : Md PG W0 K mg base ⟨C0, (fun n ds => ofO (SS n ds)), GG, none, 1000⟩ f_is_course g_is_course 2 where
  blt := A.blt
  fns := by
    intro f x n b h
    simp only [f_is_course, List.mem_cons, List.not_mem_nil, or_false, Prod.mk.injEq] at h
    rcases h with ⟨rfl, rfl, rfl, rfl⟩
    · exact (d_is_from A).mono (by decide)
  hws := by
    intro f x n h
    simp [f_is_course] at h
  gls := fun n x h => by cases h
theorem d_is_course (A : All K mg) : DefOk PG W0 K mg base 3 "is_course" (spF 1 (fun ds => ofO (SS id_is_course ds)) ⟨K, W0⟩) :=
  mk_pure (ps := ["thing"]) A.a_is_course (fun _ _ _ _ _ _ us hl => match us, hl with | [_], _ => rfl) (md_is_course A) sc_is_course (by decide) c_is_course r_is_course
theorem md_bonded (A : All K mg) : Md PG W0 K mg base ⟨C0, (fun n ds => ofO (SS n ds)), GG, none, 1000⟩ f_bonded g_bonded 2 where
  blt := A.blt
  fns := by
    intro f x n b h
    simp only [f_bonded, List.mem_cons, List.not_mem_nil, or_false, Prod.mk.injEq] at h
    rcases h with ⟨rfl, rfl, rfl, rfl⟩
    · exact (d_joints_of A).mono (by decide)
  hws := by
    intro f x n h
    simp [f_bonded] at h
  gls := fun n x h => by cases h
theorem d_bonded (A : All K mg) : DefOk PG W0 K mg base 3 "bonded" (spF 1 (fun ds => ofO (SS id_bonded ds)) ⟨K, W0⟩) :=
  mk_pure (ps := ["wall"]) A.a_bonded (fun _ _ _ _ _ _ us hl => match us, hl with | [_], _ => rfl) (md_bonded A) sc_bonded (by decide) c_bonded r_bonded
theorem md_laps_of (A : All K mg) : Md PG W0 K mg base ⟨C0, (fun n ds => ofO (SS n ds)), GG, none, 1000⟩ f_laps_of g_laps_of 2 where
  blt := A.blt
  fns := by
    intro f x n b h
    simp only [f_laps_of, List.mem_cons, List.not_mem_nil, or_false, Prod.mk.injEq] at h
    rcases h with ⟨rfl, rfl, rfl, rfl⟩
    · exact (d_joints_of A).mono (by decide)
  hws := by
    intro f x n h
    simp [f_laps_of] at h
  gls := fun n x h => by cases h
theorem d_laps_of (A : All K mg) : DefOk PG W0 K mg base 3 "laps_of" (spF 1 (fun ds => ofO (SS id_laps_of ds)) ⟨K, W0⟩) :=
  mk_pure (ps := ["wall"]) A.a_laps_of (fun _ _ _ _ _ _ us hl => match us, hl with | [_], _ => rfl) (md_laps_of A) sc_laps_of (by decide) c_laps_of r_laps_of
theorem md_upper_bricks (A : All K mg) : Md PG W0 K mg base ⟨C0, (fun n ds => ofO (SS n ds)), GG, none, 1000⟩ f_upper_bricks g_upper_bricks 2 where
  blt := A.blt
  fns := by
    intro f x n b h
    simp only [f_upper_bricks, List.mem_cons, List.not_mem_nil, or_false, Prod.mk.injEq] at h
    rcases h with ⟨rfl, rfl, rfl, rfl⟩ | ⟨rfl, rfl, rfl, rfl⟩
    · exact (d_ends_of A).mono (by decide)
    · exact (d_touching A).mono (by decide)
  hws := by
    intro f x n h
    simp [f_upper_bricks] at h
  gls := fun n x h => by cases h
theorem d_upper_bricks (A : All K mg) : DefOk PG W0 K mg base 3 "upper_bricks" (spF 3 (fun ds => ofO (SS id_upper_bricks ds)) ⟨K, W0⟩) :=
  mk_pure (ps := ["wall", "k", "n"]) A.a_upper_bricks (fun _ _ _ _ _ _ us hl => match us, hl with | [_, _, _], _ => rfl) (md_upper_bricks A) sc_upper_bricks (by decide) c_upper_bricks r_upper_bricks
theorem md_lower_bricks (A : All K mg) : Md PG W0 K mg base ⟨C0, (fun n ds => ofO (SS n ds)), GG, none, 1000⟩ f_lower_bricks g_lower_bricks 2 where
  blt := A.blt
  fns := by
    intro f x n b h
    simp only [f_lower_bricks, List.mem_cons, List.not_mem_nil, or_false, Prod.mk.injEq] at h
    rcases h with ⟨rfl, rfl, rfl, rfl⟩ | ⟨rfl, rfl, rfl, rfl⟩
    · exact (d_ends_of A).mono (by decide)
    · exact (d_touching A).mono (by decide)
  hws := by
    intro f x n h
    simp [f_lower_bricks] at h
  gls := fun n x h => by cases h
theorem d_lower_bricks (A : All K mg) : DefOk PG W0 K mg base 3 "lower_bricks" (spF 3 (fun ds => ofO (SS id_lower_bricks ds)) ⟨K, W0⟩) :=
  mk_pure (ps := ["wall", "k", "n"]) A.a_lower_bricks (fun _ _ _ _ _ _ us hl => match us, hl with | [_, _, _], _ => rfl) (md_lower_bricks A) sc_lower_bricks (by decide) c_lower_bricks r_lower_bricks
theorem md_run_at (A : All K mg) : Md PG W0 K mg base ⟨C0, (fun n ds => ofO (SS n ds)), GG, none, 1000⟩ f_run_at g_run_at 2 where
  blt := A.blt
  fns := by
    intro f x n b h
    simp only [f_run_at, List.mem_cons, List.not_mem_nil, or_false, Prod.mk.injEq] at h
    rcases h with ⟨rfl, rfl, rfl, rfl⟩
    · exact (d_joints_of A).mono (by decide)
  hws := by
    intro f x n h
    simp [f_run_at] at h
  gls := fun n x h => by cases h
theorem d_run_at (A : All K mg) : DefOk PG W0 K mg base 3 "run_at" (spF 2 (fun ds => ofO (SS id_run_at ds)) ⟨K, W0⟩) :=
  mk_pure (ps := ["wall", "place"]) A.a_run_at (fun _ _ _ _ _ _ us hl => match us, hl with | [_, _], _ => rfl) (md_run_at A) sc_run_at (by decide) c_run_at r_run_at
theorem md_law_bent (A : All K mg) (t : Addr × Addr × List Int) : Md PG W0 K mg base ⟨C0, (fun n ds => ofO (SS n ds)), GG, some t, 0⟩ f_law_bent g_law_bent 2 where
  blt := A.blt
  fns := by
    intro f x n b h
    simp only [f_law_bent, List.mem_cons, List.not_mem_nil, or_false, Prod.mk.injEq] at h
    rcases h with ⟨rfl, rfl, rfl, rfl⟩
    · exact (d_law_pick A).mono (by decide)
  hws := fun _ _ _ _ => rfl
  gls := fun n x h => by cases h
theorem d_law_bent (A : All K mg) : DefOk PG W0 K mg base 3 "_law_bent" (spG 2 (GG id_law_bent) ⟨K, W0⟩) :=
  mk_w (ps := ["w", "wall"]) A.a_law_bent (fun _ _ _ _ _ _ us hl => match us, hl with | [_, _], _ => rfl) (fun t => md_law_bent A t) sc_law_bent (by decide) c_law_bent hw_law_bent
theorem md_is_laid (A : All K mg) : Md PG W0 K mg base ⟨C0, (fun n ds => ofO (SS n ds)), GG, none, 1000⟩ f_is_laid g_is_laid 3 where
  blt := A.blt
  fns := by
    intro f x n b h
    simp only [f_is_laid, List.mem_cons, List.not_mem_nil, or_false, Prod.mk.injEq] at h
    rcases h with ⟨rfl, rfl, rfl, rfl⟩
    · exact (d_is_course A).mono (by decide)
  hws := by
    intro f x n h
    simp [f_is_laid] at h
  gls := fun n x h => by cases h
theorem d_is_laid (A : All K mg) : DefOk PG W0 K mg base 4 "is_laid" (spF 1 (fun ds => ofO (SS id_is_laid ds)) ⟨K, W0⟩) :=
  mk_pure (ps := ["thing"]) A.a_is_laid (fun _ _ _ _ _ _ us hl => match us, hl with | [_], _ => rfl) (md_is_laid A) sc_is_laid (by decide) c_is_laid r_is_laid
theorem md_longest_crack (A : All K mg) : Md PG W0 K mg base ⟨C0, (fun n ds => ofO (SS n ds)), GG, none, 1000⟩ f_longest_crack g_longest_crack 3 where
  blt := A.blt
  fns := by
    intro f x n b h
    simp only [f_longest_crack, List.mem_cons, List.not_mem_nil, or_false, Prod.mk.injEq] at h
    rcases h with ⟨rfl, rfl, rfl, rfl⟩ | ⟨rfl, rfl, rfl, rfl⟩ | ⟨rfl, rfl, rfl, rfl⟩
    · exact (d_set_of A).mono (by decide)
    · exact (d_joints_of A).mono (by decide)
    · exact (d_run_at A).mono (by decide)
  hws := by
    intro f x n h
    simp [f_longest_crack] at h
  gls := fun n x h => by cases h
theorem d_longest_crack (A : All K mg) : DefOk PG W0 K mg base 4 "longest_crack" (spF 1 (fun ds => ofO (SS id_longest_crack ds)) ⟨K, W0⟩) :=
  mk_pure (ps := ["wall"]) A.a_longest_crack (fun _ _ _ _ _ _ us hl => match us, hl with | [_], _ => rfl) (md_longest_crack A) sc_longest_crack (by decide) c_longest_crack r_longest_crack
theorem md_law (A : All K mg) (t : Addr × Addr × List Int) : Md PG W0 K mg base ⟨C0, (fun n ds => ofO (SS n ds)), GG, some t, 1⟩ f_law g_law 4 where
  blt := A.blt
  fns := by
    intro f x n b h
    simp only [f_law, List.mem_cons, List.not_mem_nil, or_false, Prod.mk.injEq] at h
    rcases h with ⟨rfl, rfl, rfl, rfl⟩ | ⟨rfl, rfl, rfl, rfl⟩ | ⟨rfl, rfl, rfl, rfl⟩ | ⟨rfl, rfl, rfl, rfl⟩ | ⟨rfl, rfl, rfl, rfl⟩ | ⟨rfl, rfl, rfl, rfl⟩ | ⟨rfl, rfl, rfl, rfl⟩ | ⟨rfl, rfl, rfl, rfl⟩ | ⟨rfl, rfl, rfl, rfl⟩ | ⟨rfl, rfl, rfl, rfl⟩ | ⟨rfl, rfl, rfl, rfl⟩ | ⟨rfl, rfl, rfl, rfl⟩ | ⟨rfl, rfl, rfl, rfl⟩ | ⟨rfl, rfl, rfl, rfl⟩ | ⟨rfl, rfl, rfl, rfl⟩ | ⟨rfl, rfl, rfl, rfl⟩ | ⟨rfl, rfl, rfl, rfl⟩ | ⟨rfl, rfl, rfl, rfl⟩ | ⟨rfl, rfl, rfl, rfl⟩ | ⟨rfl, rfl, rfl, rfl⟩ | ⟨rfl, rfl, rfl, rfl⟩
    · exact (d_width_of A).mono (by decide)
    · exact (d_mirrored A).mono (by decide)
    · exact (d_joints_in A).mono (by decide)
    · exact (d_law_next A).mono (by decide)
    · exact (d_law_same A).mono (by decide)
    · exact (d_law_ends A).mono (by decide)
    · exact (d_law_joints A).mono (by decide)
    · exact (d_law_shared A).mono (by decide)
    · exact (d_joints_of A).mono (by decide)
    · exact (d_bricks_in A).mono (by decide)
    · exact (d_brick_at A).mono (by decide)
    · exact (d_cut_out A).mono (by decide)
    · exact (d_shared_stretch A).mono (by decide)
    · exact (d_law_course A).mono (by decide)
    · exact (d_bonded A).mono (by decide)
    · exact (d_laps_of A).mono (by decide)
    · exact (d_upper_bricks A).mono (by decide)
    · exact (d_lower_bricks A).mono (by decide)
    · exact (d_law_bent A).mono (by decide)
    · exact (d_is_laid A).mono (by decide)
    · exact (d_longest_crack A).mono (by decide)
  hws := fun _ _ _ _ => rfl
  gls := fun n x h => by cases h
theorem k_law (A : All K mg) {f : Addr} {fd : FuncData} (F : Fun K "law" "law" s_law f fd) : FnOk PG W0 K mg base CX0 5 f fd ["script"] (spLaw K) := by
  obtain ⟨a, fad, h1, h2, Fd⟩ := A.a_law_draws
  have ok := ok_draws (PG := PG) (W0 := W0) (base := base) (k := 0) (m := "mixed") Fd sc_law_draws rfl (by decide +kernel) (by decide +kernel) (by decide +kernel) (by decide +kernel) A.blt
  exact ok_law (fun t => md_law A t) F sc_law rfl rfl ⟨by decide, by decide⟩ rfl (by decide +kernel) c_law h1 h2 (Fd.binds (fun _ _ _ _ _ _ us hl => match us, hl with | [_, _], _ => rfl)) (ok.mono (by decide)) hlaw
end
theorem all_mk {l : PySem.W.OpenLaw} {w : World} {K : PySem.W.Frag} {h : Heap} {mg : Str → Option Value} {fa : Addr} (X : K.In h) (G : h.Ns mainGlobals mg) (hfa : mg "law" = some (.ref fa))
    {f0 : Addr} {od0 an0 : Option Addr} {sl0 : Array (Option Value)} {oc0 kV0 dc0 pm0 cd0 ct0 : Value} (a0 : PySem.W.nsIn K mainGlobals "is_number" = some (some (.ref f0))) (l0 : K.lookup f0 = some ⟨oc0, od0, .func (PySem.W.fnOf "is_number" "is_number" (defArgs s_is_number) (defBody s_is_number) (defScope s_is_number) .none kV0 dc0 pm0 an0 cd0 ct0), sl0⟩) (c0 : PySem.W.codeIn K cd0 "is_number" = true) (k0 : PySem.W.keepIn K (.ref f0) = true)
    {f1 : Addr} {od1 an1 : Option Addr} {sl1 : Array (Option Value)} {oc1 kV1 dc1 pm1 cd1 ct1 : Value} (a1 : PySem.W.nsIn K mainGlobals "set_of" = some (some (.ref f1))) (l1 : K.lookup f1 = some ⟨oc1, od1, .func (PySem.W.fnOf "set_of" "set_of" (defArgs s_set_of) (defBody s_set_of) (defScope s_set_of) .none kV1 dc1 pm1 an1 cd1 ct1), sl1⟩) (c1 : PySem.W.codeIn K cd1 "set_of" = true) (k1 : PySem.W.keepIn K (.ref f1) = true)
    {f2 : Addr} {od2 an2 : Option Addr} {sl2 : Array (Option Value)} {oc2 kV2 dc2 pm2 cd2 ct2 : Value} (a2 : PySem.W.nsIn K mainGlobals "width_of" = some (some (.ref f2))) (l2 : K.lookup f2 = some ⟨oc2, od2, .func (PySem.W.fnOf "width_of" "width_of" (defArgs s_width_of) (defBody s_width_of) (defScope s_width_of) .none kV2 dc2 pm2 an2 cd2 ct2), sl2⟩) (c2 : PySem.W.codeIn K cd2 "width_of" = true) (k2 : PySem.W.keepIn K (.ref f2) = true)
    {f3 : Addr} {od3 an3 : Option Addr} {sl3 : Array (Option Value)} {oc3 kV3 dc3 pm3 cd3 ct3 : Value} (a3 : PySem.W.nsIn K mainGlobals "ends_of" = some (some (.ref f3))) (l3 : K.lookup f3 = some ⟨oc3, od3, .func (PySem.W.fnOf "ends_of" "ends_of" (defArgs s_ends_of) (defBody s_ends_of) (defScope s_ends_of) .none kV3 dc3 pm3 an3 cd3 ct3), sl3⟩) (c3 : PySem.W.codeIn K cd3 "ends_of" = true) (k3 : PySem.W.keepIn K (.ref f3) = true)
    {f4 : Addr} {od4 an4 : Option Addr} {sl4 : Array (Option Value)} {oc4 kV4 dc4 pm4 cd4 ct4 : Value} (a4 : PySem.W.nsIn K mainGlobals "mirrored" = some (some (.ref f4))) (l4 : K.lookup f4 = some ⟨oc4, od4, .func (PySem.W.fnOf "mirrored" "mirrored" (defArgs s_mirrored) (defBody s_mirrored) (defScope s_mirrored) .none kV4 dc4 pm4 an4 cd4 ct4), sl4⟩) (c4 : PySem.W.codeIn K cd4 "mirrored" = true) (k4 : PySem.W.keepIn K (.ref f4) = true)
    {f5 : Addr} {od5 an5 : Option Addr} {sl5 : Array (Option Value)} {oc5 kV5 dc5 pm5 cd5 ct5 : Value} (a5 : PySem.W.nsIn K mainGlobals "joints_in" = some (some (.ref f5))) (l5 : K.lookup f5 = some ⟨oc5, od5, .func (PySem.W.fnOf "joints_in" "joints_in" (defArgs s_joints_in) (defBody s_joints_in) (defScope s_joints_in) .none kV5 dc5 pm5 an5 cd5 ct5), sl5⟩) (c5 : PySem.W.codeIn K cd5 "joints_in" = true) (k5 : PySem.W.keepIn K (.ref f5) = true)
    {f6 : Addr} {od6 an6 : Option Addr} {sl6 : Array (Option Value)} {oc6 kV6 dc6 pm6 cd6 ct6 : Value} (a6 : PySem.W.nsIn K mainGlobals "_law_draws" = some (some (.ref f6))) (l6 : K.lookup f6 = some ⟨oc6, od6, .func (PySem.W.fnOf "_law_draws" "_law_draws" (defArgs s_law_draws) (defBody s_law_draws) (defScope s_law_draws) .none kV6 dc6 pm6 an6 cd6 ct6), sl6⟩) (c6 : PySem.W.codeIn K cd6 "_law_draws" = true) (k6 : PySem.W.keepIn K (.ref f6) = true)
    {f7 : Addr} {od7 an7 : Option Addr} {sl7 : Array (Option Value)} {oc7 kV7 dc7 pm7 cd7 ct7 : Value} (a7 : PySem.W.nsIn K mainGlobals "_law_next" = some (some (.ref f7))) (l7 : K.lookup f7 = some ⟨oc7, od7, .func (PySem.W.fnOf "_law_next" "_law_next" (defArgs s_law_next) (defBody s_law_next) (defScope s_law_next) .none kV7 dc7 pm7 an7 cd7 ct7), sl7⟩) (c7 : PySem.W.codeIn K cd7 "_law_next" = true) (k7 : PySem.W.keepIn K (.ref f7) = true)
    {f8 : Addr} {od8 an8 : Option Addr} {sl8 : Array (Option Value)} {oc8 kV8 dc8 pm8 cd8 ct8 : Value} (a8 : PySem.W.nsIn K mainGlobals "_law_same" = some (some (.ref f8))) (l8 : K.lookup f8 = some ⟨oc8, od8, .func (PySem.W.fnOf "_law_same" "_law_same" (defArgs s_law_same) (defBody s_law_same) (defScope s_law_same) .none kV8 dc8 pm8 an8 cd8 ct8), sl8⟩) (c8 : PySem.W.codeIn K cd8 "_law_same" = true) (k8 : PySem.W.keepIn K (.ref f8) = true)
    {f9 : Addr} {od9 an9 : Option Addr} {sl9 : Array (Option Value)} {oc9 kV9 dc9 pm9 cd9 ct9 : Value} (a9 : PySem.W.nsIn K mainGlobals "_law_ends" = some (some (.ref f9))) (l9 : K.lookup f9 = some ⟨oc9, od9, .func (PySem.W.fnOf "_law_ends" "_law_ends" (defArgs s_law_ends) (defBody s_law_ends) (defScope s_law_ends) .none kV9 dc9 pm9 an9 cd9 ct9), sl9⟩) (c9 : PySem.W.codeIn K cd9 "_law_ends" = true) (k9 : PySem.W.keepIn K (.ref f9) = true)
    {f10 : Addr} {od10 an10 : Option Addr} {sl10 : Array (Option Value)} {oc10 kV10 dc10 pm10 cd10 ct10 : Value} (a10 : PySem.W.nsIn K mainGlobals "_law_joints" = some (some (.ref f10))) (l10 : K.lookup f10 = some ⟨oc10, od10, .func (PySem.W.fnOf "_law_joints" "_law_joints" (defArgs s_law_joints) (defBody s_law_joints) (defScope s_law_joints) .none kV10 dc10 pm10 an10 cd10 ct10), sl10⟩) (c10 : PySem.W.codeIn K cd10 "_law_joints" = true) (k10 : PySem.W.keepIn K (.ref f10) = true)
    {f11 : Addr} {od11 an11 : Option Addr} {sl11 : Array (Option Value)} {oc11 kV11 dc11 pm11 cd11 ct11 : Value} (a11 : PySem.W.nsIn K mainGlobals "_law_shared" = some (some (.ref f11))) (l11 : K.lookup f11 = some ⟨oc11, od11, .func (PySem.W.fnOf "_law_shared" "_law_shared" (defArgs s_law_shared) (defBody s_law_shared) (defScope s_law_shared) .none kV11 dc11 pm11 an11 cd11 ct11), sl11⟩) (c11 : PySem.W.codeIn K cd11 "_law_shared" = true) (k11 : PySem.W.keepIn K (.ref f11) = true)
    {f12 : Addr} {od12 an12 : Option Addr} {sl12 : Array (Option Value)} {oc12 kV12 dc12 pm12 cd12 ct12 : Value} (a12 : PySem.W.nsIn K mainGlobals "is_from" = some (some (.ref f12))) (l12 : K.lookup f12 = some ⟨oc12, od12, .func (PySem.W.fnOf "is_from" "is_from" (defArgs s_is_from) (defBody s_is_from) (defScope s_is_from) .none kV12 dc12 pm12 an12 cd12 ct12), sl12⟩) (c12 : PySem.W.codeIn K cd12 "is_from" = true) (k12 : PySem.W.keepIn K (.ref f12) = true)
    {f13 : Addr} {od13 an13 : Option Addr} {sl13 : Array (Option Value)} {oc13 kV13 dc13 pm13 cd13 ct13 : Value} (a13 : PySem.W.nsIn K mainGlobals "joints_of" = some (some (.ref f13))) (l13 : K.lookup f13 = some ⟨oc13, od13, .func (PySem.W.fnOf "joints_of" "joints_of" (defArgs s_joints_of) (defBody s_joints_of) (defScope s_joints_of) .none kV13 dc13 pm13 an13 cd13 ct13), sl13⟩) (c13 : PySem.W.codeIn K cd13 "joints_of" = true) (k13 : PySem.W.keepIn K (.ref f13) = true)
    {f14 : Addr} {od14 an14 : Option Addr} {sl14 : Array (Option Value)} {oc14 kV14 dc14 pm14 cd14 ct14 : Value} (a14 : PySem.W.nsIn K mainGlobals "bricks_in" = some (some (.ref f14))) (l14 : K.lookup f14 = some ⟨oc14, od14, .func (PySem.W.fnOf "bricks_in" "bricks_in" (defArgs s_bricks_in) (defBody s_bricks_in) (defScope s_bricks_in) .none kV14 dc14 pm14 an14 cd14 ct14), sl14⟩) (c14 : PySem.W.codeIn K cd14 "bricks_in" = true) (k14 : PySem.W.keepIn K (.ref f14) = true)
    {f15 : Addr} {od15 an15 : Option Addr} {sl15 : Array (Option Value)} {oc15 kV15 dc15 pm15 cd15 ct15 : Value} (a15 : PySem.W.nsIn K mainGlobals "brick_at" = some (some (.ref f15))) (l15 : K.lookup f15 = some ⟨oc15, od15, .func (PySem.W.fnOf "brick_at" "brick_at" (defArgs s_brick_at) (defBody s_brick_at) (defScope s_brick_at) .none kV15 dc15 pm15 an15 cd15 ct15), sl15⟩) (c15 : PySem.W.codeIn K cd15 "brick_at" = true) (k15 : PySem.W.keepIn K (.ref f15) = true)
    {f16 : Addr} {od16 an16 : Option Addr} {sl16 : Array (Option Value)} {oc16 kV16 dc16 pm16 cd16 ct16 : Value} (a16 : PySem.W.nsIn K mainGlobals "touching" = some (some (.ref f16))) (l16 : K.lookup f16 = some ⟨oc16, od16, .func (PySem.W.fnOf "touching" "touching" (defArgs s_touching) (defBody s_touching) (defScope s_touching) .none kV16 dc16 pm16 an16 cd16 ct16), sl16⟩) (c16 : PySem.W.codeIn K cd16 "touching" = true) (k16 : PySem.W.keepIn K (.ref f16) = true)
    {f17 : Addr} {od17 an17 : Option Addr} {sl17 : Array (Option Value)} {oc17 kV17 dc17 pm17 cd17 ct17 : Value} (a17 : PySem.W.nsIn K mainGlobals "cut_out" = some (some (.ref f17))) (l17 : K.lookup f17 = some ⟨oc17, od17, .func (PySem.W.fnOf "cut_out" "cut_out" (defArgs s_cut_out) (defBody s_cut_out) (defScope s_cut_out) .none kV17 dc17 pm17 an17 cd17 ct17), sl17⟩) (c17 : PySem.W.codeIn K cd17 "cut_out" = true) (k17 : PySem.W.keepIn K (.ref f17) = true)
    {f18 : Addr} {od18 an18 : Option Addr} {sl18 : Array (Option Value)} {oc18 kV18 dc18 pm18 cd18 ct18 : Value} (a18 : PySem.W.nsIn K mainGlobals "shared_stretch" = some (some (.ref f18))) (l18 : K.lookup f18 = some ⟨oc18, od18, .func (PySem.W.fnOf "shared_stretch" "shared_stretch" (defArgs s_shared_stretch) (defBody s_shared_stretch) (defScope s_shared_stretch) .none kV18 dc18 pm18 an18 cd18 ct18), sl18⟩) (c18 : PySem.W.codeIn K cd18 "shared_stretch" = true) (k18 : PySem.W.keepIn K (.ref f18) = true)
    {f19 : Addr} {od19 an19 : Option Addr} {sl19 : Array (Option Value)} {oc19 kV19 dc19 pm19 cd19 ct19 : Value} (a19 : PySem.W.nsIn K mainGlobals "_law_pick" = some (some (.ref f19))) (l19 : K.lookup f19 = some ⟨oc19, od19, .func (PySem.W.fnOf "_law_pick" "_law_pick" (defArgs s_law_pick) (defBody s_law_pick) (defScope s_law_pick) .none kV19 dc19 pm19 an19 cd19 ct19), sl19⟩) (c19 : PySem.W.codeIn K cd19 "_law_pick" = true) (k19 : PySem.W.keepIn K (.ref f19) = true)
    {f20 : Addr} {od20 an20 : Option Addr} {sl20 : Array (Option Value)} {oc20 kV20 dc20 pm20 cd20 ct20 : Value} (a20 : PySem.W.nsIn K mainGlobals "_law_course" = some (some (.ref f20))) (l20 : K.lookup f20 = some ⟨oc20, od20, .func (PySem.W.fnOf "_law_course" "_law_course" (defArgs s_law_course) (defBody s_law_course) (defScope s_law_course) .none kV20 dc20 pm20 an20 cd20 ct20), sl20⟩) (c20 : PySem.W.codeIn K cd20 "_law_course" = true) (k20 : PySem.W.keepIn K (.ref f20) = true)
    {f21 : Addr} {od21 an21 : Option Addr} {sl21 : Array (Option Value)} {oc21 kV21 dc21 pm21 cd21 ct21 : Value} (a21 : PySem.W.nsIn K mainGlobals "is_course" = some (some (.ref f21))) (l21 : K.lookup f21 = some ⟨oc21, od21, .func (PySem.W.fnOf "is_course" "is_course" (defArgs s_is_course) (defBody s_is_course) (defScope s_is_course) .none kV21 dc21 pm21 an21 cd21 ct21), sl21⟩) (c21 : PySem.W.codeIn K cd21 "is_course" = true) (k21 : PySem.W.keepIn K (.ref f21) = true)
    {f22 : Addr} {od22 an22 : Option Addr} {sl22 : Array (Option Value)} {oc22 kV22 dc22 pm22 cd22 ct22 : Value} (a22 : PySem.W.nsIn K mainGlobals "bonded" = some (some (.ref f22))) (l22 : K.lookup f22 = some ⟨oc22, od22, .func (PySem.W.fnOf "bonded" "bonded" (defArgs s_bonded) (defBody s_bonded) (defScope s_bonded) .none kV22 dc22 pm22 an22 cd22 ct22), sl22⟩) (c22 : PySem.W.codeIn K cd22 "bonded" = true) (k22 : PySem.W.keepIn K (.ref f22) = true)
    {f23 : Addr} {od23 an23 : Option Addr} {sl23 : Array (Option Value)} {oc23 kV23 dc23 pm23 cd23 ct23 : Value} (a23 : PySem.W.nsIn K mainGlobals "laps_of" = some (some (.ref f23))) (l23 : K.lookup f23 = some ⟨oc23, od23, .func (PySem.W.fnOf "laps_of" "laps_of" (defArgs s_laps_of) (defBody s_laps_of) (defScope s_laps_of) .none kV23 dc23 pm23 an23 cd23 ct23), sl23⟩) (c23 : PySem.W.codeIn K cd23 "laps_of" = true) (k23 : PySem.W.keepIn K (.ref f23) = true)
    {f24 : Addr} {od24 an24 : Option Addr} {sl24 : Array (Option Value)} {oc24 kV24 dc24 pm24 cd24 ct24 : Value} (a24 : PySem.W.nsIn K mainGlobals "upper_bricks" = some (some (.ref f24))) (l24 : K.lookup f24 = some ⟨oc24, od24, .func (PySem.W.fnOf "upper_bricks" "upper_bricks" (defArgs s_upper_bricks) (defBody s_upper_bricks) (defScope s_upper_bricks) .none kV24 dc24 pm24 an24 cd24 ct24), sl24⟩) (c24 : PySem.W.codeIn K cd24 "upper_bricks" = true) (k24 : PySem.W.keepIn K (.ref f24) = true)
    {f25 : Addr} {od25 an25 : Option Addr} {sl25 : Array (Option Value)} {oc25 kV25 dc25 pm25 cd25 ct25 : Value} (a25 : PySem.W.nsIn K mainGlobals "lower_bricks" = some (some (.ref f25))) (l25 : K.lookup f25 = some ⟨oc25, od25, .func (PySem.W.fnOf "lower_bricks" "lower_bricks" (defArgs s_lower_bricks) (defBody s_lower_bricks) (defScope s_lower_bricks) .none kV25 dc25 pm25 an25 cd25 ct25), sl25⟩) (c25 : PySem.W.codeIn K cd25 "lower_bricks" = true) (k25 : PySem.W.keepIn K (.ref f25) = true)
    {f26 : Addr} {od26 an26 : Option Addr} {sl26 : Array (Option Value)} {oc26 kV26 dc26 pm26 cd26 ct26 : Value} (a26 : PySem.W.nsIn K mainGlobals "run_at" = some (some (.ref f26))) (l26 : K.lookup f26 = some ⟨oc26, od26, .func (PySem.W.fnOf "run_at" "run_at" (defArgs s_run_at) (defBody s_run_at) (defScope s_run_at) .none kV26 dc26 pm26 an26 cd26 ct26), sl26⟩) (c26 : PySem.W.codeIn K cd26 "run_at" = true) (k26 : PySem.W.keepIn K (.ref f26) = true)
    {f27 : Addr} {od27 an27 : Option Addr} {sl27 : Array (Option Value)} {oc27 kV27 dc27 pm27 cd27 ct27 : Value} (a27 : PySem.W.nsIn K mainGlobals "_law_bent" = some (some (.ref f27))) (l27 : K.lookup f27 = some ⟨oc27, od27, .func (PySem.W.fnOf "_law_bent" "_law_bent" (defArgs s_law_bent) (defBody s_law_bent) (defScope s_law_bent) .none kV27 dc27 pm27 an27 cd27 ct27), sl27⟩) (c27 : PySem.W.codeIn K cd27 "_law_bent" = true) (k27 : PySem.W.keepIn K (.ref f27) = true)
    {f28 : Addr} {od28 an28 : Option Addr} {sl28 : Array (Option Value)} {oc28 kV28 dc28 pm28 cd28 ct28 : Value} (a28 : PySem.W.nsIn K mainGlobals "is_laid" = some (some (.ref f28))) (l28 : K.lookup f28 = some ⟨oc28, od28, .func (PySem.W.fnOf "is_laid" "is_laid" (defArgs s_is_laid) (defBody s_is_laid) (defScope s_is_laid) .none kV28 dc28 pm28 an28 cd28 ct28), sl28⟩) (c28 : PySem.W.codeIn K cd28 "is_laid" = true) (k28 : PySem.W.keepIn K (.ref f28) = true)
    {f29 : Addr} {od29 an29 : Option Addr} {sl29 : Array (Option Value)} {oc29 kV29 dc29 pm29 cd29 ct29 : Value} (a29 : PySem.W.nsIn K mainGlobals "longest_crack" = some (some (.ref f29))) (l29 : K.lookup f29 = some ⟨oc29, od29, .func (PySem.W.fnOf "longest_crack" "longest_crack" (defArgs s_longest_crack) (defBody s_longest_crack) (defScope s_longest_crack) .none kV29 dc29 pm29 an29 cd29 ct29), sl29⟩) (c29 : PySem.W.codeIn K cd29 "longest_crack" = true) (k29 : PySem.W.keepIn K (.ref f29) = true)
    {f30 : Addr} {od30 an30 : Option Addr} {sl30 : Array (Option Value)} {oc30 kV30 dc30 pm30 cd30 ct30 : Value} (a30 : PySem.W.nsIn K mainGlobals "law" = some (some (.ref f30))) (l30 : K.lookup f30 = some ⟨oc30, od30, .func (PySem.W.fnOf "law" "law" (defArgs s_law) (defBody s_law) (defScope s_law) .none kV30 dc30 pm30 an30 cd30 ct30), sl30⟩) (c30 : PySem.W.codeIn K cd30 "law" = true) (k30 : PySem.W.keepIn K (.ref f30) = true)
    (z0 : PySem.W.nsIn K mainGlobals "len" = some none)
    (z1 : PySem.W.nsIn K mainGlobals "abs" = some none)
    (z2 : PySem.W.nsIn K mainGlobals "sum" = some none)
    (z3 : PySem.W.nsIn K mainGlobals "any" = some none)
    (z4 : PySem.W.nsIn K mainGlobals "all" = some none)
    (z5 : PySem.W.nsIn K mainGlobals "sorted" = some none)
    (z6 : PySem.W.nsIn K mainGlobals "min" = some none)
    (z7 : PySem.W.nsIn K mainGlobals "max" = some none)
    (z8 : PySem.W.nsIn K mainGlobals "tuple" = some none)
    (z9 : PySem.W.nsIn K mainGlobals "list" = some none)
    (z10 : PySem.W.nsIn K mainGlobals "int" = some none)
    (z11 : PySem.W.nsIn K mainGlobals "str" = some none)
    (z12 : PySem.W.nsIn K mainGlobals "dict" = some none)
    (z13 : PySem.W.nsIn K mainGlobals "set" = some none)
    (z14 : PySem.W.nsIn K mainGlobals "range" = some none)
    (z15 : PySem.W.nsIn K mainGlobals "zip" = some none)
    (z16 : PySem.W.nsIn K mainGlobals "isinstance" = some none)
    (z17 : PySem.W.nsIn K mainGlobals "bool" = some none) :
    ∃ fd : FuncData, (∀ (s : Shared) (v : Value), BindsTo s fd ⟨[v], []⟩ [("script", v)]) ∧ ∀ base : Heap, K.In base → base.Ns mainGlobals mg → FnOk l.prog w K mg base CX0 5 fa fd ["script"] (spLaw K) := by
  have e := hfa.symm.trans (PySem.W.mg_of X G a30)
  cases e
  have A : All K mg := ⟨by
    intro x hx
    simp only [bltN, List.mem_cons, List.not_mem_nil, or_false] at hx
    rcases hx with rfl | rfl | rfl | rfl | rfl | rfl | rfl | rfl | rfl | rfl | rfl | rfl | rfl | rfl | rfl | rfl | rfl | rfl
    · exact PySem.W.mg_none_of X G z0
    · exact PySem.W.mg_none_of X G z1
    · exact PySem.W.mg_none_of X G z2
    · exact PySem.W.mg_none_of X G z3
    · exact PySem.W.mg_none_of X G z4
    · exact PySem.W.mg_none_of X G z5
    · exact PySem.W.mg_none_of X G z6
    · exact PySem.W.mg_none_of X G z7
    · exact PySem.W.mg_none_of X G z8
    · exact PySem.W.mg_none_of X G z9
    · exact PySem.W.mg_none_of X G z10
    · exact PySem.W.mg_none_of X G z11
    · exact PySem.W.mg_none_of X G z12
    · exact PySem.W.mg_none_of X G z13
    · exact PySem.W.mg_none_of X G z14
    · exact PySem.W.mg_none_of X G z15
    · exact PySem.W.mg_none_of X G z16
    · exact PySem.W.mg_none_of X G z17, ⟨f0, _, PySem.W.mg_of X G a0, k0, fun_mk (st := s_is_number) l0 c0 k0⟩, ⟨f1, _, PySem.W.mg_of X G a1, k1, fun_mk (st := s_set_of) l1 c1 k1⟩, ⟨f2, _, PySem.W.mg_of X G a2, k2, fun_mk (st := s_width_of) l2 c2 k2⟩, ⟨f3, _, PySem.W.mg_of X G a3, k3, fun_mk (st := s_ends_of) l3 c3 k3⟩, ⟨f4, _, PySem.W.mg_of X G a4, k4, fun_mk (st := s_mirrored) l4 c4 k4⟩, ⟨f5, _, PySem.W.mg_of X G a5, k5, fun_mk (st := s_joints_in) l5 c5 k5⟩, ⟨f6, _, PySem.W.mg_of X G a6, k6, fun_mk (st := s_law_draws) l6 c6 k6⟩, ⟨f7, _, PySem.W.mg_of X G a7, k7, fun_mk (st := s_law_next) l7 c7 k7⟩, ⟨f8, _, PySem.W.mg_of X G a8, k8, fun_mk (st := s_law_same) l8 c8 k8⟩, ⟨f9, _, PySem.W.mg_of X G a9, k9, fun_mk (st := s_law_ends) l9 c9 k9⟩, ⟨f10, _, PySem.W.mg_of X G a10, k10, fun_mk (st := s_law_joints) l10 c10 k10⟩, ⟨f11, _, PySem.W.mg_of X G a11, k11, fun_mk (st := s_law_shared) l11 c11 k11⟩, ⟨f12, _, PySem.W.mg_of X G a12, k12, fun_mk (st := s_is_from) l12 c12 k12⟩, ⟨f13, _, PySem.W.mg_of X G a13, k13, fun_mk (st := s_joints_of) l13 c13 k13⟩, ⟨f14, _, PySem.W.mg_of X G a14, k14, fun_mk (st := s_bricks_in) l14 c14 k14⟩, ⟨f15, _, PySem.W.mg_of X G a15, k15, fun_mk (st := s_brick_at) l15 c15 k15⟩, ⟨f16, _, PySem.W.mg_of X G a16, k16, fun_mk (st := s_touching) l16 c16 k16⟩, ⟨f17, _, PySem.W.mg_of X G a17, k17, fun_mk (st := s_cut_out) l17 c17 k17⟩, ⟨f18, _, PySem.W.mg_of X G a18, k18, fun_mk (st := s_shared_stretch) l18 c18 k18⟩, ⟨f19, _, PySem.W.mg_of X G a19, k19, fun_mk (st := s_law_pick) l19 c19 k19⟩, ⟨f20, _, PySem.W.mg_of X G a20, k20, fun_mk (st := s_law_course) l20 c20 k20⟩, ⟨f21, _, PySem.W.mg_of X G a21, k21, fun_mk (st := s_is_course) l21 c21 k21⟩, ⟨f22, _, PySem.W.mg_of X G a22, k22, fun_mk (st := s_bonded) l22 c22 k22⟩, ⟨f23, _, PySem.W.mg_of X G a23, k23, fun_mk (st := s_laps_of) l23 c23 k23⟩, ⟨f24, _, PySem.W.mg_of X G a24, k24, fun_mk (st := s_upper_bricks) l24 c24 k24⟩, ⟨f25, _, PySem.W.mg_of X G a25, k25, fun_mk (st := s_lower_bricks) l25 c25 k25⟩, ⟨f26, _, PySem.W.mg_of X G a26, k26, fun_mk (st := s_run_at) l26 c26 k26⟩, ⟨f27, _, PySem.W.mg_of X G a27, k27, fun_mk (st := s_law_bent) l27 c27 k27⟩, ⟨f28, _, PySem.W.mg_of X G a28, k28, fun_mk (st := s_is_laid) l28 c28 k28⟩, ⟨f29, _, PySem.W.mg_of X G a29, k29, fun_mk (st := s_longest_crack) l29 c29 k29⟩, ⟨fa, _, PySem.W.mg_of X G a30, k30, fun_mk (st := s_law) l30 c30 k30⟩⟩
  exact ⟨PySem.W.fnOf "law" "law" (defArgs s_law) (defBody s_law) (defScope s_law) .none kV30 dc30 pm30 an30 cd30 ct30, fun s v => .of_eq rfl, fun base _ _ => k_law A (fun_mk (st := s_law) l30 c30 k30)⟩
end PW
open PySem PySem.W PyProof.Rows
set_option maxHeartbeats 0 in
theorem PySem.Challenge.cw_bondslaid_k00_whole_courses_and_joints_holds : PySem.Challenge.rw_bondslaid_k00_whole_courses_and_joints.Holds := by
  w_on; o_law; k_head; (case hw => w_witness2)
  k_fill
  refine L2.walk_of (l := PySem.Challenge.rw_bondslaid_k00_whole_courses_and_joints) (n := 63) (k := 5) (x := "script") (CX := fun _ => L2.CX0) (sp := fun w => PV.spLaw _) rfl (by decide) rfl ⟨rfl, by decide, by decide⟩ (fun w h Y => PySem.W.kIn_of Y) ?F (fun _ _ a ns hl _ hS => ⟨a, ns, rfl, hS, hl, fun _ => rfl⟩) (fun _ _ _ _ _ h => h)
  case F =>
    intro w mg fa h KX G hmg
    refine' PW.all_mk KX G hmg ?a0 ?l0 ?c0 ?k0 ?a1 ?l1 ?c1 ?k1 ?a2 ?l2 ?c2 ?k2 ?a3 ?l3 ?c3 ?k3 ?a4 ?l4 ?c4 ?k4 ?a5 ?l5 ?c5 ?k5 ?a6 ?l6 ?c6 ?k6 ?a7 ?l7 ?c7 ?k7 ?a8 ?l8 ?c8 ?k8 ?a9 ?l9 ?c9 ?k9 ?a10 ?l10 ?c10 ?k10 ?a11 ?l11 ?c11 ?k11 ?a12 ?l12 ?c12 ?k12 ?a13 ?l13 ?c13 ?k13 ?a14 ?l14 ?c14 ?k14 ?a15 ?l15 ?c15 ?k15 ?a16 ?l16 ?c16 ?k16 ?a17 ?l17 ?c17 ?k17 ?a18 ?l18 ?c18 ?k18 ?a19 ?l19 ?c19 ?k19 ?a20 ?l20 ?c20 ?k20 ?a21 ?l21 ?c21 ?k21 ?a22 ?l22 ?c22 ?k22 ?a23 ?l23 ?c23 ?k23 ?a24 ?l24 ?c24 ?k24 ?a25 ?l25 ?c25 ?k25 ?a26 ?l26 ?c26 ?k26 ?a27 ?l27 ?c27 ?k27 ?a28 ?l28 ?c28 ?k28 ?a29 ?l29 ?c29 ?k29 ?a30 ?l30 ?c30 ?k30 ?z0 ?z1 ?z2 ?z3 ?z4 ?z5 ?z6 ?z7 ?z8 ?z9 ?z10 ?z11 ?z12 ?z13 ?z14 ?z15 ?z16 ?z17
    (case a0 => k_is); (case l0 => k_is); (case c0 => k_is); (case k0 => k_is); (case a1 => k_is); (case l1 => k_is); (case c1 => k_is); (case k1 => k_is); (case a2 => k_is); (case l2 => k_is); (case c2 => k_is); (case k2 => k_is); (case a3 => k_is); (case l3 => k_is); (case c3 => k_is); (case k3 => k_is); (case a4 => k_is); (case l4 => k_is); (case c4 => k_is); (case k4 => k_is); (case a5 => k_is); (case l5 => k_is); (case c5 => k_is); (case k5 => k_is); (case a6 => k_is); (case l6 => k_is); (case c6 => k_is); (case k6 => k_is); (case a7 => k_is); (case l7 => k_is); (case c7 => k_is); (case k7 => k_is); (case a8 => k_is); (case l8 => k_is); (case c8 => k_is); (case k8 => k_is); (case a9 => k_is); (case l9 => k_is); (case c9 => k_is); (case k9 => k_is); (case a10 => k_is); (case l10 => k_is); (case c10 => k_is); (case k10 => k_is); (case a11 => k_is); (case l11 => k_is); (case c11 => k_is); (case k11 => k_is); (case a12 => k_is); (case l12 => k_is); (case c12 => k_is); (case k12 => k_is); (case a13 => k_is); (case l13 => k_is); (case c13 => k_is); (case k13 => k_is); (case a14 => k_is); (case l14 => k_is); (case c14 => k_is); (case k14 => k_is); (case a15 => k_is); (case l15 => k_is); (case c15 => k_is); (case k15 => k_is); (case a16 => k_is); (case l16 => k_is); (case c16 => k_is); (case k16 => k_is); (case a17 => k_is); (case l17 => k_is); (case c17 => k_is); (case k17 => k_is); (case a18 => k_is); (case l18 => k_is); (case c18 => k_is); (case k18 => k_is); (case a19 => k_is); (case l19 => k_is); (case c19 => k_is); (case k19 => k_is); (case a20 => k_is); (case l20 => k_is); (case c20 => k_is); (case k20 => k_is); (case a21 => k_is); (case l21 => k_is); (case c21 => k_is); (case k21 => k_is); (case a22 => k_is); (case l22 => k_is); (case c22 => k_is); (case k22 => k_is); (case a23 => k_is); (case l23 => k_is); (case c23 => k_is); (case k23 => k_is); (case a24 => k_is); (case l24 => k_is); (case c24 => k_is); (case k24 => k_is); (case a25 => k_is); (case l25 => k_is); (case c25 => k_is); (case k25 => k_is); (case a26 => k_is); (case l26 => k_is); (case c26 => k_is); (case k26 => k_is); (case a27 => k_is); (case l27 => k_is); (case c27 => k_is); (case k27 => k_is); (case a28 => k_is); (case l28 => k_is); (case c28 => k_is); (case k28 => k_is); (case a29 => k_is); (case l29 => k_is); (case c29 => k_is); (case k29 => k_is); (case a30 => k_is); (case l30 => k_is); (case c30 => k_is); (case k30 => k_is); (case z0 => k_is); (case z1 => k_is); (case z2 => k_is); (case z3 => k_is); (case z4 => k_is); (case z5 => k_is); (case z6 => k_is); (case z7 => k_is); (case z8 => k_is); (case z9 => k_is); (case z10 => k_is); (case z11 => k_is); (case z12 => k_is); (case z13 => k_is); (case z14 => k_is); (case z15 => k_is); (case z16 => k_is); (case z17 => k_is)

