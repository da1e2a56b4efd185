import PyProof.Rows.All
import Wide.All
import OpenK.AllK
import Wide.FinOn
import HandS.ForMost
import HandS.Deep
import HandS.TupAny
import HandS.TupMul
import HandS.TupLe
import HandS.IsInst
import HandS.Conv
import HandS.Flow
import HandS.Exc
import KE.KDictKeyed
import KE.KNest
import HandS.More
import HandS.SortInts
import HandS.RaiseMore
import HandS.ExcOwn
import HandS.WordsExc
import PyProof.ReprBulk
import HandS.Iter
import KE.GoesEnum
import HandS.SortOrd
import KE.DataFind
import HandS.TupLen
import HandS.ExcInit
import HandS.TryOnly
import HandS.ExcField
import KE.KExcIs
import HandS.Strs
import HandS.SortRule
import KE.KDictPairs
import KE.KDictSum
import KE.KDictCopyH
import PyProof.SeqIndex
import PyProof.DictRoadsH
import HandS.TupSets
import HandS.Style
import KE.KDictDisplayH
import HandS.Rev
import KE.SortData
import HandS.Text
import PyProof.Rows.RegReprOcc
import PyProof.StrOps2
import HandS.ExcValue
import PySem.Challenge.RW_farend_k58_weavings_seen_whole
set_option Elab.async false
set_option linter.all false
set_option maxRecDepth 100000
set_option maxHeartbeats 4000000

/-! The data layer: tuples as values, an own small heap of lists and instances, readings by continuation. -/
namespace FD
open PySem L2
/-- a goal is reached from another one by one step: found by its head -/
class WStp (P : Prop) (Q : outParam Prop) : Prop where
  go : Q → P
theorem wst {P Q : Prop} [WStp P Q] (h : Q) : P := WStp.go h
/-- goals at which a walk stops -/
class WEnd (P : Prop) : Prop where
theorem wend {P : Prop} [WEnd P] (h : P) : P := h
instance stpA {α : Type} (p : α → Prop) : WEnd (∀ x : α, p x) := {}

/-- data: tuples are values; whatever changes is named by its address -/
inductive D where
  | non | bl (b : Bool) | int (i : Int) | str (x : Str) | tup (xs : List D) | tpl (xs : List D) | lis (xs : List D) | ref (a : Addr) | ty (n : String)

inductive O where
  | lst (xs : List D)
  | ins (n : Str) (fs : List (Str × D))
  | dK (kvs : List (Key × D))
  /-- a dict by nested keys without texts that is walked: it stays as it is -/
  | dif (ow : Option World) (kvs : List (D × D))
  /-- a dict by nested keys; without a world: keys without texts -/
  | dic (ow : Option World) (kvs : List (D × D))
  /-- an exception that was caught and kept, its dict -/
  | exc (n : Str) (od : Option Addr)
  /-- the dict of such a one -/
  | xd (fs : List (Str × D))
  /-- the table of code objects of the def x: lambdas' alone -/
  | tab (x : Str)

abbrev DG := Addr → Option O
def up (G : DG) (a : Addr) (o : O) : DG := fun b => if b = a then some o else G b
theorem up_same {G : DG} {a : Addr} {o : O} : up G a o a = some o := by unfold up; rw [if_pos rfl]
theorem up_ne {G : DG} {a b : Addr} {o : O} (h : b ≠ a) : up G a o b = G b := by unfold up; rw [if_neg h]
theorem up_up {G : DG} {a : Addr} {o u : O} : up (up G a o) a u = up G a u := by
  funext b; unfold up; split <;> rfl
theorem gne {G : DG} {a b : Addr} {o : O} (h : G a = some o) (h' : G b = none) : a ≠ b := by
  intro e; subst e; rw [h] at h'; cases h'
/-- what is known is still known -/
def Le (G G' : DG) : Prop := ∀ a o, G a = some o → G' a = some o
theorem Le.refl (G : DG) : Le G G := fun _ _ h => h
theorem Le.trans {G G1 G2 : DG} (a : Le G G1) (b : Le G1 G2) : Le G G2 := fun c o h => b c o (a c o h)

/-! ### data as values of the hand layer -/
/-- a tuple whose object is known to have no dict of its own -/
def SqP (K : PySem.W.Frag) (H : Hp) (a : Addr) (vs : List V) : Prop := (∃ o : Obj, H a = some (.frz o (.tup vs)) ∧ o.dict = none) ∨
  ∃ (o : Obj) (its : Array Value) (n : Nat), K.lookup a = some o ∧ o.cls = .type "tuple" ∧ o.dict = none ∧ o.data = .seq its n ∧ its.size ≤ sizeLine ∧ Vals vs its.toList
theorem SqP.t {K : PySem.W.Frag} {H : Hp} {a : Addr} {vs : List V} (h : SqP K H a vs) : SqT K H a vs := by
  rcases h with ⟨o, h, _⟩ | ⟨o, its, n, h1, h2, _, h3, h4, h5⟩
  · exact .inl (.inr ⟨o, h⟩)
  · exact .inr ⟨o, its, n, h1, h2, h3, h4, h5⟩
/-- a list that stays as it is -/
def SqR (K : PySem.W.Frag) (H : Hp) (a : Addr) (vs : List V) : Prop := (∃ o : Obj, H a = some (.frz o (.lst vs))) ∨
  ∃ (o : Obj) (its : Array Value) (n : Nat), K.lookup a = some o ∧ o.cls = .type "list" ∧ o.dict = none ∧ o.data = .seq its n ∧ its.size ≤ sizeLine ∧ Vals vs its.toList
theorem SqR.l {K : PySem.W.Frag} {H : Hp} {a : Addr} {vs : List V} (h : SqR K H a vs) : SqL K H a vs := by
  rcases h with ⟨o, h⟩ | h
  · exact .inl (.inr ⟨o, h⟩)
  · exact .inr h
theorem SqP.new {K : PySem.W.Frag} {H : Hp} {a : Addr} {o : Obj} {vs : List V} (h : o.dict = none) : SqP K (upd H a (.frz o (.tup vs))) a vs := .inl ⟨o, upd_same, h⟩
inductive RD (K : PySem.W.Frag) (H : Hp) : D → V → Prop
  | non : RD K H .non .non
  | bl (b : Bool) : RD K H (.bl b) (.bl b)
  | int (i : Int) : RD K H (.int i) (.int i)
  | str (x : Str) : RD K H (.str x) (.str x)
  | ty (n : String) : RD K H (.ty n) (.ty n)
  | ref (a : Addr) : RD K H (.ref a) (.ref a)
  | lis {a : Addr} {xs : List D} {vs : List V} (h : SqR K H a vs) (hl : xs.length = vs.length) (hi : ∀ (i : Nat) (x : D) (v : V), xs[i]? = some x → vs[i]? = some v → RD K H x v) : RD K H (.lis xs) (.ref a)
  | tpl {a : Addr} {xs : List D} {vs : List V} (h : SqT K H a vs) (hl : xs.length = vs.length) (hi : ∀ (i : Nat) (x : D) (v : V), xs[i]? = some x → vs[i]? = some v → RD K H x v) : RD K H (.tpl xs) (.ref a)
  | tup {a : Addr} {xs : List D} {vs : List V} (h : SqP K H a vs) (hl : xs.length = vs.length) (hi : ∀ (i : Nat) (x : D) (v : V), xs[i]? = some x → vs[i]? = some v → RD K H x v) : RD K H (.tup xs) (.ref a)
def RDs (K : PySem.W.Frag) (H : Hp) (xs : List D) (vs : List V) : Prop := xs.length = vs.length ∧ ∀ (i : Nat) (x : D) (v : V), xs[i]? = some x → vs[i]? = some v → RD K H x v
structure KT (K : PySem.W.Frag) (H H' : Hp) : Prop where
  tup : ∀ a vs, H a = some (.tup vs) → H' a = some (.tup vs)
  frz : ∀ a o vs, H a = some (.frz o (.tup vs)) → H' a = some (.frz o (.tup vs))
  lis : ∀ a o u, H a = some (.frz o u) → H' a = some (.frz o u)
theorem KT.refl {K : PySem.W.Frag} {H : Hp} : KT K H H := ⟨fun _ _ h => h, fun _ _ _ h => h, fun _ _ _ h => h⟩
theorem KT.trans {K : PySem.W.Frag} {H H1 H2 : Hp} (a : KT K H H1) (b : KT K H1 H2) : KT K H H2 := ⟨fun c o h => b.1 c o (a.1 c o h), fun c o u h => b.2 c o u (a.2 c o u h), fun c o u h => b.3 c o u (a.3 c o u h)⟩
theorem KT.sqr {K : PySem.W.Frag} {H H' : Hp} (k : KT K H H') {a : Addr} {vs : List V} (h : SqR K H a vs) : SqR K H' a vs := by
  rcases h with ⟨o, h⟩ | h
  · exact .inl ⟨o, k.3 _ _ _ h⟩
  · exact .inr h
theorem KT.sqt {K : PySem.W.Frag} {H H' : Hp} (k : KT K H H') {a : Addr} {vs : List V} (h : SqT K H a vs) : SqT K H' a vs := by
  rcases h with (h | ⟨o, h⟩) | h
  · exact .inl (.inl (k.1 _ _ h))
  · exact .inl (.inr ⟨o, k.2 _ _ _ h⟩)
  · exact .inr h
theorem KT.sqp {K : PySem.W.Frag} {H H' : Hp} (k : KT K H H') {a : Addr} {vs : List V} (h : SqP K H a vs) : SqP K H' a vs := by
  rcases h with ⟨o, h, d⟩ | h
  · exact .inl ⟨o, k.2 _ _ _ h, d⟩
  · exact .inr h
theorem RD.kt {K : PySem.W.Frag} {H H' : Hp} (k : KT K H H') {d : D} {v : V} (r : RD K H d v) : RD K H' d v := by
  induction r with
  | non => exact .non
  | bl b => exact .bl b
  | int i => exact .int i
  | str x => exact .str x
  | ty n => exact .ty n
  | ref a => exact .ref a
  | tup h hl _ ih => exact .tup (k.sqp h) hl ih
  | tpl h hl _ ih => exact .tpl (k.sqt h) hl ih
  | lis h hl _ ih => exact .lis (k.sqr h) hl ih
theorem RDs.kt {K : PySem.W.Frag} {H H' : Hp} (k : KT K H H') {xs : List D} {vs : List V} (r : RDs K H xs vs) : RDs K H' xs vs := ⟨r.1, fun i x v a b => (r.2 i x v a b).kt k⟩
theorem RDs.nil {K : PySem.W.Frag} {H : Hp} : RDs K H [] [] := ⟨rfl, fun i x v a _ => by simp at a⟩
theorem RDs.cons {K : PySem.W.Frag} {H : Hp} {x : D} {v : V} {xs : List D} {vs : List V} (r : RD K H x v) (rs : RDs K H xs vs) : RDs K H (x :: xs) (v :: vs) :=
  ⟨by simp [rs.1], fun i y u a b => by
    cases i with
    | zero => simp at a b; subst a; subst b; exact r
    | succ i => exact rs.2 i y u (by simpa using a) (by simpa using b)⟩
theorem RDs.nil_inv {K : PySem.W.Frag} {H : Hp} {vs : List V} (r : RDs K H [] vs) : vs = [] := by
  have h := r.1
  cases vs with
  | nil => rfl
  | cons v vs => simp at h
theorem RDs.cons_inv {K : PySem.W.Frag} {H : Hp} {x : D} {xs : List D} {vs : List V} (r : RDs K H (x :: xs) vs) : ∃ v vs', vs = v :: vs' ∧ RD K H x v ∧ RDs K H xs vs' := by
  obtain ⟨hl, hi⟩ := r
  cases vs with
  | nil => simp at hl
  | cons v vs' => exact ⟨v, vs', rfl, hi 0 x v rfl rfl, by simpa using hl, fun i y u a b => hi (i + 1) y u (by simpa using a) (by simpa using b)⟩
theorem RDs.get {K : PySem.W.Frag} {H : Hp} {xs : List D} {vs : List V} (r : RDs K H xs vs) {i : Nat} {x : D} (h : xs[i]? = some x) : ∃ v, vs[i]? = some v ∧ RD K H x v := by
  have hi : i < vs.length := by
    have := (List.getElem?_eq_some_iff.mp h).1
    rw [← r.1]; exact this
  exact ⟨vs[i], List.getElem?_eq_getElem hi, r.2 i x _ h (List.getElem?_eq_getElem hi)⟩
theorem RDs.append {K : PySem.W.Frag} {H : Hp} : ∀ {xs ys : List D} {vs ws : List V}, RDs K H xs vs → RDs K H ys ws → RDs K H (xs ++ ys) (vs ++ ws)
  | [], ys, vs, ws, r, s => by
    have e := r.nil_inv
    subst e
    exact s
  | x :: xs, ys, vs, ws, r, s => by
    obtain ⟨v, vs', rfl, a, b⟩ := r.cons_inv
    exact (b.append s).cons a
theorem RDs.set {K : PySem.W.Frag} {H : Hp} {xs : List D} {vs : List V} {x : D} {v : V} (r : RDs K H xs vs) (a : RD K H x v) (i : Nat) : RDs K H (xs.set i x) (vs.set i v) := by
  refine ⟨by simp [r.1], fun j y u b c => ?_⟩
  by_cases e : i = j
  · subst e
    have h1 : i < xs.length := by
      have := (List.getElem?_eq_some_iff.mp b).1
      simpa using this
    rw [List.getElem?_set_self h1] at b
    rw [List.getElem?_set_self (by rw [← r.1]; exact h1)] at c
    cases b; cases c
    exact a
  · rw [List.getElem?_set_ne e] at b c
    exact r.2 j y u b c
theorem RDs.drop {K : PySem.W.Frag} {H : Hp} {xs : List D} {vs : List V} (r : RDs K H xs vs) (n : Nat) : RDs K H (xs.drop n) (vs.drop n) :=
  ⟨by simp [r.1], fun i x v a b => r.2 (n + i) x v (by simpa using a) (by simpa using b)⟩
theorem RDs.take {K : PySem.W.Frag} {H : Hp} {xs : List D} {vs : List V} (r : RDs K H xs vs) (n : Nat) : RDs K H (xs.take n) (vs.take n) :=
  ⟨by simp [r.1], fun i x v a b => by
    by_cases h : i < n
    · rw [List.getElem?_take_of_lt h] at a b
      exact r.2 i x v a b
    · rw [List.getElem?_take_eq_none (by omega)] at a
      cases a⟩
theorem RDs.at {K : PySem.W.Frag} {H : Hp} {xs : List D} {vs : List V} (r : RDs K H xs vs) {i : Int} {x : D} (h : atI xs i = some x) : ∃ v, atI vs i = some v ∧ RD K H x v := by
  unfold atI at h ⊢
  rw [← r.1]
  cases e : ixN xs.length i with
  | none => rw [e] at h; cases h
  | some j =>
    rw [e] at h
    exact r.get h
theorem RDs.int_inv {K : PySem.W.Frag} {H : Hp} : ∀ {ns : List Int} {vs : List V}, RDs K H (ns.map D.int) vs → vs = ns.map V.int
  | [], vs, r => r.nil_inv
  | n :: ns, vs, r => by
    obtain ⟨v, vs', rfl, a, b⟩ := RDs.cons_inv (by simpa using r)
    cases a
    rw [b.int_inv]
    rfl
theorem RDs.bl_inv {K : PySem.W.Frag} {H : Hp} : ∀ {ns : List Bool} {vs : List V}, RDs K H (ns.map D.bl) vs → vs = ns.map V.bl
  | [], vs, r => r.nil_inv
  | n :: ns, vs, r => by
    obtain ⟨v, vs', rfl, a, b⟩ := RDs.cons_inv (by simpa using r)
    cases a
    rw [b.bl_inv]
    rfl
theorem RDs.of_int {K : PySem.W.Frag} {H : Hp} : ∀ (ns : List Int), RDs K H (ns.map D.int) (ns.map V.int)
  | [] => .nil
  | n :: ns => by simpa using (RDs.of_int ns).cons (.int n)
/-! ### the small heap over the hand layer's -/
/-- the class of a name, at the program's top -/
def ClsAt (K : PySem.W.Frag) (n : Str) (C : Addr) : Prop := PySem.W.nsIn K mainGlobals n = some (some (.ref C))
theorem ClsAt.uniq {K : PySem.W.Frag} {n : Str} {C C' : Addr} (h : ClsAt K n C) (h' : ClsAt K n C') : C = C' := by
  unfold ClsAt at h h'
  rw [h] at h'
  cases h'
  rfl
/-! ### nested keys -/
mutual
def nkD : D → Option NestedKey
  | .non => some .none
  | .int i => some (.num i)
  | .bl b => some (.num (if b = true then 1 else 0))
  | .str x => some (.text x)
  | .tup xs => (nkDs xs).map .tup
  | .tpl xs => (nkDs xs).map .tup
  | .lis _ => none
  | .ref _ => none
  | .ty _ => none
def nkDs : List D → Option (List NestedKey)
  | [] => some []
  | x :: xs => match nkD x, nkDs xs with
    | some k, some ks => some (k :: ks)
    | _, _ => none
end
def HashOk (ow : Option World) (k : NestedKey) (z : Int) : Prop := match ow with
  | none => ∀ w : World, z = k.hash w
  | some w => z = k.hash w
/-- a dict's entries: keys at their places, values -/
def dicP (ow : Option World) (ks : List (NestedKey × Addr)) (vs : List V) (es : List DictEntry) : Prop := es.length = ks.length ∧ vs.length = ks.length ∧
  ∀ (i : Nat) (e : DictEntry) (k : NestedKey × Addr) (v : V), es[i]? = some e → ks[i]? = some k → vs[i]? = some v → HashOk ow k.1 e.hash ∧ e.key = .ref k.2 ∧ RelV v e.val
def dicO (ow : Option World) (a : Addr) (ks : List (NestedKey × Addr)) (vs : List V) : HO := .ext fun h => ∃ o es ep, h.get? a = some o ∧ o.ExactDict ∧ o.data = .dict es ep ∧ dicP ow ks vs es.toList
/-- an exception's object -/
def excO (a : Addr) (cls : Value) (d : Option Addr) : HO := .ext fun h => ∃ oe vs, h.get? a = some oe ∧ oe.cls = cls ∧ oe.dict = d ∧ oe.data = .fields vs
/-- the code object of a lambda of that name -/
def codF (c : Addr) (q : Str) : HO := .ext fun h => ∃ (oc : Obj) (vs : Array Value) (t : Tok), h.get? c = some oc ∧
  oc.data = .fields vs ∧ vs[1]? = some (.str q t)
abbrev lamQ (x : Str) : Str := (x ++ ".<locals>.") ++ "<lambda>"
def MO (K : PySem.W.Frag) (H : Hp) (a : Addr) : O → Prop
  | .lst xs => ∃ vs, H a = some (.lst vs) ∧ RDs K H xs vs
  | .ins n fs => ∃ C dx fvs, ClsAt K n C ∧ H a = some (.ins C dx fvs) ∧ fvs.map (·.1) = fs.map (·.1) ∧ RDs K H (fs.map (·.2)) (fvs.map (·.2))
  | .dK kvs => ∃ kvs', H a = some (.dK kvs') ∧ kvs'.map (·.1) = kvs.map (·.1) ∧ RDs K H (kvs.map (·.2)) (kvs'.map (·.2))
  | .dif ow kvs => ∃ od ks vs, H a = some (.frz od (dicO ow a ks vs)) ∧ (a == sysModules) = false ∧ kvs.length ≤ sizeLine ∧ (ks.map (·.1)).Nodup ∧ kvs.length = ks.length ∧
      (∀ (i : Nat) (kv : D × D) (k : NestedKey × Addr), kvs[i]? = some kv → ks[i]? = some k → nkD kv.1 = some k.1 ∧ k.1.depth ≤ 8 ∧ RD K H kv.1 (.ref k.2)) ∧ RDs K H (kvs.map (·.2)) vs
  | .dic ow kvs => ∃ ks vs, H a = some (dicO ow a ks vs) ∧ (a == sysModules) = false ∧ kvs.length ≤ sizeLine ∧ (ks.map (·.1)).Nodup ∧ kvs.length = ks.length ∧
      (∀ (i : Nat) (kv : D × D) (k : NestedKey × Addr), kvs[i]? = some kv → ks[i]? = some k → nkD kv.1 = some k.1 ∧ k.1.depth ≤ 8 ∧ RD K H kv.1 (.ref k.2)) ∧ RDs K H (kvs.map (·.2)) vs
  | .exc n od => ∃ C, ClsAt K n C ∧ H a = some (excO a (.ref C) od)
  | .xd fs => ∃ fvs, H a = some (.xd fvs) ∧ fvs.map (·.1) = fs.map (·.1) ∧ RDs K H (fs.map (·.2)) (fvs.map (·.2))
  | .tab x => ∃ (c : Addr) (ps : Array Value), PySem.W.tabIn K x = some (c, a) ∧ H a = some (.tbl ps) ∧ TriplesOk ps.toList ∧ ∀ (pos : Pos) (cv : Value), codeAmong pos ps.toList = some cv → ∃ c' o, cv = .ref c' ∧ H c' = some (.frz o (codF c' (lamQ x)))
def MH (K : PySem.W.Frag) (G : DG) (H : Hp) : Prop := ∀ a o, G a = some o → MO K H a o
theorem MO.keep {K : PySem.W.Frag} {H H' : Hp} {a : Addr} {o : O} (m : MO K H a o) (e : H' a = H a) (k : KT K H H') : MO K H' a o := by
  cases o with
  | lst xs => obtain ⟨vs, h, r⟩ := m; exact ⟨vs, e.trans h, r.kt k⟩
  | ins n fs => obtain ⟨C, dx, fvs, hc, h, q, r⟩ := m; exact ⟨C, dx, fvs, hc, e.trans h, q, r.kt k⟩
  | dK kvs => obtain ⟨kvs', h, q, r⟩ := m; exact ⟨kvs', e.trans h, q, r.kt k⟩
  | dif ow kvs => obtain ⟨od, ks, vs, h, a1, a2, a3, a4, a5, r⟩ := m; exact ⟨od, ks, vs, e.trans h, a1, a2, a3, a4, fun i kv x e1 e2 => let ⟨b1, b2, b3⟩ := a5 i kv x e1 e2; ⟨b1, b2, b3.kt k⟩, r.kt k⟩
  | dic ow kvs => obtain ⟨ks, vs, h, a1, a2, a3, a4, a5, r⟩ := m; exact ⟨ks, vs, e.trans h, a1, a2, a3, a4, fun i kv x e1 e2 => let ⟨b1, b2, b3⟩ := a5 i kv x e1 e2; ⟨b1, b2, b3.kt k⟩, r.kt k⟩
  | exc n od => obtain ⟨C, hc, h⟩ := m; exact ⟨C, hc, e.trans h⟩
  | xd fs => obtain ⟨fvs, h, q, r⟩ := m; exact ⟨fvs, e.trans h, q, r.kt k⟩
  | tab x => obtain ⟨c, ps, t, h, q, r⟩ := m; exact ⟨c, ps, t, e.trans h, q, fun pos cv z => let ⟨c', o, e1, e2⟩ := r pos cv z; ⟨c', o, e1, k.3 _ _ _ e2⟩⟩
theorem MH.le {K : PySem.W.Frag} {G G' : DG} {H : Hp} (m : MH K G H) (l : Le G' G) : MH K G' H := fun a o h => m a o (l a o h)
theorem MH.upd {K : PySem.W.Frag} {G : DG} {H : Hp} {p : Addr} {o : O} {u : HO} (m : MH K G H) (k : KT K H (upd H p u)) (n : MO K (L2.upd H p u) p o) : MH K (up G p o) (L2.upd H p u) := fun a x h => by
  by_cases e : a = p
  · subst e
    rw [up_same] at h
    cases h
    exact n
  · rw [up_ne e] at h
    exact (m a x h).keep (upd_ne e) k
/-- behind a new object that isn't tracked -/
theorem MH.new {K : PySem.W.Frag} {G : DG} {H : Hp} {p : Addr} {u : HO} (m : MH K G H) (k : KT K H (L2.upd H p u)) (n : G p = none) : MH K G (L2.upd H p u) := fun a x h => (m a x h).keep (upd_ne (gne h n)) k
theorem KT.upd_new {K : PySem.W.Frag} {H : Hp} {p : Addr} {u : HO} (h : H p = none) : KT K H (L2.upd H p u) :=
  ⟨fun a vs s => by rw [upd_ne (ne_of_none s h)]; exact s, fun a o vs s => by rw [upd_ne (ne_of_none s h)]; exact s, fun a o vs s => by rw [upd_ne (ne_of_none s h)]; exact s⟩
/-- .. behind a change of what is neither a tuple nor locked -/
theorem KT.upd_mut {K : PySem.W.Frag} {H : Hp} {p : Addr} {u w : HO} (h : H p = some w) (ht : ∀ xs, w ≠ .tup xs) (hf : ∀ o x, w ≠ .frz o x) : KT K H (L2.upd H p u) :=
  ⟨fun a vs s => by rw [upd_ne (ne_of s h (fun e => ht _ e.symm))]; exact s, fun a o vs s => by rw [upd_ne (ne_of s h (fun e => hf _ _ e.symm))]; exact s, fun a o vs s => by rw [upd_ne (ne_of s h (fun e => hf _ _ e.symm))]; exact s⟩
theorem MH.fresh {K : PySem.W.Frag} {G : DG} {H : Hp} {p : Addr} (m : MH K G H) (h : H p = none) : G p = none := by
  cases e : G p with
  | none => rfl
  | some o =>
    have q := m p o e
    cases o with
    | lst xs => obtain ⟨vs, h1, _⟩ := q; rw [h] at h1; cases h1
    | ins n fs => obtain ⟨C, dx, fvs, _, h1, _⟩ := q; rw [h] at h1; cases h1
    | dK kvs => obtain ⟨kvs', h1, _⟩ := q; rw [h] at h1; cases h1
    | dif ow kvs => obtain ⟨_, _, _, h1, _⟩ := q; rw [h] at h1; cases h1
    | dic ow kvs => obtain ⟨_, _, h1, _⟩ := q; rw [h] at h1; cases h1
    | exc n od => obtain ⟨_, _, h1⟩ := q; rw [h] at h1; cases h1
    | xd fs => obtain ⟨_, h1, _⟩ := q; rw [h] at h1; cases h1
    | tab x => obtain ⟨_, _, _, h1, _⟩ := q; rw [h] at h1; cases h1
end FD

namespace FD
open PySem L2

abbrev DSt := List (Option D)
abbrev DK := D → DG → Prop
abbrev DE := DSt → DG → DK → Prop
abbrev DTt := DSt → DG → (Bool → DG → Prop) → Prop
abbrev DA := DSt → DG → (List D → DG → Prop) → Prop
structure DEnds where
  nx : DSt → DG → Prop
  rt : DK
  bk : DSt → DG → Prop
  ct : DSt → DG → Prop
abbrev DS := DEnds → DSt → DG → Prop
def DEnds.Le (D D' : DEnds) : Prop := (∀ σ G, D.nx σ G → D'.nx σ G) ∧ (∀ d G, D.rt d G → D'.rt d G) ∧ (∀ σ G, D.bk σ G → D'.bk σ G) ∧ (∀ σ G, D.ct σ G → D'.ct σ G)

def SR (K : PySem.W.Frag) (H : Hp) (σd : DSt) (σ : St) : Prop := σd.length = σ.length ∧ ∀ (i : Nat) (d : D), σd[i]? = some (some d) → ∃ v, σ[i]? = some (some v) ∧ RD K H d v
theorem SR.kt {K : PySem.W.Frag} {H H' : Hp} {σd : DSt} {σ : St} (s : SR K H σd σ) (k : KT K H H') : SR K H' σd σ := ⟨s.1, fun i d h => let ⟨v, a, b⟩ := s.2 i d h; ⟨v, a, b.kt k⟩⟩
theorem SR.set {K : PySem.W.Frag} {H : Hp} {σd : DSt} {σ : St} (s : SR K H σd σ) {d : D} {v : V} (r : RD K H d v) (i : Nat) : SR K H (σd.set i (some d)) (σ.set i (some v)) := by
  refine ⟨by simp [s.1], fun j e h => ?_⟩
  by_cases q : i = j
  · subst q
    have h1 : i < σd.length := by
      have := (List.getElem?_eq_some_iff.mp h).1
      simpa using this
    rw [List.getElem?_set_self h1] at h
    cases h
    exact ⟨v, List.getElem?_set_self (by rw [← s.1]; exact h1), r⟩
  · rw [List.getElem?_set_ne q] at h ⊢
    exact s.2 j e h
theorem SR.forget {K : PySem.W.Frag} {H : Hp} {σd : DSt} {σ : St} (s : SR K H σd σ) (i : Nat) (o : Option V) : SR K H (σd.set i none) (σ.set i o) := by
  refine ⟨by simp [s.1], fun j e h => ?_⟩
  by_cases q : i = j
  · subst q
    have h1 : i < σd.length := by
      have := (List.getElem?_eq_some_iff.mp h).1
      simpa using this
    rw [List.getElem?_set_self h1] at h
    cases h
  · rw [List.getElem?_set_ne q] at h ⊢
    exact s.2 j e h

def lf (K : PySem.W.Frag) (H : Hp) (Q : VK) : DK := fun d G' => ∀ v H', MH K G' H' → RD K H' d v → KT K H H' → Q v H'
def lfT (K : PySem.W.Frag) (H : Hp) (Q : Bool → Hp → Prop) : Bool → DG → Prop := fun b G' => ∀ H', MH K G' H' → KT K H H' → Q b H'
def lfA (K : PySem.W.Frag) (H : Hp) (Q : List V → Hp → Prop) : List D → DG → Prop := fun ds G' => ∀ vs H', MH K G' H' → RDs K H' ds vs → KT K H H' → Q vs H'
def lfS (K : PySem.W.Frag) (H : Hp) (Q : St → Hp → Prop) : DSt → DG → Prop := fun σd G' => ∀ σ H', MH K G' H' → SR K H' σd σ → KT K H H' → Q σ H'
def lfE (K : PySem.W.Frag) (H : Hp) (D : Ends) : DEnds := { nx := lfS K H D.nx, rt := lf K H D.rt, bk := lfS K H D.bk, ct := lfS K H D.ct }
theorem lf_kt {K : PySem.W.Frag} {H H' : Hp} {Q : VK} (k : KT K H H') {d : D} {G : DG} (h : lf K H Q d G) : lf K H' Q d G := fun v H2 a b c => h v H2 a b (k.trans c)
theorem lfT_kt {K : PySem.W.Frag} {H H' : Hp} {Q : Bool → Hp → Prop} (k : KT K H H') {d : Bool} {G : DG} (h : lfT K H Q d G) : lfT K H' Q d G := fun H2 a c => h H2 a (k.trans c)
theorem lfS_kt {K : PySem.W.Frag} {H H' : Hp} {Q : St → Hp → Prop} (k : KT K H H') {d : DSt} {G : DG} (h : lfS K H Q d G) : lfS K H' Q d G := fun v H2 a b c => h v H2 a b (k.trans c)
theorem lfE_kt {K : PySem.W.Frag} {H H' : Hp} {D : Ends} (k : KT K H H') : (lfE K H D).Le (lfE K H' D) := ⟨fun _ _ h => lfS_kt k h, fun _ _ h => lf_kt k h, fun _ _ h => lfS_kt k h, fun _ _ h => lfS_kt k h⟩

def MonoE (t : DE) : Prop := ∀ σ G (Q Q' : DK), (∀ d G', Q d G' → Q' d G') → t σ G Q → t σ G Q'
def MonoT (t : DTt) : Prop := ∀ σ G (Q Q' : Bool → DG → Prop), (∀ d G', Q d G' → Q' d G') → t σ G Q → t σ G Q'
def MonoA (t : DA) : Prop := ∀ σ G (Q Q' : List D → DG → Prop), (∀ d G', Q d G' → Q' d G') → t σ G Q → t σ G Q'
def MonoS (t : DS) : Prop := ∀ σ G (D D' : DEnds), D.Le D' → t D σ G → t D' σ G

structure DPE (X : Cx) (e : Expr) (t : DE) : Prop where
  mono : MonoE t
  run : ∃ tt, PE X e tt ∧ ∀ σ H σd G Q, MH X.K G H → SR X.K H σd σ → t σd G (lf X.K H Q) → tt σ H Q
structure DPT (X : Cx) (e : Expr) (t : DTt) : Prop where
  mono : MonoT t
  run : ∃ tt, PT X e tt ∧ ∀ σ H σd G Q, MH X.K G H → SR X.K H σd σ → t σd G (lfT X.K H Q) → tt σ H Q
structure DPW (X : Cx) (e : Expr) (t : DTt) : Prop where
  mono : MonoT t
  run : ∃ tt, PW X e tt ∧ ∀ σ H σd G Q, MH X.K G H → SR X.K H σd σ → t σd G (lfT X.K H Q) → tt σ H Q
structure DPA (X : Cx) (es : List Expr) (t : DA) : Prop where
  mono : MonoA t
  run : ∃ tt, PA X es tt ∧ ∀ σ H σd G Q, MH X.K G H → SR X.K H σd σ → t σd G (lfA X.K H Q) → tt σ H Q
structure DPS (X : Cx) (st : Stmt) (t : DS) : Prop where
  mono : MonoS t
  run : ∃ tt, PS X st tt ∧ ∀ σ H σd G D, MH X.K G H → SR X.K H σd σ → t (lfE X.K H D) σd G → tt D σ H
structure DPSs (X : Cx) (st : List Stmt) (t : DS) : Prop where
  mono : MonoS t
  run : ∃ tt, PSs X st tt ∧ ∀ σ H σd G D, MH X.K G H → SR X.K H σd σ → t (lfE X.K H D) σd G → tt D σ H

section
variable {X : Cx} {a b c e : Expr} {es rest : List Expr} {ta tb tc : DE} {pos : Pos}

/-! ### names and constants -/
def getS (σ : DSt) (i : Nat) : Option D := match σ[i]? with | some (some d) => some d | _ => none
def opt (o : Option D) (G : DG) (Q : DK) : Prop := match o with | some d => Q d G | none => False
theorem opt_mono {o : Option D} {G : DG} {Q Q' : DK} (h : ∀ d G', Q d G' → Q' d G') (q : opt o G Q) : opt o G Q' := by
  cases o with
  | none => exact q
  | some d => exact h _ _ q
def dVar (i : Nat) : DE := fun σ G Q => opt (getS σ i) G Q
def dC (d : D) : DE := fun _ G Q => Q d G
theorem de_var (i : Nat) {x : Str} (hN : X.N[i]? = some x := by rfl) (hv : Vis X.env.scope x := by first | exact Or.inl rfl | exact Or.inr (Or.inl rfl) | exact Or.inr (Or.inr rfl)) (hd : (x == ("__debug__" : Str)) = false := by decide)
    (hcd : (x == ("__classdict__" : Str)) = false := by decide) : DPE X (.Name x pos) (dVar i) := by
  refine ⟨fun σ G Q Q' h q => opt_mono h q, tVar i, pe_var hN hv hd hcd, fun σ H σd G Q m s h => ?_⟩
  unfold dVar getS at h
  cases e : σd[i]? with
  | none => rw [e] at h; exact False.elim h
  | some o =>
    cases o with
    | none => rw [e] at h; exact False.elim h
    | some d =>
      rw [e] at h
      obtain ⟨v, h1, h2⟩ := s.2 i d e
      exact ⟨v, h1, h v H m h2 .refl⟩
theorem de_const {v : V} {d : D} (p : PE X e (tC v)) (r : ∀ H, RD X.K H d v) : DPE X e (dC d) :=
  ⟨fun σ G Q Q' h q => h _ _ q, tC v, p, fun σ H σd G Q m s h => h v H m (r H) .refl⟩
theorem de_int {i : Int} {j} : DPE X (.Constant (.int i) j pos) (dC (.int i)) := de_const pe_int fun _ => .int i
theorem de_bl {b : Bool} {j} : DPE X (.Constant (.bool b) j pos) (dC (.bl b)) := de_const pe_bl fun _ => .bl b
theorem de_non {j} : DPE X (.Constant .none j pos) (dC .non) := de_const pe_non fun _ => .non
theorem de_str {x : Str} {j} : DPE X (.Constant (.str x) j pos) (dC (.str x)) := de_const pe_str fun _ => .str x
theorem de_glob {x : Str} {v : V} {d : D} {u : Value} (hg : Gl X x) (hm : X.mg x = some u) (r : RelV v u) (rd : ∀ H, RD X.K H d v) (hd : (x == ("__debug__" : Str)) = false := by decide) : DPE X (.Name x pos) (dC d) := de_const (pe_glob hg hm r hd) rd
theorem de_bltn {x : Str} {T : String} (hg : Gl X x) (hm : X.mg x = none) (hv : bootBuiltins x = some (.type T)) (hn : x ≠ "__name__" := by decide) (hd : (x == ("__debug__" : Str)) = false := by decide) : DPE X (.Name x pos) (dC (.ty T)) :=
  de_const (pe_bltn hg hm hv (v := .ty T) rfl hn hd) fun _ => .ty T

/-! ### operators by two values -/
abbrev F2 := D → D → DG → DK → Prop
def MonoF2 (f : F2) : Prop := ∀ x y G (Q Q' : DK), (∀ d G', Q d G' → Q' d G') → f x y G Q → f x y G Q'
def dOp (f : F2) (ta tb : DE) : DE := fun σ G Q => ta σ G fun x G1 => tb σ G1 fun y G2 => f x y G2 Q
def Sim2 (K : PySem.W.Frag) (r : R2) (f : F2) : Prop := ∀ H G x y dx dy Q, MH K G H → RD K H dx x → RD K H dy y → f dx dy G (lf K H Q) → r x y H Q
theorem dOp_mono {f : F2} (hm : MonoF2 f) (ha : MonoE ta) (hb : MonoE tb) : MonoE (dOp f ta tb) := fun σ G Q Q' h q =>
  ha σ G _ _ (fun x G1 q1 => hb σ G1 _ _ (fun y G2 q2 => hm x y G2 Q Q' h q2) q1) q
theorem dOp_run {K : PySem.W.Frag} {r : R2} {f : F2} {tta ttb : TE} (hm : MonoF2 f) (hs : Sim2 K r f) (ma : MonoE ta) (mb : MonoE tb)
    (ra : ∀ σ H σd G Q, MH K G H → SR K H σd σ → ta σd G (lf K H Q) → tta σ H Q) (rb : ∀ σ H σd G Q, MH K G H → SR K H σd σ → tb σd G (lf K H Q) → ttb σ H Q) :
    ∀ σ H σd G Q, MH K G H → SR K H σd σ → dOp f ta tb σd G (lf K H Q) → tOp r tta ttb σ H Q := fun σ H σd G Q m s h =>
  ra σ H σd G _ m s (ma _ _ _ _ (fun dx G1 h1 x H1 m1 r1 k1 => rb σ H1 σd G1 _ m1 (s.kt k1) (mb _ _ _ _ (fun dy G2 h2 y H2 m2 r2 k2 =>
    hs H2 G2 x y dx dy Q m2 (r1.kt k2) r2 (hm _ _ _ _ _ (fun d G' z => lf_kt (k1.trans k2) z) h2)) h1)) h)
theorem de_op {op : Operator} {r : R2} {f : F2} (ho : OpR X (binaryOp op) r) (hm : MonoF2 f) (hs : Sim2 X.K r f) (ha : DPE X a ta) (hb : DPE X b tb) : DPE X (.BinOp a op b pos) (dOp f ta tb) := by
  obtain ⟨ma, tta, pa, ra⟩ := ha
  obtain ⟨mb, ttb, pb, rb⟩ := hb
  exact ⟨dOp_mono hm ma mb, _, pe_op ho pa pb, dOp_run hm hs ma mb ra rb⟩
theorem de_cmpR {op : CmpOp} {r : R2} {f : F2} (ho : OpR X (compareOp op) r) (hm : MonoF2 f) (hs : Sim2 X.K r f) (ha : DPE X a ta) (hb : DPE X b tb) (hk : behindInMarks op b = false) : DPE X (.Compare a [op] [b] pos) (dOp f ta tb) := by
  obtain ⟨ma, tta, pa, ra⟩ := ha
  obtain ⟨mb, ttb, pb, rb⟩ := hb
  exact ⟨dOp_mono hm ma mb, _, pe_cmpR ho pa pb hk, dOp_run hm hs ma mb ra rb⟩
/-- a value that is a truth, as a test -/
def dTest (t : DE) : DTt := fun σ G Q => t σ G fun d G' => match d with | .bl k => Q k G' | _ => False
theorem dTest_mono (ha : MonoE ta) : MonoT (dTest ta) := fun σ G Q Q' h q => ha σ G _ _ (fun x G1 q1 => by
  cases x <;> first | exact h _ _ q1 | exact False.elim q1) q
theorem dTest_run {K : PySem.W.Frag} {tta : TE} (ma : MonoE ta) (ra : ∀ σ H σd G Q, MH K G H → SR K H σd σ → ta σd G (lf K H Q) → tta σ H Q) :
    ∀ σ H σd G Q, MH K G H → SR K H σd σ → dTest ta σd G (lfT K H Q) → tTest tta σ H Q := fun σ H σd G Q m s h =>
  ra σ H σd G _ m s (ma _ _ _ _ (fun d G' q v H' m' r' k' => by
    cases d with
    | bl k => cases r'; exact ⟨k, rfl, q H' m' k'⟩
    | _ => exact False.elim q) h)
theorem dt_cmpR {op : CmpOp} {r : R2} {f : F2} (ho : OpR X (compareOp op) r) (hm : MonoF2 f) (hs : Sim2 X.K r f) (ha : DPE X a ta) (hb : DPE X b tb) (hk : behindInMarks op b = false) : DPT X (.Compare a [op] [b] pos) (dTest (dOp f ta tb)) := by
  obtain ⟨ma, tta, pa, ra⟩ := ha
  obtain ⟨mb, ttb, pb, rb⟩ := hb
  exact ⟨dTest_mono (dOp_mono hm ma mb), _, pt_cmpR ho pa pb hk, dTest_run (dOp_mono hm ma mb) (dOp_run hm hs ma mb ra rb)⟩
/-- one place -/
abbrev F1 := D → DG → DK → Prop
def MonoF1 (f : F1) : Prop := ∀ x G (Q Q' : DK), (∀ d G', Q d G' → Q' d G') → f x G Q → f x G Q'
def dUn (f : F1) (ta : DE) : DE := fun σ G Q => ta σ G fun x G1 => f x G1 Q
def Sim1 (K : PySem.W.Frag) (r : V → Hp → VK → Prop) (f : F1) : Prop := ∀ H G x dx Q, MH K G H → RD K H dx x → f dx G (lf K H Q) → r x H Q
theorem dUn_mono {f : F1} (hm : MonoF1 f) (ha : MonoE ta) : MonoE (dUn f ta) := fun σ G Q Q' h q => ha σ G _ _ (fun x G1 q1 => hm x G1 Q Q' h q1) q
theorem dUn_run {K : PySem.W.Frag} {r : V → Hp → VK → Prop} {f : F1} {tta : TE} (hm : MonoF1 f) (hs : Sim1 K r f) (ma : MonoE ta)
    (ra : ∀ σ H σd G Q, MH K G H → SR K H σd σ → ta σd G (lf K H Q) → tta σ H Q) :
    ∀ σ H σd G Q, MH K G H → SR K H σd σ → dUn f ta σd G (lf K H Q) → tUn r tta σ H Q := fun σ H σd G Q m s h =>
  ra σ H σd G _ m s (ma _ _ _ _ (fun dx G1 h1 x H1 m1 r1 k1 => hs H1 G1 x dx Q m1 r1 (hm _ _ _ _ (fun d G' z => lf_kt k1 z) h1)) h)
theorem de_un {op : UnaryOp} {r : V → Hp → VK → Prop} {f : F1} (ho : UnR X (unaryOp op) r) (hm : MonoF1 f) (hs : Sim1 X.K r f) (ha : DPE X a ta) : DPE X (.UnaryOp op a pos) (dUn f ta) := by
  obtain ⟨ma, tta, pa, ra⟩ := ha
  exact ⟨dUn_mono hm ma, _, pe_un ho pa, dUn_run hm hs ma ra⟩

/-! ### argument lists, tuples, lists -/
def dNil : DA := fun _ G Q => Q [] G
def dCons (t : DE) (ts : DA) : DA := fun σ G Q => t σ G fun x G1 => ts σ G1 fun xs G2 => Q (x :: xs) G2
theorem da_nil : DPA X [] dNil := ⟨fun σ G Q Q' h q => h _ _ q, tNil, pa_nil, fun σ H σd G Q m s h => h [] H m .nil .refl⟩
theorem da_cons {ts : DA} (ha : DPE X e ta) (hr : DPA X es ts) (hs : starEach (e :: es) X.env = (false, eval e X.env) :: starEach es X.env := by rfl) : DPA X (e :: es) (dCons ta ts) := by
  obtain ⟨ma, tta, pa, ra⟩ := ha
  obtain ⟨mr, ttr, pr, rr⟩ := hr
  refine ⟨fun σ G Q Q' h q => ma σ G _ _ (fun x G1 q1 => mr σ G1 _ _ (fun xs G2 q2 => h _ _ q2) q1) q, _, pa_cons pa pr hs, fun σ H σd G Q m s h => ?_⟩
  exact ra σ H σd G _ m s (ma _ _ _ _ (fun dx G1 h1 x H1 m1 r1 k1 => rr σ H1 σd G1 _ m1 (s.kt k1) (mr _ _ _ _ (fun dxs G2 h2 xs H2 m2 r2 k2 => h2 (x :: xs) H2 m2 (r2.cons (r1.kt k2)) (k1.trans k2)) h1)) h)
def dTup (t : DA) : DE := fun σ G Q => t σ G fun xs G1 => xs.length ≤ sizeLine ∧ Q (.tup xs) G1
def dLst (t : DA) : DE := fun σ G Q => t σ G fun xs G1 => xs.length ≤ sizeLine ∧ ∀ p, G1 p = none → Q (.ref p) (up G1 p (.lst xs))
theorem RD.new_tup {K : PySem.W.Frag} {H : Hp} {p : Addr} {o : Obj} {ds : List D} {vs : List V} (r : RDs K H ds vs) (hp : H p = none) (hd : o.dict = none) : RD K (L2.upd H p (.frz o (.tup vs))) (.tup ds) (.ref p) :=
  .tup (.new hd) r.1 fun i x v a b => (r.2 i x v a b).kt (KT.upd_new hp)
/-- a new tuple, known as an object -/
def NewT (H : Hp) (xs : List V) (Q : VK) : Prop := ∀ (p : Addr) (o : Obj), H p = none → o.dict = none → Q (.ref p) (upd H p (.frz o (.tup xs)))
theorem newT_inv {pins : List (Addr × Obj)} {σ : St} {H : Hp} {s : Shared} {Q : VK} {xs : List V} {its : List Value} {h' : Heap} {n : Nat} (I : Inv X pins σ H { s with heap := h' }) (r : Vals xs its) (z : xs.length ≤ sizeLine) (q : NewT H xs Q) :
    EP X pins σ Q (.ref h'.objs.size) { s with heap := h'.push { cls := .type "tuple", data := .seq its.toArray n } } := by
  have hf : H h'.objs.size = none := I.hok.fresh (Nat.le_refl _)
  refine ⟨.ref h'.objs.size, _, I.laid (t' := s.toks) (fun b u e => Heap.get?_push_of_some _ e) (Nat.le_refl _) ?_, rfl, q _ { cls := .type "tuple", data := .seq its.toArray n } hf rfl⟩
  exact ⟨Heap.get?_push_size _ rfl, z, its, r, ⟨_, Heap.get?_push_size _ rfl, rfl, _, rfl⟩⟩
def tTupP (t : TA) : TE := fun σ H Q => t σ H fun xs H1 => xs.length ≤ sizeLine ∧ NewT H1 xs Q
theorem pe_tupP {x1} {t : TA} (h : PA X es t) : PE X (.Tuple es x1 pos) (tTupP t) := by
  refine ⟨fun pins s σ H Q I hq => ?_⟩
  refine wpAny_Tuple_spliced (thn (h.run pos pins s σ H _ I hq) fun us s1 ⟨xs, H1, I1, r, z, q⟩ => ⟨by rw [← r.length]; exact z, ?_⟩)
  exact newT_inv (s := s1) (h' := s1.heap) I1 r z q
theorem MO.new_lst {K : PySem.W.Frag} {H : Hp} {p : Addr} {ds : List D} {vs : List V} (r : RDs K H ds vs) (k : KT K H (L2.upd H p (.lst vs))) : MO K (L2.upd H p (.lst vs)) p (.lst ds) := ⟨vs, upd_same, r.kt k⟩
theorem de_tup {x1} {t : DA} (h : DPA X es t) : DPE X (.Tuple es x1 pos) (dTup t) := by
  obtain ⟨ma, tta, pa, ra⟩ := h
  refine ⟨fun σ G Q Q' h q => ma σ G _ _ (fun x G1 q1 => ⟨q1.1, h _ _ q1.2⟩) q, _, pe_tupP pa, fun σ H σd G Q m s h => ?_⟩
  refine ra σ H σd G _ m s (ma _ _ _ _ (fun ds G1 h1 vs H1 m1 r1 k1 => ?_) h)
  refine ⟨by rw [← r1.1]; exact h1.1, fun p o hp hd => ?_⟩
  exact h1.2 (.ref p) _ (m1.new (.upd_new hp) (m1.fresh hp)) (.new_tup r1 hp hd) (k1.trans (.upd_new hp))
theorem de_lst {t : DA} (h : DPA X es t) : DPE X (.List es pos) (dLst t) := by
  obtain ⟨ma, tta, pa, ra⟩ := h
  refine ⟨fun σ G Q Q' h q => ma σ G _ _ (fun x G1 q1 => ⟨q1.1, fun p hp => h _ _ (q1.2 p hp)⟩) q, _, pe_lst pa, fun σ H σd G Q m s h => ?_⟩
  refine ra σ H σd G _ m s (ma _ _ _ _ (fun ds G1 h1 vs H1 m1 r1 k1 => ?_) h)
  refine ⟨by rw [← r1.1]; exact h1.1, fun p hp => ?_⟩
  exact h1.2 p (m1.fresh hp) (.ref p) _ (m1.upd (.upd_new hp) (.new_lst r1 (.upd_new hp))) (.ref p) (k1.trans (.upd_new hp))

/-! ### calls of built-ins by values -/
abbrev FL := List D → DG → DK → Prop
def MonoFL (f : FL) : Prop := ∀ x G (Q Q' : DK), (∀ d G', Q d G' → Q' d G') → f x G Q → f x G Q'
def SimL (K : PySem.W.Frag) (r : List V → Hp → VK → Prop) (f : FL) : Prop := ∀ H G xs dxs Q, MH K G H → RDs K H dxs xs → f dxs G (lf K H Q) → r xs H Q
def dCB (f : FL) (t : DA) : DE := fun σ G Q => t σ G fun xs G1 => f xs G1 Q
theorem dCB_mono {f : FL} {t : DA} (hm : MonoFL f) (ha : MonoA t) : MonoE (dCB f t) := fun σ G Q Q' h q => ha σ G _ _ (fun x G1 q1 => hm x G1 Q Q' h q1) q
theorem dCB_run {K : PySem.W.Frag} {r : List V → Hp → VK → Prop} {f : FL} {t : DA} {tta : TA} (hm : MonoFL f) (hs : SimL K r f) (ma : MonoA t)
    (ra : ∀ σ H σd G Q, MH K G H → SR K H σd σ → t σd G (lfA K H Q) → tta σ H Q) :
    ∀ σ H σd G Q, MH K G H → SR K H σd σ → dCB f t σd G (lf K H Q) → tCB r tta σ H Q := fun σ H σd G Q m s h =>
  ra σ H σd G _ m s (ma _ _ _ _ (fun dx G1 h1 x H1 m1 r1 k1 => hs H1 G1 x dx Q m1 r1 (hm _ _ _ _ (fun d G' z => lf_kt k1 z) h1)) h)
theorem de_callB {x : Str} {id : String} {p : Pos} {r : List V → Hp → VK → Prop} {f : FL} {t : DA} (hc : CallR X (.builtin id) r) (hmf : MonoFL f) (hs : SimL X.K r f) (hg : Gl X x) (hm : X.mg x = none) (hv : bootBuiltins x = some (.builtin id)) (ha : DPA X (e :: es) t) (hn : x ≠ "__name__" := by decide) (hdb : (x == ("__debug__" : Str)) = false := by decide)
    (h1 : starEach (e :: es) X.env = (false, eval e X.env) :: starEach es X.env := by rfl) (h2 : ((backTo pos (starEach es X.env)).any fun x => x.fst) = false := by rfl) : DPE X (.Call (.Name x p) (e :: es) [] pos) (dCB f t) := by
  obtain ⟨ma, tta, pa, ra⟩ := ha
  exact ⟨dCB_mono hmf ma, _, pe_callB hc hg hm hv pa hn hdb h1 h2, dCB_run hmf hs ma ra⟩
theorem de_callTy {x : Str} {T : String} {p : Pos} {r : List V → Hp → VK → Prop} {f : FL} {t : DA} (hc : CallR X (.type T) r) (hmf : MonoFL f) (hs : SimL X.K r f) (hg : Gl X x) (hm : X.mg x = none) (hv : bootBuiltins x = some (.type T)) (ha : DPA X (e :: es) t) (hn : x ≠ "__name__" := by decide) (hdb : (x == ("__debug__" : Str)) = false := by decide)
    (h1 : starEach (e :: es) X.env = (false, eval e X.env) :: starEach es X.env := by rfl) (h2 : ((backTo pos (starEach es X.env)).any fun x => x.fst) = false := by rfl) : DPE X (.Call (.Name x p) (e :: es) [] pos) (dCB f t) := by
  obtain ⟨ma, tta, pa, ra⟩ := ha
  exact ⟨dCB_mono hmf ma, _, pe_callTy hc hg hm hv pa hn hdb h1 h2, dCB_run hmf hs ma ra⟩

/-! ### tests -/
def dAnd (t u : DTt) : DTt := fun σ G Q => t σ G fun k G1 => if k = true then u σ G1 Q else Q false G1
def dOr (t u : DTt) : DTt := fun σ G Q => t σ G fun k G1 => if k = true then Q true G1 else u σ G1 Q
def dNot (t : DTt) : DTt := fun σ G Q => t σ G fun k G1 => Q (!k) G1
variable {tA tB' : DTt}
theorem dw_and1 (ha : DPT X a tA) : DPW X (.BoolOp .And [a] pos) tA := let ⟨m, tt, p, r⟩ := ha; ⟨m, tt, pw_and1 p, r⟩
theorem dw_or1 (ha : DPT X a tA) : DPW X (.BoolOp .Or [a] pos) tA := let ⟨m, tt, p, r⟩ := ha; ⟨m, tt, pw_or1 p, r⟩
theorem dw_and (ha : DPT X a tA) (hb : DPW X (.BoolOp .And (b :: rest) pos) tB') : DPW X (.BoolOp .And (a :: b :: rest) pos) (dAnd tA tB') := by
  obtain ⟨ma, tta, pa, ra⟩ := ha
  obtain ⟨mb, ttb, pb, rb⟩ := hb
  refine ⟨fun σ G Q Q' h q => ma σ G _ _ (fun k G1 q1 => ?_) q, _, pw_and pa pb, fun σ H σd G Q m s h => ra σ H σd G _ m s (ma _ _ _ _ (fun k G1 h1 H1 m1 k1 => ?_) h)⟩
  · cases k with
    | true => exact mb σ G1 Q Q' h q1
    | false => exact h _ _ q1
  · cases k with
    | true => exact rb σ H1 σd G1 Q m1 (s.kt k1) (mb _ _ _ _ (fun d G' z => lfT_kt k1 z) h1)
    | false => exact h1 H1 m1 k1
theorem dw_or (ha : DPT X a tA) (hb : DPW X (.BoolOp .Or (b :: rest) pos) tB') : DPW X (.BoolOp .Or (a :: b :: rest) pos) (dOr tA tB') := by
  obtain ⟨ma, tta, pa, ra⟩ := ha
  obtain ⟨mb, ttb, pb, rb⟩ := hb
  refine ⟨fun σ G Q Q' h q => ma σ G _ _ (fun k G1 q1 => ?_) q, _, pw_or pa pb, fun σ H σd G Q m s h => ra σ H σd G _ m s (ma _ _ _ _ (fun k G1 h1 H1 m1 k1 => ?_) h)⟩
  · cases k with
    | false => exact mb σ G1 Q Q' h q1
    | true => exact h _ _ q1
  · cases k with
    | false => exact rb σ H1 σd G1 Q m1 (s.kt k1) (mb _ _ _ _ (fun d G' z => lfT_kt k1 z) h1)
    | true => exact h1 H1 m1 k1
theorem DPW.dt (h : DPW X e tA) : DPT X e tA := let ⟨m, tt, p, r⟩ := h; ⟨m, tt, p.pt, r⟩
theorem dt_not (ha : DPT X a tA) : DPT X (.UnaryOp .Not a pos) (dNot tA) := by
  obtain ⟨ma, tta, pa, ra⟩ := ha
  exact ⟨fun σ G Q Q' h q => ma σ G _ _ (fun k G1 q1 => h _ _ q1) q, _, pt_not pa, fun σ H σd G Q m s h => ra σ H σd G _ m s (ma _ _ _ _ (fun k G1 h1 H1 m1 k1 => h1 H1 m1 k1) h)⟩
/-- the truth of any value -/
def truD (d : D) (G : DG) : Option Bool := match d with
  | .non => some false
  | .bl b => some b
  | .int i => some (i != 0)
  | .str x => if x.length ≤ sizeLine then some ((x.length : Int) != 0) else none
  | .tup xs => some (!xs.isEmpty)
  | .lis xs => some (!xs.isEmpty)
  | .ref a => match G a with
    | some (.lst xs) => some (!xs.isEmpty)
    | some (.dK kvs) => some (!kvs.isEmpty)
    | _ => none
  | .ty _ => none
  | .tpl _ => none
def optT (o : Option Bool) (G : DG) (Q : Bool → DG → Prop) : Prop := match o with | some d => Q d G | none => False
def dTru (t : DE) : DTt := fun σ G Q => t σ G fun d G' => optT (truD d G') G' Q
theorem RDs.isEmpty {K : PySem.W.Frag} {H : Hp} {xs : List D} {vs : List V} (r : RDs K H xs vs) : xs.isEmpty = vs.isEmpty := by
  have h := r.1
  cases xs <;> cases vs <;> simp at h ⊢
theorem truD_ok {K : PySem.W.Frag} {H : Hp} {G : DG} {d : D} {v : V} {k : Bool} (m : MH K G H) (r : RD K H d v) (h : truD d G = some k) : TruV K v H k := by
  cases r with
  | non => simpa [truD, TruV, eq_comm] using h
  | bl b => simpa [truD, TruV, eq_comm] using h
  | int i => simpa [truD, TruV, eq_comm] using h
  | str x =>
    simp only [truD] at h
    split at h
    · exact ⟨by assumption, by simpa [eq_comm] using h⟩
    · cases h
  | ty n => simp [truD] at h
  | tpl => simp [truD] at h
  | lis hs hl hi =>
    refine Or.inl ⟨_, hs.l, ?_⟩
    simp only [truD, Option.some.injEq] at h
    rw [← h, RDs.isEmpty (K := K) (H := H) ⟨hl, hi⟩]
  | tup hs hl hi =>
    refine Or.inr (Or.inl ⟨_, hs.t, ?_⟩)
    simp only [truD, Option.some.injEq] at h
    rw [← h, RDs.isEmpty (K := K) (H := H) ⟨hl, hi⟩]
  | ref a =>
    simp only [truD] at h
    split at h
    · rename_i xs e
      obtain ⟨vs, h1, h2⟩ := m a _ e
      exact Or.inl ⟨vs, SqL.of h1, by rw [← h2.isEmpty]; simpa [eq_comm] using h⟩
    · rename_i xs e
      obtain ⟨vs, h1, h2, h3⟩ := m a _ e
      refine Or.inr (Or.inr ⟨vs, h1, ?_⟩)
      have e2 : xs.isEmpty = vs.isEmpty := by
        have := congrArg List.length h2
        cases xs <;> cases vs <;> simp at this ⊢
      rw [← e2]; simpa [eq_comm] using h
    · cases h
theorem dt_tru (ha : DPE X e ta) (he : ∀ whole, isTrue e X.env whole = (do let v ← whole; standAt e.pos; holding [v] (truthy v)) := by intro _; rfl) : DPT X e (dTru ta) := by
  obtain ⟨ma, tta, pa, ra⟩ := ha
  refine ⟨fun σ G Q Q' h q => ma σ G _ _ (fun d G1 q1 => ?_) q, _, pt_truth pa he, fun σ H σd G Q m s h => ra σ H σd G _ m s (ma _ _ _ _ (fun d G1 h1 v H1 m1 r1 k1 => ?_) h)⟩
  · unfold optT at q1 ⊢
    split <;> rename_i e
    · rw [e] at q1; exact h _ _ q1
    · rw [e] at q1; exact q1
  · unfold optT at h1
    split at h1 <;> rename_i e
    · exact ⟨_, truD_ok m1 r1 e, h1 H1 m1 k1⟩
    · exact False.elim h1
/-- a if t else b -/
def dIfE (t : DTt) (ta tb : DE) : DE := fun σ G Q => t σ G fun k G1 => if k = true then ta σ G1 Q else tb σ G1 Q
theorem de_if (hc : DPT X c tA) (ha : DPE X a ta) (hb : DPE X b tb) : DPE X (.IfExp c a b pos) (dIfE tA ta tb) := by
  obtain ⟨mc, ttc, pc, rc⟩ := hc
  obtain ⟨ma, tta, pa, ra⟩ := ha
  obtain ⟨mb, ttb, pb, rb⟩ := hb
  refine ⟨fun σ G Q Q' h q => mc σ G _ _ (fun k G1 q1 => ?_) q, _, pe_ifExp pc pa pb, fun σ H σd G Q m s h => rc σ H σd G _ m s (mc _ _ _ _ (fun k G1 h1 H1 m1 k1 => ?_) h)⟩
  · cases k with
    | true => exact ma σ G1 Q Q' h q1
    | false => exact mb σ G1 Q Q' h q1
  · cases k with
    | true => exact ra σ H1 σd G1 Q m1 (s.kt k1) (ma _ _ _ _ (fun d G' z => lf_kt k1 z) h1)
    | false => exact rb σ H1 σd G1 Q m1 (s.kt k1) (mb _ _ _ _ (fun d G' z => lf_kt k1 z) h1)
/-- and, or, not as values -/
def dAndV (ta tb : DE) : DE := fun σ G Q => ta σ G fun x G1 => match x with | .bl true => tb σ G1 Q | .bl false => Q (.bl false) G1 | _ => False
def dOrV (ta tb : DE) : DE := fun σ G Q => ta σ G fun x G1 => match x with | .bl false => tb σ G1 Q | .bl true => Q (.bl true) G1 | _ => False
def dNotV (ta : DE) : DE := fun σ G Q => ta σ G fun x G1 => match x with | .bl k => Q (.bl (!k)) G1 | _ => False
theorem de_one {op} (h : DPE X a ta) : DPE X (.BoolOp op [a] pos) ta := let ⟨m, tt, p, r⟩ := h; ⟨m, tt, pe_one p, r⟩
theorem de_and (ha : DPE X a ta) (hb : DPE X (.BoolOp .And (b :: rest) pos) tb) : DPE X (.BoolOp .And (a :: b :: rest) pos) (dAndV ta tb) := by
  obtain ⟨ma, tta, pa, ra⟩ := ha
  obtain ⟨mb, ttb, pb, rb⟩ := hb
  refine ⟨fun σ G Q Q' h q => ma σ G _ _ (fun x G1 q1 => ?_) q, _, pe_and pa pb, fun σ H σd G Q m s h => ra σ H σd G _ m s (ma _ _ _ _ (fun x G1 h1 v H1 m1 r1 k1 => ?_) h)⟩
  · cases x with
    | bl k =>
      cases k with
      | true => exact mb σ G1 Q Q' h q1
      | false => exact h _ _ q1
    | _ => exact False.elim q1
  · cases x with
    | bl k =>
      cases r1
      cases k with
      | true => exact ⟨true, rfl, rb σ H1 σd G1 Q m1 (s.kt k1) (mb _ _ _ _ (fun d G' z => lf_kt k1 z) h1)⟩
      | false => exact ⟨false, rfl, h1 (.bl false) H1 m1 (.bl false) k1⟩
    | _ => exact False.elim h1
theorem de_or (ha : DPE X a ta) (hb : DPE X (.BoolOp .Or (b :: rest) pos) tb) : DPE X (.BoolOp .Or (a :: b :: rest) pos) (dOrV ta tb) := by
  obtain ⟨ma, tta, pa, ra⟩ := ha
  obtain ⟨mb, ttb, pb, rb⟩ := hb
  refine ⟨fun σ G Q Q' h q => ma σ G _ _ (fun x G1 q1 => ?_) q, _, pe_or pa pb, fun σ H σd G Q m s h => ra σ H σd G _ m s (ma _ _ _ _ (fun x G1 h1 v H1 m1 r1 k1 => ?_) h)⟩
  · cases x with
    | bl k =>
      cases k with
      | false => exact mb σ G1 Q Q' h q1
      | true => exact h _ _ q1
    | _ => exact False.elim q1
  · cases x with
    | bl k =>
      cases r1
      cases k with
      | false => exact ⟨false, rfl, rb σ H1 σd G1 Q m1 (s.kt k1) (mb _ _ _ _ (fun d G' z => lf_kt k1 z) h1)⟩
      | true => exact ⟨true, rfl, h1 (.bl true) H1 m1 (.bl true) k1⟩
    | _ => exact False.elim h1
theorem de_not (ha : DPE X a ta) : DPE X (.UnaryOp .Not a pos) (dNotV ta) := by
  obtain ⟨ma, tta, pa, ra⟩ := ha
  refine ⟨fun σ G Q Q' h q => ma σ G _ _ (fun x G1 q1 => ?_) q, _, pe_not pa, fun σ H σd G Q m s h => ra σ H σd G _ m s (ma _ _ _ _ (fun x G1 h1 v H1 m1 r1 k1 => ?_) h)⟩
  · cases x with
    | bl k => exact h _ _ q1
    | _ => exact False.elim q1
  · cases x with
    | bl k => cases r1; exact ⟨k, rfl, h1 (.bl (!k)) H1 m1 (.bl _) k1⟩
    | _ => exact False.elim h1
/-- a < b < c -/
def dChain (f g : F2) (ta tb tc : DE) : DE := fun σ G Q => ta σ G fun x G1 => tb σ G1 fun y G2 => f x y G2 fun z G3 => match z with
  | .bl true => tc σ G3 fun u G4 => g y u G4 Q
  | .bl false => Q (.bl false) G3
  | _ => False
end
end FD

namespace FD
open PySem L2
section
variable {X : Cx} {a b c e : Expr} {es rest : List Expr} {ta tb tc : DE} {pos : Pos}

theorem de_chain {op op' : CmpOp} {r r' : R2} {f g : F2} (ho : OpR X (compareOp op) r) (ho' : OpR X (compareOp op') r') (hf : MonoF2 f) (hg : MonoF2 g) (sf : Sim2 X.K r f) (sg : Sim2 X.K r' g)
    (ha : DPE X a ta) (hb : DPE X b tb) (hc : DPE X c tc) (hm : lastMarks [op, op'] [b, c] = false := by with_unfolding_all rfl) : DPE X (.Compare a [op, op'] [b, c] pos) (dChain f g ta tb tc) ∧ DPT X (.Compare a [op, op'] [b, c] pos) (dTest (dChain f g ta tb tc)) := by
  obtain ⟨ma, tta, pa, ra⟩ := ha
  obtain ⟨mb, ttb, pb, rb⟩ := hb
  obtain ⟨mc, ttc, pc, rc⟩ := hc
  have mono : MonoE (dChain f g ta tb tc) := fun σ G Q Q' h q => ma σ G _ _ (fun x G1 q1 => mb σ G1 _ _ (fun y G2 q2 => hf x y G2 _ _ (fun z G3 q3 => by
    cases z with
    | bl k =>
      cases k with
      | true => exact mc σ G3 _ _ (fun u G4 q4 => hg y u G4 Q Q' h q4) q3
      | false => exact h _ _ q3
    | _ => exact False.elim q3) q2) q1) q
  have run : ∀ σ H σd G Q, MH X.K G H → SR X.K H σd σ → dChain f g ta tb tc σd G (lf X.K H Q) → tChain r r' tta ttb ttc σ H Q := fun σ H σd G Q m s h =>
    ra σ H σd G _ m s (ma _ _ _ _ (fun dx G1 h1 x H1 m1 r1 k1 => rb σ H1 σd G1 _ m1 (s.kt k1) (mb _ _ _ _ (fun dy G2 h2 y H2 m2 r2 k2 => by
      refine sf H2 G2 x y dx dy _ m2 (r1.kt k2) r2 (hf _ _ _ _ _ (fun z G3 q3 v H3 m3 r3 k3 => ?_) h2)
      cases z with
      | bl k =>
        cases r3
        cases k with
        | true =>
          refine ⟨true, rfl, ?_⟩
          show ttc σ H3 fun z H4 => r' y z H4 Q
          refine rc σ H3 σd G3 _ m3 (s.kt ((k1.trans k2).trans k3)) (mc _ _ _ _ (fun u G4 h4 w H4 m4 r4 k4 => ?_) q3)
          exact sg H4 G4 y w dy u Q m4 ((r2.kt k3).kt k4) r4 (hg _ _ _ _ _ (fun d G' z => lf_kt (((k1.trans k2).trans k3).trans k4) z) h4)
        | false =>
          refine ⟨false, rfl, ?_⟩
          exact q3 (.bl false) H3 m3 (.bl false) ((k1.trans k2).trans k3)
      | _ => exact False.elim q3) h1)) h)
  exact ⟨⟨mono, _, pe_chain ho ho' pa pb pc hm, run⟩, ⟨dTest_mono mono, _, pt_chain ho ho' pa pb pc hm, dTest_run mono run⟩⟩

/-! ### arithmetic -/
def addD : F2 := fun x y G Q => match x, y with
  | .int i, .int j => Q (.int (i + j)) G
  | .str s, .str t => s.length + t.length ≤ sizeLine ∧ Q (.str (s ++ t)) G
  | .tup xs, .tup ys => xs.length + ys.length ≤ sizeLine ∧ Q (.tup (xs ++ ys)) G
  | .ref p, .ref q => ∃ xs ys, G p = some (.lst xs) ∧ G q = some (.lst ys) ∧ xs.length + ys.length ≤ sizeLine ∧ ∀ n, G n = none → Q (.ref n) (up G n (.lst (xs ++ ys)))
  | _, _ => False
instance stpAddS {a b : Str} {G : DG} {Q : DK} : WEnd (addD (.str a) (.str b) G Q) := {}
theorem addD_mono : MonoF2 addD := fun x y G Q Q' h q => by
  unfold addD at q ⊢
  split at q
  · exact h _ _ q
  · exact ⟨q.1, h _ _ q.2⟩
  · exact ⟨q.1, h _ _ q.2⟩
  · obtain ⟨xs, ys, h1, h2, h3, h4⟩ := q
    exact ⟨xs, ys, h1, h2, h3, fun n hn => h _ _ (h4 n hn)⟩
  · exact q
def rCatP (K : PySem.W.Frag) : R2 := fun x y H Q => ∃ a b xs ys, x = .ref a ∧ y = .ref b ∧ SqT K H a xs ∧ SqT K H b ys ∧ xs.length + ys.length ≤ sizeLine ∧
  (xs = [] → Q (.ref b) H) ∧ (xs ≠ [] → ys = [] → Q (.ref a) H) ∧ (xs ≠ [] → ys ≠ [] → NewT H (xs ++ ys) Q)
theorem op_catP : OpR X (binaryOp .Add) (rCatP X.K) := by
  intro pins s σ H x y v u Q I rx ry h
  obtain ⟨a, b, xs, ys, rfl, rfl, ha, hb, hz, q0, q1, q2⟩ := h
  cases rx
  cases ry
  obtain ⟨its, r1, p1, _⟩ := I.tuple ha
  obtain ⟨its2, r2, p2, _⟩ := I.tuple hb
  by_cases hx : xs = []
  · subst hx
    cases r1
    exact cat_tup0 p1 p2 ⟨.ref b, H, I, rfl, q0 rfl⟩
  · refine HT.cat_tup p1 p2 (fun z => hx (r1.nil_iff.mp z)) (fun z => ⟨.ref a, H, I, rfl, q1 hx (r2.nil_iff.mp z)⟩) (fun z => ?_) (by rw [← r1.length, ← r2.length]; exact hz)
    exact newT_inv (s := s) (h' := s.heap) I (r1.append r2) (by rw [List.length_append]; exact hz) (q2 hx fun w => z (r2.nil_iff.mpr w))
def rAddAll (K : PySem.W.Frag) : R2 := fun x y H Q => rI0 (fun i j => .int (i + j)) x y H Q ∨ (∃ i j, x = .str i ∧ y = .str j ∧ i.length + j.length ≤ sizeLine ∧ Q (.str (i ++ j)) H) ∨ rCatP K x y H Q ∨ rCat x y H Q
theorem op_addAll : OpR X (binaryOp .Add) (rAddAll X.K) := op_add.or (op_add_str.or (op_catP.or op_cat))
theorem addD_sim {K : PySem.W.Frag} : Sim2 K (rAddAll K) addD := fun H G x y dx dy Q m rx ry h => by
  unfold addD at h
  split at h
  · cases rx; cases ry
    exact .inl ⟨_, _, rfl, rfl, h _ _ m (.int _) .refl⟩
  · cases rx; cases ry
    exact .inr (.inl ⟨_, _, rfl, rfl, h.1, h.2 _ _ m (.str _) .refl⟩)
  · rename_i xs ys
    cases rx with
    | @tup p _ vs hs hl hi =>
      cases ry with
      | @tup q _ ws hs' hl' hi' =>
        refine .inr (.inr (.inl ⟨p, q, vs, ws, rfl, rfl, hs.t, hs'.t, by rw [← hl, ← hl']; exact h.1, ?_⟩))
        have r1 : RDs K H xs vs := ⟨hl, hi⟩
        have r2 : RDs K H ys ws := ⟨hl', hi'⟩
        refine ⟨fun e => ?_, fun e e2 => ?_, fun _ _ n o hn hd => ?_⟩
        · subst e
          have e2 : xs = [] := by cases xs with | nil => rfl | cons _ _ => simp at hl
          subst e2
          exact h.2 _ _ m (.tup hs' hl' hi') .refl
        · subst e2
          have e2 : ys = [] := by cases ys with | nil => rfl | cons _ _ => simp at hl'
          subst e2
          have h2 := h.2 (.ref p) H m (by simpa using RD.tup hs hl hi) .refl
          exact h2
        · exact h.2 (.ref n) _ (m.new (.upd_new hn) (m.fresh hn)) (.new_tup (r1.append r2) hn hd) (.upd_new hn)
  · obtain ⟨xs, ys, h1, h2, h3, h4⟩ := h
    cases rx; cases ry
    obtain ⟨vs, g1, r1⟩ := m _ _ h1
    obtain ⟨ws, g2, r2⟩ := m _ _ h2
    refine .inr (.inr (.inr ⟨_, _, vs, ws, rfl, rfl, g1, g2, by rw [← r1.1, ← r2.1]; exact h3, fun n hn => ?_⟩))
    exact h4 n (m.fresh hn) (.ref n) _ (m.upd (.upd_new hn) (.new_lst (r1.append r2) (.upd_new hn))) (.ref n) (.upd_new hn)
  · exact False.elim h
theorem de_add (ha : DPE X a ta) (hb : DPE X b tb) : DPE X (.BinOp a .Add b pos) (dOp addD ta tb) := de_op op_addAll addD_mono addD_sim ha hb
/-- two ints -/
def intD (C : Int → Int → Prop) (g : Int → Int → D) : F2 := fun x y G Q => match x, y with
  | .int i, .int j => C i j ∧ Q (g i j) G
  | _, _ => False
theorem intD_mono {C : Int → Int → Prop} {g : Int → Int → D} : MonoF2 (intD C g) := fun x y G Q Q' h q => by
  unfold intD at q ⊢
  split at q
  · exact ⟨q.1, h _ _ q.2⟩
  · exact q
theorem intD_sim {K : PySem.W.Frag} {C : Int → Int → Prop} {g : Int → Int → Int} : Sim2 K (rI C fun i j => .int (g i j)) (intD C fun i j => .int (g i j)) := fun H G x y dx dy Q m rx ry h => by
  unfold intD at h
  split at h
  · cases rx; cases ry
    exact ⟨_, _, rfl, rfl, h.1, h.2 _ _ m (.int _) .refl⟩
  · exact False.elim h
theorem intD_sim0 {K : PySem.W.Frag} {g : Int → Int → Int} : Sim2 K (rI0 fun i j => .int (g i j)) (intD (fun _ _ => True) fun i j => .int (g i j)) := fun H G x y dx dy Q m rx ry h => by
  unfold intD at h
  split at h
  · cases rx; cases ry
    exact ⟨_, _, rfl, rfl, h.2 _ _ m (.int _) .refl⟩
  · exact False.elim h
theorem intD_simB {K : PySem.W.Frag} {g : Int → Int → Bool} : Sim2 K (rI0 fun i j => .bl (g i j)) (intD (fun _ _ => True) fun i j => .bl (g i j)) := fun H G x y dx dy Q m rx ry h => by
  unfold intD at h
  split at h
  · cases rx; cases ry
    exact ⟨_, _, rfl, rfl, h.2 _ _ m (.bl _) .refl⟩
  · exact False.elim h
def subD : F2 := intD (fun _ _ => True) fun i j => .int (i - j)
def modD : F2 := intD (fun _ j => 0 < j) fun i j => .int (i % j)
def divD : F2 := intD CDiv fun i j => .int (i / j)
def powD : F2 := intD CPow fun i j => .int (i ^ j.toNat)
theorem de_sub (ha : DPE X a ta) (hb : DPE X b tb) : DPE X (.BinOp a .Sub b pos) (dOp subD ta tb) := de_op op_sub intD_mono intD_sim0 ha hb
theorem de_mod (ha : DPE X a ta) (hb : DPE X b tb) : DPE X (.BinOp a .Mod b pos) (dOp modD ta tb) := de_op op_mod intD_mono intD_sim ha hb
theorem de_div (ha : DPE X a ta) (hb : DPE X b tb) : DPE X (.BinOp a .FloorDiv b pos) (dOp divD ta tb) := de_op op_fdiv intD_mono intD_sim ha hb
theorem de_pow (ha : DPE X a ta) (hb : DPE X b tb) : DPE X (.BinOp a .Pow b pos) (dOp powD ta tb) := de_op op_pow intD_mono intD_sim ha hb
def negD : F1 := fun x G Q => match x with | .int i => Q (.int (-i)) G | _ => False
theorem de_neg (ha : DPE X a ta) : DPE X (.UnaryOp .USub a pos) (dUn negD ta) := de_un un_neg
  (fun x G Q Q' h q => by unfold negD at q ⊢; split at q; exact h _ _ q; exact q)
  (fun H G x dx Q m rx h => by
    unfold negD at h
    split at h
    · cases rx
      exact ⟨_, rfl, h _ _ m (.int _) .refl⟩
    · exact False.elim h) ha
/-! ### a tuple by an int: once, it is the same tuple -/
theorem tupOnce (l : Addr) (items : Array Value) (n : Nat) (dd : Option Addr) (sl : Array (Option Value)) (x : Int) (u : Tok) (hx : x = 1) :
    Meets (Builtin.«tuple.__mul__» ⟨[.ref l, .int x u], []⟩) (fun _ R s => s.heap.get? l = some { cls := .type "tuple", dict := dd, data := .seq items n, slots := sl } ∧ R (.ok (.ret (.ref l))) s) := by
  refine .of_wp fun prog w A R s h => ?_
  obtain ⟨hp, gg, ds, tk, os⟩ := s
  obtain ⟨hl, h⟩ := h
  subst hx
  have f1 := AutoSeq1.idx_int
  have c0 : (decide ((1 : Int) < -(2 ^ 63)) || decide ((1 : Int) ≥ 2 ^ 63)) = false := by decide
  have c1 : (items.isEmpty || (1 : Int) == 1) = true := by simp
  wp_walk using AutoSeq1.wpAny_loadPart' hl
  repeat (first
    | (refine wpAny_ite_false (decide_eq_false (by rw [c0]; exact Bool.false_ne_true)) ?_; wp_walk using AutoSeq1.wpAny_loadPart' hl)
    | (refine wpAny_ite_true (decide_eq_true (by rw [c1])) ?_; wp_walk using AutoSeq1.wpAny_loadPart' hl))
  exact ⟨_, rfl, h⟩
theorem tupNone (l : Addr) (items : Array Value) (n : Nat) (dd : Option Addr) (sl : Array (Option Value)) (x : Int) (u : Tok) (c0 : (decide (x < -(2 ^ 63)) || decide (x ≥ 2 ^ 63)) = false) (c1 : (items.isEmpty || x == 1) = false) (c2 : (decide (x ≤ 0) || items.isEmpty) = true) :
    Meets (Builtin.«tuple.__mul__» ⟨[.ref l, .int x u], []⟩) (fun _ R s => s.heap.get? l = some { cls := .type "tuple", dict := dd, data := .seq items n, slots := sl } ∧ R (.ok (.ret (.ref s.heap.objs.size))) { s with heap := s.heap.push { cls := .type "tuple", data := .seq #[] }, toks := s.toks }) := by
  refine .of_wp fun prog w A R s h => ?_
  obtain ⟨hp, gg, ds, tk, os⟩ := s
  obtain ⟨hl, h⟩ := h
  have f1 := AutoSeq1.idx_int
  wp_walk using AutoSeq1.wpAny_loadPart' hl
  repeat (first
    | (refine wpAny_ite_false (decide_eq_false (by rw [c0]; exact Bool.false_ne_true)) ?_; wp_walk using AutoSeq1.wpAny_loadPart' hl)
    | (refine wpAny_ite_false (decide_eq_false (by rw [c1]; exact Bool.false_ne_true)) ?_; wp_walk using AutoSeq1.wpAny_loadPart' hl)
    | (refine wpAny_ite_true (decide_eq_true (by rw [c2])) ?_; wp_walk using AutoSeq1.wpAny_loadPart' hl))
  exact ⟨_, rfl, h⟩
def rRepP (K : PySem.W.Frag) : R2 := fun x y H Q => ∃ l k xs, x = .ref l ∧ y = .int k ∧ SqP K H l xs ∧ xs ≠ [] ∧ -1000 ≤ k ∧ k ≤ 1000 ∧ xs.length ≤ 1000 ∧ (k = 1 → Q (.ref l) H) ∧ (k ≠ 1 → NewT H (List.replicate k.toNat xs).flatten Q)
theorem op_repP : OpR X (binaryOp .Mult) (rRepP X.K) := by
  intro pins s σ H x y v u Q I rx ry h
  obtain ⟨l, k, xs, rfl, rfl, hP, hne, h0, h2, hz, q1, q2⟩ := h
  cases rx
  obtain ⟨t, rfl⟩ := ry
  obtain ⟨its, r, ⟨⟨cls, dd, data, sl⟩, ho, hc, n, hd⟩, hs⟩ := I.tuple hP.t
  simp only at hc hd
  subst hc hd
  have hle : its.length = xs.length := r.length.symm
  have hi : its.toArray.isEmpty = false := by
    cases its with
    | nil => exact absurd (List.eq_nil_of_length_eq_zero hle.symm) hne
    | cons a b => rfl
  have c0 : (decide (k < -(2 ^ 63)) || decide (k ≥ 2 ^ 63)) = false := by
    rw [decide_eq_false (by omega), decide_eq_false (by omega)] <;> rfl
  have road : ∀ {R : Value → Shared → Prop}, (wpAny (model X.prog X.w) X.A (call (.builtin "tuple.__mul__") [.ref l, .int k t]) R X.xe s) → wpAny (model X.prog X.w) X.A (binaryOp .Mult (.ref l) (.int k t)) R X.xe s := fun z =>
    wpAny_binaryOp_repeat_ref (T := "tuple") (U := "int") (by decide) ⟨_, ho, rfl⟩ (fun s' => typeIs_int s' k t) noFill_tuple_mul F.fills_int_mul F.slot_int_rmul repeat_tuple F.slot_int_index.lookup
      (call_meets F.slot_int_rmul (typeIs_int s k t) F.entry_int_rmul (F.args_int_rmul_2 _ _) (int_rmul_tuple k t l its.toArray n dd sl) ⟨ho, rfl, ⟨_, ho, rfl⟩, z⟩)
  by_cases h1 : k = 1
  · exact road (call_meets F.slot_tuple_mul ⟨_, ho, rfl⟩ F.entry_tuple_mul (F.args_tuple_mul_2 _ _) (tupOnce l its.toArray n dd sl k t h1) ⟨ho, .ref l, _, I, rfl, q1 h1⟩)
  · have c1 : (its.toArray.isEmpty || k == 1) = false := by
      rw [hi, Bool.false_or]
      exact beq_eq_false_iff_ne.mpr h1
    by_cases h3 : k ≤ 0
    · refine road (call_meets F.slot_tuple_mul ⟨_, ho, rfl⟩ F.entry_tuple_mul (F.args_tuple_mul_2 _ _) (tupNone l its.toArray n dd sl k t c0 c1 (by rw [decide_eq_true h3]; rfl)) ⟨ho, ?_⟩)
      have e0 : (List.replicate k.toNat xs).flatten = [] := by
        rw [show k.toNat = 0 by omega]
        rfl
      have q3 := q2 h1
      rw [e0] at q3
      exact newT_inv (s := s) (h' := s.heap) (its := []) I .nil (by decide) q3
    · have c2 : (decide (k ≤ 0) || its.toArray.isEmpty) = false := by
        rw [hi, Bool.or_false]
        exact decide_eq_false h3
      have hsz0 : its.toArray.size = xs.length := by rw [List.size_toArray, hle]
      have hm : ((its.toArray.size : Nat) : Int) * k ≤ 1000000 := by
        rw [hsz0]
        have a1 : ((xs.length : Nat) : Int) * k ≤ 1000 * k := Int.mul_le_mul_of_nonneg_right (by omega) (by omega)
        omega
      have f1 : k.toNat * xs.length ≤ sizeLine := Nat.le_trans (Nat.mul_le_mul (show k.toNat ≤ 1000 by omega) hz) (by decide)
      have c4 : Builtin.Tuple.tupleTooMany (((its.toArray.size : Nat) : Int) * k) = false := by
        unfold Builtin.Tuple.tupleTooMany
        rw [sizeLine_eq]
        exact decide_eq_false (by omega)
      refine road (call_meets F.slot_tuple_mul ⟨_, ho, rfl⟩ F.entry_tuple_mul (F.args_tuple_mul_2 _ _) (tuple_mulW l its.toArray n dd sl k t c0 c1 c2 (by omega) c4 (by rw [size_rep, List.size_toArray, PyProof.Rows.lm_len_rep_flat, hle]; exact f1)) ⟨ho, ?_⟩)
      rw [size_rep]
      exact newT_inv (s := s) (h' := s.heap) I (r.rep k.toNat) (by rw [PyProof.Rows.lm_len_rep_flat]; exact f1) (q2 h1)
/-- * : two ints, a list or a tuple by an int -/
def mulD : F2 := fun x y G Q => match x, y with
  | .int i, .int j => CMul i j ∧ Q (.int (i * j)) G
  | .ref p, .int k => ∃ xs, G p = some (.lst xs) ∧ -(2 ^ 63) ≤ k ∧ k < 2 ^ 63 ∧ xs.length * k.toNat ≤ sizeLine ∧ ∀ n, G n = none → Q (.ref n) (up G n (.lst (List.replicate k.toNat xs).flatten))
  | .tup xs, .int k => xs ≠ [] ∧ -1000 ≤ k ∧ k ≤ 1000 ∧ xs.length ≤ 1000 ∧ Q (.tup (List.replicate k.toNat xs).flatten) G
  | _, _ => False
theorem RDs.rep {K : PySem.W.Frag} {H : Hp} {xs : List D} {vs : List V} (r : RDs K H xs vs) : ∀ k : Nat, RDs K H (List.replicate k xs).flatten (List.replicate k vs).flatten
  | 0 => by simpa using RDs.nil
  | k + 1 => by simpa [List.replicate_succ] using r.append (r.rep k)
theorem mulD_mono : MonoF2 mulD := fun x y G Q Q' h q => by
  unfold mulD at q ⊢
  split at q
  · exact ⟨q.1, h _ _ q.2⟩
  · obtain ⟨xs, h1, h2, h3, h4, h5⟩ := q
    exact ⟨xs, h1, h2, h3, h4, fun n hn => h _ _ (h5 n hn)⟩
  · exact ⟨q.1, q.2.1, q.2.2.1, q.2.2.2.1, h _ _ q.2.2.2.2⟩
  · exact q
def rMulAll (K : PySem.W.Frag) : R2 := fun x y H Q => (rI CMul (fun i j => .int (i * j)) x y H Q ∨ rRep x y H Q) ∨ rRepP K x y H Q
theorem op_mulAll : OpR X (binaryOp .Mult) (rMulAll X.K) := (op_mul.or op_rep).or op_repP
theorem mulD_sim {K : PySem.W.Frag} : Sim2 K (rMulAll K) mulD := fun H G x y dx dy Q m rx ry h => by
  unfold mulD at h
  split at h
  · cases rx; cases ry
    exact .inl (.inl ⟨_, _, rfl, rfl, h.1, h.2 _ _ m (.int _) .refl⟩)
  · obtain ⟨xs, h1, h2, h3, h4, h5⟩ := h
    cases rx; cases ry
    obtain ⟨vs, g1, r1⟩ := m _ _ h1
    refine .inl (.inr ?_)
    refine ⟨_, _, vs, rfl, rfl, g1, h2, h3, by rw [← r1.1]; exact h4, fun n hn => ?_⟩
    exact h5 n (m.fresh hn) (.ref n) _ (m.upd (.upd_new hn) (.new_lst (r1.rep _) (.upd_new hn))) (.ref n) (.upd_new hn)
  · rename_i xs k
    obtain ⟨h1, h2, h3, h4, h5⟩ := h
    cases ry
    cases rx with
    | @tup p _ vs hs hl hi =>
      have r : RDs K H xs vs := ⟨hl, hi⟩
      refine .inr ⟨p, k, vs, rfl, rfl, hs, fun e => h1 (List.eq_nil_of_length_eq_zero (by rw [hl, e]; rfl)), h2, h3, by rw [← hl]; exact h4, fun e => ?_, fun e p' o' hp hd => ?_⟩
      · subst e
        have e1 : (List.replicate (1 : Int).toNat xs).flatten = xs := by simp
        rw [e1] at h5
        exact h5 _ _ m (.tup hs hl hi) .refl
      · exact h5 _ _ (m.new (.upd_new hp) (m.fresh hp)) (.new_tup (r.rep k.toNat) hp hd) (.upd_new hp)
  · exact False.elim h
theorem de_mul (ha : DPE X a ta) (hb : DPE X b tb) : DPE X (.BinOp a .Mult b pos) (dOp mulD ta tb) := de_op op_mulAll mulD_mono mulD_sim ha hb

/-! ### subscripts -/
def itemD : F2 := fun x y G Q => match x, y with
  | .tup xs, .int i => opt (atI xs i) G Q
  | .lis xs, .int i => opt (atI xs i) G Q
  | .ref p, .int i => match G p with
    | some (.lst xs) => opt (atI xs i) G Q
    | _ => False
  | .str s, .int i => s.length ≤ sizeLine ∧ match atI s.cps.toList i with | some k => Q (.str ⟨#[k]⟩) G | none => False
  | _, _ => False
theorem itemD_mono : MonoF2 itemD := fun x y G Q Q' h q => by
  unfold itemD at q ⊢
  split at q
  · exact opt_mono h q
  · exact opt_mono h q
  · split at q <;> first | exact opt_mono h q | exact q
  · refine ⟨q.1, ?_⟩
    have q2 := q.2
    split at q2
    · exact h _ _ q2
    · exact q2
  · exact q
theorem itemD_sim {K : PySem.W.Frag} : Sim2 K (rIx K) itemD := fun H G x y dx dy Q m rx ry h => by
  unfold itemD at h
  split at h
  · rename_i xs i
    cases ry
    cases rx with
    | @tup p _ vs hs hl hi =>
      cases e : atI xs i with
      | none => rw [e] at h; exact False.elim h
      | some d =>
        rw [e] at h
        obtain ⟨v, h1, h2⟩ := RDs.at (K := K) (H := H) ⟨hl, hi⟩ e
        exact .inr (.inl ⟨p, vs, i, v, rfl, rfl, hs.t, h1, h v H m h2 .refl⟩)
  · rename_i xs i
    cases ry
    cases rx with
    | @lis p _ vs hs hl hi =>
      cases e : atI xs i with
      | none => rw [e] at h; exact False.elim h
      | some d =>
        rw [e] at h
        obtain ⟨v, h1, h2⟩ := RDs.at (K := K) (H := H) ⟨hl, hi⟩ e
        exact .inl ⟨p, vs, i, v, rfl, rfl, hs.l, h1, h v H m h2 .refl⟩
  · rename_i p i
    cases ry
    cases rx
    split at h
    · rename_i xs e2
      obtain ⟨vs, g, r⟩ := m _ _ e2
      cases e : atI xs i with
      | none => rw [e] at h; exact False.elim h
      | some d =>
        rw [e] at h
        obtain ⟨v, h1, h2⟩ := r.at e
        exact .inl ⟨p, vs, i, v, rfl, rfl, SqL.of g, h1, h v H m h2 .refl⟩
    · exact False.elim h
  · cases rx; cases ry
    obtain ⟨h1, h2⟩ := h
    split at h2
    · rename_i k e
      exact .inr (.inr ⟨_, _, k, rfl, rfl, h1, e, h2 _ _ m (.str _) .refl⟩)
    · exact False.elim h2
  · exact False.elim h
theorem de_ix (ha : DPE X a ta) (hb : DPE X b tb) (hs : PlainIx b := by exact fun _ _ => rfl) : DPE X (.Subscript a b pos) (dOp itemD ta tb) := by
  obtain ⟨ma, tta, pa, ra⟩ := ha
  obtain ⟨mb, ttb, pb, rb⟩ := hb
  exact ⟨dOp_mono itemD_mono ma mb, _, pe_ix ix_seq pa pb hs, dOp_run itemD_mono itemD_sim ma mb ra rb⟩
/-! ### slices -/
abbrev DO := DSt → DG → (Option Int → DG → Prop) → Prop
def lfO (K : PySem.W.Frag) (H : Hp) (Q : Option Int → Hp → Prop) : Option Int → DG → Prop := fun b G' => ∀ H', MH K G' H' → KT K H H' → Q b H'
structure DPO (X : Cx) (e : Option Expr) (t : DO) : Prop where
  mono : ∀ σ G (Q Q' : Option Int → DG → Prop), (∀ d G', Q d G' → Q' d G') → t σ G Q → t σ G Q'
  run : ∃ tt, PO X e tt ∧ ∀ σ H σd G Q, MH X.K G H → SR X.K H σd σ → t σd G (lfO X.K H Q) → tt σ H Q
def dNoPart : DO := fun _ G Q => Q none G
def dPart (t : DE) : DO := fun σ G Q => t σ G fun x G1 => match x with | .int i => Q (some i) G1 | _ => False
theorem do_none : DPO X none dNoPart := ⟨fun σ G Q Q' h q => h _ _ q, _, po_none, fun σ H σd G Q m s h => h H m .refl⟩
theorem do_some (ha : DPE X e ta) : DPO X (some e) (dPart ta) := by
  obtain ⟨ma, tta, pa, ra⟩ := ha
  refine ⟨fun σ G Q Q' h q => ma σ G _ _ (fun x G1 q1 => ?_) q, _, po_some pa, fun σ H σd G Q m s h => ra σ H σd G _ m s (ma _ _ _ _ (fun x G1 h1 v H1 m1 r1 k1 => ?_) h)⟩
  · cases x with
    | int i => exact h _ _ q1
    | _ => exact False.elim q1
  · cases x with
    | int i => cases r1; exact ⟨i, rfl, h1 H1 m1 k1⟩
    | _ => exact False.elim h1
def cutD (xs : List D) (lo hi : Option Int) : List D := (xs.drop (HT.sIx xs.length 0 lo)).take (HT.sIx xs.length xs.length hi - HT.sIx xs.length 0 lo)
def sliceD (x : D) (lo hi : Option Int) (G : DG) (Q : DK) : Prop := match x with
  | .tup xs => Q (.tup (cutD xs lo hi)) G
  | .str s => s.length ≤ sizeLine ∧ Q (.str (cutS s lo hi)) G
  | .lis xs => ∀ n, G n = none → Q (.ref n) (up G n (.lst (cutD xs lo hi)))
  | .ref p => match G p with
    | some (.lst xs) => ∀ n, G n = none → Q (.ref n) (up G n (.lst (cutD xs lo hi)))
    | _ => False
  | _ => False
theorem sliceD_mono {x : D} {lo hi : Option Int} {G : DG} {Q Q' : DK} (h : ∀ d G', Q d G' → Q' d G') (q : sliceD x lo hi G Q) : sliceD x lo hi G Q' := by
  unfold sliceD at q ⊢
  split at q
  · exact h _ _ q
  · exact ⟨q.1, h _ _ q.2⟩
  · exact fun n hn => h _ _ (q n hn)
  · split at q
    · exact fun n hn => h _ _ (q n hn)
    · exact q
  · exact q
theorem RDs.cut {K : PySem.W.Frag} {H : Hp} {xs : List D} {vs : List V} (r : RDs K H xs vs) (lo hi : Option Int) : RDs K H (cutD xs lo hi) (cutV vs lo hi) := by
  unfold cutD cutV
  rw [r.1]
  exact (r.drop _).take _
def rSlP (K : PySem.W.Frag) : V → Option Int → Option Int → Hp → VK → Prop := fun x lo hi H Q => ∃ a xs, x = .ref a ∧ SqT K H a xs ∧
  (HT.sIx xs.length 0 lo = 0 ∧ HT.sIx xs.length xs.length hi = xs.length → Q (.ref a) H) ∧ (¬ (HT.sIx xs.length 0 lo = 0 ∧ HT.sIx xs.length xs.length hi = xs.length) → NewT H (cutV xs lo hi) Q)
theorem sl_tupP : SlR X (rSlP X.K) := by
  intro pins s σ H x v vl vu lo hi sl Q I rx hs pl pu h
  obtain ⟨a, xs, rfl, hx, q1, q2⟩ := h
  cases rx
  obtain ⟨its, r, ht, hz⟩ := I.tuple hx
  have hlen : its.toArray.size = xs.length := by rw [List.size_toArray]; exact r.length.symm
  refine ⟨"tuple", _, PyProof.Rows.slot_tuple_getitem.lookup, ht.typeIs, ?_⟩
  by_cases hw : HT.sIx xs.length 0 lo = 0 ∧ HT.sIx xs.length xs.length hi = xs.length
  · exact getItem_tuple_whole ht hs pl pu (by rw [hlen]; exact hw) ⟨.ref a, H, I, rfl, q1 hw⟩
  · refine HT.getItem_tuple_cut ht hs pl pu (by rw [hlen]; exact hw) ?_ (by rw [hlen]; exact hz)
    rw [hlen]
    exact newT_inv (s := s) (h' := s.heap) I ((r.drop (HT.sIx xs.length 0 lo)).take (HT.sIx xs.length xs.length hi - HT.sIx xs.length 0 lo)) (Nat.le_trans (cutV_length xs lo hi) hz) (q2 hw)
def rSlAll (K : PySem.W.Frag) : V → Option Int → Option Int → Hp → VK → Prop := fun x lo hi H Q => rSlL K x lo hi H Q ∨ rSlP K x lo hi H Q ∨ ∃ z, x = .str z ∧ z.length ≤ sizeLine ∧ Q (.str (cutS z lo hi)) H
theorem sl_all : SlR X (rSlAll X.K) := sl_list.or (sl_tupP.or sl_str)
def dSl (te : DE) (tl th : DO) : DE := fun σ G Q => te σ G fun x G1 => tl σ G1 fun l G2 => th σ G2 fun u G3 => sliceD x l u G3 Q
theorem sliceD_sim {K : PySem.W.Frag} {H : Hp} {G : DG} {x : V} {d : D} {lo hi : Option Int} {Q : VK} (m : MH K G H) (rx : RD K H d x) (h : sliceD d lo hi G (lf K H Q)) : rSlAll K x lo hi H Q := by
  unfold sliceD at h
  split at h
  · rename_i xs
    cases rx with
    | @tup p _ vs hs hl hi' =>
      have r : RDs K H xs vs := ⟨hl, hi'⟩
      refine .inr (.inl ⟨p, vs, rfl, hs.t, ⟨fun e => ?_, fun _ n o hn hd => ?_⟩⟩)
      · refine h (.ref p) H m ?_ .refl
        have q := r.cut lo hi
        have e2 : cutV vs lo hi = vs := by
          unfold cutV
          rw [e.1, e.2]
          simp
        rw [e2] at q
        exact .tup hs q.1 q.2
      · exact h (.ref n) _ (m.new (.upd_new hn) (m.fresh hn)) (.new_tup (r.cut lo hi) hn hd) (.upd_new hn)
  · cases rx
    exact .inr (.inr ⟨_, rfl, h.1, h.2 _ _ m (.str _) .refl⟩)
  · cases rx with
    | @lis p _ vs hs hl hi' =>
      have r : RDs K H _ vs := ⟨hl, hi'⟩
      exact .inl ⟨_, vs, rfl, hs.l, fun n hn => h n (m.fresh hn) (.ref n) _ (m.upd (.upd_new hn) (.new_lst (r.cut lo hi) (.upd_new hn))) (.ref n) (.upd_new hn)⟩
  · cases rx
    split at h
    · rename_i e
      obtain ⟨vs, g, r⟩ := m _ _ e
      exact .inl ⟨_, vs, rfl, SqL.of g, fun n hn => h n (m.fresh hn) (.ref n) _ (m.upd (.upd_new hn) (.new_lst (r.cut lo hi) (.upd_new hn))) (.ref n) (.upd_new hn)⟩
    · exact False.elim h
  · exact False.elim h
theorem de_slice {lo hi : Option Expr} {p2 : Pos} {tl th : DO} (ha : DPE X e ta) (hl : DPO X lo tl) (hh : DPO X hi th) : DPE X (.Subscript e (.Slice lo hi none p2) pos) (dSl ta tl th) := by
  obtain ⟨ma, tta, pa, ra⟩ := ha
  obtain ⟨ml, ttl, pl, rl⟩ := hl
  obtain ⟨mh, tth, ph, rh⟩ := hh
  refine ⟨fun σ G Q Q' h q => ma σ G _ _ (fun x G1 q1 => ml σ G1 _ _ (fun l G2 q2 => mh σ G2 _ _ (fun u G3 q3 => sliceD_mono h q3) q2) q1) q, _, pe_slice sl_all pa pl ph, fun σ H σd G Q m s h => ?_⟩
  exact ra σ H σd G _ m s (ma _ _ _ _ (fun x G1 h1 v H1 m1 r1 k1 => rl σ H1 σd G1 _ m1 (s.kt k1) (ml _ _ _ _ (fun l G2 h2 H2 m2 k2 => rh σ H2 σd G2 _ m2 ((s.kt k1).kt k2) (mh _ _ _ _ (fun u G3 h3 H3 m3 k3 =>
    sliceD_sim m3 ((r1.kt k2).kt k3) (sliceD_mono (fun d G' z => lf_kt ((k1.trans k2).trans k3) z) h3)) h2)) h1)) h)
end
end FD

namespace FD
open PySem L2
/-! ### data seen through the small heap -/
def pyAll (f : D → Option PyData) : List D → Option (List PyData)
  | [] => some []
  | x :: r => match f x, pyAll f r with
    | some d, some ds => some (d :: ds)
    | _, _ => none
def pyD : Nat → DG → D → Option PyData
  | _, _, .non => some .none
  | _, _, .bl b => some (.bool b)
  | _, _, .int i => some (.int i)
  | _, _, .str x => if PyData.strOk x then some (.str x) else none
  | 0, _, _ => none
  | n + 1, G, .tup xs => (pyAll (pyD n G) xs).map .tuple
  | n + 1, G, .lis xs => (pyAll (pyD n G) xs).map .list
  | n + 1, G, .ref a => match G a with
    | some (.lst xs) => (pyAll (pyD n G) xs).map .list
    | _ => none
  | _, _, _ => none
theorem pyAll_cons {f : D → Option PyData} {x : D} {r : List D} {ps : List PyData} (h : pyAll f (x :: r) = some ps) : ∃ p ps', ps = p :: ps' ∧ f x = some p ∧ pyAll f r = some ps' := by
  unfold pyAll at h
  split at h
  · rename_i d ds e1 e2
    cases h
    exact ⟨d, ds, rfl, e1, e2⟩
  · cases h
theorem dpAll_of {K : PySem.W.Frag} {H : Hp} {f : D → Option PyData} (hf : ∀ d v p, RD K H d v → f d = some p → Dp K H v p) : ∀ (xs : List D) (vs : List V) (ps : List PyData), RDs K H xs vs → pyAll f xs = some ps → DpAll K H vs ps
  | [], vs, ps, r, h => by
    have e := r.nil_inv
    subst e
    cases h
    exact .nil
  | x :: xs, vs, ps, r, h => by
    obtain ⟨v, vs', rfl, a, b⟩ := r.cons_inv
    obtain ⟨p, ps', rfl, e1, e2⟩ := pyAll_cons h
    exact .cons (hf x v p a e1) (dpAll_of hf xs vs' ps' b e2)
theorem pyD_dp {K : PySem.W.Frag} {H : Hp} {G : DG} (m : MH K G H) : ∀ (n : Nat) (d : D) (v : V) (p : PyData), RD K H d v → pyD n G d = some p → Dp K H v p := by
  intro n
  induction n with
  | zero =>
    intro d v p r h
    cases r <;> simp [pyD] at h
    · subst h; exact .non
    · subst h; exact .bl _
    · subst h; exact .int _
    · obtain ⟨_, h⟩ := h; subst h; exact .str _
  | succ n ih =>
    intro d v p r h
    cases r with
    | non => simp [pyD] at h; subst h; exact .non
    | bl b => simp [pyD] at h; subst h; exact .bl _
    | int i => simp [pyD] at h; subst h; exact .int _
    | str x => simp [pyD] at h; obtain ⟨_, h⟩ := h; subst h; exact .str _
    | ty x => simp [pyD] at h
    | tpl _ _ _ => simp [pyD] at h
    | @tup a xs vs hs hl hi =>
      simp only [pyD, Option.map_eq_some_iff] at h
      obtain ⟨ps, h1, rfl⟩ := h
      exact .tup hs.t (dpAll_of ih xs vs ps ⟨hl, hi⟩ h1)
    | @lis a xs vs hs hl hi =>
      simp only [pyD, Option.map_eq_some_iff] at h
      obtain ⟨ps, h1, rfl⟩ := h
      exact .lst hs.l (dpAll_of ih xs vs ps ⟨hl, hi⟩ h1)
    | ref a =>
      simp only [pyD] at h
      split at h
      · rename_i xs e
        obtain ⟨vs, g, r⟩ := m a _ e
        obtain ⟨ps, h1, rfl⟩ := Option.map_eq_some_iff.mp h
        exact .lst (SqL.of g) (dpAll_of ih xs vs ps r h1)
      · cases h
theorem pyAll_ok {f : D → Option PyData} {n : Nat} (hf : ∀ d p, f d = some p → p.canLay0 = true ∧ p.depth ≤ n) : ∀ (xs : List D) (ps : List PyData), pyAll f xs = some ps → PyData.canLayAll0 ps = true ∧ PyData.depthAll ps ≤ n
  | [], ps, h => by cases h; simp [PyData.canLayAll0, PyData.depthAll]
  | x :: xs, ps, h => by
    obtain ⟨p, ps', rfl, e1, e2⟩ := pyAll_cons h
    obtain ⟨h1, h2⟩ := hf x p e1
    obtain ⟨h3, h4⟩ := pyAll_ok hf xs ps' e2
    simp only [PyData.canLayAll0, PyData.depthAll, h1, h3, Bool.and_self, true_and]
    omega
theorem pyD_ok (G : DG) : ∀ (n : Nat) (d : D) (p : PyData), pyD n G d = some p → p.canLay0 = true ∧ p.depth ≤ n := by
  intro n
  induction n with
  | zero =>
    intro d p h
    cases d <;> simp [pyD] at h
    · subst h; simp [PyData.canLay0, PyData.depth]
    · subst h; simp [PyData.canLay0, PyData.depth]
    · subst h; simp [PyData.canLay0, PyData.depth]
    · obtain ⟨h1, h⟩ := h; subst h; simp [PyData.canLay0, PyData.depth, h1]
  | succ n ih =>
    intro d p h
    cases d with
    | non => simp [pyD] at h; subst h; simp [PyData.canLay0, PyData.depth]
    | bl b => simp [pyD] at h; subst h; simp [PyData.canLay0, PyData.depth]
    | int i => simp [pyD] at h; subst h; simp [PyData.canLay0, PyData.depth]
    | str x => simp [pyD] at h; obtain ⟨h1, h⟩ := h; subst h; simp [PyData.canLay0, PyData.depth, h1]
    | ty x => simp [pyD] at h
    | tpl x => simp [pyD] at h
    | tup xs =>
      simp only [pyD, Option.map_eq_some_iff] at h
      obtain ⟨ps, h1, rfl⟩ := h
      obtain ⟨a, b⟩ := pyAll_ok ih xs ps h1
      simp only [PyData.canLay0, PyData.depth, a, true_and]
      omega
    | lis xs =>
      simp only [pyD, Option.map_eq_some_iff] at h
      obtain ⟨ps, h1, rfl⟩ := h
      obtain ⟨a, b⟩ := pyAll_ok ih xs ps h1
      simp only [PyData.canLay0, PyData.depth, a, true_and]
      omega
    | ref a =>
      simp only [pyD] at h
      split at h
      · obtain ⟨ps, h1, rfl⟩ := Option.map_eq_some_iff.mp h
        obtain ⟨a, b⟩ := pyAll_ok ih _ ps h1
        simp only [PyData.canLay0, PyData.depth, a, true_and]
        omega
      · cases h
theorem pyD_shaped {G : DG} {n : Nat} {d : D} {p : PyData} (h : pyD n G d = some p) (hn : n ≤ 64) : SeqAt.shaped p = true := by
  obtain ⟨a, b⟩ := pyD_ok G n d p h
  unfold SeqAt.shaped
  rw [a, decide_eq_true (Nat.le_trans b hn)]
  rfl
section
variable {X : Cx} {a b c e : Expr} {es rest : List Expr} {ta tb tc : DE} {pos : Pos}
def py2 (x y : D) (G : DG) (f : PyData → PyData → Prop) : Prop := match pyD 9 G x, pyD 9 G y with
  | some p, some q => f p q
  | _, _ => False
def eqD : F2 := fun x y G Q => match x, y with
  | .str s, .str t => Q (.bl (decide (s = t))) G
  | x, y => py2 x y G fun p q => Q (.bl (PyData.eqv p q)) G
def neD : F2 := fun x y G Q => match x, y with
  | .str s, .str t => Q (.bl (!decide (s = t))) G
  | x, y => py2 x y G fun p q => Q (.bl (!PyData.eqv p q)) G
theorem py2_mono {x y : D} {G : DG} {f g : PyData → PyData → Prop} (h : ∀ p q, f p q → g p q) (q : py2 x y G f) : py2 x y G g := by
  unfold py2 at q ⊢
  split at q
  · exact h _ _ q
  · exact q
theorem py2_of {K : PySem.W.Frag} {H : Hp} {G : DG} {x y : V} {dx dy : D} {f : PyData → PyData → Prop} (m : MH K G H) (rx : RD K H dx x) (ry : RD K H dy y) (h : py2 dx dy G f) :
    ∃ p q, Dp K H x p ∧ Dp K H y q ∧ SeqAt.shaped p = true ∧ SeqAt.shaped q = true ∧ f p q := by
  unfold py2 at h
  split at h
  · rename_i p q e1 e2
    exact ⟨p, q, pyD_dp m 9 _ _ p rx e1, pyD_dp m 9 _ _ q ry e2, pyD_shaped e1 (by decide), pyD_shaped e2 (by decide), h⟩
  · exact False.elim h
def rEqA (K : PySem.W.Frag) : R2 := fun x y H Q => rEq x y H Q ∨ rEqD K x y H Q
def rNeA (K : PySem.W.Frag) : R2 := fun x y H Q => rNe x y H Q ∨ rNeD K x y H Q
theorem op_eqA (hu : X.A.units + 64 < cLine) : OpR X (compareOp .Eq) (rEqA X.K) := op_eq.or (op_eqD hu)
theorem op_neA (hu : X.A.units + 64 < cLine) : OpR X (compareOp .NotEq) (rNeA X.K) := op_ne.or (op_neD hu)
theorem dec_strs {s t : Str} : decide (V.str s = V.str t) = decide (s = t) := by
  by_cases h : s = t
  · subst h; simp
  · rw [decide_eq_false h, decide_eq_false fun e => h (V.str.inj e)]
theorem eqD_sim {K : PySem.W.Frag} : Sim2 K (rEqA K) eqD := fun H G x y dx dy Q m rx ry h => by
  unfold eqD at h
  split at h
  · cases rx; cases ry
    refine .inl ⟨rfl, ?_⟩
    rw [dec_strs]
    exact h _ _ m (.bl _) .refl
  · obtain ⟨p, q, h1, h2, h3, h4, h5⟩ := py2_of m rx ry h
    exact .inr ⟨p, q, h1, h2, h3, h4, h5 _ _ m (.bl _) .refl⟩
theorem neD_sim {K : PySem.W.Frag} : Sim2 K (rNeA K) neD := fun H G x y dx dy Q m rx ry h => by
  unfold neD at h
  split at h
  · cases rx; cases ry
    refine .inl ⟨rfl, ?_⟩
    rw [dec_strs]
    exact h _ _ m (.bl _) .refl
  · obtain ⟨p, q, h1, h2, h3, h4, h5⟩ := py2_of m rx ry h
    exact .inr ⟨p, q, h1, h2, h3, h4, h5 _ _ m (.bl _) .refl⟩
theorem eqD_mono : MonoF2 eqD := fun x y G Q Q' h q => by
  unfold eqD at q ⊢
  split at q
  · exact h _ _ q
  · exact py2_mono (fun _ _ z => h _ _ z) q
theorem neD_mono : MonoF2 neD := fun x y G Q Q' h q => by
  unfold neD at q ⊢
  split at q
  · exact h _ _ q
  · exact py2_mono (fun _ _ z => h _ _ z) q
theorem de_eq (hu : X.A.units + 64 < cLine) (ha : DPE X a ta) (hb : DPE X b tb) : DPE X (.Compare a [.Eq] [b] pos) (dOp eqD ta tb) := de_cmpR (op_eqA hu) eqD_mono eqD_sim ha hb (nomark _)
theorem dt_eq (hu : X.A.units + 64 < cLine) (ha : DPE X a ta) (hb : DPE X b tb) : DPT X (.Compare a [.Eq] [b] pos) (dTest (dOp eqD ta tb)) := dt_cmpR (op_eqA hu) eqD_mono eqD_sim ha hb (nomark _)
theorem dt_ne (hu : X.A.units + 64 < cLine) (ha : DPE X a ta) (hb : DPE X b tb) : DPT X (.Compare a [.NotEq] [b] pos) (dTest (dOp neD ta tb)) := dt_cmpR (op_neA hu) neD_mono neD_sim ha hb (nomark _)
/-! ### orders of ints -/
def ltD : F2 := intD (fun _ _ => True) fun i j => .bl (decide (i < j))
def leD : F2 := intD (fun _ _ => True) fun i j => .bl (decide (i ≤ j))
def gtD : F2 := intD (fun _ _ => True) fun i j => .bl (decide (j < i))
def geD : F2 := intD (fun _ _ => True) fun i j => .bl (decide (j ≤ i))
theorem de_gt (ha : DPE X a ta) (hb : DPE X b tb) : DPE X (.Compare a [.Gt] [b] pos) (dOp gtD ta tb) := de_cmpR op_gt intD_mono intD_simB ha hb (nomark _)
theorem de_ge (ha : DPE X a ta) (hb : DPE X b tb) : DPE X (.Compare a [.GtE] [b] pos) (dOp geD ta tb) := de_cmpR op_ge intD_mono intD_simB ha hb (nomark _)
theorem dt_lt (ha : DPE X a ta) (hb : DPE X b tb) : DPT X (.Compare a [.Lt] [b] pos) (dTest (dOp ltD ta tb)) := dt_cmpR op_lt intD_mono intD_simB ha hb (nomark _)
theorem dt_le (ha : DPE X a ta) (hb : DPE X b tb) : DPT X (.Compare a [.LtE] [b] pos) (dTest (dOp leD ta tb)) := dt_cmpR op_le intD_mono intD_simB ha hb (nomark _)
theorem dt_gt (ha : DPE X a ta) (hb : DPE X b tb) : DPT X (.Compare a [.Gt] [b] pos) (dTest (dOp gtD ta tb)) := dt_cmpR op_gt intD_mono intD_simB ha hb (nomark _)
theorem dt_lele (ha : DPE X a ta) (hb : DPE X b tb) (hc : DPE X c tc) (hm : lastMarks [.LtE, .LtE] [b, c] = false := by with_unfolding_all rfl) : DPT X (.Compare a [.LtE, .LtE] [b, c] pos) (dTest (dChain leD leD ta tb tc)) := (de_chain op_le op_le intD_mono intD_mono intD_simB intD_simB ha hb hc hm).2
/-! ### in -/
def items? : PyData → Option (List PyData)
  | .list xs => some xs
  | .tuple xs => some xs
  | _ => none
def inD (neg : Bool) : F2 := fun x y G Q => match pyD 9 G x, (pyD 9 G y).bind items? with
  | some p, some qs => Q (.bl (if neg then !(qs.any fun z => PyData.eqv z p) else qs.any fun z => PyData.eqv z p)) G
  | _, _ => False
theorem inD_mono {neg : Bool} : MonoF2 (inD neg) := fun x y G Q Q' h q => by
  unfold inD at q ⊢
  split at q
  · exact h _ _ q
  · exact q
def rInA (K : PySem.W.Frag) (neg : Bool) : R2 := fun x y H Q => ∃ d e ds, Dp K H x d ∧ Dp K H y e ∧ SeqAt.shaped d = true ∧ SeqAt.shaped e = true ∧ items? e = some ds ∧ Q (.bl (if neg then !(ds.any fun z => PyData.eqv z d) else ds.any fun z => PyData.eqv z d)) H
theorem op_inA (hu : X.A.units + 65 < cLine) : OpR X (compareOp .In) (rInA X.K false) := by
  intro pins s σ H x y v u Q I rx ry h
  obtain ⟨d, e, ds, hd, he, sd, se, hi, q⟩ := h
  obtain ⟨as, r1⟩ := Dp.reads I d x v hd rx
  obtain ⟨bs, r2⟩ := Dp.reads I e y u he ry
  have room := PyProof.Rows.room_in_shaped (A := X.A) (xs := ds) sd hu
  cases e with
  | list xs => cases hi; exact SeqAt.in_list_reads r2 r1 (SeqAt.canLay_of_shaped se) (SeqAt.canLay_of_shaped sd) room ⟨.bl _, H, I, rfl, q⟩
  | tuple xs => cases hi; exact SeqAt.in_tuple_reads r2 r1 (SeqAt.canLay_of_shaped se) (SeqAt.canLay_of_shaped sd) room ⟨.bl _, H, I, rfl, q⟩
  | _ => cases hi
theorem op_notInA (hu : X.A.units + 65 < cLine) : OpR X (compareOp .NotIn) (rInA X.K true) := by
  intro pins s σ H x y v u Q I rx ry h
  obtain ⟨d, e, ds, hd, he, sd, se, hi, q⟩ := h
  obtain ⟨as, r1⟩ := Dp.reads I d x v hd rx
  obtain ⟨bs, r2⟩ := Dp.reads I e y u he ry
  have room := PyProof.Rows.room_in_shaped (A := X.A) (xs := ds) sd hu
  cases e with
  | list xs => cases hi; exact SeqAt.notIn_list_reads r2 r1 (SeqAt.canLay_of_shaped se) (SeqAt.canLay_of_shaped sd) room ⟨.bl _, H, I, rfl, q⟩
  | tuple xs => cases hi; exact SeqAt.notIn_tuple_reads r2 r1 (SeqAt.canLay_of_shaped se) (SeqAt.canLay_of_shaped sd) room ⟨.bl _, H, I, rfl, q⟩
  | _ => cases hi
theorem inD_sim {K : PySem.W.Frag} {neg : Bool} : Sim2 K (rInA K neg) (inD neg) := fun H G x y dx dy Q m rx ry h => by
  unfold inD at h
  split at h
  · rename_i p qs e1 e2
    obtain ⟨q, e3, e4⟩ := Option.bind_eq_some_iff.mp e2
    exact ⟨p, q, qs, pyD_dp m 9 _ _ p rx e1, pyD_dp m 9 _ _ q ry e3, pyD_shaped e1 (by decide), pyD_shaped e3 (by decide), e4, h _ _ m (.bl _) .refl⟩
  · exact False.elim h
theorem dt_in (hu : X.A.units + 65 < cLine) (ha : DPE X a ta) (hb : DPE X b tb) (hk : behindInMarks .In b = false := by rfl) : DPT X (.Compare a [.In] [b] pos) (dTest (dOp (inD false) ta tb)) := dt_cmpR (op_inA hu) inD_mono inD_sim ha hb hk
theorem dt_notin (hu : X.A.units + 65 < cLine) (ha : DPE X a ta) (hb : DPE X b tb) (hk : behindInMarks .NotIn b = false := by rfl) : DPT X (.Compare a [.NotIn] [b] pos) (dTest (dOp (inD true) ta tb)) := dt_cmpR (op_notInA hu) inD_mono inD_sim ha hb hk
/-! ### is: None, truths -/
def isD (neg : Bool) : F2 := fun x y G Q => match x, y with
  | .bl i, .bl j => Q (.bl (if neg then !decide (i = j) else decide (i = j))) G
  | .non, .non => Q (.bl (!neg)) G
  | _, .non => Q (.bl neg) G
  | _, _ => False
theorem isD_mono {neg : Bool} : MonoF2 (isD neg) := fun x y G Q Q' h q => by
  unfold isD at q ⊢
  split at q <;> first | exact h _ _ q | exact q
def rIs (neg : Bool) : R2 := fun x y H Q => (y = .non ∧ Q (.bl (if neg then !decide (x = .non) else decide (x = .non))) H) ∨ ∃ a b, x = .bl a ∧ y = .bl b ∧ Q (.bl (if neg then !decide (a = b) else decide (a = b))) H
theorem op_is1 : OpR X (compareOp .Is) (rIs false) := op_isN.or op_is_bl
theorem op_is2 : OpR X (compareOp .IsNot) (rIs true) := op_notN.or op_isnot_bl
theorem isD_sim {K : PySem.W.Frag} {neg : Bool} : Sim2 K (rIs neg) (isD neg) := fun H G x y dx dy Q m rx ry h => by
  unfold isD at h
  split at h
  · cases rx; cases ry
    exact .inr ⟨_, _, rfl, rfl, h _ _ m (.bl _) .refl⟩
  · cases rx; cases ry
    refine .inl ⟨rfl, ?_⟩
    cases neg <;> exact h _ _ m (.bl _) .refl
  · rename_i hx
    cases ry
    have hn : x ≠ .non := by
      intro e
      subst e
      cases rx
      exact hx rfl
    refine .inl ⟨rfl, ?_⟩
    have e : decide (x = V.non) = false := decide_eq_false hn
    rw [e]
    cases neg <;> exact h _ _ m (.bl _) .refl
  · exact False.elim h
theorem dt_is (ha : DPE X a ta) (hb : DPE X b tb) : DPT X (.Compare a [.Is] [b] pos) (dTest (dOp (isD false) ta tb)) := dt_cmpR op_is1 isD_mono isD_sim ha hb (nomark _)
theorem dt_isnot (ha : DPE X a ta) (hb : DPE X b tb) : DPT X (.Compare a [.IsNot] [b] pos) (dTest (dOp (isD true) ta tb)) := dt_cmpR op_is2 isD_mono isD_sim ha hb (nomark _)
end
end FD

namespace FD
open PySem L2
section
variable {X : Cx} {a b c e : Expr} {es rest : List Expr} {ta tb tc : DE} {pos : Pos}
/-! ### sequences: what a value holds -/
def seqD (x : D) (G : DG) : Option (List D) := match x with
  | .tup xs => some xs
  | .lis xs => some xs
  | .ref p => match G p with
    | some (.lst xs) => some xs
    | _ => none
  | _ => none
theorem seqD_ok {K : PySem.W.Frag} {H : Hp} {G : DG} {x : V} {d : D} {xs : List D} (m : MH K G H) (r : RD K H d x) (h : seqD d G = some xs) : ∃ p vs, x = .ref p ∧ RDs K H xs vs ∧ (SqL K H p vs ∨ SqT K H p vs) := by
  unfold seqD at h
  split at h
  · cases h
    cases r with
    | @tup p _ vs hs hl hi => exact ⟨p, vs, rfl, ⟨hl, hi⟩, .inr hs.t⟩
  · cases h
    cases r with
    | @lis p _ vs hs hl hi => exact ⟨p, vs, rfl, ⟨hl, hi⟩, .inl hs.l⟩
  · cases r
    split at h
    · rename_i e
      cases h
      obtain ⟨vs, g, r⟩ := m _ _ e
      exact ⟨_, vs, rfl, r, .inl (SqL.of g)⟩
    · cases h
  · cases h
/-- a list's items -/
def lstD (x : D) (G : DG) : Option (List D) := match x with
  | .lis xs => some xs
  | .ref p => match G p with
    | some (.lst xs) => some xs
    | _ => none
  | _ => none
theorem lstD_ok {K : PySem.W.Frag} {H : Hp} {G : DG} {x : V} {d : D} {xs : List D} (m : MH K G H) (r : RD K H d x) (h : lstD d G = some xs) : ∃ p vs, x = .ref p ∧ RDs K H xs vs ∧ SqL K H p vs := by
  unfold lstD at h
  split at h
  · cases h
    cases r with
    | @lis p _ vs hs hl hi => exact ⟨p, vs, rfl, ⟨hl, hi⟩, hs.l⟩
  · cases r
    split at h
    · rename_i e
      cases h
      obtain ⟨vs, g, r⟩ := m _ _ e
      exact ⟨_, vs, rfl, r, SqL.of g⟩
    · cases h
  · cases h
def optL (o : Option (List D)) (f : List D → Prop) : Prop := match o with | some xs => f xs | none => False
theorem optL_mono {o : Option (List D)} {f g : List D → Prop} (h : ∀ xs, f xs → g xs) (q : optL o f) : optL o g := by
  cases o with
  | none => exact q
  | some xs => exact h xs q
/-! ### len -/
def lenD : FL := fun xs G Q => match xs with
  | [.str s] => s.length ≤ sizeLine ∧ Q (.int s.length) G
  | [x] => optL (seqD x G) fun ys => Q (.int ys.length) G
  | _ => False
theorem lenD_mono : MonoFL lenD := fun xs G Q Q' h q => by
  unfold lenD at q ⊢
  split at q
  · exact ⟨q.1, h _ _ q.2⟩
  · exact optL_mono (fun _ z => h _ _ z) q
  · exact q
theorem lenD_sim {K : PySem.W.Frag} : SimL K (fun xs H Q => ∃ x n, xs = [x] ∧ LenV K x H n ∧ Q (.int n) H) lenD := fun H G xs ds Q m r h => by
  unfold lenD at h
  split at h
  · obtain ⟨v, vs', rfl, r1, r2⟩ := r.cons_inv
    have e := r2.nil_inv
    subst e
    cases r1
    exact ⟨_, _, rfl, ⟨h.1, rfl⟩, h.2 _ _ m (.int _) .refl⟩
  · obtain ⟨v, vs', rfl, r1, r2⟩ := r.cons_inv
    have e := r2.nil_inv
    subst e
    unfold optL at h
    split at h
    · rename_i ys e
      obtain ⟨p, ws, rfl, rr, hq⟩ := seqD_ok m r1 e
      refine ⟨_, ws.length, rfl, ?_, ?_⟩
      · rcases hq with hq | hq
        · exact .inl ⟨ws, hq, rfl⟩
        · exact .inr ⟨ws, hq, rfl⟩
      · rw [← rr.1]
        exact h _ _ m (.int _) .refl
    · exact False.elim h
  · exact False.elim h
theorem de_len {p : Pos} {t : DA} (hg : Gl X "len") (hm : X.mg "len" = none) (ha : DPA X (e :: es) t) (h1 : starEach (e :: es) X.env = (false, eval e X.env) :: starEach es X.env := by rfl) (h2 : ((backTo pos (starEach es X.env)).any fun x => x.fst) = false := by rfl) :
    DPE X (.Call (.Name "len" p) (e :: es) [] pos) (dCB lenD t) := de_callB call_len lenD_mono lenD_sim hg hm PySem.boot_len ha (by decide) (by decide) h1 h2
/-! ### list(..), tuple(..) -/
def listD : FL := fun xs G Q => match xs with
  | [x] => optL (seqD x G) fun ys => ∀ p, G p = none → Q (.ref p) (up G p (.lst ys))
  | _ => False
theorem listD_mono : MonoFL listD := fun xs G Q Q' h q => by
  unfold listD at q ⊢
  split at q
  · exact optL_mono (fun _ z p hp => h _ _ (z p hp)) q
  · exact q
theorem listD_sim {K : PySem.W.Frag} : SimL K (fun xs H Q => ∃ p ys, xs = [.ref p] ∧ (SqL K H p ys ∨ SqT K H p ys) ∧ ∀ l, H l = none → Q (.ref l) (upd H l (.lst ys))) listD := fun H G xs ds Q m r h => by
  unfold listD at h
  split at h
  · obtain ⟨v, vs', rfl, r1, r2⟩ := r.cons_inv
    have e := r2.nil_inv
    subst e
    unfold optL at h
    split at h
    · rename_i ys e
      obtain ⟨p, ws, rfl, rr, hq⟩ := seqD_ok m r1 e
      exact ⟨p, ws, rfl, hq, fun l hl => h l (m.fresh hl) (.ref l) _ (m.upd (.upd_new hl) (.new_lst rr (.upd_new hl))) (.ref l) (.upd_new hl)⟩
    · exact False.elim h
  · exact False.elim h
theorem de_list {p : Pos} {t : DA} (hg : Gl X "list") (hm : X.mg "list" = none) (ha : DPA X (e :: es) t) (h1 : starEach (e :: es) X.env = (false, eval e X.env) :: starEach es X.env := by rfl) (h2 : ((backTo pos (starEach es X.env)).any fun x => x.fst) = false := by rfl) :
    DPE X (.Call (.Name "list" p) (e :: es) [] pos) (dCB listD t) := de_callTy call_list_of listD_mono listD_sim hg hm (by decide +kernel) ha (by decide) (by decide) h1 h2
def tupleD : FL := fun xs G Q => match xs with
  | [x] => optL (seqD x G) fun ys => Q (.tup ys) G
  | _ => False
theorem tupleD_mono : MonoFL tupleD := fun xs G Q Q' h q => by
  unfold tupleD at q ⊢
  split at q
  · exact optL_mono (fun _ z => h _ _ z) q
  · exact q
theorem call_tupleP : CallR X (.type "tuple") (fun xs H Q => ∃ p ys, xs = [.ref p] ∧ ((SqL X.K H p ys ∧ NewT H ys Q) ∨ (SqP X.K H p ys ∧ Q (.ref p) H))) := by
  intro pins s σ H xs us Q I r h
  obtain ⟨p, ys, rfl, h⟩ := h
  obtain ⟨u, rfl, rx⟩ := vals1 r
  cases rx
  rcases h with ⟨hq, q⟩ | ⟨hq, q⟩
  · obtain ⟨its, r', pl, hz⟩ := I.list hq
    have hlen := r'.length
    refine call_tuple_list pl.isList (fun h' kp => ?_) (by simp only [List.size_toArray] <;> omega)
    exact newT_inv (s := s) (h' := h') (I.kept (t' := s.toks) kp) r' hz q
  · obtain ⟨its, r', pl, hz⟩ := I.tuple hq.t
    exact call_tuple_same pl ⟨.ref p, H, I, rfl, q⟩
theorem tupleD_sim {K : PySem.W.Frag} : SimL K (fun xs H Q => ∃ p ys, xs = [.ref p] ∧ ((SqL K H p ys ∧ NewT H ys Q) ∨ (SqP K H p ys ∧ Q (.ref p) H))) tupleD := fun H G xs ds Q m r h => by
  unfold tupleD at h
  split at h
  · rename_i x
    obtain ⟨v, vs', rfl, r1, r2⟩ := r.cons_inv
    have e := r2.nil_inv
    subst e
    unfold optL at h
    split at h
    · rename_i ys e
      cases x with
      | tup zs =>
        simp [seqD] at e
        subst e
        cases r1 with
        | @tup p _ vs hs hl hi => exact ⟨p, vs, rfl, .inr ⟨hs, h _ _ m (.tup hs hl hi) .refl⟩⟩
      | ref p =>
        have e2 : lstD (.ref p) G = some ys := by simpa [seqD, lstD] using e
        obtain ⟨p', ws, hp, rr, hq⟩ := lstD_ok m r1 e2
        exact ⟨p', ws, by rw [hp], .inl ⟨hq, fun n o hn hd => h (.ref n) _ (m.new (.upd_new hn) (m.fresh hn)) (.new_tup rr hn hd) (.upd_new hn)⟩⟩
      | lis zs =>
        have e2 : lstD (.lis zs) G = some ys := by simpa [seqD, lstD] using e
        obtain ⟨p', ws, hp, rr, hq⟩ := lstD_ok m r1 e2
        exact ⟨p', ws, by rw [hp], .inl ⟨hq, fun n o hn hd => h (.ref n) _ (m.new (.upd_new hn) (m.fresh hn)) (.new_tup rr hn hd) (.upd_new hn)⟩⟩
      | _ => simp [seqD] at e
    · exact False.elim h
  · exact False.elim h
theorem de_tuple {p : Pos} {t : DA} (hg : Gl X "tuple") (hm : X.mg "tuple" = none) (ha : DPA X (e :: es) t) (h1 : starEach (e :: es) X.env = (false, eval e X.env) :: starEach es X.env := by rfl) (h2 : ((backTo pos (starEach es X.env)).any fun x => x.fst) = false := by rfl) :
    DPE X (.Call (.Name "tuple" p) (e :: es) [] pos) (dCB tupleD t) := de_callTy call_tupleP tupleD_mono tupleD_sim hg hm (by decide +kernel) ha (by decide) (by decide) h1 h2
/-! ### min, max of two ints or of a list; sum; abs; all -/
def intsD : List D → Option (List Int)
  | [] => some []
  | .int i :: r => (intsD r).map (i :: ·)
  | _ :: _ => none
theorem intsD_inv : ∀ {ds : List D} {ns : List Int}, intsD ds = some ns → ds = ns.map .int
  | [], ns, h => by cases h; rfl
  | .int i :: r, ns, h => by
    simp only [intsD, Option.map_eq_some_iff] at h
    obtain ⟨a, h1, rfl⟩ := h
    rw [intsD_inv h1]
    rfl
  | .non :: r, ns, h => by simp [intsD] at h
  | .bl b :: r, ns, h => by simp [intsD] at h
  | .str b :: r, ns, h => by simp [intsD] at h
  | .tup b :: r, ns, h => by simp [intsD] at h
  | .tpl b :: r, ns, h => by simp [intsD] at h
  | .lis b :: r, ns, h => by simp [intsD] at h
  | .ref b :: r, ns, h => by simp [intsD] at h
  | .ty b :: r, ns, h => by simp [intsD] at h
def maxD : FL := fun xs G Q => match xs with
  | [.int i, .int j] => Q (.int (if j > i then j else i)) G
  | [x] => ∃ ns, (lstD x G).bind intsD = some ns ∧ 0 < ns.length ∧ ∀ m, m ∈ ns → (∀ y, y ∈ ns → y ≤ m) → Q (.int m) G
  | _ => False
def minD : FL := fun xs G Q => match xs with
  | [.int i, .int j] => Q (.int (if j < i then j else i)) G
  | [x] => ∃ ns, (lstD x G).bind intsD = some ns ∧ 0 < ns.length ∧ ∀ m, m ∈ ns → (∀ y, y ∈ ns → m ≤ y) → Q (.int m) G
  | _ => False
theorem maxD_mono : MonoFL maxD := fun xs G Q Q' h q => by
  unfold maxD at q ⊢
  split at q
  · exact h _ _ q
  · obtain ⟨ns, h1, h2, h3⟩ := q
    exact ⟨ns, h1, h2, fun m a b => h _ _ (h3 m a b)⟩
  · exact q
theorem ints_ok {K : PySem.W.Frag} {H : Hp} {G : DG} {x : V} {d : D} {ns : List Int} (m : MH K G H) (r : RD K H d x) (h : (lstD d G).bind intsD = some ns) : ∃ p, x = .ref p ∧ SqL K H p (ns.map V.int) := by
  obtain ⟨ds, h1, h2⟩ := Option.bind_eq_some_iff.mp h
  obtain ⟨p, vs, rfl, rr, hq⟩ := lstD_ok m r h1
  rw [intsD_inv h2] at rr
  exact ⟨p, rfl, by rw [← rr.int_inv]; exact hq⟩
theorem maxD_sim {K : PySem.W.Frag} : SimL K (fun xs H Q => (∃ i j, xs = [.int i, .int j] ∧ Q (.int (if j > i then j else i)) H) ∨ rMax K xs H Q) maxD := fun H G xs ds Q m r h => by
  unfold maxD at h
  split at h
  · obtain ⟨v, vs', rfl, r1, r2⟩ := r.cons_inv
    obtain ⟨v2, vs2, rfl, r3, r4⟩ := r2.cons_inv
    have e := r4.nil_inv
    subst e
    cases r1; cases r3
    exact .inl ⟨_, _, rfl, h _ _ m (.int _) .refl⟩
  · obtain ⟨v, vs', rfl, r1, r2⟩ := r.cons_inv
    have e := r2.nil_inv
    subst e
    obtain ⟨ns, h1, h2, h3⟩ := h
    obtain ⟨p, rfl, hq⟩ := ints_ok m r1 h1
    exact .inr ⟨p, ns, rfl, hq, h2, fun m' a b => h3 m' a b _ _ m (.int _) .refl⟩
  · exact False.elim h
theorem de_max {p : Pos} {t : DA} (hc : X.calm = true) (hg : Gl X "max") (hm : X.mg "max" = none) (ha : DPA X (e :: es) t) (h1 : starEach (e :: es) X.env = (false, eval e X.env) :: starEach es X.env := by rfl) (h2 : ((backTo pos (starEach es X.env)).any fun x => x.fst) = false := by rfl) :
    DPE X (.Call (.Name "max" p) (e :: es) [] pos) (dCB maxD t) := de_callB ((call_max2 hc).or (cr_max hc)) maxD_mono maxD_sim hg hm (by decide +kernel) ha (by decide) (by decide) h1 h2
def absD : FL := fun xs G Q => match xs with
  | [.int i] => Q (.int (if i < 0 then -i else i)) G
  | _ => False
theorem de_abs {p : Pos} {t : DA} (hg : Gl X "abs") (hm : X.mg "abs" = none) (ha : DPA X (e :: es) t) (h1 : starEach (e :: es) X.env = (false, eval e X.env) :: starEach es X.env := by rfl) (h2 : ((backTo pos (starEach es X.env)).any fun x => x.fst) = false := by rfl) :
    DPE X (.Call (.Name "abs" p) (e :: es) [] pos) (dCB absD t) := de_callB call_abs
  (fun xs G Q Q' h q => by unfold absD at q ⊢; split at q; exact h _ _ q; exact q)
  (fun H G xs ds Q m r h => by
    unfold absD at h
    split at h
    · obtain ⟨v, vs', rfl, r1, r2⟩ := r.cons_inv
      have e := r2.nil_inv
      subst e
      cases r1
      exact ⟨_, rfl, h _ _ m (.int _) .refl⟩
    · exact False.elim h) hg hm (by decide +kernel) ha (by decide) (by decide) h1 h2
def blsD : List D → Option (List Bool)
  | [] => some []
  | .bl i :: r => (blsD r).map (i :: ·)
  | _ :: _ => none
theorem blsD_map : ∀ ns : List Bool, blsD (ns.map .bl) = some ns
  | [] => rfl
  | n :: ns => by simp [blsD, blsD_map ns]
theorem blsD_inv : ∀ {ds : List D} {ns : List Bool}, blsD ds = some ns → ds = ns.map .bl
  | [], ns, h => by cases h; rfl
  | .bl i :: r, ns, h => by
    simp only [blsD, Option.map_eq_some_iff] at h
    obtain ⟨a, h1, rfl⟩ := h
    rw [blsD_inv h1]
    rfl
  | .non :: r, ns, h => by simp [blsD] at h
  | .int b :: r, ns, h => by simp [blsD] at h
  | .str b :: r, ns, h => by simp [blsD] at h
  | .tup b :: r, ns, h => by simp [blsD] at h
  | .tpl b :: r, ns, h => by simp [blsD] at h
  | .lis b :: r, ns, h => by simp [blsD] at h
  | .ref b :: r, ns, h => by simp [blsD] at h
  | .ty b :: r, ns, h => by simp [blsD] at h
theorem bls_ok {K : PySem.W.Frag} {H : Hp} {G : DG} {x : V} {d : D} {ns : List Bool} (m : MH K G H) (r : RD K H d x) (h : (lstD d G).bind blsD = some ns) : ∃ p, x = .ref p ∧ SqL K H p (ns.map V.bl) := by
  obtain ⟨ds, h1, h2⟩ := Option.bind_eq_some_iff.mp h
  obtain ⟨p, vs, rfl, rr, hq⟩ := lstD_ok m r h1
  rw [blsD_inv h2] at rr
  exact ⟨p, rfl, by rw [← rr.bl_inv]; exact hq⟩
def allD : FL := fun xs G Q => match xs with
  | [x] => ∃ bs, (lstD x G).bind blsD = some bs ∧ Q (.bl (bs.all id)) G
  | _ => False
theorem de_all {p : Pos} {t : DA} (hc : X.calm = true) (hg : Gl X "all") (hm : X.mg "all" = none) (ha : DPA X (e :: es) t) (h1 : starEach (e :: es) X.env = (false, eval e X.env) :: starEach es X.env := by rfl) (h2 : ((backTo pos (starEach es X.env)).any fun x => x.fst) = false := by rfl) :
    DPE X (.Call (.Name "all" p) (e :: es) [] pos) (dCB allD t) := de_callB (cr_all hc)
  (fun xs G Q Q' h q => by
    unfold allD at q ⊢
    split at q
    · obtain ⟨bs, z1, z2⟩ := q
      exact ⟨bs, z1, h _ _ z2⟩
    · exact q)
  (fun H G xs ds Q m r h => by
    unfold allD at h
    split at h
    · obtain ⟨v, vs', rfl, r1, r2⟩ := r.cons_inv
      have e := r2.nil_inv
      subst e
      obtain ⟨bs, z1, z2⟩ := h
      obtain ⟨p, rfl, hq⟩ := bls_ok m r1 z1
      exact ⟨p, bs, rfl, hq, z2 _ _ m (.bl _) .refl⟩
    · exact False.elim h) hg hm (by decide +kernel) ha (by decide) (by decide) h1 h2
/-! ### sorted, ints -/
/-! ### methods of lists -/
abbrev FM := D → List D → DG → DK → Prop
def MonoFM (f : FM) : Prop := ∀ x xs G (Q Q' : DK), (∀ d G', Q d G' → Q' d G') → f x xs G Q → f x xs G Q'
def SimM (K : PySem.W.Frag) (r : V → List V → Hp → VK → Prop) (f : FM) : Prop := ∀ H G x xs dx dxs Q, MH K G H → RD K H dx x → RDs K H dxs xs → f dx dxs G (lf K H Q) → r x xs H Q
def isLst (x : D) (G : DG) : Prop := ∃ xs, lstD x G = some xs
def dMt (f : FM) (to : DE) (t : DA) : DE := fun σ G Q => to σ G fun x G1 => isLst x G1 ∧ t σ G1 fun xs G2 => f x xs G2 Q
theorem tyV_lst {K : PySem.W.Frag} {H : Hp} {G : DG} {x : V} {d : D} (m : MH K G H) (r : RD K H d x) (h : isLst d G) : tyV K "list" x H := by
  obtain ⟨xs, h⟩ := h
  obtain ⟨p, vs, rfl, rr, hq⟩ := lstD_ok m r h
  exact .inl ⟨rfl, vs, hq⟩
theorem de_mtL {o : Expr} {name : Str} {apos : Pos} {id : String} {to : DE} {t : DA} {r : V → List V → Hp → VK → Prop} {f : FM} (slot : Slot "list" name id) (hty : typeOf (.builtin id) = pure (.type "method_descriptor")) (hm : MtR X id r) (hf : MonoFM f) (hs : SimM X.K r f) (ho : DPE X o to) (ha : DPA X (e :: es) t)
    (hbase : attributeBase o name X.env (eval o X.env) = eval o X.env := by rfl)
    (hfew : ((backTo pos (starEach (e :: es) X.env)).all (fun x => !x.1) && (backToKw pos (keywordEach [] X.env)).all (fun x => x.1.isSome)
      && decide ((e :: es).length + ([] : List Keyword).length + (if ([] : List Keyword).isEmpty then 0 else 1) < 30)) = true := by rfl)
    (hline : (apos.endLine == pos.line) = true := by rfl) (h1 : starEach (e :: es) X.env = (false, eval e X.env) :: starEach es X.env := by rfl) (hplain : (backTo pos (starEach es X.env)).any (·.1) = false := by rfl) :
    DPE X (.Call (.Attribute o name apos) (e :: es) [] pos) (dMt f to t) := by
  obtain ⟨mo, tto, po, ro⟩ := ho
  obtain ⟨ma, tta, pa, ra⟩ := ha
  refine ⟨fun σ G Q Q' h q => mo σ G _ _ (fun x G1 q1 => ⟨q1.1, ma σ G1 _ _ (fun xs G2 q2 => hf x xs G2 Q Q' h q2) q1.2⟩) q, _, pe_bm PySem.F.plainAttrs_list slot hty hm po pa hbase hfew hline h1 hplain, fun σ H σd G Q m s h => ?_⟩
  refine ro σ H σd G _ m s (mo _ _ _ _ (fun dx G1 q1 x H1 m1 r1 k1 => ?_) h)
  refine ⟨tyV_lst m1 r1 q1.1, ra σ H1 σd G1 _ m1 (s.kt k1) (ma _ _ _ _ (fun dxs G2 q2 xs H2 m2 r2 k2 => ?_) q1.2)⟩
  exact hs H2 G2 x xs dx dxs Q m2 (r1.kt k2) r2 (hf _ _ _ _ _ (fun d G' z => lf_kt (k1.trans k2) z) q2)
theorem de_mtL0 {o : Expr} {name : Str} {apos : Pos} {id : String} {to : DE} {r : V → List V → Hp → VK → Prop} {f : FM} (slot : Slot "list" name id) (hty : typeOf (.builtin id) = pure (.type "method_descriptor")) (hm : MtR X id r) (hf : MonoFM f) (hs : SimM X.K r f) (ho : DPE X o to)
    (hbase : attributeBase o name X.env (eval o X.env) = eval o X.env := by rfl) (hline : (apos.endLine == pos.line) = true := by rfl) :
    DPE X (.Call (.Attribute o name apos) [] [] pos) (dMt f to dNil) := by
  obtain ⟨mo, tto, po, ro⟩ := ho
  refine ⟨fun σ G Q Q' h q => mo σ G _ _ (fun x G1 q1 => ⟨q1.1, hf x _ G1 Q Q' h q1.2⟩) q, _, pe_bm0 PySem.F.plainAttrs_list slot hty hm po hbase hline, fun σ H σd G Q m s h => ?_⟩
  refine ro σ H σd G _ m s (mo _ _ _ _ (fun dx G1 q1 x H1 m1 r1 k1 => ?_) h)
  exact ⟨tyV_lst m1 r1 q1.1, hs H1 G1 x [] dx [] Q m1 r1 .nil (hf _ _ _ _ _ (fun d G' z => lf_kt k1 z) q1.2)⟩
theorem KT.upd_lst {K : PySem.W.Frag} {H : Hp} {p : Addr} {vs ws : List V} (h : H p = some (.lst vs)) : KT K H (L2.upd H p (.lst ws)) := .upd_mut h (fun _ e => by cases e) (fun _ _ e => by cases e)
def appendD : FM := fun x xs G Q => match x, xs with
  | .ref p, [y] => ∃ zs, G p = some (.lst zs) ∧ zs.length < sizeLine ∧ Q .non (up G p (.lst (zs ++ [y])))
  | _, _ => False
theorem appendD_mono : MonoFM appendD := fun x xs G Q Q' h q => by
  unfold appendD at q ⊢
  split at q
  · obtain ⟨zs, h1, h2, h3⟩ := q
    exact ⟨zs, h1, h2, h _ _ h3⟩
  · exact q
theorem appendD_sim {K : PySem.W.Frag} : SimM K rAppend appendD := fun H G x xs dx dxs Q m rx rs h => by
  unfold appendD at h
  split at h
  · obtain ⟨zs, h1, h2, h3⟩ := h
    cases rx
    obtain ⟨v, vs', rfl, r1, r2⟩ := rs.cons_inv
    have e := r2.nil_inv
    subst e
    obtain ⟨vs, g, r⟩ := m _ _ h1
    refine ⟨_, vs, v, rfl, rfl, g, by rw [← r.1]; exact h2, ?_⟩
    exact h3 .non _ (m.upd (.upd_lst g) (.new_lst (r.append (RDs.nil.cons r1)) (.upd_lst g))) .non (.upd_lst g)
  · exact False.elim h
theorem de_append {o : Expr} {apos : Pos} {to : DE} {t : DA} (ho : DPE X o to) (ha : DPA X (e :: es) t)
    (hbase : attributeBase o "append" X.env (eval o X.env) = eval o X.env := by rfl)
    (hfew : ((backTo pos (starEach (e :: es) X.env)).all (fun x => !x.1) && (backToKw pos (keywordEach [] X.env)).all (fun x => x.1.isSome)
      && decide ((e :: es).length + ([] : List Keyword).length + (if ([] : List Keyword).isEmpty then 0 else 1) < 30)) = true := by rfl)
    (hline : (apos.endLine == pos.line) = true := by rfl) (h1 : starEach (e :: es) X.env = (false, eval e X.env) :: starEach es X.env := by rfl) (hplain : (backTo pos (starEach es X.env)).any (·.1) = false := by rfl) :
    DPE X (.Call (.Attribute o "append" apos) (e :: es) [] pos) (dMt appendD to t) := de_mtL PySem.F.slot_list_append PySem.F.type_list_append mt_append appendD_mono appendD_sim ho ha hbase hfew hline h1 hplain
def insertD : FM := fun x xs G Q => match x, xs with
  | .ref p, [.int i, y] => ∃ zs, G p = some (.lst zs) ∧ zs.length < sizeLine ∧ 0 ≤ i ∧ i < 2 ^ 63 ∧ Q .non (up G p (.lst (zs.take i.toNat ++ y :: zs.drop i.toNat)))
  | _, _ => False
def clearD : FM := fun x xs G Q => match x, xs with
  | .ref p, [] => ∃ zs, G p = some (.lst zs) ∧ Q .non (up G p (.lst []))
  | _, _ => False
theorem RDs.dropLast {K : PySem.W.Frag} {H : Hp} {xs : List D} {vs : List V} (r : RDs K H xs vs) : RDs K H xs.dropLast vs.dropLast := by
  rw [List.dropLast_eq_take, List.dropLast_eq_take, r.1]
  exact r.take _
end
end FD

namespace FD
open PySem L2
section
variable {X : Cx} {a b c e : Expr} {es rest : List Expr} {ta tb tc : DE} {pos : Pos} {st : Stmt} {sts : List Stmt} {t u : DS}
/-! ### statements -/
def dNext : DS := fun D σ G => D.nx σ G
/-- what is no longer asked for may be forgotten -/
def Dr (N : DSt → DG → Prop) : DSt → DG → Prop := fun σ G => ∃ G0, Le G0 G ∧ N σ G0
def DrK (Q : DK) : DK := fun d G => ∃ G0, Le G0 G ∧ Q d G0
theorem Dr.mono {N N' : DSt → DG → Prop} (h : ∀ σ G, N σ G → N' σ G) {σ : DSt} {G : DG} (q : Dr N σ G) : Dr N' σ G := let ⟨G0, a, b⟩ := q; ⟨G0, a, h _ _ b⟩
theorem DrK.mono {N N' : DK} (h : ∀ σ G, N σ G → N' σ G) {σ : D} {G : DG} (q : DrK N σ G) : DrK N' σ G := let ⟨G0, a, b⟩ := q; ⟨G0, a, h _ _ b⟩
def Go (u : DS) (D : DEnds) : DSt → DG → Prop := Dr (u D)
def dSeq (t u : DS) : DS := fun D σ G => t { nx := Go u D, rt := D.rt, bk := D.bk, ct := D.ct } σ G
theorem DEnds.le_nx {D D' : DEnds} {n n' : DSt → DG → Prop} (l : D.Le D') (h : ∀ σ G, n σ G → n' σ G) : DEnds.Le { nx := n, rt := D.rt, bk := D.bk, ct := D.ct } { nx := n', rt := D'.rt, bk := D'.bk, ct := D'.ct } := ⟨h, l.2.1, l.2.2.1, l.2.2.2⟩
theorem dss_nil : DPSs X [] dNext := ⟨fun σ G D D' l q => l.1 _ _ q, _, pss_nil, fun σ H σd G D m s h => h σ H m s .refl⟩
theorem dss_cons (h1 : DPS X st t) (h2 : DPSs X sts u) : DPSs X (st :: sts) (dSeq t u) := by
  obtain ⟨m1, tt1, p1, r1⟩ := h1
  obtain ⟨m2, tt2, p2, r2⟩ := h2
  refine ⟨fun σ G D D' l q => m1 σ G _ _ (DEnds.le_nx l fun σ' G' z => Dr.mono (fun _ _ z => m2 _ _ D D' l z) z) q, _, pss_cons p1 p2, fun σ H σd G D m s h => ?_⟩
  refine r1 σ H σd G _ m s (m1 _ _ { nx := Go u (lfE X.K H D), rt := (lfE X.K H D).rt, bk := (lfE X.K H D).bk, ct := (lfE X.K H D).ct } _ ⟨fun σ' G' z σ1 H1 mm ss k => ?_, fun _ _ z => z, fun _ _ z => z, fun _ _ z => z⟩ h)
  obtain ⟨G0, le, z⟩ := z
  exact r2 σ1 H1 σ' G0 D (mm.le le) ss (m2 _ _ _ _ (lfE_kt k) z)
theorem dss_one (h1 : DPS X st t) : DPSs X [st] t := let ⟨m, tt, p, r⟩ := h1; ⟨m, tt, pss_one p, r⟩
def dPass : DS := fun D σ G => D.nx σ G
def dBreak : DS := fun D σ G => D.bk σ G
def dCont : DS := fun D σ G => D.ct σ G
def dNever : DS := fun _ _ _ => False
theorem ds_never : DPS X st dNever := ⟨fun σ G D D' l q => q.elim, _, ps_never, fun σ H σd G D m s h => h.elim⟩
def dDrop (t : DE) : DS := fun D σ G => t σ G fun _ G1 => D.nx σ G1
theorem ds_expr (ha : DPE X e ta) (hs : swapsWith e none pos.line X.env = pure false := by rfl) : DPS X (.Expr e pos) (dDrop ta) := by
  obtain ⟨ma, tta, pa, ra⟩ := ha
  exact ⟨fun σ G D D' l q => ma σ G _ _ (fun _ G1 z => l.1 _ _ z) q, _, ps_expr pa hs, fun σ H σd G D m s h => ra σ H σd G _ m s (ma _ _ _ _ (fun d G1 z v H1 m1 r1 k1 => z σ H1 m1 (s.kt k1) k1) h)⟩
def dRet (t : DE) : DS := fun D σ G => t σ G D.rt
theorem ds_ret (ha : DPE X e ta) : DPS X (.Return (some e) pos) (dRet ta) := by
  obtain ⟨ma, tta, pa, ra⟩ := ha
  exact ⟨fun σ G D D' l q => ma σ G _ _ (fun _ G1 z => l.2.1 _ _ z) q, _, ps_ret pa, fun σ H σd G D m s h => ra σ H σd G _ m s h⟩
def dRetN : DS := fun D _ G => D.rt .non G
def dIf (c : DTt) (t u : DS) : DS := fun D σ G => c σ G fun k G1 => if k = true then t D σ G1 else u D σ G1
theorem ds_if {tc : DTt} {as bs : List Stmt} (hc : DPT X c tc) (ha : DPSs X as t) (hb : DPSs X bs u) : DPS X (.If c as bs pos) (dIf tc t u) := by
  obtain ⟨mc, ttc, pc, rc⟩ := hc
  obtain ⟨m1, tt1, p1, r1⟩ := ha
  obtain ⟨m2, tt2, p2, r2⟩ := hb
  refine ⟨fun σ G D D' l q => mc σ G _ _ (fun k G1 z => ?_) q, _, ps_if pc p1 p2, fun σ H σd G D m s h => rc σ H σd G _ m s (mc _ _ _ _ (fun k G1 z H1 mm kk => ?_) h)⟩
  · cases k with
    | true => exact m1 σ G1 D D' l z
    | false => exact m2 σ G1 D D' l z
  · cases k with
    | true => exact r1 σ H1 σd G1 D mm (s.kt kk) (m1 _ _ _ _ (lfE_kt kk) z)
    | false => exact r2 σ H1 σd G1 D mm (s.kt kk) (m2 _ _ _ _ (lfE_kt kk) z)
/-! ### targets -/
abbrev DTg := D → DSt → DG → (DSt → DG → Prop) → Prop
abbrev DTgs := List D → DSt → DG → (DSt → DG → Prop) → Prop
structure DPG (X : Cx) (tg : Expr) (g : DTg) : Prop where
  mono : ∀ d σ G (Q Q' : DSt → DG → Prop), (∀ σ' G', Q σ' G' → Q' σ' G') → g d σ G Q → g d σ G Q'
  run : ∃ gg, PG X tg gg ∧ ∀ d v σ H σd G Q, MH X.K G H → SR X.K H σd σ → RD X.K H d v → g d σd G (lfS X.K H Q) → gg v σ H Q
structure DPGs (X : Cx) (ts : List Expr) (g : DTgs) : Prop where
  mono : ∀ d σ G (Q Q' : DSt → DG → Prop), (∀ σ' G', Q σ' G' → Q' σ' G') → g d σ G Q → g d σ G Q'
  run : ∃ gg, PGs X ts gg ∧ ∀ d v σ H σd G Q, MH X.K G H → SR X.K H σd σ → RDs X.K H d v → g d σd G (lfS X.K H Q) → gg v σ H Q
def dgName (i : Nat) : DTg := fun d σ G Q => Q (σ.set i (some d)) G
theorem dg_name (i : Nat) {x : Str} (hN : X.N.Nodup) (hi : X.N[i]? = some x := by rfl) (hx : Loc X.env.scope x := by first | exact .inl rfl | exact .inr rfl) (hf : X.fn x = true ∨ X.env.scope.names.lookup x = some .local := by first | exact .inl rfl | exact .inr rfl | assumption) : DPG X (.Name x pos) (dgName i) :=
  ⟨fun d σ G Q Q' h q => h _ _ q, _, pg_name hN hi hx hf, fun d v σ H σd G Q m s r h => h _ H m (s.set r i) .refl⟩
def dgNil : DTgs := fun ds σ G Q => ds = [] ∧ Q σ G
def dgCons (g : DTg) (gs : DTgs) : DTgs := fun ds σ G Q => match ds with
  | d :: r => g d σ G fun σ' G' => gs r σ' G' Q
  | [] => False
theorem dgs_nil : DPGs X [] dgNil := ⟨fun d σ G Q Q' h q => ⟨q.1, h _ _ q.2⟩, _, pgs_nil, fun d v σ H σd G Q m s r h => by
  obtain ⟨rfl, h⟩ := h
  exact ⟨r.nil_inv, h σ H m s .refl⟩⟩
theorem dgs_cons {g : DTg} {gs : DTgs} (h1 : DPG X e g) (h2 : DPGs X es gs) (hs : (assignEach (e :: es) X.env).map (·.2) = assign e X.env :: (assignEach es X.env).map (·.2) := by rfl) : DPGs X (e :: es) (dgCons g gs) := by
  obtain ⟨m1, gg1, p1, r1⟩ := h1
  obtain ⟨m2, gg2, p2, r2⟩ := h2
  refine ⟨fun d σ G Q Q' h q => ?_, _, pgs_cons p1 p2 hs, fun d v σ H σd G Q m s r h => ?_⟩
  · cases d with
    | nil => exact q
    | cons d r => exact m1 d σ G _ _ (fun σ' G' z => m2 r σ' G' Q Q' h z) q
  · cases d with
    | nil => exact False.elim h
    | cons d ds =>
      obtain ⟨v, vs', rfl, a1, a2⟩ := r.cons_inv
      refine ⟨v, vs', rfl, r1 d v σ H σd G _ m s a1 (m1 _ _ _ _ _ (fun σ' G' z σ1 H1 mm ss k => ?_) h)⟩
      exact r2 ds vs' σ1 H1 σ' G' Q mm ss (a2.kt k) (m2 _ _ _ _ _ (fun _ _ w => lfS_kt k w) z)
def dgTup (n : Nat) (gs : DTgs) : DTg := fun d σ G Q => match d with
  | .tup xs => xs.length = n ∧ gs xs σ G Q
  | .tpl xs => xs.length = n ∧ gs xs σ G Q
  | _ => False
theorem dg_tup {k n : Nat} {gs : DTgs} (hc : X.calm = true) (h : DPGs X es gs) (hn : (assignEach es X.env).length = n := by rfl) (hst : (assignEach es X.env).findIdx? (·.1) = none := by rfl) : DPG X (.Tuple es k pos) (dgTup n gs) := by
  obtain ⟨m1, gg1, p1, r1⟩ := h
  refine ⟨fun d σ G Q Q' h q => ?_, _, pg_tup hc p1 hn hst, fun d v σ H σd G Q m s r h => ?_⟩
  · cases d with
    | tup xs => exact ⟨q.1, m1 _ _ _ _ _ h q.2⟩
    | tpl xs => exact ⟨q.1, m1 _ _ _ _ _ h q.2⟩
    | _ => exact q
  · cases d with
    | tup xs =>
      cases r with
      | @tup p _ vs hs hl hi => exact ⟨p, vs, rfl, hs.t, by rw [← hl]; exact h.1, r1 xs vs σ H σd G Q m s ⟨hl, hi⟩ h.2⟩
    | tpl xs =>
      cases r with
      | @tpl p _ vs hs hl hi => exact ⟨p, vs, rfl, hs, by rw [← hl]; exact h.1, r1 xs vs σ H σd G Q m s ⟨hl, hi⟩ h.2⟩
    | _ => exact False.elim h
/-- o[i] = v, a list -/
def setD (o i v : D) (G : DG) (Q : DG → Prop) : Prop := match o, i with
  | .ref p, .int k => ∃ xs j, G p = some (.lst xs) ∧ ixN xs.length k = some j ∧ Q (up G p (.lst (xs.set j v)))
  | _, _ => False
def dgSub (to ti : DE) : DTg := fun v σ G Q => to σ G fun o G1 => ti σ G1 fun i G2 => setD o i v G2 fun G3 => Q σ G3
def dAsg (t : DE) (g : DTg) : DS := fun D σ G => t σ G fun x G1 => g x σ G1 D.nx
theorem ds_asg {tg : Expr} {g : DTg} (ha : DPE X e ta) (hg : DPG X tg g) (hs : swapsWithSole [tg] e pos.line X.env = pure false := by rfl) (hw : swappedStores [tg] e X.env = pure none := by rfl)
    (h1 : (assignEach [tg] X.env).map (·.2) = [assign tg X.env] := by rfl) : DPS X (.Assign [tg] e pos) (dAsg ta g) := by
  obtain ⟨ma, tta, pa, ra⟩ := ha
  obtain ⟨mg, gg, pg, rg⟩ := hg
  refine ⟨fun σ G D D' l q => ma σ G _ _ (fun x G1 z => mg _ _ _ _ _ l.1 z) q, _, ps_asg pa pg hs hw h1, fun σ H σd G D m s h => ra σ H σd G _ m s (ma _ _ _ _ (fun d G1 z v H1 m1 r1 k1 => ?_) h)⟩
  exact rg d v σ H1 σd G1 _ m1 (s.kt k1) r1 (mg _ _ _ _ _ (fun _ _ w => lfS_kt k1 w) z)
theorem ds_set (i : Nat) {x : Str} {pos' : Pos} (hN : X.N.Nodup) (ha : DPE X e ta) (hi : X.N[i]? = some x := by rfl) (hx : Loc X.env.scope x := by first | exact .inl rfl | exact .inr rfl) (hs : swapsWith e (some (.Name x pos')) pos.line X.env = pure false := by rfl) (hf : X.fn x = true ∨ X.env.scope.names.lookup x = some .local := by first | exact .inl rfl | exact .inr rfl | assumption) :
    DPS X (.Assign [.Name x pos'] e pos) (dAsg ta (dgName i)) := by
  obtain ⟨ma, tta, pa, ra⟩ := ha
  refine ⟨fun σ G D D' l q => ma σ G _ _ (fun x G1 z => l.1 _ _ z) q, _, ps_set hN hi hx pa hs hf, fun σ H σd G D m s h => ra σ H σd G _ m s (ma _ _ _ _ (fun d G1 z v H1 m1 r1 k1 => ?_) h)⟩
  exact z _ H1 m1 ((s.kt k1).set r1 i) k1
/-- x, y = a, b: two plain local names -/
def dPar (i j : Nat) (t : DA) : DS := fun D σ G => t σ G fun ds G1 => match ds with
  | [d, e] => D.nx ((σ.set i (some d)).set j (some e)) G1
  | _ => False
/-! ### what is walked -/
abbrev DI := DSt → DG → (List D → (DG → Prop) → DG → Prop) → Prop
def ItOk (K : PySem.W.Frag) (H1 : Hp) (J : It) (items : List D) (ok : DG → Prop) : Prop := ∀ (i : Nat) (H' : Hp) (G' : DG), KT K H1 H' → MH K G' H' → ok G' →
  (∀ d, items[i]? = some d → J.go i H' ∧ ∀ x H'', J.yld i H' x H'' → MH K G' H'' ∧ KT K H' H'' ∧ RD K H'' d x) ∧ (items.length ≤ i → J.stop i H')
structure DPI (X : Cx) (tg iter : Expr) (ti : DI) : Prop where
  mono : ∀ σ G (R R' : List D → (DG → Prop) → DG → Prop), (∀ xs ok G', R xs ok G' → R' xs ok G') → ti σ G R → ti σ G R'
  run : ∃ wi, PI X tg iter wi ∧ ∀ σ H σd G (R : It → Hp → Prop), MH X.K G H → SR X.K H σd σ → ti σd G (fun items ok G1 => ∀ J H1, MH X.K G1 H1 → KT X.K H H1 → ItOk X.K H1 J items ok → R J H1) → wi σ H R
theorem itOk_list {K : PySem.W.Frag} {H1 : Hp} {p : Addr} {xs : List D} {ok : DG → Prop} (h : ∀ G' H', KT K H1 H' → MH K G' H' → ok G' → ∃ vs, SqL K H' p vs ∧ RDs K H' xs vs) : ItOk K H1 (Itl K p) xs ok := fun i H' G' k m o => by
  obtain ⟨vs, hq, r⟩ := h G' H' k m o
  refine ⟨fun d hd => ?_, fun hl => ⟨vs, hq, by rw [← r.1]; exact hl⟩⟩
  obtain ⟨v, h1, h2⟩ := r.get hd
  refine ⟨⟨vs, v, hq, h1⟩, fun x H'' y => ?_⟩
  obtain ⟨rfl, y⟩ := y
  have e := y vs hq
  rw [h1] at e
  cases e
  exact ⟨m, .refl, h2⟩
def rangeD (lo hi : Int) : List D := (List.range (hi - lo).toNat).map fun i => D.int (lo + (i : Nat))
theorem rangeD_length {lo hi : Int} : (rangeD lo hi).length = (hi - lo).toNat := by simp [rangeD]
theorem itOk_range {K : PySem.W.Frag} {H1 : Hp} {lo : Int} {n : Nat} {ok : DG → Prop} : ItOk K H1 (Itr lo n) ((List.range n).map fun i => D.int (lo + (i : Nat))) ok := fun i H' G' k m o => by
  refine ⟨fun d hd => ?_, fun hl => (show n ≤ i by simpa using hl)⟩
  have hi : i < n := by
    have := (List.getElem?_eq_some_iff.mp hd).1
    simpa using this
  rw [List.getElem?_map, List.getElem?_range hi] at hd
  cases hd
  refine ⟨hi, fun x H'' y => ?_⟩
  obtain ⟨rfl, rfl⟩ := y
  exact ⟨m, .refl, .int _⟩
def diRange (t : DA) : DI := fun σ G R => t σ G fun xs G1 => match xs with
  | [.int j] => -(2 ^ 62) ≤ j ∧ j < 2 ^ 62 ∧ R (rangeD 0 j) (fun _ => True) G1
  | [.int i, .int j] => (-(2 ^ 62) ≤ i ∧ i < 2 ^ 62 ∧ -(2 ^ 62) ≤ j ∧ j < 2 ^ 62) ∧ R (rangeD i j) (fun _ => True) G1
  | _ => False
theorem diRange_mono {t : DA} (ma : MonoA t) : ∀ σ G (R R' : List D → (DG → Prop) → DG → Prop), (∀ xs ok G', R xs ok G' → R' xs ok G') → diRange t σ G R → diRange t σ G R' := fun σ G R R' h q => ma σ G _ _ (fun x G1 z => by
  split at z
  · exact ⟨z.1, z.2.1, h _ _ _ z.2.2⟩
  · exact ⟨z.1, h _ _ _ z.2⟩
  · exact z) q
theorem di_range1 {tg : Expr} {t : DE} {p pos : Pos} (hg : Gl X "range") (hm : X.mg "range" = none) (ha : DPE X a t) (hs : starEach [a] X.env = [(false, eval a X.env)] := by rfl) : DPI X tg (.Call (.Name "range" p) [a] [] pos) (diRange (dCons t dNil)) := by
  have hb : DPA X [a] (dCons t dNil) := da_cons ha da_nil hs
  obtain ⟨ma, tta, pa, ra⟩ := hb
  have hl : MonoA (dCons t dNil) := ma
  refine ⟨diRange_mono ma, iRng1 tta, pi_range1 hg hm pa hs, fun σ H σd G R m s h => ra σ H σd G _ m s (?_ : dCons t dNil σd G _)⟩
  have h2 : dCons t dNil σd G fun xs G1 => xs.length = 1 ∧ match xs with
      | [.int j] => -(2 ^ 62) ≤ j ∧ j < 2 ^ 62 ∧ (∀ J H1, MH X.K G1 H1 → KT X.K H H1 → ItOk X.K H1 J (rangeD 0 j) (fun _ => True) → R J H1)
      | [.int i, .int j] => (-(2 ^ 62) ≤ i ∧ i < 2 ^ 62 ∧ -(2 ^ 62) ≤ j ∧ j < 2 ^ 62) ∧ (∀ J H1, MH X.K G1 H1 → KT X.K H H1 → ItOk X.K H1 J (rangeD i j) (fun _ => True) → R J H1)
      | _ => False := ha.mono _ _ _ _ (fun x G1 z => ⟨rfl, z⟩) h
  refine ma _ _ _ _ (fun xs G1 z vs H1 m1 r1 k1 => ?_) h2
  obtain ⟨z0, z⟩ := z
  split at z
  · obtain ⟨v, vs', rfl, a1, a2⟩ := r1.cons_inv
    have e := a2.nil_inv
    subst e
    cases a1
    refine ⟨_, rfl, z.1, z.2.1, z.2.2 _ H1 m1 k1 ?_⟩
    rename_i j
    have e2 : rangeD 0 j = (List.range j.toNat).map fun i => D.int (0 + (i : Nat)) := by simp [rangeD]
    rw [e2]
    exact itOk_range
  · simp at z0
  · exact False.elim z
theorem di_range2 {tg : Expr} {t t' : DE} {p pos : Pos} (hg : Gl X "range") (hm : X.mg "range" = none) (ha : DPE X a t) (hb : DPE X b t') (hs : starEach [a, b] X.env = [(false, eval a X.env), (false, eval b X.env)] := by rfl) (hs2 : starEach [b] X.env = [(false, eval b X.env)] := by rfl) :
    DPI X tg (.Call (.Name "range" p) [a, b] [] pos) (diRange (dCons t (dCons t' dNil))) := by
  have hb' : DPA X [a, b] (dCons t (dCons t' dNil)) := da_cons ha (da_cons hb da_nil hs2) (by rw [hs, hs2])
  obtain ⟨ma, tta, pa, ra⟩ := hb'
  refine ⟨diRange_mono ma, iRng2 tta, pi_range2 hg hm pa hs hs2, fun σ H σd G R m s h => ra σ H σd G _ m s (?_ : dCons t (dCons t' dNil) σd G _)⟩
  have h2 : dCons t (dCons t' dNil) σd G fun xs G1 => xs.length = 2 ∧ match xs with
      | [.int j] => -(2 ^ 62) ≤ j ∧ j < 2 ^ 62 ∧ (∀ J H1, MH X.K G1 H1 → KT X.K H H1 → ItOk X.K H1 J (rangeD 0 j) (fun _ => True) → R J H1)
      | [.int i, .int j] => (-(2 ^ 62) ≤ i ∧ i < 2 ^ 62 ∧ -(2 ^ 62) ≤ j ∧ j < 2 ^ 62) ∧ (∀ J H1, MH X.K G1 H1 → KT X.K H H1 → ItOk X.K H1 J (rangeD i j) (fun _ => True) → R J H1)
      | _ => False := ha.mono _ _ _ _ (fun x G1 z => hb.mono _ _ _ _ (fun y G2 z => ⟨rfl, z⟩) z) h
  refine ma _ _ _ _ (fun xs G1 z vs H1 m1 r1 k1 => ?_) h2
  obtain ⟨z0, z⟩ := z
  split at z
  · simp at z0
  · obtain ⟨v, vs', rfl, a1, a2⟩ := r1.cons_inv
    obtain ⟨v2, vs2, rfl, a3, a4⟩ := a2.cons_inv
    have e := a4.nil_inv
    subst e
    cases a1; cases a3
    exact ⟨_, _, rfl, z.1, z.2 _ H1 m1 k1 itOk_range⟩
  · exact False.elim z
/-! ### for, while -/
def DLoop (g : DTg) (tb : DS) (ok : DG → Prop) (E : DEnds) : List D → DSt → DG → Prop
  | [], σ, G => ok G ∧ E.nx σ G
  | d :: r, σ, G => ok G ∧ g d σ G fun σ' G' => tb { nx := Dr (DLoop g tb ok E r), rt := E.rt, bk := E.nx, ct := Dr (DLoop g tb ok E r) } σ' G'
instance stpLoop {g : DTg} {tb : DS} {ok : DG → Prop} {E : DEnds} {xs : List D} {σ : DSt} {G : DG} : WEnd (DLoop g tb ok E xs σ G) := {}
theorem DLoop_mono {g : DTg} {tb : DS} {ok : DG → Prop} (mg : ∀ d σ G (Q Q' : DSt → DG → Prop), (∀ σ' G', Q σ' G' → Q' σ' G') → g d σ G Q → g d σ G Q') (mb : MonoS tb) {E E' : DEnds} (l : E.Le E') :
    ∀ (xs : List D) (σ : DSt) (G : DG), DLoop g tb ok E xs σ G → DLoop g tb ok E' xs σ G
  | [], σ, G, h => ⟨h.1, l.1 _ _ h.2⟩
  | d :: r, σ, G, h => ⟨h.1, mg _ _ _ _ _ (fun σ' G' z => mb _ _ { nx := Dr (DLoop g tb ok E r), rt := E.rt, bk := E.nx, ct := Dr (DLoop g tb ok E r) } _ ⟨fun _ _ w => Dr.mono (DLoop_mono mg mb l r) w, l.2.1, l.1, fun _ _ w => Dr.mono (DLoop_mono mg mb l r) w⟩ z) h.2⟩
def dFor (ti : DI) (g : DTg) (tb : DS) : DS := fun D σ G => ti σ G fun items ok G1 => DLoop g tb ok D items σ G1
theorem ds_for {tg iter : Expr} {body : List Stmt} {ti : DI} {g : DTg} {tb : DS} (hp : PassesOwn (model X.prog X.w) X.A X.env X.xe) (hc : X.calm = true) (hi : DPI X tg iter ti) (hg : DPG X tg g) (hb : DPSs X body tb)
    (hs : ∀ x, foldedSetIterable iter X.env x = pure x := by intro _; rfl) : DPS X (.For tg iter body [] pos) (dFor ti g tb) := by
  obtain ⟨mi, wi, pi, ri⟩ := hi
  obtain ⟨mg, gg, pg, rg⟩ := hg
  obtain ⟨mb, ttb, pb, rb⟩ := hb
  refine ⟨fun σ G D D' l q => mi σ G _ _ (fun xs ok G1 z => DLoop_mono mg mb l xs σ G1 z) q, _, ps_for hp hc pi pg pb hs, fun σ H σd G D m s h => ri σ H σd G _ m s (mi _ _ _ _ (fun items ok G1 z J H1 m1 k1 it => ?_) h)⟩
  refine ⟨fun i mm σ' H' => ∃ σd' G', MH X.K G' H' ∧ SR X.K H' σd' σ' ∧ KT X.K H1 H' ∧ mm = items.length - i ∧ i ≤ items.length ∧ DLoop g tb ok (lfE X.K H D) (items.drop i) σd' G', ⟨items.length, σd, G1, m1, s.kt k1, .refl, by omega, by omega, by simpa using z⟩, ?_⟩
  rintro i mm σ' H' ⟨σd', G', m', s', k', rfl, hi', q⟩
  have kH : KT X.K H H' := k1.trans k'
  by_cases hlt : i < items.length
  · rw [List.drop_eq_getElem_cons hlt] at q
    obtain ⟨o, q⟩ := q
    obtain ⟨go, stop⟩ := it i H' G' k' m' o
    obtain ⟨g1, g2⟩ := go items[i] (List.getElem?_eq_getElem hlt)
    refine .inr ⟨g1, fun σ2 H2 => ∃ σd2 G2, MH X.K G2 H2 ∧ SR X.K H2 σd2 σ2 ∧ KT X.K H1 H2 ∧ DLoop g tb ok (lfE X.K H D) (items.drop (i + 1)) σd2 G2, ?_, fun x H'' y => ?_⟩
    · rintro σ2 H2 ⟨σd2, G2, a1, a2, a3, a4⟩
      exact ⟨items.length - (i + 1), by omega, σd2, G2, a1, a2, a3, rfl, by omega, a4⟩
    · obtain ⟨b1, b2, b3⟩ := g2 x H'' y
      refine rg items[i] x σ' H'' σd' G' _ b1 (s'.kt b2) b3 (mg _ _ _ _ _ (fun σd3 G3 z3 σ3 H3 m3 s3 k3 => ?_) q)
      have kk : KT X.K H H3 := kH.trans (b2.trans k3)
      have k13 : KT X.K H1 H3 := k'.trans (b2.trans k3)
      refine rb σ3 H3 σd3 G3 _ m3 s3 (mb _ _ { nx := Dr (DLoop g tb ok (lfE X.K H D) (items.drop (i + 1))), rt := (lfE X.K H D).rt, bk := (lfE X.K H D).nx, ct := Dr (DLoop g tb ok (lfE X.K H D) (items.drop (i + 1))) } _ ⟨fun σ4 G4 z4 σ5 H5 m5 s5 k5 => let ⟨G0, le, z4⟩ := z4; ⟨σ4, G0, m5.le le, s5, k13.trans k5, z4⟩, fun _ _ w => lf_kt kk w, fun _ _ w => lfS_kt kk w, fun σ4 G4 z4 σ5 H5 m5 s5 k5 => let ⟨G0, le, z4⟩ := z4; ⟨σ4, G0, m5.le le, s5, k13.trans k5, z4⟩⟩ z3)
  · have e : items.drop i = [] := List.drop_eq_nil_of_le (by omega)
    rw [e] at q
    obtain ⟨o, q⟩ := q
    obtain ⟨go, stop⟩ := it i H' G' k' m' o
    exact .inl ⟨stop (by omega), q σ' H' m' s' kH⟩
/-! ### comprehensions -/
def dwipe (σ : DSt) : List Nat → DSt
  | [] => σ
  | i :: r => (dwipe σ r).set i none
theorem SR.wipe {K : PySem.W.Frag} {H : Hp} : ∀ (vs : List Nat) {σd : DSt} {σ : St}, SR K H σd σ → SR K H (dwipe σd vs) (wipe σ vs)
  | [], _, _, s => s
  | i :: r, _, _, s => (SR.wipe r s).forget i none
structure DPTs (X : Cx) (ifs : List Expr) (t : DTt) : Prop where
  mono : MonoT t
  run : ∃ tt, PTs X ifs tt ∧ ∀ σ H σd G Q, MH X.K G H → SR X.K H σd σ → t σd G (lfT X.K H Q) → tt σ H Q
def dYes : DTt := fun _ G Q => Q true G
theorem dts_nil : DPTs X [] dYes := ⟨fun σ G Q Q' h q => h _ _ q, _, pts_nil, fun σ H σd G Q m s h => h H m .refl⟩
theorem dts_one {t : DTt} (h : DPT X c t) : DPTs X [c] t := let ⟨m, tt, p, r⟩ := h; ⟨m, tt, pts_one p, r⟩
end
end FD

namespace FD
open PySem L2
section
variable {X : Cx} {a b c e : Expr} {es rest : List Expr} {ta tb tc : DE} {pos : Pos} {st : Stmt} {sts : List Stmt} {t u : DS}
/-! ### readings that hang on the data alone -/
def canonE (K : PySem.W.Frag) (t : DE) : TE := fun σ H Q => ∃ σd G, MH K G H ∧ SR K H σd σ ∧ t σd G (lf K H Q)
def canonT (K : PySem.W.Frag) (t : DTt) : TT := fun σ H Q => ∃ σd G, MH K G H ∧ SR K H σd σ ∧ t σd G (lfT K H Q)
theorem DPE.canon (h : DPE X e ta) : PE X e (canonE X.K ta) := by
  obtain ⟨m, tt, p, r⟩ := h
  exact ⟨fun pins s σ H Q I ⟨σd, G, mh, sr, q⟩ => p.run pins s σ H Q I (r σ H σd G Q mh sr q)⟩
theorem DPTs.canon {t : DTt} (h : DPTs X es t) : PTs X es (canonT X.K t) := by
  obtain ⟨m, tt, p, r⟩ := h
  exact ⟨fun pins s σ H Q I ⟨σd, G, mh, sr, q⟩ => p.run pins s σ H Q I (r σ H σd G Q mh sr q)⟩
/-! ### comprehensions: a target that binds names alone -/
def optS (o : Option DSt) (f : DSt → Prop) : Prop := match o with | some x => f x | none => False
theorem optS_mono {o : Option DSt} {f g : DSt → Prop} (h : ∀ x, f x → g x) (q : optS o f) : optS o g := by
  cases o with
  | none => exact q
  | some x => exact h x q
def bdN (i : Nat) : D → DSt → Option DSt := fun d σ => some (σ.set i (some d))
def Bd (K : PySem.W.Frag) (vs : List Nat) (bd : D → DSt → Option DSt) (gg : TG) : Prop := ∀ d v σ H σd σd' G (Q : St → Hp → Prop), MH K G H → SR K H σd σ → RD K H d v → bd d σd = some σd' → (∀ σ', SR K H σd' σ' → wipe σ' vs = wipe σ vs → Q σ' H) → gg v σ H Q
theorem wipe_set {i : Nat} {o : Option V} : ∀ {vs : List Nat} {σ : St}, i ∈ vs → wipe (σ.set i o) vs = wipe σ vs
  | v :: vs, σ, h => by
    show (wipe (σ.set i o) vs).set v none = (wipe σ vs).set v none
    by_cases e : i ∈ vs
    · rw [wipe_set e]
    · rcases List.mem_cons.mp h with rfl | h
      · have q : ∀ (vs : List Nat) (σ : St), i ∉ vs → wipe (σ.set i o) vs = (wipe σ vs).set i o := by
          intro vs
          induction vs with
          | nil => intro σ _; rfl
          | cons w vs ih =>
            intro σ hw
            show (wipe (σ.set i o) vs).set w none = ((wipe σ vs).set w none).set i o
            rw [ih σ fun z => hw (List.mem_cons_of_mem _ z), List.set_comm _ _ (fun z => hw (by rw [z]; exact List.mem_cons_self))]
        rw [q vs σ e, List.set_set]
      · exact absurd h e
theorem wipe_idem {vs : List Nat} (σ : St) : wipe (wipe σ vs) vs = wipe σ vs := by
  have q : ∀ (us vs : List Nat) (σ : St), (∀ u ∈ us, u ∈ vs) → wipe (wipe σ us) vs = wipe σ vs := by
    intro us
    induction us with
    | nil => intro vs σ _; rfl
    | cons u us ih =>
      intro vs σ h
      show wipe ((wipe σ us).set u none) vs = wipe σ vs
      rw [wipe_set (h u List.mem_cons_self), ih vs σ fun z hz => h z (List.mem_cons_of_mem _ hz)]
  exact q vs vs σ fun _ h => h
theorem bd_name {K : PySem.W.Frag} (i : Nat) : Bd K [i] (bdN i) (gName i) := fun d v σ H σd σd' G Q m s r h q => by
  cases h
  exact q _ (s.set r i) (wipe_set (by simp))
def DComp (bd : D → DSt → Option DSt) (vs : List Nat) (tt : DTt) (te : DE) (ok : DG → Prop) (p : Addr) (σ : DSt) (Q : DK) : List D → DG → Prop
  | [], G => ok G ∧ Q (.ref p) G
  | d :: r, G => ok G ∧ optS (bd d (dwipe σ vs)) fun σ' => tt σ' G fun k G3 => if k = true then te σ' G3 fun y G4 => ∃ acc, G4 p = some (.lst acc) ∧ acc.length < sizeLine ∧ ∃ G0, Le G0 (up G4 p (.lst (acc ++ [y]))) ∧ DComp bd vs tt te ok p σ Q r G0
      else ∃ G0, Le G0 G3 ∧ DComp bd vs tt te ok p σ Q r G0
instance stpComp {bd : D → DSt → Option DSt} {vs : List Nat} {tt : DTt} {te : DE} {ok : DG → Prop} {p : Addr} {σ : DSt} {Q : DK} {xs : List D} {G : DG} : WEnd (DComp bd vs tt te ok p σ Q xs G) := {}
theorem DComp_mono {bd : D → DSt → Option DSt} {vs : List Nat} {tt : DTt} {te : DE} {ok : DG → Prop} {p : Addr} {σ : DSt} {Q Q' : DK} (mt : MonoT tt) (me : MonoE te) (h : ∀ d G, Q d G → Q' d G) :
    ∀ (xs : List D) (G : DG), DComp bd vs tt te ok p σ Q xs G → DComp bd vs tt te ok p σ Q' xs G
  | [], G, q => ⟨q.1, h _ _ q.2⟩
  | d :: r, G, q => ⟨q.1, optS_mono (fun σ' z => mt _ _ _ _ (fun k G3 z => by
      cases k with
      | true => exact me _ _ _ _ (fun y G4 z => let ⟨acc, h1, h2, G0, l, h3⟩ := z; ⟨acc, h1, h2, G0, l, DComp_mono mt me h r _ h3⟩) z
      | false => exact let ⟨G0, l, z⟩ := z; ⟨G0, l, DComp_mono mt me h r _ z⟩) z) q.2⟩
def dLc (ti : DI) (bd : D → DSt → Option DSt) (vs : List Nat) (tt : DTt) (te : DE) : DE := fun σ G Q => ti σ G fun items ok G1 => ∀ p, G1 p = none → DComp bd vs tt te ok p σ Q items (up G1 p (.lst []))
theorem dLc_sim {tg iter : Expr} {ti : DI} {wi : TI} {bd : D → DSt → Option DSt} {vs : List Nat} {gg : TG} {tt : DTt} {te : DE} {K : PySem.W.Frag} (hb : Bd K vs bd gg) (mt : MonoT tt) (me : MonoE te)
    (mi : ∀ σ G (R R' : List D → (DG → Prop) → DG → Prop), (∀ xs ok G', R xs ok G' → R' xs ok G') → ti σ G R → ti σ G R')
    (ri : ∀ σ H σd G (R : It → Hp → Prop), MH K G H → SR K H σd σ → ti σd G (fun items ok G1 => ∀ J H1, MH K G1 H1 → KT K H H1 → ItOk K H1 J items ok → R J H1) → wi σ H R)
    {σ : St} {H : Hp} {σd : DSt} {G : DG} {Q : VK} (m : MH K G H) (s : SR K H σd σ) (h : dLc ti bd vs tt te σd G (lf K H Q)) : tLc wi gg (canonT K tt) (canonE K te) vs σ H Q := by
  refine ri σ H σd G _ m s (mi _ _ _ _ (fun items ok G1 z J H1 m1 k1 it p hp => ?_) h)
  have hz := z p (m1.fresh hp)
  have k2 : KT K H1 (L2.upd H1 p (.lst [])) := .upd_new hp
  refine ⟨fun i mm H' => ∃ G', MH K G' H' ∧ KT K H1 H' ∧ mm = items.length - i ∧ i ≤ items.length ∧ DComp bd vs tt te ok p σd (lf K H Q) (items.drop i) G',
    ⟨items.length, _, m1.upd k2 (.new_lst .nil k2), k2, by omega, by omega, by simpa using hz⟩, ?_⟩
  rintro i mm H' ⟨G', m', k', rfl, hi', q⟩
  have kH : KT K H H' := k1.trans k'
  by_cases hlt : i < items.length
  · rw [List.drop_eq_getElem_cons hlt] at q
    obtain ⟨o, q⟩ := q
    obtain ⟨go, stop⟩ := it i H' G' k' m' o
    obtain ⟨g1, g2⟩ := go items[i] (List.getElem?_eq_getElem hlt)
    refine .inr ⟨g1, fun H2 => ∃ G2, MH K G2 H2 ∧ KT K H1 H2 ∧ DComp bd vs tt te ok p σd (lf K H Q) (items.drop (i + 1)) G2, ?_, fun x H'' y => ?_⟩
    · rintro H2 ⟨G2, a1, a3, a4⟩
      exact ⟨items.length - (i + 1), by omega, G2, a1, a3, rfl, by omega, a4⟩
    · obtain ⟨b1, b2, b3⟩ := g2 x H'' y
      unfold optS at q
      split at q
      · rename_i σd' e
        have kk : KT K H1 H'' := k'.trans b2
        refine hb items[i] x (wipe σ vs) H'' (dwipe σd vs) σd' G' _ b1 (SR.wipe vs (s.kt (k1.trans kk))) b3 e (fun σ2 s2 w2 => ⟨by rw [w2, wipe_idem], σd', G', b1, s2, ?_⟩)
        refine mt _ _ _ _ (fun k G3 z3 H3 m3 k3 => ?_) q
        have kk3 : KT K H1 H3 := kk.trans k3
        cases k with
        | false =>
          obtain ⟨G0, l, z3⟩ := z3
          exact ⟨G0, m3.le l, kk3, z3⟩
        | true =>
          refine ⟨σd', G3, m3, s2.kt k3, me _ _ _ _ (fun d G4 z4 v H4 m4 r4 k4 => ?_) z3⟩
          obtain ⟨acc, h1, h2, G0, l, h3⟩ := z4
          obtain ⟨ws, g4, rr⟩ := m4 _ _ h1
          refine ⟨ws, g4, by rw [← rr.1]; exact h2, G0, MH.le (m4.upd (.upd_lst g4) (.new_lst (rr.append (RDs.nil.cons r4)) (.upd_lst g4))) l, (kk3.trans k4).trans (.upd_lst g4), h3⟩
      · exact False.elim q
  · have e : items.drop i = [] := List.drop_eq_nil_of_le (by omega)
    rw [e] at q
    obtain ⟨o, q⟩ := q
    obtain ⟨go, stop⟩ := it i H' G' k' m' o
    exact .inl ⟨stop (by omega), q (.ref p) H' m' (.ref p) kH⟩
theorem dLc_mono {ti : DI} {bd : D → DSt → Option DSt} {vs : List Nat} {tt : DTt} {te : DE} (mt : MonoT tt) (me : MonoE te)
    (mi : ∀ σ G (R R' : List D → (DG → Prop) → DG → Prop), (∀ xs ok G', R xs ok G' → R' xs ok G') → ti σ G R → ti σ G R') : MonoE (dLc ti bd vs tt te) := fun σ G Q Q' h q => mi σ G _ _ (fun xs ok G1 z p hp => DComp_mono mt me h xs _ (z p hp)) q
theorem de_lc {elt tg iter : Expr} {ifs : List Expr} {scope : Scope} (own : List (Str × Nat)) {ti : DI} {bd : D → DSt → Option DSt} {gg : TG} {tt : DTt} {te : DE} (hb : Bd X.K (own.map (·.2)) bd gg) (hc : X.calm = true) (hN : X.N.Nodup) (hi : DPI X tg iter ti) (ok : BlkOk X.N X.env.scope scope own)
    (hg : ∀ (s : Shared) (H : Hp) (C : Addr) (cl : List (Str × Addr)) (fp : List Addr), PG (X.blk s H scope (compEnvC scope cl C X.env) fp) tg gg) (ht : ∀ (s : Shared) (H : Hp) (C : Addr) (cl : List (Str × Addr)) (fp : List Addr), DPTs (X.blk s H scope (compEnvC scope cl C X.env) fp) ifs tt)
    (he : ∀ (s : Shared) (H : Hp) (C : Addr) (cl : List (Str × Addr)) (fp : List Addr), DPE (X.blk s H scope (compEnvC scope cl C X.env) fp) elt te) (mt : MonoT tt) (me : MonoE te) (hs : ∀ x, foldedSetIterable iter X.env x = pure x := by intro _; rfl) :
    DPE X (.ListComp elt [⟨tg, iter, ifs, 0⟩] scope pos) (dLc ti bd (own.map (·.2)) tt te) := by
  obtain ⟨mi, wi, pi, ri⟩ := hi
  exact ⟨dLc_mono mt me mi, _, pe_lc hc hN pi ok hg (tt := canonT X.K tt) (te := canonE X.K te) (fun s H C cl fp => (ht s H C cl fp).canon) (fun s H C cl fp => (he s H C cl fp).canon) hs, fun σ H σd G Q m s h => dLc_sim (tg := tg) (iter := iter) hb mt me mi ri m s h⟩
theorem ds_setLc (i : Nat) {y : Str} {py : Pos} {elt tg iter : Expr} {ifs : List Expr} {scope : Scope} {pos spos : Pos} (own : List (Str × Nat)) {ti : DI} {bd : D → DSt → Option DSt} {gg : TG} {tt : DTt} {te : DE} (hb : Bd X.K (own.map (·.2)) bd gg) (hc : X.calm = true) (hN : X.N.Nodup)
    (hsw : swapsWith (.ListComp elt [⟨tg, iter, ifs, 0⟩] scope pos) (some (.Name y py)) spos.line X.env = pure true) (hi : DPI X tg iter ti) (ok : BlkOk X.N X.env.scope scope own)
    (hg : ∀ (s : Shared) (H : Hp) (C : Addr) (cl : List (Str × Addr)) (fp : List Addr), PG (X.blk s H scope (compEnvC scope cl C X.env) fp) tg gg) (ht : ∀ (s : Shared) (H : Hp) (C : Addr) (cl : List (Str × Addr)) (fp : List Addr), DPTs (X.blk s H scope (compEnvC scope cl C X.env) fp) ifs tt)
    (he : ∀ (s : Shared) (H : Hp) (C : Addr) (cl : List (Str × Addr)) (fp : List Addr), DPE (X.blk s H scope (compEnvC scope cl C X.env) fp) elt te) (mt : MonoT tt) (me : MonoE te) (hy : X.N[i]? = some y := by rfl) (hyl : X.env.scope.names.lookup y = some .local := by rfl) (hs : ∀ x, foldedSetIterable iter X.env x = pure x := by intro _; rfl) :
    DPS X (.Assign [.Name y py] (.ListComp elt [⟨tg, iter, ifs, 0⟩] scope pos) spos) (dAsg (dLc ti bd (own.map (·.2)) tt te) (dgName i)) := by
  obtain ⟨mi, wi, pi, ri⟩ := hi
  have ml : MonoE (dLc ti bd (own.map (·.2)) tt te) := dLc_mono mt me mi
  refine ⟨fun σ G D D' l q => ml σ G _ _ (fun x G1 z => l.1 _ _ z) q, _, ps_setLc hc hN hy hyl hsw pi ok hg (tt := canonT X.K tt) (te := canonE X.K te) (fun s H C cl fp => (ht s H C cl fp).canon) (fun s H C cl fp => (he s H C cl fp).canon) hs, fun σ H σd G D m s h => ?_⟩
  refine dLc_sim (tg := tg) (iter := iter) hb mt me mi ri m s (ml _ _ _ _ (fun d G1 z v H1 m1 r1 k1 => ?_) h)
  exact z _ H1 m1 ((s.kt k1).set r1 i) k1
end
/-! ### what a def promises, by data -/
abbrev DX := Str → Option (List (Str × D)) → DG → Prop
abbrev Ct := List D → DG → DK → DX → Prop
def XO (K : PySem.W.Frag) (H : Hp) (d : Option Addr) (fo : Option (List (Str × D))) : Prop := match d, fo with
  | none, none => True
  | some a, some fs => ∃ fvs, H a = some (.xd fvs) ∧ fvs.map (·.1) = fs.map (·.1) ∧ RDs K H (fs.map (·.2)) (fvs.map (·.2))
  | _, _ => False
def lfX (K : PySem.W.Frag) (H : Hp) (E : XK) : DX := fun n fo G' => ∀ C d H', ClsAt K n C → MH K G' H' → KT K H H' → XO K H' d fo → E (.ref C) d H'
theorem lfX_kt {K : PySem.W.Frag} {H H' : Hp} {E : XK} (k : KT K H H') {n : Str} {fo : Option (List (Str × D))} {G : DG} (h : lfX K H E n fo G) : lfX K H' E n fo G := fun C d H2 a b c => h C d H2 a b (k.trans c)
def spOf (K : PySem.W.Frag) (C : Ct) : Sp := fun vs H Q E => ∃ ds G Q0 E0, MH K G H ∧ RDs K H ds vs ∧ C ds G Q0 E0 ∧ (∀ d G', Q0 d G' → lf K H Q d G') ∧ (∀ c fo G', E0 c fo G' → lfX K H E c fo G')
def UpC (C : Ct) (ds : List D) (G : DG) (Q : DK) (E : DX) : Prop := ∃ Q0 E0, C ds G Q0 E0 ∧ (∀ d G', Q0 d G' → Q d G') ∧ (∀ c fo G', E0 c fo G' → E c fo G')
instance stpUp {C : Ct} {ds : List D} {G : DG} {Q : DK} {E : DX} : WEnd (UpC C ds G Q E) := {}
theorem UpC.of {C : Ct} {ds : List D} {G : DG} {Q : DK} {E : DX} (h : C ds G Q E) : UpC C ds G Q E := ⟨Q, E, h, fun _ _ q => q, fun _ _ _ q => q⟩
theorem UpC.mono {C : Ct} {ds : List D} {G : DG} {Q Q' : DK} {E : DX} (h : ∀ d G', Q d G' → Q' d G') (u : UpC C ds G Q E) : UpC C ds G Q' E := let ⟨Q0, E0, a, b, c⟩ := u; ⟨Q0, E0, a, fun d G' q => h _ _ (b d G' q), c⟩
def noX : DX := fun _ _ _ => False
structure FK (P : Program) (w : World) (K : PySem.W.Frag) (mg : Str → Option Value) (base : Heap) (k : Nat) (f : Addr) (fd : FuncData) (ps : List Str) (sp : Sp) : Prop where
  len : ∀ vs H Q E, sp vs H Q E → vs.length = ps.length
  run : ∀ (A : Around) (outer : List Env) (s : Shared) (H : Hp) (args : Args) (us : List Value) (vs : List V) (Q : VK) (E : XK), Room k A → A.guards = some [] → Env0 P w K mg base A outer s H → BindsTo s fd args (ps.zip us) → Vals vs us → sp vs H Q E →
    codeAny (model P w) A (.call (.ref f) args) (CR (L2.CX P w) outer P w H s Q E) s
theorem FK.mono {P : Program} {w : World} {K : PySem.W.Frag} {mg : Str → Option Value} {base : Heap} {j k : Nat} {f : Addr} {fd : FuncData} {ps : List Str} {sp : Sp} (F : FK P w K mg base j f fd ps sp) (h : j ≤ k) : FK P w K mg base k f fd ps sp :=
  ⟨F.len, fun A outer s H args us vs Q E hr => F.run A outer s H args us vs Q E (hr.mono h)⟩
theorem inv_kt {X : Cx} {pins : List (Addr × Obj)} {σ : St} {H : Hp} {s : Shared} (I : L2.Inv X pins σ H s) : KT X.K X.H_0 H := ⟨I.base.tups, fun a o vs h => I.base.frzs a o _ h, fun a o vs h => I.base.frzs a o _ h⟩
def PassD (X : Cx) (E : DX) : Prop := ∃ EL : XK, Passes (L2.CX X.prog X.w) X EL ∧ Takes X (fun cls d _ H => EL cls d H) ∧ ∀ H, KT X.K X.H_0 H → ∀ c fo G', E c fo G' → lfX X.K H EL c fo G'
theorem passD_no {X : Cx} : PassD X noX := ⟨E0, passL, fun _ _ ⟨_, _, _, _, _, _, _, _, _, _, _, _, _, _, _, _, w⟩ => w.elim, fun _ _ _ _ _ h => h.elim⟩
section
variable {X : Cx} {k : Nat} {f C : Addr} {fd : FuncData} {ps : List Str} {Cn : Ct} {E : DX} {x m : Str} {p pos apos : Pos} {e o : Expr} {es : List Expr} {ta to : DE} {t : DA}
theorem run_fk {sp : Sp} {EL : XK} {pins : List (Addr × Obj)} {σ : St} {H : Hp} {s : Shared} {Q : VK} {us : List Value} {vs : List V} (F : FK X.prog X.w X.K X.mg X.base k f fd ps sp) (hr : Room k X.A) (hg : X.A.guards = some []) (hb : Binds X.K fd ps []) (hx : Passes (L2.CX X.prog X.w) X EL)
    (I : L2.Inv X pins σ H s) (r : Vals vs us) (h : sp vs H Q EL) : wpAny (model X.prog X.w) X.A (call (.ref f) us) (EP X pins σ Q) X.xe s := by
  have hl : (us ++ []).length = ps.length := by
    rw [List.append_nil, ← r.length]
    exact F.len _ _ _ _ h
  have hb' := hb s us I.kIn hl
  rw [List.append_nil] at hb'
  refine wpAny_call (codeAny_mono (F.run X.A X.stack s H ⟨us, []⟩ us vs Q EL hr hg I.env0 hb' r h) fun r s' hq => ?_)
  cases r with
  | error e => exact hx pins σ H s e s' I hq
  | ok fl =>
    cases fl with
    | ret u => exact I.after hq
    | next => exact False.elim hq
    | brk => exact False.elim hq
    | cont => exact False.elim hq
def tCallF (X : Cx) (sp : Sp) (EL : XK) (t : TA) : TE := fun σ H Q => t σ H fun vs H1 => KT X.K X.H_0 H1 → sp vs H1 Q EL
def dCall (C : Ct) (E : DX) (t : DA) : DE := fun σ G Q => t σ G fun ds G1 => UpC C ds G1 Q E
theorem dCall_mono (ma : MonoA t) : MonoE (dCall Cn E t) := fun σ G Q Q' h q => ma σ G _ _ (fun ds G1 z => z.mono h) q
theorem dCall_sim {tta : TA} {EL : XK} (ma : MonoA t) (ra : ∀ σ H σd G Q, MH X.K G H → SR X.K H σd σ → t σd G (lfA X.K H Q) → tta σ H Q) (he : ∀ H, KT X.K X.H_0 H → ∀ c fo G', E c fo G' → lfX X.K H EL c fo G') :
    ∀ σ H σd G Q, MH X.K G H → SR X.K H σd σ → dCall Cn E t σd G (lf X.K H Q) → tCallF X (spOf X.K Cn) EL tta σ H Q := fun σ H σd G Q m s h =>
  ra σ H σd G _ m s (ma _ _ _ _ (fun ds G1 z vs H1 m1 r1 k1 k0 => by
    obtain ⟨Q0, E0, h1, h2, h3⟩ := z
    exact ⟨ds, G1, Q0, E0, m1, r1, h1, fun d G' q => lf_kt k1 (h2 d G' q), fun c fo G' q => he H1 k0 c fo G' (h3 c fo G' q)⟩) h)
theorem de_call (F : FK X.prog X.w X.K X.mg X.base k f fd ps (spOf X.K Cn)) (hr : Room k X.A) (hgd : X.A.guards = some []) (hm : X.mg x = some (.ref f)) (hk : PySem.W.keepIn X.K (.ref f) = true) (hb : Binds X.K fd ps []) (hE : PassD X E)
    (ha : DPA X (e :: es) t) (hg : Gl X x := by rfl) (hdb : (x == ("__debug__" : Str)) = false := by decide) (he : starEach (e :: es) X.env = (false, eval e X.env) :: starEach es X.env := by rfl) (hpl : (backTo pos (starEach es X.env)).any (·.1) = false := by rfl) :
    DPE X (.Call (.Name x p) (e :: es) [] pos) (dCall Cn E t) := by
  obtain ⟨ma, tta, pa, ra⟩ := ha
  obtain ⟨EL, hx, _, hE⟩ := hE
  refine ⟨dCall_mono ma, tCallF X (spOf X.K Cn) EL tta, ⟨fun pins s σ H Q I h => ?_⟩, dCall_sim ma ra hE⟩
  refine wpAny_Call_Name_kw (ld_glob I hg hm ?_ hdb)
  refine PySem.W.callWith_K (h₀ := X.base) I.ok.mod.kin hk (thn (pa.run pos pins s σ H _ I h) fun us s1 ⟨vs, H1, I1, r, q⟩ => ⟨I1.kIn, ?_⟩) he hpl
  exact run_fk F hr hgd hb hx I1 r (q (inv_kt I1))
end
/-! ### a def's body -/
section
variable {P : Program} {w : World} {K : PySem.W.Frag} {mg : Str → Option Value} {base : Heap}
theorem fk_of {k : Nat} {f : Addr} {name qual : Str} {params : Arguments} {body : List Stmt} {scope : Scope} {dV kV doc pm cdv ct oc : Value} {an od : Option Addr}
    {osl : Array (Option Value)} {N ps : List Str} {sp : Sp} (lk : K.lookup f = some ⟨oc, od, .func (PySem.W.fnOf name qual params body scope dV kV doc pm an cdv ct), osl⟩) (hcd : PySem.W.codeIn K cdv qual = true) (S : FnScope N ps scope)
    (len : ∀ vs H Q E, sp vs H Q E → vs.length = ps.length)
    (hbody : ∀ (A : Around) (outer : List Env) (s : Shared) (H : Hp) (vs : List V) (Q : VK) (E : XK), Room k (A.deeper (PyProof.Rows.envOfC qual scope s.heap.objs.size f cdv)) → A.guards = some [] → sp vs H Q E →
      ∃ t, PSs (cxOf (L2.CX P w) P w K mg base N qual scope f cdv A outer s H E) body t ∧ t { nx := fun _ H' => Q .non H', rt := Q } (start N vs) H) :
    FK P w K mg base (k + 1) f (PySem.W.fnOf name qual params body scope dV kV doc pm an cdv ct) ps sp := by
  refine ⟨len, fun A outer s H args us vs Q E hr hgd e0 hb r hsp => ?_⟩
  have hl := len _ _ _ _ hsp
  have KX : K.In s.heap := e0.mod.kin.keeps fun b o e => (e0.bs b o e).1
  have lim : s.heap.NoLimit := e0.mod.nolimit.keeps fun b o e => (e0.bs b o e).1
  have kinds : ∀ y ∈ ps.zip us, scope.names.lookup y.1 = some .local ∨ (scope.names.lookup y.1 = some .cell ∧ ((cellsFrom (s.heap.objs.size + 1) scope.names []).lookup y.1).isSome = true) := by
    rintro ⟨n, v⟩ hy
    rcases S.par n (List.of_mem_zip hy).1 with q | q
    · exact .inl q
    · exact .inr ⟨q, PySem.W.cellsFrom_some _ _ _ (.inl q)⟩
  refine codeAny_call_function hr.depth (KX _ _ lk) rfl S.co S.gen rfl (PySem.W.codeRec_of KX hcd) (hb _ _ _ _ ?_)
  refine wpAny_newFunctionEnv_cells S.kind kinds fun env he s1 x => ?_
  subst he
  refine ⟨lim.keeps x.toInCall.keep, codeAny_func ?_⟩
  obtain ⟨t, ht, hq⟩ := hbody A outer s H vs Q E (hr.deeper _) hgd hsp
  have I : L2.Inv (cxOf (L2.CX P w) P w K mg base N qual scope f cdv A outer s H E) [] (start N vs) H s1 := inv_start S hr.hd e0 hl r x
  refine wpAny_mono (ht.run [] s1 (start N vs) H _ I hq) (fun fl s' hs => ?_) fun e s' hs => hs
  cases fl with
  | ret u =>
    obtain ⟨v, σ', H', J, rv, q⟩ := hs
    exact ⟨v, H', J.os, J.bare, J.base, J.hok, rv, q⟩
  | next =>
    obtain ⟨σ', H', J, q⟩ := hs
    exact ⟨V.non, H', J.os, J.bare, J.base, J.hok, rfl, q⟩
  | brk =>
    obtain ⟨_, _, _, q⟩ := hs
    exact False.elim q
  | cont =>
    obtain ⟨_, _, _, q⟩ := hs
    exact False.elim q
def dstart (N : List Str) (ds : List D) : DSt := ds.map some ++ List.replicate (N.length - ds.length) none
theorem SR.start {K : PySem.W.Frag} {H : Hp} {ds : List D} {vs : List V} (N : List Str) (r : RDs K H ds vs) : SR K H (dstart N ds) (start N vs) := by
  refine ⟨by simp [dstart, L2.start, r.1], fun i d h => ?_⟩
  unfold dstart at h
  by_cases hi : i < ds.length
  · rw [List.getElem?_append_left (by simpa using hi), List.getElem?_map] at h
    cases e : ds[i]? with
    | none => rw [e] at h; simp at h
    | some d' =>
      rw [e] at h
      have e2 : d' = d := by simpa using h
      subst e2
      obtain ⟨v, h1, h2⟩ := r.get e
      refine ⟨v, ?_, h2⟩
      unfold L2.start
      rw [List.getElem?_append_left (by rw [List.length_map, ← r.1]; exact hi), List.getElem?_map, h1]
      rfl
  · rw [List.getElem?_append_right (by simpa using hi)] at h
    rw [List.getElem?_replicate] at h
    split at h
    · cases h
    · cases h
/-- THE RULE for a def -/
theorem fk_ok {x qual : Str} {st : Stmt} {f : Addr} {fd : FuncData} {N ps : List Str} {k : Nat} {C : Ct} {T : DX → DS} (F : Fun K x qual st f fd) (S : FnScope N ps (defScope st)) (len : ∀ ds G Q E, C ds G Q E → ds.length = ps.length)
    (der : ∀ (cdv : Value) (A : Around) (outer : List Env) (s : Shared) (H : Hp) (EL : XK) (E : DX), Room k (cxOf (L2.CX P w) P w K mg base N qual (defScope st) f cdv A outer s H EL).A → (cxOf (L2.CX P w) P w K mg base N qual (defScope st) f cdv A outer s H EL).A.guards = some [] →
      PassesOwn (model P w) (cxOf (L2.CX P w) P w K mg base N qual (defScope st) f cdv A outer s H EL).A (cxOf (L2.CX P w) P w K mg base N qual (defScope st) f cdv A outer s H EL).env (cxOf (L2.CX P w) P w K mg base N qual (defScope st) f cdv A outer s H EL).xe →
      PassD (cxOf (L2.CX P w) P w K mg base N qual (defScope st) f cdv A outer s H EL) E → DPSs (cxOf (L2.CX P w) P w K mg base N qual (defScope st) f cdv A outer s H EL) (defBody st) (T E))
    (run : ∀ ds G Q E, C ds G Q E → T E { nx := fun _ G' => DrK Q .non G', rt := DrK Q, bk := fun _ _ => False, ct := fun _ _ => False } (dstart N ds) G) : FK P w K mg base (k + 1) f fd ps (spOf K C) := by
  obtain ⟨oc, od, kV, doc, pm, an, cdv, ct, osl, rfl, lk, hcd⟩ := F.ex
  refine fk_of lk hcd S (fun vs H Q E h => ?_) fun A outer s H vs Q E hr hgd hsp => ?_
  · obtain ⟨ds, G, Q0, E0, _, r, hC, _⟩ := h
    rw [← r.1]
    exact len _ _ _ _ hC
  · obtain ⟨ds, G, Q0, E0, m, r, hC, hQ, hE⟩ := hsp
    have tk : Takes (cxOf (L2.CX P w) P w K mg base N qual (defScope st) f cdv A outer s H E) (fun cls d _ H => E cls d H) := takes_of rfl rfl rfl rfl
    have D0 := der cdv A outer s H E E0 hr hgd (passes_of rfl) ⟨E, passes_call tk fun _ _ _ _ h => h, tk, fun H' kt c fo G' q => lfX_kt kt (hE c fo G' q)⟩
    obtain ⟨mS, tt, p, rr⟩ := D0
    refine ⟨tt, p, rr (start N vs) H (dstart N ds) G _ m (.start N r) (mS _ _ { nx := fun _ G' => DrK Q0 .non G', rt := DrK Q0, bk := fun _ _ => False, ct := fun _ _ => False } _ ⟨fun σ G' q => ?_, fun d G' q v H' m' r' k' => let ⟨G0, l, q⟩ := q; hQ d G0 q v H' (m'.le l) r' k', fun _ _ q => q.elim, fun _ _ q => q.elim⟩ (run ds G Q0 E0 hC))⟩
    obtain ⟨G0, l, q⟩ := q
    exact fun σ' H' m' _ k' => hQ .non G0 q .non H' (m'.le l) .non k'
end
end FD

namespace FD
open PySem L2
/-! ### isinstance of a built-in class -/
def tys : List String := ["NoneType", "bool", "int", "str", "tuple", "list", "dict"]
def isiB (t n : String) : Bool := t == n || (t == "bool" && n == "int")
theorem kit_all : ∀ t ∈ tys, ∀ n ∈ tys, kitB t n = some (isiB t n) := by decide +kernel
def tyN (x : D) (G : DG) : Option String := match x with
  | .non => some "NoneType"
  | .bl _ => some "bool"
  | .int _ => some "int"
  | .str _ => some "str"
  | .tup _ => some "tuple"
  | .lis _ => some "list"
  | .ref a => match G a with
    | some (.lst _) => some "list"
    | some (.dK _) => some "dict"
    | _ => none
  | _ => none
theorem tyN_ok {K : PySem.W.Frag} {H : Hp} {G : DG} {x : V} {d : D} {t : String} (m : MH K G H) (r : RD K H d x) (h : tyN d G = some t) : t ∈ tys ∧ TyX K H x (.type t) := by
  cases r with
  | non => cases h; exact ⟨by decide, .base .non⟩
  | bl b => cases h; exact ⟨by decide, .base (.bl b)⟩
  | int b => cases h; exact ⟨by decide, .base (.int b)⟩
  | str b => cases h; exact ⟨by decide, .base (.str b)⟩
  | ty n => cases h
  | tpl _ _ _ => cases h
  | tup hs _ _ =>
    cases h
    refine ⟨by decide, ?_⟩
    rcases hs with ⟨o, h1, _⟩ | ⟨o, its, n, h1, h2, _⟩
    · exact .fTuple h1
    · exact .kTuple h1 h2
  | lis hs _ _ =>
    cases h
    refine ⟨by decide, ?_⟩
    rcases hs with ⟨o, h1⟩ | ⟨o, its, n, h1, h2, _⟩
    · exact .base (.frz h1)
    · exact .kList h1 h2
  | ref a =>
    simp only [tyN] at h
    split at h
    · rename_i e
      cases h
      obtain ⟨vs, g, _⟩ := m _ _ e
      exact ⟨by decide, .base (.lst g)⟩
    · rename_i e
      cases h
      obtain ⟨vs, g, _⟩ := m _ _ e
      exact ⟨by decide, .base (.dK g)⟩
    · cases h
def isinstD : FL := fun xs G Q => match xs with
  | [x, .ty n] => match tyN x G with
    | some t => n ∈ tys ∧ Q (.bl (isiB t n)) G
    | none => False
  | _ => False
section
variable {X : Cx} {a b c e : Expr} {es rest : List Expr} {ta tb tc : DE} {pos : Pos}
theorem isinstD_mono : MonoFL isinstD := fun xs G Q Q' h q => by
  unfold isinstD at q ⊢
  split at q
  · split at q
    · exact ⟨q.1, h _ _ q.2⟩
    · exact q
  · exact q
theorem isinstD_sim {K : PySem.W.Frag} : SimL K (rIsi K) isinstD := fun H G xs ds Q m r h => by
  unfold isinstD at h
  split at h
  · obtain ⟨v, vs', rfl, r1, r2⟩ := r.cons_inv
    obtain ⟨v2, vs2, rfl, r3, r4⟩ := r2.cons_inv
    have e := r4.nil_inv
    subst e
    cases r3
    split at h
    · rename_i t e
      obtain ⟨h1, h2⟩ := tyN_ok m r1 e
      exact ⟨v, _, _, _, _, rfl, .ty _, h2, kit_ty (kit_all _ h1 _ h.1), h.2 _ _ m (.bl _) .refl⟩
    · exact False.elim h
  · exact False.elim h
theorem de_isinst {p : Pos} {t : DA} (hg : Gl X "isinstance") (hm : X.mg "isinstance" = none) (ha : DPA X (e :: es) t) (h1 : starEach (e :: es) X.env = (false, eval e X.env) :: starEach es X.env := by rfl) (h2 : ((backTo pos (starEach es X.env)).any fun x => x.fst) = false := by rfl) :
    DPE X (.Call (.Name "isinstance" p) (e :: es) [] pos) (dCB isinstD t) := de_callB call_isi isinstD_mono isinstD_sim hg hm (by decide +kernel) ha (by decide) (by decide) h1 h2
/-! ### repr -/
def RepOk (p : PyData) : Prop := p.showable = true ∧ p.shown.length ≤ sizeLine
mutual
theorem noDict_of : ∀ d : PyData, d.canLay0 = true → d.hasDict = false
  | .none, _ => by simp only [PyData.hasDict]
  | .bool _, _ => by simp only [PyData.hasDict]
  | .int _, _ => by simp only [PyData.hasDict]
  | .str _, _ => by simp only [PyData.hasDict]
  | .list xs, h => by
    simp only [PyData.hasDict]
    exact noDictAll_of xs (by simpa [PyData.canLay0] using h)
  | .tuple xs, h => by
    simp only [PyData.hasDict]
    exact noDictAll_of xs (by simpa [PyData.canLay0] using h)
  | .dict _, h => by simp [PyData.canLay0] at h
theorem noDictAll_of : ∀ ds : List PyData, PyData.canLayAll0 ds = true → PyData.hasDictAll ds = false
  | [], _ => by simp only [PyData.hasDictAll]
  | d :: ds, h => by
    have h2 : d.canLay0 = true ∧ PyData.canLayAll0 ds = true := by simpa [PyData.canLayAll0] using h
    simp only [PyData.hasDictAll, noDict_of d h2.1, noDictAll_of ds h2.2, Bool.or_self]
end
end
/-! ### the law's end -/
def spLaw (n : Nat) : Ct := fun ds G Q _ => ∃ ns : List Int, ds = [.lis (ns.map .int)] ∧ ns.length ≤ n ∧ ∀ G', Q (.bl true) G'
theorem law_fk {P : Program} {w : World} {K : PySem.W.Frag} {mg mb : Str → Option Value} {k n : Nat} {fa a : Addr} {fd : FuncData} {x : Str} {s1 : Shared} {vs : List Value} {ns : List Int}
    (KX : K.In s1.heap) (hns : s1.heap.Ns mainGlobals mg) (hb : s1.heap.Ns builtinsNs mb) (hbb : ∀ x : Str, x ≠ "__name__" → mb x = bootBuiltins x) (hlim : s1.heap.NoLimit) (hg : s1.gens = #[])
    (ha : s1.heap.get? a = some { cls := .type "list", data := .seq vs.toArray }) (hi : PyProof.Rows.IntsAre vs ns) (hl : ns.length ≤ n) (hn : n ≤ sizeLine) (hr : Room k callerA)
    (F : ∀ base : Heap, K.In base → base.Ns mainGlobals mg → (∀ (b : Addr) (m : Str → Option Value), s1.heap.Ns b m → base.Ns b m) → FK P w K mg base k fa fd [x] (spOf K (spLaw n))) (hbind : ∀ (s : Shared) (u : Value), BindsTo s fd ⟨[u], []⟩ [(x, u)]) :
    codeAny (model P w) callerA (.call (.ref fa) ⟨[.ref a], []⟩) (fun r s' => r = .ok (.ret (.bool true)) ∧ OldK s1.heap s'.heap ∧ s'.os = s1.os ∧ PyProof.Rows.AllBare s'.gens) s1 := by
  have rv := vals_ints hi
  have lenV := hi.length
  have hz : ns.length ≤ sizeLine := Nat.le_trans hl hn
  have main : ∀ H : Hp, Only H → SqR K H a (ns.map V.int) → HOk P w H s1.heap → (∀ b, H b ≠ none → b = a) → (H a ≠ none → K.lookup a = none) →
      codeAny (model P w) callerA (.call (.ref fa) ⟨[.ref a], []⟩) (fun r s' => r = .ok (.ret (.bool true)) ∧ OldK s1.heap s'.heap ∧ s'.os = s1.os ∧ PyProof.Rows.AllBare s'.gens) s1 := by
    intro H hO hS hok hA hK
    have there : ∀ {b : Addr} {o : Obj}, s1.heap.get? b = some o → H b = none → (hidT s1.heap H).get? b = some o := fun e n => hidT_get e n
    have noD : ∀ {b : Addr} {o : Obj} {es : Array DictEntry} {ep : Nat}, s1.heap.get? b = some o → o.data = .dict es ep → H b = none := by
      intro b o es ep e d
      cases q : H b with
      | none => rfl
      | some u =>
        have e' : b = a := hA b (by rw [q]; simp)
        subst e'
        rw [ha] at e
        cases e
        cases (show Data.seq vs.toArray _ = Data.dict es ep from d)
    have ns1 : ∀ {b : Addr} {m : Str → Option Value}, s1.heap.Ns b m → (hidT s1.heap H).Ns b m := fun {b m} ⟨o, es, ep, e, d, r⟩ => ⟨o, es, ep, there e (noD e d), d, r⟩
    have kin : K.In (hidT s1.heap H) := fun b o e => there (KX b o e) (by
      cases q : H b with
      | none => rfl
      | some u =>
        have e' : b = a := hA b (by rw [q]; simp)
        subst e'
        rw [hK (by rw [q]; simp)] at e
        cases e)
    have M : Mod K mg (hidT s1.heap H) := ⟨kin, ns1 hns, ⟨mb, ns1 hb, hbb⟩, let ⟨mc, h1, h2⟩ := hlim; ⟨mc, ns1 h1, h2⟩⟩
    have E : Env0 P w K mg (hidT s1.heap H) callerA [] s1 H := ⟨rfl, M, fun b o e => of_hidT e, Nat.le_of_eq (hidT_size _ _), trivial, fun b hb => absurd (show b ∈ ([] : List Addr) from hb) (by simp), hok, .of_eq hg⟩
    have pr : spOf K (spLaw n) [.ref a] H (fun v _ => v = .bl true) (fun _ _ _ => False) := by
      have m0 : MH K (fun _ => none) H := fun _ _ h => by cases (show (none : Option O) = some _ from h)
      refine ⟨[.lis (ns.map .int)], fun _ => none, fun d _ => d = .bl true, noX, m0, RDs.nil.cons (.lis hS (by simp) (RDs.of_int ns).2), ⟨ns, rfl, hl, fun _ => rfl⟩, fun d G' q v H' m r k => ?_, fun _ _ _ q => False.elim q⟩
      subst q
      cases r
      rfl
    refine codeAny_mono ((F _ kin (ns1 hns) fun b m => ns1).run callerA [] s1 H ⟨[.ref a], []⟩ [.ref a] [.ref a] _ _ hr rfl E (hbind s1 (.ref a)) (.cons rfl .nil) pr) fun r s' h => ?_
    cases r with
    | error e =>
      obtain ⟨_, _, _, _, _, _, _, _, _, _, _, _, z⟩ := h
      exact z.elim
    | ok fl =>
      cases fl with
      | next => exact False.elim h
      | brk => exact False.elim h
      | cont => exact False.elim h
      | ret u =>
        obtain ⟨v, H', os, bare, un, hok', r', q⟩ := h
        have q' : v = .bl true := q
        subst q'
        obtain rfl : u = Value.bool true := r'
        refine ⟨rfl, OldK.of_keep fun b o e => ?_, os, bare⟩
        cases q : H b with
        | none => exact un.keep b o e q (fun z => absurd (show b ∈ ([] : List Addr) from z) (by simp)) (by simp)
        | some u =>
          rcases hO b with z | ⟨ob, xs, z⟩
          · rw [q] at z; cases z
          · obtain ⟨e1, _⟩ := hok b _ z
            obtain ⟨e2, _⟩ := hok' b _ (un.frzs b ob _ z)
            rw [e] at e1
            cases e1
            exact e2
  cases hk : K.lookup a with
  | some o =>
    have e := KX a o hk
    rw [ha] at e
    cases e
    exact main (fun _ => none) (fun _ => .inl rfl) (.inr ⟨_, vs.toArray, _, hk, rfl, rfl, rfl, by rw [List.size_toArray, lenV]; exact hz, by simpa using rv⟩) (fun b u z => by cases (show (none : Option HO) = some u from z)) (fun b z => absurd rfl z) fun z => absurd rfl z
  | none =>
    refine main (fun b => if b = a then some (.frz { cls := .type "list", data := .seq vs.toArray } (.lst (ns.map V.int))) else none) (fun b => ?_) (.inl ⟨{ cls := .type "list", data := .seq vs.toArray }, if_pos rfl⟩) (fun b u z => ?_) (fun b z => ?_) fun _ => hk
    · by_cases hb : b = a
      · exact .inr ⟨_, _, if_pos hb⟩
      · exact .inl (if_neg hb)
    · by_cases hb : b = a
      · have z' := (if_pos hb).symm.trans z
        cases z'
        subst hb
        exact ⟨ha, by rw [List.length_map]; exact hz, vs, _, rv, ha⟩
      · have z' := (if_neg hb).symm.trans z
        cases z'
    · by_cases hb : b = a
      · exact hb
      · exact absurd (if_neg hb) z
theorem walk_fk {l : PySem.W.OpenLaw} {n k : Nat} {q : Program} {loose : List Str} {XP : (Str → Option Value) → Heap → Prop} {YP : World → Heap → Prop} {d : DefRec} {K : Params → PySem.W.Frag} {x : Str}
    (hn : l.most = some n) (hn2 : n ≤ sizeLine) (hdf : d.params.defaults = []) (hr : Room k callerA) (hY : ∀ (w : World) (h : Heap), YP w h → (K w.params).In h)
    (F : ∀ (w : World) (mg : Str → Option Value) (fa : Addr) (h : Heap), (K w.params).In h → h.Ns mainGlobals mg → mg d.name = some (.ref fa) →
      ∃ fd : FuncData, (∀ (s : Shared) (u : Value), BindsTo s fd ⟨[u], []⟩ [(x, u)]) ∧
        ∀ base : Heap, (K w.params).In base → base.Ns mainGlobals mg → FK l.prog w (K w.params) mg base k fa fd [x] (spOf (K w.params) (spLaw n))) :
    PySem.W.WalkO q loose XP YP l.row.toRowW d [] (fun f vs => PySem.call f vs) := by
  refine Att.attach_call hn hdf fun w s0 s1 mg mb fa o pm cd doc a vs ns G Y ho hd hcd hmg hobj hints hlen hg => ?_
  have KX := hY w _ Y
  obtain ⟨fd, hb, hF⟩ := F w mg fa _ KX G.T.g hmg
  exact law_fk KX G.T.g G.T.b G.T.builtins G.T.nolimit hg hobj hints hlen hn2 hr (fun base h1 h2 _ => hF base h1 h2) hb
end FD

namespace FD
open PySem L2
section
variable {X : Cx} {a b c e : Expr} {es rest : List Expr} {ta tb tc : DE} {pos : Pos}
theorem u64 {k : Nat} {A : Around} (r : Room k A) : A.units + 64 < cLine := r.units
theorem u65 {k : Nat} {A : Around} (r : Room k A) : A.units + 65 < cLine := by have := r.un; omega
/-- a list or a tuple, walked -/
def diSeq (t : DE) : DI := fun σ G R => t σ G fun x G1 => match x with
  | .tup xs => R xs (fun _ => True) G1
  | .lis xs => R xs (fun _ => True) G1
  | .ref p => match G1 p with
    | some (.lst xs) => R xs (fun G' => G' p = some (.lst xs)) G1
    | _ => False
  | _ => False
def iSeqV (K : PySem.W.Frag) (x : V) (H : Hp) (R : It → Hp → Prop) : Prop := (∃ p, x = .ref p ∧ (∃ xs, SqL K H p xs) ∧ R (Itl K p) H) ∨ ∃ p, x = .ref p ∧ (∃ xs, SqT K H p xs) ∧ R (Itt K p) H
theorem pi_seqV {tg l : Expr} {tl : TE} (hl : PE X l tl) : PI X tg l (fun σ H R => tl σ H fun x H1 => iSeqV X.K x H1 R) := by
  refine ⟨fun pins s σ H R I h => thn (hl.run pins s σ H _ I h) fun v s1 ⟨x, H1, I1, r1, q1⟩ => ?_⟩
  have fresh : ∀ b ∈ [s1.heap.objs.size], b = s1.heap.objs.size := fun b hb => by simpa using hb
  rcases q1 with ⟨p, e, ⟨xs, hq⟩, q⟩ | ⟨p, e, ⟨xs, hq⟩, q⟩
  · subst e
    cases r1
    obtain ⟨its, rv, pl, hz⟩ := I1.list hq
    refine wpAny_pyIter_list pl.isList ⟨s1.heap.objs.size, [s1.heap.objs.size], _, _, H1, rfl, I1.kept (t' := s1.toks) fun b o e => Heap.get?_push_of_some _ e, turn_list p _, ⟨_, Heap.get?_push_size _ rfl, rfl, rfl⟩, fun b hb => ?_, q⟩
    rw [fresh b hb]
    exact I1.fpOk (Nat.le_refl _) (I1.hok.fresh (Nat.le_refl _))
  · subst e
    cases r1
    obtain ⟨its, rv, pl, hz⟩ := I1.tuple hq
    refine wpAny_pyIter_tuple pl ⟨s1.heap.objs.size, [s1.heap.objs.size], _, _, H1, rfl, I1.kept (t' := s1.toks) fun b o e => Heap.get?_push_of_some _ e, turn_tuple p _, ⟨_, Heap.get?_push_size _ rfl, rfl, rfl⟩, fun b hb => ?_, q⟩
    rw [fresh b hb]
    exact I1.fpOk (Nat.le_refl _) (I1.hok.fresh (Nat.le_refl _))
theorem di_seq {tg l : Expr} (ha : DPE X l ta) : DPI X tg l (diSeq ta) := by
  obtain ⟨ma, tta, pa, ra⟩ := ha
  refine ⟨fun σ G R R' h q => ma σ G _ _ (fun x G1 z => ?_) q, _, pi_seqV pa, fun σ H σd G R m s h => ra σ H σd G _ m s (ma _ _ _ _ (fun d G1 z v H1 m1 r1 k1 => ?_) h)⟩
  · split at z
    · exact h _ _ _ z
    · exact h _ _ _ z
    · split at z <;> first | exact h _ _ _ z | exact z
    · exact z
  · split at z
    · rename_i xs
      cases r1 with
      | @tup p _ vs hs hl hi =>
        refine .inr ⟨p, rfl, ⟨vs, hs.t⟩, z _ H1 m1 k1 fun i H' G' k m' o => ?_⟩
        have r : RDs X.K H' xs vs := RDs.kt k ⟨hl, hi⟩
        have hq : SqT X.K H' p vs := k.sqt hs.t
        refine ⟨fun d hd => ?_, fun hl' => ⟨vs, hq, by rw [← hl]; exact hl'⟩⟩
        obtain ⟨w, h1, h2⟩ := r.get hd
        refine ⟨⟨vs, w, hq, h1⟩, fun x H'' y => ?_⟩
        obtain ⟨rfl, y⟩ := y
        have e := y vs hq
        rw [h1] at e
        cases e
        exact ⟨m', .refl, h2⟩
    · cases r1 with
      | @lis p _ vs hs hl hi => exact .inl ⟨p, rfl, ⟨vs, hs.l⟩, z _ H1 m1 k1 (itOk_list fun G' H' k' m' o => ⟨vs, (k'.sqr hs).l, RDs.kt k' ⟨hl, hi⟩⟩)⟩
    · cases r1
      rename_i p
      split at z
      · rename_i xs e
        obtain ⟨vs, g, r⟩ := m1 _ _ e
        refine .inl ⟨p, rfl, ⟨vs, SqL.of g⟩, z _ H1 m1 k1 (itOk_list fun G' H' k' m' o => ?_)⟩
        obtain ⟨vs', g', r'⟩ := m' _ _ o
        exact ⟨vs', SqL.of g', r'⟩
      · exact False.elim z
    · exact False.elim z
theorem de_lcN {elt tg iter : Expr} {ifs : List Expr} {scope : Scope} (own : List (Str × Nat)) {ti : DI} {bd : D → DSt → Option DSt} {gg : TG} {tt : DTt} {te : DE} (hb : Bd X.K (own.map (·.2)) bd gg) (hc : X.calm = true) (hN : X.N.Nodup) (hi : DPI X tg iter ti) (ok : BlkOk X.N X.env.scope scope own)
    (hg : ∀ (s : Shared) (H : Hp) (C : Addr) (cl : List (Str × Addr)) (fp : List Addr), PG (X.blk s H scope (compEnvC scope cl C X.env) fp) tg gg) (ht : ∀ (s : Shared) (H : Hp) (C : Addr) (cl : List (Str × Addr)) (fp : List Addr), DPTs (X.blk s H scope (compEnvC scope cl C X.env) fp) ifs tt)
    (he : ∀ (s : Shared) (H : Hp) (C : Addr) (cl : List (Str × Addr)) (fp : List Addr), DPE (X.blk s H scope (compEnvC scope cl C X.env) fp) elt te) (hs : ∀ x, foldedSetIterable iter X.env x = pure x := by intro _; rfl) :
    DPE X (.ListComp elt [⟨tg, iter, ifs, 0⟩] scope pos) (dLc ti bd (own.map (·.2)) tt te) :=
  de_lc own hb hc hN hi ok hg ht he (ht X.s_0 X.H_0 0 [] []).mono (he X.s_0 X.H_0 0 [] []).mono hs
theorem ds_setLcN (i : Nat) {y : Str} {py : Pos} {elt tg iter : Expr} {ifs : List Expr} {scope : Scope} {pos spos : Pos} (own : List (Str × Nat)) {ti : DI} {bd : D → DSt → Option DSt} {gg : TG} {tt : DTt} {te : DE} (hb : Bd X.K (own.map (·.2)) bd gg) (hc : X.calm = true) (hN : X.N.Nodup)
    (hsw : swapsWith (.ListComp elt [⟨tg, iter, ifs, 0⟩] scope pos) (some (.Name y py)) spos.line X.env = pure true) (hi : DPI X tg iter ti) (ok : BlkOk X.N X.env.scope scope own)
    (hg : ∀ (s : Shared) (H : Hp) (C : Addr) (cl : List (Str × Addr)) (fp : List Addr), PG (X.blk s H scope (compEnvC scope cl C X.env) fp) tg gg) (ht : ∀ (s : Shared) (H : Hp) (C : Addr) (cl : List (Str × Addr)) (fp : List Addr), DPTs (X.blk s H scope (compEnvC scope cl C X.env) fp) ifs tt)
    (he : ∀ (s : Shared) (H : Hp) (C : Addr) (cl : List (Str × Addr)) (fp : List Addr), DPE (X.blk s H scope (compEnvC scope cl C X.env) fp) elt te) (hy : X.N[i]? = some y := by rfl) (hyl : X.env.scope.names.lookup y = some .local := by rfl) (hs : ∀ x, foldedSetIterable iter X.env x = pure x := by intro _; rfl) :
    DPS X (.Assign [.Name y py] (.ListComp elt [⟨tg, iter, ifs, 0⟩] scope pos) spos) (dAsg (dLc ti bd (own.map (·.2)) tt te) (dgName i)) :=
  ds_setLc i own hb hc hN hsw hi ok hg ht he (ht X.s_0 X.H_0 0 [] []).mono (he X.s_0 X.H_0 0 [] []).mono hy hyl hs
end
/-! ### a def at its name -/
def DefAt (K : PySem.W.Frag) (mg : Str → Option Value) (x : Str) (st : Stmt) (ps : List Str) : Prop := ∃ f fd, Fun K x x st f fd ∧ mg x = some (.ref f) ∧ Binds K fd ps []
def CallOk (P : Program) (w : World) (K : PySem.W.Frag) (mg : Str → Option Value) (base : Heap) (k : Nat) (x : Str) (C : Ct) : Prop := ∃ f fd ps, mg x = some (.ref f) ∧ PySem.W.keepIn K (.ref f) = true ∧ Binds K fd ps [] ∧ FK P w K mg base k f fd ps (spOf K C)
theorem CallOk.mono {P : Program} {w : World} {K : PySem.W.Frag} {mg : Str → Option Value} {base : Heap} {j k : Nat} {x : Str} {C : Ct} (h : CallOk P w K mg base j x C) (l : j ≤ k) : CallOk P w K mg base k x C := let ⟨f, fd, ps, a, b, c, d⟩ := h; ⟨f, fd, ps, a, b, c, d.mono l⟩
theorem FK.imp {P : Program} {w : World} {K : PySem.W.Frag} {mg : Str → Option Value} {base : Heap} {k : Nat} {f : Addr} {fd : FuncData} {ps : List Str} {C C' : Ct} (F : FK P w K mg base k f fd ps (spOf K C)) (h : ∀ ds G Q E, C' ds G Q E → C ds G Q E) : FK P w K mg base k f fd ps (spOf K C') :=
  ⟨fun vs H Q E ⟨ds, G, Q0, E0, a, b, c, d⟩ => F.len vs H Q E ⟨ds, G, Q0, E0, a, b, h _ _ _ _ c, d⟩, fun A outer s H args us vs Q E hr hg e0 hb hv ⟨ds, G, Q0, E0, a, b, c, d⟩ => F.run A outer s H args us vs Q E hr hg e0 hb hv ⟨ds, G, Q0, E0, a, b, h _ _ _ _ c, d⟩⟩
section
variable {X : Cx} {k : Nat} {Cn : Ct} {E : DX} {x m : Str} {p pos apos : Pos} {e o : Expr} {es : List Expr} {ta to : DE} {t : DA}
theorem de_fn (F : CallOk X.prog X.w X.K X.mg X.base k x Cn) (hr : Room k X.A) (hgd : X.A.guards = some []) (hE : PassD X E)
    (ha : DPA X (e :: es) t) (hg : Gl X x := by rfl) (hdb : (x == ("__debug__" : Str)) = false := by decide) (he : starEach (e :: es) X.env = (false, eval e X.env) :: starEach es X.env := by rfl) (hpl : (backTo pos (starEach es X.env)).any (·.1) = false := by rfl) :
    DPE X (.Call (.Name x p) (e :: es) [] pos) (dCall Cn E t) := let ⟨_, _, _, a, b, c, d⟩ := F; de_call d hr hgd a b c hE ha hg hdb he hpl
end
section
variable {P : Program} {w : World} {K : PySem.W.Frag} {mg : Str → Option Value} {base : Heap}
/-- the context of a def's body -/
abbrev cx (P : Program) (w : World) (K : PySem.W.Frag) (mg : Str → Option Value) (base : Heap) (N : List Str) (qual : Str) (sc : Scope) (f : Addr) (cdv : Value) (A : Around) (outer : List Env) (s : Shared) (H : Hp) (EL : XK) : Cx := cxOf (L2.CX P w) P w K mg base N qual sc f cdv A outer s H EL
theorem call_ok {x : Str} {st : Stmt} {N ps : List Str} {k : Nat} {C : Ct} {T : DX → DS} (D : DefAt K mg x st ps) (S : FnScope N ps (defScope st)) (len : ∀ ds G Q E, C ds G Q E → ds.length = ps.length)
    (der : ∀ (f : Addr) (cdv : Value) (A : Around) (outer : List Env) (s : Shared) (H : Hp) (EL : XK) (E : DX), Room k (cx P w K mg base N x (defScope st) f cdv A outer s H EL).A → (cx P w K mg base N x (defScope st) f cdv A outer s H EL).A.guards = some [] →
      PassesOwn (model P w) (cx P w K mg base N x (defScope st) f cdv A outer s H EL).A (cx P w K mg base N x (defScope st) f cdv A outer s H EL).env (cx P w K mg base N x (defScope st) f cdv A outer s H EL).xe →
      PassD (cx P w K mg base N x (defScope st) f cdv A outer s H EL) E → DPSs (cx P w K mg base N x (defScope st) f cdv A outer s H EL) (defBody st) (T E))
    (run : ∀ ds G Q E, C ds G Q E → T E { nx := fun _ G' => DrK Q .non G', rt := DrK Q, bk := fun _ _ => False, ct := fun _ _ => False } (dstart N ds) G) : CallOk P w K mg base (k + 1) x C := by
  obtain ⟨f, fd, F, hm, hb⟩ := D
  exact ⟨f, fd, ps, hm, F.kp, hb, fk_ok F S len (der f) run⟩
end
end FD

namespace FD
open PySem L2
section
variable {X : Cx} {pos : Pos}
theorem pgN (i : Nat) {x : Str} (hN : X.N.Nodup) (hi : X.N[i]? = some x := by rfl) (hx : Loc X.env.scope x := by first | exact .inl rfl | exact .inr rfl) (hf : X.fn x = true ∨ X.env.scope.names.lookup x = some .local := by first | exact .inl rfl | exact .inr rfl | assumption) : PG X (.Name x pos) (gName i) := pg_name hN hi hx hf
end
/-! ### running readings -/
theorem atI_zero {α : Type} {x : α} {xs : List α} : atI (x :: xs) 0 = some x := by
  simp [atI, ixN]
theorem ixN_nat {n i : Nat} (h : i < n) : ixN n (i : Int) = some i := by
  unfold ixN
  rw [if_pos (by omega), if_pos (by omega)]
  simp
theorem atI_of {α : Type} {xs : List α} {i : Int} {j : Nat} (e : i = (j : Int)) : atI xs i = xs[j]? := by
  subst e
  unfold atI
  by_cases h : j < xs.length
  · rw [ixN_nat h]
    rfl
  · rw [List.getElem?_eq_none (by omega)]
    unfold ixN
    rw [if_pos (by omega), if_neg (by omega)]
    rfl
theorem atI_cast {α : Type} {xs : List α} {j : Nat} : atI xs (j : Int) = xs[j]? := atI_of rfl
theorem atI_1 {α : Type} {xs : List α} : atI xs 1 = xs[1]? := atI_of (j := 1) rfl
theorem atI_0 {α : Type} {xs : List α} : atI xs 0 = xs[0]? := atI_of (j := 0) rfl
end FD
namespace FD
open PySem L2
/-! ### steps: one lemma a combinator -/
def tbl (d : D) (G : DG) (Q : Bool → DG → Prop) : Prop := match d with | .bl k => Q k G | _ => False
def br (k : Bool) (A B : Prop) : Prop := if k = true then A else B
def andB (x : D) (G : DG) (A : Prop) (Q : DK) : Prop := match x with | .bl true => A | .bl false => Q (.bl false) G | _ => False
def orB (x : D) (G : DG) (A : Prop) (Q : DK) : Prop := match x with | .bl false => A | .bl true => Q (.bl true) G | _ => False
def notB (x : D) (G : DG) (Q : DK) : Prop := match x with | .bl k => Q (.bl (!k)) G | _ => False
def partB (x : D) (G : DG) (Q : Option Int → DG → Prop) : Prop := match x with | .int i => Q (some i) G | _ => False
def mkT (xs : List D) (G : DG) (Q : DK) : Prop := xs.length ≤ sizeLine ∧ Q (.tup xs) G
def mkL (xs : List D) (G : DG) (Q : DK) : Prop := xs.length ≤ sizeLine ∧ ∀ p, G p = none → Q (.ref p) (up G p (.lst xs))
def rngB (xs : List D) (G : DG) (R : List D → (DG → Prop) → DG → Prop) : Prop := match xs with
  | [.int j] => -(2 ^ 62) ≤ j ∧ j < 2 ^ 62 ∧ R (rangeD 0 j) (fun _ => True) G
  | [.int i, .int j] => (-(2 ^ 62) ≤ i ∧ i < 2 ^ 62 ∧ -(2 ^ 62) ≤ j ∧ j < 2 ^ 62) ∧ R (rangeD i j) (fun _ => True) G
  | _ => False
def seqB (x : D) (G : DG) (R : List D → (DG → Prop) → DG → Prop) : Prop := match x with
  | .tup xs => R xs (fun _ => True) G
  | .lis xs => R xs (fun _ => True) G
  | .ref p => match G p with
    | some (.lst xs) => R xs (fun G' => G' p = some (.lst xs)) G
    | _ => False
  | _ => False
def parB (i j : Nat) (ds : List D) (σ : DSt) (G : DG) (Q : DSt → DG → Prop) : Prop := match ds with
  | [d, e] => Q ((σ.set i (some d)).set j (some e)) G
  | _ => False
section
variable {σ : DSt} {G : DG} {Q : DK} {QB : Bool → DG → Prop} {QL : List D → DG → Prop} {i j : Nat} {d x y : D} {f : F2} {g1 : F1} {fl : FL} {fm : FM} {ta tb tc te : DE} {ts : DA} {c c' : DTt} {t u : DS} {E : DEnds} {nx bk ct : DSt → DG → Prop} {rt : DK} {a b n m : Int} {p q : Addr} {xs ys : List D} {s z : Str} {K : Prop}
theorem s_var (e : getS σ i = some d) (h : Q d G) : dVar i σ G Q := by unfold dVar; rw [e]; exact h
theorem s_c (h : Q d G) : dC d σ G Q := h
instance i_s_c  : WStp (dC d σ G Q) (Q d G) := ⟨fun h => s_c h⟩
theorem s_op (h : ta σ G fun x G1 => tb σ G1 fun y G2 => f x y G2 Q) : dOp f ta tb σ G Q := h
instance i_s_op  : WStp (dOp f ta tb σ G Q) (ta σ G fun x G1 => tb σ G1 fun y G2 => f x y G2 Q) := ⟨fun h => s_op h⟩
theorem s_un (h : ta σ G fun x G1 => g1 x G1 Q) : dUn g1 ta σ G Q := h
instance i_s_un  : WStp (dUn g1 ta σ G Q) (ta σ G fun x G1 => g1 x G1 Q) := ⟨fun h => s_un h⟩
theorem s_cb (h : ts σ G fun xs G1 => fl xs G1 Q) : dCB fl ts σ G Q := h
instance i_s_cb  : WStp (dCB fl ts σ G Q) (ts σ G fun xs G1 => fl xs G1 Q) := ⟨fun h => s_cb h⟩
theorem s_nil (h : QL [] G) : dNil σ G QL := h
instance i_s_nil  : WStp (dNil σ G QL) (QL [] G) := ⟨fun h => s_nil h⟩
theorem s_cons (h : ta σ G fun x G1 => ts σ G1 fun xs G2 => QL (x :: xs) G2) : dCons ta ts σ G QL := h
instance i_s_cons  : WStp (dCons ta ts σ G QL) (ta σ G fun x G1 => ts σ G1 fun xs G2 => QL (x :: xs) G2) := ⟨fun h => s_cons h⟩
theorem s_tup (h : ts σ G fun xs G1 => mkT xs G1 Q) : dTup ts σ G Q := h
instance i_s_tup  : WStp (dTup ts σ G Q) (ts σ G fun xs G1 => mkT xs G1 Q) := ⟨fun h => s_tup h⟩
theorem s_lst (h : ts σ G fun xs G1 => mkL xs G1 Q) : dLst ts σ G Q := h
instance i_s_lst  : WStp (dLst ts σ G Q) (ts σ G fun xs G1 => mkL xs G1 Q) := ⟨fun h => s_lst h⟩
theorem s_mkT (e : xs.length ≤ sizeLine) (h : Q (.tup xs) G) : mkT xs G Q := ⟨e, h⟩
theorem s_mkL (e : xs.length ≤ sizeLine) (h : ∀ p, G p = none → Q (.ref p) (up G p (.lst xs))) : mkL xs G Q := ⟨e, h⟩
theorem s_mt {to : DE} (h : to σ G fun x G1 => isLst x G1 ∧ ts σ G1 fun xs G2 => fm x xs G2 Q) : dMt fm to ts σ G Q := h
instance i_s_mt {to : DE} : WStp (dMt fm to ts σ G Q) (to σ G fun x G1 => isLst x G1 ∧ ts σ G1 fun xs G2 => fm x xs G2 Q) := ⟨fun h => s_mt h⟩
theorem s_isl {A : Prop} (e : G p = some (.lst xs)) (h : A) : isLst (.ref p) G ∧ A := ⟨⟨xs, by simp [lstD, e]⟩, h⟩
theorem s_test (h : ta σ G fun d G' => tbl d G' QB) : dTest ta σ G QB := h
instance i_s_test  : WStp (dTest ta σ G QB) (ta σ G fun d G' => tbl d G' QB) := ⟨fun h => s_test h⟩
theorem s_tbl {k : Bool} (h : QB k G) : tbl (.bl k) G QB := h
instance i_s_tbl {k : Bool} : WStp (tbl (.bl k) G QB) (QB k G) := ⟨fun h => s_tbl h⟩
theorem s_not (h : c σ G fun k G1 => QB (!k) G1) : dNot c σ G QB := h
instance i_s_not  : WStp (dNot c σ G QB) (c σ G fun k G1 => QB (!k) G1) := ⟨fun h => s_not h⟩
theorem s_and (h : c σ G fun k G1 => br k (c' σ G1 QB) (QB false G1)) : dAnd c c' σ G QB := h
instance i_s_and  : WStp (dAnd c c' σ G QB) (c σ G fun k G1 => br k (c' σ G1 QB) (QB false G1)) := ⟨fun h => s_and h⟩
theorem s_or (h : c σ G fun k G1 => br k (QB true G1) (c' σ G1 QB)) : dOr c c' σ G QB := h
instance i_s_or  : WStp (dOr c c' σ G QB) (c σ G fun k G1 => br k (QB true G1) (c' σ G1 QB)) := ⟨fun h => s_or h⟩
theorem s_tru (h : ta σ G fun d G' => optT (truD d G') G' QB) : dTru ta σ G QB := h
instance i_s_tru  : WStp (dTru ta σ G QB) (ta σ G fun d G' => optT (truD d G') G' QB) := ⟨fun h => s_tru h⟩
theorem s_optT {k : Bool} {o : Option Bool} (e : o = some k) (h : QB k G) : optT o G QB := by rw [e]; exact h
theorem s_ifE (h : c σ G fun k G1 => br k (ta σ G1 Q) (tb σ G1 Q)) : dIfE c ta tb σ G Q := h
instance i_s_ifE  : WStp (dIfE c ta tb σ G Q) (c σ G fun k G1 => br k (ta σ G1 Q) (tb σ G1 Q)) := ⟨fun h => s_ifE h⟩
theorem s_andV (h : ta σ G fun x G1 => andB x G1 (tb σ G1 Q) Q) : dAndV ta tb σ G Q := h
instance i_s_andV  : WStp (dAndV ta tb σ G Q) (ta σ G fun x G1 => andB x G1 (tb σ G1 Q) Q) := ⟨fun h => s_andV h⟩
theorem s_orV (h : ta σ G fun x G1 => orB x G1 (tb σ G1 Q) Q) : dOrV ta tb σ G Q := h
instance i_s_orV  : WStp (dOrV ta tb σ G Q) (ta σ G fun x G1 => orB x G1 (tb σ G1 Q) Q) := ⟨fun h => s_orV h⟩
theorem s_notV (h : ta σ G fun x G1 => notB x G1 Q) : dNotV ta σ G Q := h
instance i_s_notV  : WStp (dNotV ta σ G Q) (ta σ G fun x G1 => notB x G1 Q) := ⟨fun h => s_notV h⟩
theorem s_notB {k : Bool} (h : Q (.bl (!k)) G) : notB (.bl k) G Q := h
instance i_s_notB {k : Bool} : WStp (notB (.bl k) G Q) (Q (.bl (!k)) G) := ⟨fun h => s_notB h⟩
theorem s_andB {k : Bool} {A : Prop} (h : br k A (Q (.bl false) G)) : andB (.bl k) G A Q := by cases k <;> exact h
instance i_s_andB {k : Bool} {A : Prop} : WStp (andB (.bl k) G A Q) (br k A (Q (.bl false) G)) := ⟨fun h => s_andB h⟩
theorem s_orB {k : Bool} {A : Prop} (h : br k (Q (.bl true) G) A) : orB (.bl k) G A Q := by cases k <;> exact h
instance i_s_orB {k : Bool} {A : Prop} : WStp (orB (.bl k) G A Q) (br k (Q (.bl true) G) A) := ⟨fun h => s_orB h⟩
theorem s_asg {g : DTg} (h : ta σ G fun x G1 => g x σ G1 nx) : dAsg ta g ⟨nx, rt, bk, ct⟩ σ G := h
instance i_s_asg {g : DTg} : WStp (dAsg ta g ⟨nx, rt, bk, ct⟩ σ G) (ta σ G fun x G1 => g x σ G1 nx) := ⟨fun h => s_asg h⟩
theorem s_gn {QS : DSt → DG → Prop} (h : QS (σ.set i (some d)) G) : dgName i d σ G QS := h
instance i_s_gn {QS : DSt → DG → Prop} : WStp (dgName i d σ G QS) (QS (σ.set i (some d)) G) := ⟨fun h => s_gn h⟩
theorem s_gs {to ti : DE} {QS : DSt → DG → Prop} (h : to σ G fun o G1 => ti σ G1 fun i G2 => setD o i d G2 fun G3 => QS σ G3) : dgSub to ti d σ G QS := h
instance i_s_gs {to ti : DE} {QS : DSt → DG → Prop} : WStp (dgSub to ti d σ G QS) (to σ G fun o G1 => ti σ G1 fun i G2 => setD o i d G2 fun G3 => QS σ G3) := ⟨fun h => s_gs h⟩
theorem s_setD {k : Int} {R : DG → Prop} (e : G p = some (.lst xs)) (e2 : ixN xs.length k = some j) (h : R (up G p (.lst (xs.set j d)))) : setD (.ref p) (.int k) d G R := ⟨xs, j, e, e2, h⟩
theorem s_gt {gs : DTgs} {QS : DSt → DG → Prop} (h : gs xs σ G QS) (e : xs.length = i) : dgTup i gs (.tup xs) σ G QS := ⟨e, h⟩
theorem s_gtl {gs : DTgs} {QS : DSt → DG → Prop} (h : gs xs σ G QS) (e : xs.length = i) : dgTup i gs (.tpl xs) σ G QS := ⟨e, h⟩
theorem s_gc {g : DTg} {gs : DTgs} {QS : DSt → DG → Prop} (h : g d σ G fun σ' G' => gs xs σ' G' QS) : dgCons g gs (d :: xs) σ G QS := h
instance i_s_gc {g : DTg} {gs : DTgs} {QS : DSt → DG → Prop} : WStp (dgCons g gs (d :: xs) σ G QS) (g d σ G fun σ' G' => gs xs σ' G' QS) := ⟨fun h => s_gc h⟩
theorem s_gni {QS : DSt → DG → Prop} (h : QS σ G) : dgNil [] σ G QS := ⟨rfl, h⟩
instance i_s_gni {QS : DSt → DG → Prop} : WStp (dgNil [] σ G QS) (QS σ G) := ⟨fun h => s_gni h⟩
theorem s_par (h : ts σ G fun ds G1 => parB i j ds σ G1 nx) : dPar i j ts ⟨nx, rt, bk, ct⟩ σ G := h
instance i_s_par  : WStp (dPar i j ts ⟨nx, rt, bk, ct⟩ σ G) (ts σ G fun ds G1 => parB i j ds σ G1 nx) := ⟨fun h => s_par h⟩
theorem s_parB {QS : DSt → DG → Prop} (h : QS ((σ.set i (some x)).set j (some y)) G) : parB i j [x, y] σ G QS := h
instance i_s_parB {QS : DSt → DG → Prop} : WStp (parB i j [x, y] σ G QS) (QS ((σ.set i (some x)).set j (some y)) G) := ⟨fun h => s_parB h⟩
theorem s_drop (h : ta σ G fun _ G1 => nx σ G1) : dDrop ta ⟨nx, rt, bk, ct⟩ σ G := h
instance i_s_drop  : WStp (dDrop ta ⟨nx, rt, bk, ct⟩ σ G) (ta σ G fun _ G1 => nx σ G1) := ⟨fun h => s_drop h⟩
theorem s_ret (h : ta σ G rt) : dRet ta ⟨nx, rt, bk, ct⟩ σ G := h
instance i_s_ret  : WStp (dRet ta ⟨nx, rt, bk, ct⟩ σ G) (ta σ G rt) := ⟨fun h => s_ret h⟩
theorem s_retN (h : rt .non G) : dRetN ⟨nx, rt, bk, ct⟩ σ G := h
instance i_s_retN  : WStp (dRetN ⟨nx, rt, bk, ct⟩ σ G) (rt .non G) := ⟨fun h => s_retN h⟩
theorem s_if (h : c σ G fun k G1 => br k (t E σ G1) (u E σ G1)) : dIf c t u E σ G := h
instance i_s_if  : WStp (dIf c t u E σ G) (c σ G fun k G1 => br k (t E σ G1) (u E σ G1)) := ⟨fun h => s_if h⟩
theorem s_pass (h : nx σ G) : dPass ⟨nx, rt, bk, ct⟩ σ G := h
instance i_s_pass  : WStp (dPass ⟨nx, rt, bk, ct⟩ σ G) (nx σ G) := ⟨fun h => s_pass h⟩
theorem s_next (h : nx σ G) : dNext ⟨nx, rt, bk, ct⟩ σ G := h
instance i_s_next  : WStp (dNext ⟨nx, rt, bk, ct⟩ σ G) (nx σ G) := ⟨fun h => s_next h⟩
theorem s_brk (h : bk σ G) : dBreak ⟨nx, rt, bk, ct⟩ σ G := h
instance i_s_brk  : WStp (dBreak ⟨nx, rt, bk, ct⟩ σ G) (bk σ G) := ⟨fun h => s_brk h⟩
theorem s_cnt (h : ct σ G) : dCont ⟨nx, rt, bk, ct⟩ σ G := h
instance i_s_cnt  : WStp (dCont ⟨nx, rt, bk, ct⟩ σ G) (ct σ G) := ⟨fun h => s_cnt h⟩
theorem s_seq (h : t ⟨Go u ⟨nx, rt, bk, ct⟩, rt, bk, ct⟩ σ G) : dSeq t u ⟨nx, rt, bk, ct⟩ σ G := h
instance i_s_seq  : WStp (dSeq t u ⟨nx, rt, bk, ct⟩ σ G) (t ⟨Go u ⟨nx, rt, bk, ct⟩, rt, bk, ct⟩ σ G) := ⟨fun h => s_seq h⟩
theorem s_go (h : u E σ G) : Go u E σ G := ⟨G, .refl G, h⟩
instance i_s_go  : WStp (Go u E σ G) (u E σ G) := ⟨fun h => s_go h⟩
theorem s_rtD {G0 : DG} (l : Le G0 G) (h : Q d G0) : DrK Q d G := ⟨G0, l, h⟩
theorem s_rt (h : Q d G) : DrK Q d G := ⟨G, .refl G, h⟩
theorem s_for {ti : DI} {g : DTg} (h : ti σ G fun items ok G1 => DLoop g t ok E items σ G1) : dFor ti g t E σ G := h
instance i_s_for {ti : DI} {g : DTg} : WStp (dFor ti g t E σ G) (ti σ G fun items ok G1 => DLoop g t ok E items σ G1) := ⟨fun h => s_for h⟩
theorem s_lc {ti : DI} {bd : D → DSt → Option DSt} {vs : List Nat} (h : ti σ G fun items ok G1 => ∀ p, G1 p = none → DComp bd vs c ta ok p σ Q items (up G1 p (.lst []))) : dLc ti bd vs c ta σ G Q := h
instance i_s_lc {ti : DI} {bd : D → DSt → Option DSt} {vs : List Nat} : WStp (dLc ti bd vs c ta σ G Q) (ti σ G fun items ok G1 => ∀ p, G1 p = none → DComp bd vs c ta ok p σ Q items (up G1 p (.lst []))) := ⟨fun h => s_lc h⟩
theorem s_rng {R : List D → (DG → Prop) → DG → Prop} (h : ts σ G fun xs G1 => rngB xs G1 R) : diRange ts σ G R := h
instance i_s_rng {R : List D → (DG → Prop) → DG → Prop} : WStp (diRange ts σ G R) (ts σ G fun xs G1 => rngB xs G1 R) := ⟨fun h => s_rng h⟩
theorem s_rng1 {R : List D → (DG → Prop) → DG → Prop} (e : -(2 ^ 62) ≤ a ∧ a < 2 ^ 62) (h : R (rangeD 0 a) (fun _ => True) G) : rngB [.int a] G R := ⟨e.1, e.2, h⟩
theorem s_rng2 {R : List D → (DG → Prop) → DG → Prop} (e : -(2 ^ 62) ≤ a ∧ a < 2 ^ 62 ∧ -(2 ^ 62) ≤ b ∧ b < 2 ^ 62) (h : R (rangeD a b) (fun _ => True) G) : rngB [.int a, .int b] G R := ⟨e, h⟩
theorem s_dseq {R : List D → (DG → Prop) → DG → Prop} (h : ta σ G fun x G1 => seqB x G1 R) : diSeq ta σ G R := h
instance i_s_dseq {R : List D → (DG → Prop) → DG → Prop} : WStp (diSeq ta σ G R) (ta σ G fun x G1 => seqB x G1 R) := ⟨fun h => s_dseq h⟩
theorem s_seqT {R : List D → (DG → Prop) → DG → Prop} (h : R xs (fun _ => True) G) : seqB (.tup xs) G R := h
instance i_s_seqT {R : List D → (DG → Prop) → DG → Prop} : WStp (seqB (.tup xs) G R) (R xs (fun _ => True) G) := ⟨fun h => s_seqT h⟩
theorem s_seqS {R : List D → (DG → Prop) → DG → Prop} (h : R xs (fun _ => True) G) : seqB (.lis xs) G R := h
instance i_s_seqS {R : List D → (DG → Prop) → DG → Prop} : WStp (seqB (.lis xs) G R) (R xs (fun _ => True) G) := ⟨fun h => s_seqS h⟩
theorem s_seqL {R : List D → (DG → Prop) → DG → Prop} (e : G p = some (.lst xs)) (h : R xs (fun G' => G' p = some (.lst xs)) G) : seqB (.ref p) G R := by simp only [seqB, e]; exact h
theorem s_sl {tl th : DO} (h : te σ G fun x G1 => tl σ G1 fun l G2 => th σ G2 fun u G3 => sliceD x l u G3 Q) : dSl te tl th σ G Q := h
instance i_s_sl {tl th : DO} : WStp (dSl te tl th σ G Q) (te σ G fun x G1 => tl σ G1 fun l G2 => th σ G2 fun u G3 => sliceD x l u G3 Q) := ⟨fun h => s_sl h⟩
theorem s_np {QO : Option Int → DG → Prop} (h : QO none G) : dNoPart σ G QO := h
instance i_s_np {QO : Option Int → DG → Prop} : WStp (dNoPart σ G QO) (QO none G) := ⟨fun h => s_np h⟩
theorem s_pt {QO : Option Int → DG → Prop} (h : ta σ G fun x G1 => partB x G1 QO) : dPart ta σ G QO := h
instance i_s_pt {QO : Option Int → DG → Prop} : WStp (dPart ta σ G QO) (ta σ G fun x G1 => partB x G1 QO) := ⟨fun h => s_pt h⟩
theorem s_ptB {QO : Option Int → DG → Prop} (h : QO (some a) G) : partB (.int a) G QO := h
instance i_s_ptB {QO : Option Int → DG → Prop} : WStp (partB (.int a) G QO) (QO (some a) G) := ⟨fun h => s_ptB h⟩
theorem s_sliceT {lo hi : Option Int} (h : Q (.tup (cutD xs lo hi)) G) : sliceD (.tup xs) lo hi G Q := h
instance i_s_sliceT {lo hi : Option Int} : WStp (sliceD (.tup xs) lo hi G Q) (Q (.tup (cutD xs lo hi)) G) := ⟨fun h => s_sliceT h⟩
theorem s_sliceL {lo hi : Option Int} (e : G p = some (.lst xs)) (h : ∀ n, G n = none → Q (.ref n) (up G n (.lst (cutD xs lo hi)))) : sliceD (.ref p) lo hi G Q := by simp only [sliceD, e]; exact h
theorem s_sliceS {lo hi : Option Int} (h : ∀ n, G n = none → Q (.ref n) (up G n (.lst (cutD xs lo hi)))) : sliceD (.lis xs) lo hi G Q := h
instance i_s_sliceS {lo hi : Option Int} : WStp (sliceD (.lis xs) lo hi G Q) (∀ n, G n = none → Q (.ref n) (up G n (.lst (cutD xs lo hi)))) := ⟨fun h => s_sliceS h⟩
theorem s_call {C : Ct} {X : DX} (h : ts σ G fun ds G1 => UpC C ds G1 Q X) : dCall C X ts σ G Q := h
instance i_s_call {C : Ct} {X : DX} : WStp (dCall C X ts σ G Q) (ts σ G fun ds G1 => UpC C ds G1 Q X) := ⟨fun h => s_call h⟩
theorem s_addI (h : Q (.int (a + b)) G) : addD (.int a) (.int b) G Q := h
instance i_s_addI  : WStp (addD (.int a) (.int b) G Q) (Q (.int (a + b)) G) := ⟨fun h => s_addI h⟩
theorem s_addT (e : xs.length + ys.length ≤ sizeLine) (h : Q (.tup (xs ++ ys)) G) : addD (.tup xs) (.tup ys) G Q := ⟨e, h⟩
theorem s_addL (e1 : G p = some (.lst xs)) (e2 : G q = some (.lst ys)) (e : xs.length + ys.length ≤ sizeLine) (h : ∀ n, G n = none → Q (.ref n) (up G n (.lst (xs ++ ys)))) : addD (.ref p) (.ref q) G Q := ⟨xs, ys, e1, e2, e, h⟩
theorem s_subI (h : Q (.int (a - b)) G) : subD (.int a) (.int b) G Q := ⟨trivial, h⟩
instance i_s_subI  : WStp (subD (.int a) (.int b) G Q) (Q (.int (a - b)) G) := ⟨fun h => s_subI h⟩
theorem s_modI (e : 0 < b) (h : Q (.int (a % b)) G) : modD (.int a) (.int b) G Q := ⟨e, h⟩
theorem s_divI (e : CDiv a b) (h : Q (.int (a / b)) G) : divD (.int a) (.int b) G Q := ⟨e, h⟩
theorem s_powI (e : CPow a b) (h : Q (.int (a ^ b.toNat)) G) : powD (.int a) (.int b) G Q := ⟨e, h⟩
theorem s_mulI (e : CMul a b) (h : Q (.int (a * b)) G) : mulD (.int a) (.int b) G Q := ⟨e, h⟩
theorem s_mulT (e : xs ≠ [] ∧ -1000 ≤ a ∧ a ≤ 1000 ∧ xs.length ≤ 1000) (h : Q (.tup (List.replicate a.toNat xs).flatten) G) : mulD (.tup xs) (.int a) G Q := ⟨e.1, e.2.1, e.2.2.1, e.2.2.2, h⟩
theorem s_negI (h : Q (.int (-a)) G) : negD (.int a) G Q := h
instance i_s_negI  : WStp (negD (.int a) G Q) (Q (.int (-a)) G) := ⟨fun h => s_negI h⟩
theorem s_ltI (h : Q (.bl (decide (a < b))) G) : ltD (.int a) (.int b) G Q := ⟨trivial, h⟩
instance i_s_ltI  : WStp (ltD (.int a) (.int b) G Q) (Q (.bl (decide (a < b))) G) := ⟨fun h => s_ltI h⟩
theorem s_leI (h : Q (.bl (decide (a ≤ b))) G) : leD (.int a) (.int b) G Q := ⟨trivial, h⟩
instance i_s_leI  : WStp (leD (.int a) (.int b) G Q) (Q (.bl (decide (a ≤ b))) G) := ⟨fun h => s_leI h⟩
theorem s_gtI (h : Q (.bl (decide (b < a))) G) : gtD (.int a) (.int b) G Q := ⟨trivial, h⟩
instance i_s_gtI  : WStp (gtD (.int a) (.int b) G Q) (Q (.bl (decide (b < a))) G) := ⟨fun h => s_gtI h⟩
theorem s_geI (h : Q (.bl (decide (b ≤ a))) G) : geD (.int a) (.int b) G Q := ⟨trivial, h⟩
instance i_s_geI  : WStp (geD (.int a) (.int b) G Q) (Q (.bl (decide (b ≤ a))) G) := ⟨fun h => s_geI h⟩
theorem s_itT (e : atI xs a = some d) (h : Q d G) : itemD (.tup xs) (.int a) G Q := by simp only [itemD, e]; exact h
theorem s_itS (e : atI xs a = some d) (h : Q d G) : itemD (.lis xs) (.int a) G Q := by simp only [itemD, e]; exact h
theorem s_itL (e1 : G p = some (.lst xs)) (e : atI xs a = some d) (h : Q d G) : itemD (.ref p) (.int a) G Q := by simp only [itemD, e1, e]; exact h
theorem s_eqS (h : Q (.bl (decide (s = z))) G) : eqD (.str s) (.str z) G Q := h
instance i_s_eqS  : WStp (eqD (.str s) (.str z) G Q) (Q (.bl (decide (s = z))) G) := ⟨fun h => s_eqS h⟩
theorem s_neS (h : Q (.bl (!decide (s = z))) G) : neD (.str s) (.str z) G Q := h
instance i_s_neS  : WStp (neD (.str s) (.str z) G Q) (Q (.bl (!decide (s = z))) G) := ⟨fun h => s_neS h⟩
theorem s_eqI (h : Q (.bl (a == b)) G) : eqD (.int a) (.int b) G Q := h
instance i_s_eqI  : WStp (eqD (.int a) (.int b) G Q) (Q (.bl (a == b)) G) := ⟨fun h => s_eqI h⟩
theorem s_neI (h : Q (.bl (!(a == b))) G) : neD (.int a) (.int b) G Q := h
instance i_s_neI  : WStp (neD (.int a) (.int b) G Q) (Q (.bl (!(a == b))) G) := ⟨fun h => s_neI h⟩
theorem s_lenT (h : Q (.int xs.length) G) : lenD [.tup xs] G Q := h
instance i_s_lenT  : WStp (lenD [.tup xs] G Q) (Q (.int xs.length) G) := ⟨fun h => s_lenT h⟩
theorem s_lenS (h : Q (.int xs.length) G) : lenD [.lis xs] G Q := h
instance i_s_lenS  : WStp (lenD [.lis xs] G Q) (Q (.int xs.length) G) := ⟨fun h => s_lenS h⟩
theorem s_lenL (e : G p = some (.lst xs)) (h : Q (.int xs.length) G) : lenD [.ref p] G Q := by simp only [lenD, optL, seqD, e]; exact h
theorem s_listT (h : ∀ p, G p = none → Q (.ref p) (up G p (.lst xs))) : listD [.tup xs] G Q := h
instance i_s_listT  : WStp (listD [.tup xs] G Q) (∀ p, G p = none → Q (.ref p) (up G p (.lst xs))) := ⟨fun h => s_listT h⟩
theorem s_listL (e : G p = some (.lst xs)) (h : ∀ n, G n = none → Q (.ref n) (up G n (.lst xs))) : listD [.ref p] G Q := by simp only [listD, optL, seqD, e]; exact h
theorem s_tupT (h : Q (.tup xs) G) : tupleD [.tup xs] G Q := h
instance i_s_tupT  : WStp (tupleD [.tup xs] G Q) (Q (.tup xs) G) := ⟨fun h => s_tupT h⟩
theorem s_tupL (e : G p = some (.lst xs)) (h : Q (.tup xs) G) : tupleD [.ref p] G Q := by simp only [tupleD, optL, seqD, e]; exact h
theorem s_maxI (h : Q (.int (if b > a then b else a)) G) : maxD [.int a, .int b] G Q := h
instance i_s_maxI  : WStp (maxD [.int a, .int b] G Q) (Q (.int (if b > a then b else a)) G) := ⟨fun h => s_maxI h⟩
theorem s_minI (h : Q (.int (if b < a then b else a)) G) : minD [.int a, .int b] G Q := h
instance i_s_minI  : WStp (minD [.int a, .int b] G Q) (Q (.int (if b < a then b else a)) G) := ⟨fun h => s_minI h⟩
theorem s_absI (h : Q (.int (if a < 0 then -a else a)) G) : absD [.int a] G Q := h
instance i_s_absI  : WStp (absD [.int a] G Q) (Q (.int (if a < 0 then -a else a)) G) := ⟨fun h => s_absI h⟩
theorem s_allL {bs : List Bool} (e : G p = some (.lst (bs.map .bl))) (h : Q (.bl (bs.all id)) G) : allD [.ref p] G Q := ⟨bs, by simp [lstD, e, blsD_map], h⟩
theorem s_app (e : G p = some (.lst xs)) (e2 : xs.length < sizeLine) (h : Q .non (up G p (.lst (xs ++ [d])))) : appendD (.ref p) [d] G Q := ⟨xs, e, e2, h⟩
theorem s_ins (e : G p = some (.lst xs)) (e2 : xs.length < sizeLine) (e3 : 0 ≤ a ∧ a < 2 ^ 62) (h : Q .non (up G p (.lst (xs.take a.toNat ++ d :: xs.drop a.toNat)))) : insertD (.ref p) [.int a, d] G Q := ⟨xs, e, e2, e3.1, by omega, h⟩
theorem s_clr (e : G p = some (.lst xs)) (h : Q .non (up G p (.lst []))) : clearD (.ref p) [] G Q := ⟨xs, e, h⟩
theorem s_isi {tn nm : String} (e : tyN x G = some tn) (e2 : nm ∈ tys) (h : Q (.bl (isiB tn nm)) G) : isinstD [x, .ty nm] G Q := by simp only [isinstD, e]; exact ⟨e2, h⟩
theorem s_isNN (h : Q (.bl true) G) : isD false .non .non G Q := h
instance i_s_isNN  : WStp (isD false .non .non G Q) (Q (.bl true) G) := ⟨fun h => s_isNN h⟩
theorem s_isnNN (h : Q (.bl false) G) : isD true .non .non G Q := h
instance i_s_isnNN  : WStp (isD true .non .non G Q) (Q (.bl false) G) := ⟨fun h => s_isnNN h⟩
theorem s_isIN (h : Q (.bl false) G) : isD false (.int a) .non G Q := h
instance i_s_isIN  : WStp (isD false (.int a) .non G Q) (Q (.bl false) G) := ⟨fun h => s_isIN h⟩
theorem s_isnIN (h : Q (.bl true) G) : isD true (.int a) .non G Q := h
instance i_s_isnIN  : WStp (isD true (.int a) .non G Q) (Q (.bl true) G) := ⟨fun h => s_isnIN h⟩
theorem br_t {A B : Prop} (h : A) : br true A B := by unfold br; rw [if_pos rfl]; exact h
instance i_br_t {A B : Prop} : WStp (br true A B) (A) := ⟨fun h => br_t h⟩
theorem br_f {A B : Prop} (h : B) : br false A B := by unfold br; rw [if_neg (by decide)]; exact h
instance i_br_f {A B : Prop} : WStp (br false A B) (B) := ⟨fun h => br_f h⟩
theorem br_dec {c A B : Prop} [Decidable c] (h1 : c → A) (h2 : ¬ c → B) : br (decide c) A B := by
  by_cases h : c
  · rw [decide_eq_true h]; exact br_t (h1 h)
  · rw [decide_eq_false h]; exact br_f (h2 h)
theorem br_neg {c A B : Prop} [Decidable c] (hc : ¬ c) (h : B) : br (decide c) A B := by rw [decide_eq_false hc]; exact br_f h
theorem br_tt {k : Bool} {A B : Prop} (e : k = true) (h : A) : br k A B := e ▸ br_t h
theorem br_ff {k : Bool} {A B : Prop} (e : k = false) (h : B) : br k A B := e ▸ br_f h
theorem br_bool {k : Bool} {A B : Prop} (h1 : k = true → A) (h2 : k = false → B) : br k A B := by
  cases k with
  | true => exact br_t (h1 rfl)
  | false => exact br_f (h2 rfl)
theorem up_nx {o o' : O} (e : q ≠ p) (h : G q = some o') : up G p o q = some o' := by rw [up_ne e]; exact h
theorem le_new {G' : DG} {o : O} (h : G p = none) (l : Le G G') : Le G (up G' p o) := fun b ob e => up_nx (gne e h) (l b ob e)
theorem up_free {o : O} (h : up G p o q = none) : G q = none := by
  by_cases e : q = p
  · subst e
    rw [up_same] at h
    cases h
  · rw [up_ne e] at h
    exact h
def LeX (xs : List Addr) (G G' : DG) : Prop := ∀ b ob, b ∉ xs → G b = some ob → G' b = some ob
theorem LeX.le {G' : DG} (h : LeX [] G G') : Le G G' := fun b ob e => h b ob (by simp) e
theorem lex_refl {ws : List Addr} : LeX ws G G := fun _ _ _ e => e
theorem lex_put {ws : List Addr} {G' : DG} {o : O} (h : G' p = some o) (l : LeX (p :: ws) G G') : LeX ws (up G p o) G' := fun b ob hb e => by
  by_cases h1 : b = p
  · subst h1
    rw [up_same] at e
    rw [h]
    exact e
  · rw [up_ne h1] at e
    exact l b ob (by simp [h1, hb]) e
theorem lex_mem {ws : List Addr} {G' : DG} {o : O} (h : p ∈ ws) (l : LeX ws G G') : LeX ws G (up G' p o) := fun b ob hb e => by
  rw [up_ne (show b ≠ p from fun z => hb (by rw [z]; exact h))]
  exact l b ob hb e
theorem lex_new {ws : List Addr} {G' : DG} {o : O} (h : G p = none) (l : LeX ws G G') : LeX ws G (up G' p o) := fun b ob hb e => by
  rw [up_ne (gne e h)]
  exact l b ob hb e
theorem szL {n : Nat} (h : n ≤ 100000) : n ≤ sizeLine := Nat.le_trans h (by decide)
theorem szLt {n : Nat} (h : n < 100000) : n < sizeLine := Nat.lt_of_lt_of_le h (by decide)
end
/-! ### loops -/
theorem loop_inv {g : DTg} {tb : DS} {ok : DG → Prop} {nx bk ct : DSt → DG → Prop} {rt : DK} {xs : List D} {σ : DSt} {G : DG} (Pv : Nat → DSt → DG → Prop) (h0 : Pv 0 σ G) (hok : ∀ i σ G, i ≤ xs.length → Pv i σ G → ok G)
    (hs : ∀ (i : Nat) (d : D) (σ : DSt) (G : DG) (N : DSt → DG → Prop), xs[i]? = some d → i < xs.length → Pv i σ G → (∀ σ' G' G0, Le G0 G' → Pv (i + 1) σ' G0 → N σ' G') → g d σ G fun σ' G' => tb ⟨N, rt, nx, N⟩ σ' G')
    (hd : ∀ σ G, Pv xs.length σ G → nx σ G) : DLoop g tb ok ⟨nx, rt, bk, ct⟩ xs σ G := by
  have q : ∀ (n i : Nat) (σ : DSt) (G : DG), n = xs.length - i → i ≤ xs.length → Pv i σ G → DLoop g tb ok ⟨nx, rt, bk, ct⟩ (xs.drop i) σ G := by
    intro n
    induction n with
    | zero =>
      intro i σ G hn hi h
      have e : i = xs.length := by omega
      subst e
      rw [List.drop_length]
      exact ⟨hok _ _ _ hi h, hd σ G h⟩
    | succ n ih =>
      intro i σ G hn hi h
      have hlt : i < xs.length := by omega
      rw [List.drop_eq_getElem_cons hlt]
      exact ⟨hok _ _ _ hi h, hs i xs[i] σ G _ (List.getElem?_eq_getElem hlt) hlt h fun σ' G' G0 l p => ⟨G0, l, ih (i + 1) σ' G0 (by omega) (by omega) p⟩⟩
  have := q _ 0 σ G rfl (Nat.zero_le _) h0
  rwa [List.drop_zero] at this
theorem rangeD_get {lo hi : Int} {i : Nat} {d : D} (h : (rangeD lo hi)[i]? = some d) : d = .int (lo + i) ∧ (i : Int) < hi - lo := by
  have hl := (List.getElem?_eq_some_iff.mp h).1
  rw [rangeD_length] at hl
  unfold rangeD at h
  rw [List.getElem?_map, List.getElem?_range hl] at h
  cases h
  exact ⟨rfl, by omega⟩
theorem rangeD_get0 {n : Int} {i : Nat} {d : D} (h : (rangeD 0 n)[i]? = some d) : d = .int (i : Nat) ∧ (i : Int) < n := by
  obtain ⟨h1, h2⟩ := rangeD_get h
  exact ⟨by rw [h1]; simp, by omega⟩
/-- a comprehension whose parts leave the heap as it is: a filter and a map over the items -/
theorem comp_pure {α : Type} {bd : D → DSt → Option DSt} {vs : List Nat} {tt : DTt} {te : DE} {ok : DG → Prop} {p : Addr} {σ : DSt} {Q : DK} {G : DG} (xs : List α) (enc : α → D) (keep : α → Bool) (f : α → D) (hlen : xs.length < 100000) (hp : G p = none)
    (hok : ∀ o, ok (up G p o))
    (hs : ∀ x ∈ xs, ∀ o, ∃ σ', bd (enc x) (dwipe σ vs) = some σ' ∧ (∀ QB : Bool → DG → Prop, QB (keep x) (up G p o) → tt σ' (up G p o) QB) ∧ (keep x = true → ∀ QD : DK, QD (f x) (up G p o) → te σ' (up G p o) QD))
    (h : Q (.ref p) (up G p (.lst ((xs.filter keep).map f)))) : DComp bd vs tt te ok p σ Q (xs.map enc) (up G p (.lst [])) := by
  have q : ∀ (r l : List α), xs = l ++ r → DComp bd vs tt te ok p σ Q (r.map enc) (up G p (.lst ((l.filter keep).map f))) := by
    intro r
    induction r with
    | nil =>
      intro l e
      rw [List.append_nil] at e
      subst e
      exact ⟨hok _, h⟩
    | cons x r ih =>
      intro l e
      obtain ⟨σ', h1, h2, h3⟩ := hs x (by rw [e]; simp) (.lst ((l.filter keep).map f))
      refine ⟨hok _, ?_⟩
      rw [h1]
      have e2 : xs = (l ++ [x]) ++ r := by rw [e]; simp
      have nx := ih (l ++ [x]) e2
      refine h2 _ ?_
      cases hk : keep x with
      | false =>
        refine ⟨_, .refl _, ?_⟩
        rw [List.filter_append] at nx
        simpa [hk] using nx
      | true =>
        refine h3 hk _ ⟨_, up_same, ?_, _, .refl _, ?_⟩
        · refine szLt ?_
          rw [List.length_map]
          have a1 := List.length_filter_le keep l
          have a2 : l.length ≤ xs.length := by rw [e]; simp
          omega
        · rw [up_up]
          rw [List.filter_append] at nx
          simpa [hk] using nx
  exact q xs [] rfl
theorem cutD_upto {xs : List D} {n : Nat} : cutD xs none (some (n : Int)) = xs.take n := by
  unfold cutD
  rw [HT.sIx_none, HT.sIx_nat]
  simp only [List.drop_zero, Nat.sub_zero]
  by_cases h : n ≤ xs.length
  · rw [Nat.min_eq_left h]
  · rw [Nat.min_eq_right (by omega), List.take_length, List.take_of_length_le (by omega)]
theorem cutD_from {xs : List D} {n : Nat} : cutD xs (some (n : Int)) none = xs.drop n := by
  unfold cutD
  rw [HT.sIx_none, HT.sIx_nat]
  by_cases h : n ≤ xs.length
  · rw [Nat.min_eq_left h]
    exact List.take_of_length_le (by simp)
  · rw [Nat.min_eq_right (by omega), List.drop_eq_nil_of_le (Nat.le_refl _), List.drop_eq_nil_of_le (by omega), List.take_nil]
/-- a comprehension without a test, by an invariant over the heap -/
theorem comp_inv {bd : D → DSt → Option DSt} {vs : List Nat} {te : DE} {ok : DG → Prop} {p : Addr} {σ : DSt} {Q : DK} {xs : List D} {G : DG} (Pv : Nat → DG → Prop) (h0 : Pv 0 G) (hok : ∀ i G, i ≤ xs.length → Pv i G → ok G)
    (hs : ∀ (i : Nat) (d : D) (G : DG), xs[i]? = some d → i < xs.length → Pv i G → ∃ σ', bd d (dwipe σ vs) = some σ' ∧ ∀ N : DG → Prop, (∀ G' G0, Le G0 G' → Pv (i + 1) G0 → N G') → te σ' G fun y G4 => ∃ acc, G4 p = some (.lst acc) ∧ acc.length < sizeLine ∧ N (up G4 p (.lst (acc ++ [y]))))
    (hd : ∀ G, Pv xs.length G → Q (.ref p) G) : DComp bd vs dYes te ok p σ Q xs G := by
  have q : ∀ (n i : Nat) (G : DG), n = xs.length - i → i ≤ xs.length → Pv i G → DComp bd vs dYes te ok p σ Q (xs.drop i) G := by
    intro n
    induction n with
    | zero =>
      intro i G hn hi h
      have e : i = xs.length := by omega
      subst e
      rw [List.drop_length]
      exact ⟨hok _ _ hi h, hd G h⟩
    | succ n ih =>
      intro i G hn hi h
      have hlt : i < xs.length := by omega
      rw [List.drop_eq_getElem_cons hlt]
      obtain ⟨σ', h1, h2⟩ := hs i xs[i] G (List.getElem?_eq_getElem hlt) hlt h
      refine ⟨hok _ _ hi h, ?_⟩
      rw [h1]
      exact h2 (fun G' => ∃ G0, Le G0 G' ∧ DComp bd vs dYes te ok p σ Q (xs.drop (i + 1)) G0) fun G' G0 l p => ⟨G0, l, ih (i + 1) G0 (by omega) (by omega) p⟩
  have := q _ 0 G rfl (Nat.zero_le _) h0
  rwa [List.drop_zero] at this
end FD

namespace FD
open PySem L2
theorem s_isiL {G : DG} {Q : DK} {p : Addr} {xs : List D} {nm : String} (e : G p = some (.lst xs)) (e2 : nm ∈ tys) (h : Q (.bl (isiB "list" nm)) G) : isinstD [.ref p, .ty nm] G Q := s_isi (tn := "list") (by simp [tyN, e]) e2 h
/-! ### what can be shown -/
structure Okd (b : Nat) (d : PyData) : Prop where
  s : d.showable = true
  l : d.leavesShort 13 = true
  w : d.bulk ≤ b
theorem Okd.mono {b c : Nat} {d : PyData} (h : Okd b d) (l : b ≤ c) : Okd c d := ⟨h.s, h.l, Nat.le_trans h.w l⟩
theorem Okd.rep {b : Nat} {d : PyData} (h : Okd b d) (hb : b ≤ 2 ^ 20) : RepOk d := ⟨h.s, PyData.shown_fits_bulk (B := 13) (by decide) (by decide) h.l (Nat.le_trans h.w hb)⟩
theorem pyAll_map {α : Type} {f : D → Option PyData} {enc : α → D} {encP : α → PyData} : ∀ {xs : List α}, (∀ x ∈ xs, f (enc x) = some (encP x)) → pyAll f (xs.map enc) = some (xs.map encP)
  | [], _ => rfl
  | x :: xs, h => by
    rw [List.map_cons, List.map_cons]
    unfold pyAll
    rw [h x (by simp), pyAll_map fun y hy => h y (by simp [hy])]
theorem pyD_ref {n : Nat} {G : DG} {p : Addr} {xs : List D} {ps : List PyData} (h : G p = some (.lst xs)) (e : pyAll (pyD n G) xs = some ps) : pyD (n + 1) G (.ref p) = some (.list ps) := by
  simp only [pyD, h, e, Option.map_some]
theorem pyD_tup {n : Nat} {G : DG} {xs : List D} {ps : List PyData} (e : pyAll (pyD n G) xs = some ps) : pyD (n + 1) G (.tup xs) = some (.tuple ps) := by
  simp only [pyD, e, Option.map_some]
theorem pyD_int {n : Nat} {G : DG} {i : Int} : pyD n G (.int i) = some (.int i) := by cases n <;> rfl
theorem pyD_bl {n : Nat} {G : DG} {i : Bool} : pyD n G (.bl i) = some (.bool i) := by cases n <;> rfl
theorem pyD_non {n : Nat} {G : DG} : pyD n G .non = some .none := by cases n <;> rfl
theorem pyAll_nil {f : D → Option PyData} : pyAll f [] = some [] := rfl
theorem pyAll_c {f : D → Option PyData} {x : D} {xs : List D} {p : PyData} {ps : List PyData} (h : f x = some p) (h2 : pyAll f xs = some ps) : pyAll f (x :: xs) = some (p :: ps) := by
  unfold pyAll
  rw [h, h2]
/-! ### closed data: looked for, compared -/
structure EncOk {α : Type} [DecidableEq α] (enc : α → D) (encP : α → PyData) : Prop where
  py : ∀ (n : Nat) (G : DG) (x : α), pyD (n + 4) G (enc x) = some (encP x)
  eq : ∀ x y : α, PyData.eqv (encP x) (encP y) = decide (x = y)
theorem EncOk.any {α : Type} [DecidableEq α] {enc : α → D} {encP : α → PyData} (h : EncOk enc encP) (x : α) : ∀ xs : List α, ((xs.map encP).any fun z => PyData.eqv z (encP x)) = decide (x ∈ xs)
  | [] => by simp
  | y :: ys => by
    rw [List.map_cons, List.any_cons, h.any x ys, h.eq]
    by_cases e : y = x
    · subst e
      simp
    · simp [e, Ne.symm e]
theorem EncOk.all {α : Type} [DecidableEq α] {enc : α → D} {encP : α → PyData} (h : EncOk enc encP) : ∀ xs ys : List α, PyData.eqvAll (xs.map encP) (ys.map encP) = decide (xs = ys)
  | [], [] => by simp [PyData.eqvAll]
  | [], _ :: _ => by simp [PyData.eqvAll]
  | _ :: _, [] => by simp [PyData.eqvAll]
  | x :: xs, y :: ys => by
    rw [List.map_cons, List.map_cons, PyData.eqvAll, h.eq, h.all xs ys]
    by_cases e : x = y <;> by_cases e2 : xs = ys <;> simp [e, e2]
theorem EncOk.pyRef {α : Type} [DecidableEq α] {enc : α → D} {encP : α → PyData} (h : EncOk enc encP) {n : Nat} {G : DG} {p : Addr} {xs : List α} (e : G p = some (.lst (xs.map enc))) : pyD (n + 5) G (.ref p) = some (.list (xs.map encP)) := pyD_ref e (pyAll_map fun x _ => h.py n G x)
section
variable {α : Type} [DecidableEq α] {enc : α → D} {encP : α → PyData} {G : DG} {Q : DK} {p q : Addr} {xs ys : List α} {x y : α}
theorem s_inE (h : EncOk enc encP) (e : G p = some (.lst (xs.map enc))) (k : Q (.bl (decide (x ∈ xs))) G) : inD false (enc x) (.ref p) G Q := by
  unfold inD
  rw [h.py 5, h.pyRef (n := 4) e]
  simp only [Option.bind_some, items?, h.any]
  exact k
theorem s_ninE (h : EncOk enc encP) (e : G p = some (.lst (xs.map enc))) (k : Q (.bl (!decide (x ∈ xs))) G) : inD true (enc x) (.ref p) G Q := by
  unfold inD
  rw [h.py 5, h.pyRef (n := 4) e]
  simp only [Option.bind_some, items?, h.any]
  exact k
theorem s_eqLE (h : EncOk enc encP) (e : G p = some (.lst (xs.map enc))) (e2 : G q = some (.lst (ys.map enc))) (k : Q (.bl (decide (xs = ys))) G) : eqD (.ref p) (.ref q) G Q := by
  show py2 _ _ G _
  unfold py2
  rw [h.pyRef (n := 4) e, h.pyRef (n := 4) e2]
  simp only [PyData.eqv, h.all]
  exact k
theorem s_neLE (h : EncOk enc encP) (e : G p = some (.lst (xs.map enc))) (e2 : G q = some (.lst (ys.map enc))) (k : Q (.bl (!decide (xs = ys))) G) : neD (.ref p) (.ref q) G Q := by
  show py2 _ _ G _
  unfold py2
  rw [h.pyRef (n := 4) e, h.pyRef (n := 4) e2]
  simp only [PyData.eqv, h.all]
  exact k
theorem s_eqNI {a : Int} (k : Q (.bl false) G) : eqD .non (.int a) G Q := k
instance i_s_eqNI {a : Int} : WStp (eqD .non (.int a) G Q) (Q (.bl false) G) := ⟨fun h => s_eqNI h⟩
end
abbrev encN (n : Nat) : D := .int n
abbrev shN (n : Nat) : PyData := .int n
theorem ok_N : EncOk encN shN := ⟨fun n G x => pyD_int, fun x y => by
  simp only [PyData.eqv]
  by_cases h : x = y
  · simp [h]
  · simp [h]; omega⟩
abbrev encNN (p : Nat × Nat) : D := .tup [.int p.1, .int p.2]
abbrev showNN (p : Nat × Nat) : PyData := .tuple [.int p.1, .int p.2]
theorem ok_NN : EncOk encNN showNN := ⟨fun n G x => pyD_tup (pyAll_c pyD_int (pyAll_c pyD_int pyAll_nil)), fun x y => by
  simp only [PyData.eqv, PyData.eqvAll, Bool.and_true]
  obtain ⟨a, b⟩ := x
  obtain ⟨c, d⟩ := y
  simp only [Prod.mk.injEq]
  by_cases h : a = c <;> by_cases h2 : b = d <;> simp [h, h2] <;> omega⟩
/-! ### defs that call themselves -/
end FD

/-! ### enumerate of a tuple -/
namespace FD
open PySem
theorem newEnumT {v : Value} {o : Obj} {Hs : Heap → Prop} (B : Begins v o Hs) : Meets (Builtin.«enumerate.__new__» ⟨[.type "enumerate", v], []⟩) (fun _ R s => Hs s.heap ∧
      R (.ok (.ret (.ref (s.heap.push o).objs.size))) { s with heap := (s.heap.push o).push { cls := .type "enumerate", data := .fields #[.none, .bool false, .ref s.heap.objs.size, rawInt 0, .none, .none] } }) := by
  refine .of_wp fun prog w A R s h => ?_
  obtain ⟨hp, gg, dd, tk, os⟩ := s
  obtain ⟨h1, h⟩ := h
  have hsub := sub_enumerate
  have fresh : ∀ {A' : Around} {E : Value → Shared → Prop} {Q : Value → Shared → Prop}, Q (.ref hp.objs.size) ⟨hp.push o, gg, dd, tk, os⟩ → wpAny (model prog w) A' (pyIter v) Q E ⟨hp, gg, dd, tk, os⟩ := fun q => B.iter prog w _ _ ⟨hp, gg, dd, tk, os⟩ _ h1 q
  wp_walk using fresh
  refine wpAny_stack_any fun st => wpAny_pure ?_
  split
  · rename_i c _ _ _ _ _
    cases (c == Value.type "enumerate") <;> (wp_walk using fresh; exact ⟨_, rfl, h⟩)
  · wp_walk using fresh
    exact ⟨_, rfl, h⟩
theorem callEnumT {prog : Program} {w : World} {A : Around} {E : Value → Shared → Prop} {s : Shared} {v : Value} {o : Obj} {Hs : Heap → Prop} {Q : Value → Shared → Prop} (B : Begins v o Hs) (h1 : Hs s.heap)
    (h : ∀ h', IsEnum h' (s.heap.objs.size + 1) s.heap.objs.size 0 .none → h'.get? s.heap.objs.size = some o → (∀ b u, s.heap.get? b = some u → h'.get? b = some u) → Q (.ref (s.heap.objs.size + 1)) { s with heap := h' }) :
    wpAny (model prog w) A (call (.type "enumerate") [v]) Q E s := by
  refine callType_new F.called_enumerate (by decide) (F.typeCall_enumerate_1 _) (F.newCall_enumerate_1 _) (fun obj => F.args_object_init_2 obj _) F.entry_enumerate_new (newEnumT B) ⟨h1, ?_⟩
  have hz : (s.heap.push o).objs.size = s.heap.objs.size + 1 := Heap.size_push ..
  show _ ∧ _
  rw [hz]
  have he : IsEnum ((s.heap.push o).push { cls := .type "enumerate", data := .fields #[.none, .bool false, .ref s.heap.objs.size, rawInt 0, .none, .none] }) (s.heap.objs.size + 1) s.heap.objs.size 0 .none := by
    have q := Heap.get?_push_size (s.heap.push o) (o := { cls := .type "enumerate", data := .fields #[.none, .bool false, .ref s.heap.objs.size, rawInt 0, .none, .none] }) rfl
    rw [hz] at q
    exact q
  exact ⟨⟨_, he, rfl⟩, h _ he (Heap.get?_push_of_some _ (Heap.get?_push_size _ B.free)) fun b u x => Heap.get?_push_of_some _ (Heap.get?_push_of_some _ x)⟩
open L2
/-- the tuple at a, each item in a new pair -/
def ItEt (K : PySem.W.Frag) (a : Addr) : It :=
  ⟨fun i H => ∃ (xs : List V) (x : V), SqT K H a xs ∧ xs[i]? = some x, fun i H v H' => ∃ T x, v = .ref T ∧ H T = none ∧ H' = upd H T (.tup [.int (i : Nat), x]) ∧ ∀ xs, SqT K H a xs → xs[i]? = some x, fun i H => ∃ xs : List V, SqT K H a xs ∧ xs.length ≤ i⟩
theorem turn_enT {P : Program} {w : World} {K : PySem.W.Frag} {elts : List Expr} {kk : Nat} {tpos : Pos} (a e it : Addr) (hai : a ≠ it) (hae : a ≠ e) :
    Turn P w K (.Tuple elts kk tpos) (ItEt K a) [e, it] e (fun i h => (∃ old, IsEnum h e it ((i : Nat) : Int) old) ∧ h.IsTupleIter it a i ∧ e ≠ it) := by
  refine ⟨by simp, fun i h st b hb => ?_, fun i h h' st k => ?_, ?_, ?_, fun A i s Q E st h => let ⟨⟨_, he⟩, _⟩ := st; wpAny_pyIter_enum he h⟩
  · obtain ⟨⟨old, he⟩, ⟨o, ho, hc, hd⟩, _⟩ := st
    rcases (show b = e ∨ b = it by simpa using hb) with z | z
    · subst z
      exact ⟨_, he, fun v q => nomatch q⟩
    · subst z
      exact ⟨o, ho, fun v q => by rw [hd] at q; cases q⟩
  · obtain ⟨⟨old, he⟩, hi, hne⟩ := st
    exact ⟨⟨old, k e (by simp) _ he⟩, hi.at fun o q => k it (by simp) o q, hne⟩
  · intro X hP hw hK hc i pins s σ H E I hf st hg
    subst hP hw hK
    obtain ⟨⟨old, he⟩, hit, hne⟩ := st
    obtain ⟨xs, x, hq, hx⟩ := hg
    obtain ⟨its, rv, p, hz⟩ := I.tuple hq
    obtain ⟨u, hu, ru⟩ := rv.get hx
    have hel : e < s.heap.objs.size := Heap.lt_size he
    have hil : it < s.heap.objs.size := by obtain ⟨_, q, _⟩ := hit; exact Heap.lt_size q
    have hlen : i < its.toArray.size := by
      have := (List.getElem?_eq_some_iff.mp hu).1
      simpa using this
    refine wpAny_pyNext_enum_itemD (Draws.tuple (prog := X.prog) (w := X.w) (A := X.A.in1) (I.ok.hd hc) it a hai its.toArray) he ⟨hit, p⟩ hlen hne (by simp [hne, Ne.symm hae]) fun y h' tk hy ho hit' hT hsz hk => ?_
    have ey : y = u := by
      have h1 : its[i]? = some y := by simpa using hy
      rw [hu] at h1
      exact (Option.some.inj h1).symm
    subst ey
    refine ⟨_, rfl, wpAny_letOwnedTupleGo_enum (s := { s with heap := h', toks := tk + 1 }) ho fun h'' he' sb => ?_⟩
    have hT2 : h''.get? s.heap.objs.size = some { cls := .type "tuple", data := .seq #[.int i tk, y] } := (sb.2 _ (Nat.ne_of_gt hel)).trans hT
    have new : ObjOk X.prog X.w (upd H s.heap.objs.size (.tup [.int (i : Nat), x])) h'' s.heap.objs.size (.tup [.int (i : Nat), x]) :=
      ⟨by show 2 ≤ sizeLine; decide, [.int i tk, y], .cons ⟨_, rfl⟩ (.cons ru .nil), ⟨_, hT2, rfl, _, rfl⟩⟩
    have I1 : Inv X pins σ (upd H s.heap.objs.size (.tup [.int (i : Nat), x])) { s with heap := h'', toks := tk + 1 } :=
      I.turnedNew (ch := [e, it]) (fun b ob hb q => (sb.2 b (fun z => hb (by simp [z]))).trans (hk b ob (fun z => hb (by simp [z])) (fun z => hb (by simp [z])) q)) hf (Nat.le_refl _) new
    refine ⟨.ref s.heap.objs.size, _, I1, rfl, ⟨_, x, rfl, I.hok.fresh (Nat.le_refl _), rfl, fun ys hy => by rw [I.tuple_inj hy hq]; exact hx⟩, ⟨⟨y, ?_⟩, hit'.1.at fun o q => (sb.2 it (Ne.symm hne)).trans q, hne⟩, fun b hb => ?_⟩
    · rw [show ((i + 1 : Nat) : Int) = (i : Int) + 1 by omega]
      exact he'
    · have hb' : b < s.heap.objs.size := by
        rcases (show b = e ∨ b = it by simpa using hb) with z | z
        · rw [z]
          exact hel
        · rw [z]
          exact hil
      rw [upd_ne (Nat.ne_of_lt hb')]
      exact (hf b hb).1
  · intro X hP hw hK hc i pins s σ H E I hf st hg
    subst hP hw hK
    obtain ⟨⟨old, he⟩, hit, hne⟩ := st
    obtain ⟨xs, hq, hx⟩ := hg
    obtain ⟨its, rv, p, hz⟩ := I.tuple hq
    obtain ⟨f0, f1, f2, f3, f4, f5⟩ := hf it (by simp)
    have hl := rv.length
    have D2 : Draws X.prog X.w X.A.in1 it [it, a] i (fun _ _ => True) (fun k h => k = i ∧ h.IsTupleIter it a i ∧ h.IsTuple a its.toArray) :=
      ⟨fun _ _ st => let ⟨o, ho, _⟩ := st.2.1; ⟨o, ho⟩, fun _ _ _ st hk => ⟨st.1, st.2.1.at fun o e => hk it (by simp) o e, st.2.2.at fun o e => hk a (by simp) o e⟩, fun k s Q E hk st _ => absurd st.1 (Nat.ne_of_lt hk), fun s Q E st hE => wpAny_nextOf_tuple_end (I.ok.hd hc) st.2.1 st.2.2 (by simp; omega) hE⟩
    exact wpAny_pyNext_enum_endD D2 he ⟨rfl, hit, p⟩ fun h' eb => ⟨rfl, I.turned (t' := s.toks) (fun b o hb q => eb b o hb q) f0 f1 f3 f4 f5⟩
/-- enumerate of a list or a tuple -/
def iEnV (K : PySem.W.Frag) (ta : TA) : TI := fun σ H R => ta σ H fun vs H1 => ∃ a, vs = [.ref a] ∧ ((∃ xs, SqL K H1 a xs ∧ R (Ite K a) H1) ∨ ∃ xs, SqT K H1 a xs ∧ R (ItEt K a) H1)
theorem pi_enV {X : Cx} {e : Expr} {ta : TA} {p pos tpos : Pos} {elts : List Expr} {kk : Nat} (hg : Gl X "enumerate") (hm : X.mg "enumerate" = none) (ha : PA X [e] ta) (hs : starEach [e] X.env = [(false, eval e X.env)] := by rfl) :
    PI X (.Tuple elts kk tpos) (.Call (.Name "enumerate" p) [e] [] pos) (iEnV X.K ta) := by
  refine ⟨fun pins s σ H R I h => ?_⟩
  refine PyProof.Rows.Call_ (ld_blt I hg hm PyProof.Rows.boot_enumerate (PyProof.Rows.callWith_type1 (thn (ha.run pos pins s σ H _ I h) fun us s1 ⟨vs, H1, I1, r1, q1⟩ => ?_) hs rfl))
  obtain ⟨a, ex, q⟩ := q1
  subst ex
  cases r1 with
  | cons r rr =>
    cases rr
    cases r
    have two : ∀ b ∈ [s1.heap.objs.size + 1, s1.heap.objs.size], s1.heap.objs.size ≤ b := fun b hb => by
      rcases (show b = s1.heap.objs.size + 1 ∨ b = s1.heap.objs.size by simpa using hb) with z | z
      · rw [z]
        exact Nat.le_add_right _ _
      · rw [z]
        exact Nat.le_refl _
    rcases q with ⟨xs, hq, q⟩ | ⟨xs, hq, q⟩
    · obtain ⟨its, rv, p', hz⟩ := I1.list hq
      refine callEnumT (begins_list a its.toArray) p'.isList fun h' he hit hk => wpAny_pyIter_enum he ?_
      exact ⟨s1.heap.objs.size + 1, [s1.heap.objs.size + 1, s1.heap.objs.size], _, _, H1, rfl, I1.kept (t' := s1.toks) hk, turn_enum a (s1.heap.objs.size + 1) s1.heap.objs.size, ⟨⟨.none, he⟩, ⟨_, hit, rfl, rfl⟩, Nat.succ_ne_self _⟩, fun b hb => I1.fpOk (two b hb) (I1.hok.fresh (two b hb)), q⟩
    · obtain ⟨its, rv, p', hz⟩ := I1.tuple hq
      have hlt : a < s1.heap.objs.size := by obtain ⟨_, z, _⟩ := p'; exact Heap.lt_size z
      refine callEnumT (begins_tuple a its.toArray) p' fun h' he hit hk => wpAny_pyIter_enum he ?_
      exact ⟨s1.heap.objs.size + 1, [s1.heap.objs.size + 1, s1.heap.objs.size], _, _, H1, rfl, I1.kept (t' := s1.toks) hk, turn_enT a (s1.heap.objs.size + 1) s1.heap.objs.size (Nat.ne_of_lt hlt) (Nat.ne_of_lt (Nat.lt_succ_of_lt hlt)), ⟨⟨.none, he⟩, ⟨_, hit, rfl, rfl⟩, Nat.succ_ne_self _⟩, fun b hb => I1.fpOk (two b hb) (I1.hok.fresh (two b hb)), q⟩
def enumD (xs : List D) : List D := xs.zipIdx.map fun p => D.tpl [.int p.2, p.1]
theorem enumD_get {xs : List D} {i : Nat} {d : D} (h : (enumD xs)[i]? = some d) : ∃ x, xs[i]? = some x ∧ d = .tpl [.int i, x] := by
  unfold enumD at h
  rw [List.getElem?_map, List.getElem?_zipIdx] at h
  cases e : xs[i]? with
  | none => rw [e] at h; cases h
  | some x =>
    rw [e] at h
    cases h
    exact ⟨x, rfl, by simp⟩
theorem enumD_length {xs : List D} : (enumD xs).length = xs.length := by simp [enumD]
def diEnumerate (t : DA) : DI := fun σ G R => t σ G fun xs G1 => match xs with
  | [.tup ys] => R (enumD ys) (fun _ => True) G1
  | [.lis ys] => R (enumD ys) (fun _ => True) G1
  | [.ref p] => match G1 p with
    | some (.lst ys) => R (enumD ys) (fun G' => G' p = some (.lst ys)) G1
    | _ => False
  | _ => False
theorem pair_rd {K : PySem.W.Frag} {H : Hp} {T : Addr} {i : Nat} {x : V} {d : D} (hT : H T = none) (r : RD K H d x) : RD K (upd H T (.tup [.int (i : Nat), x])) (.tpl [.int i, d]) (.ref T) := by
  refine .tpl (vs := [.int (i : Nat), x]) (.inl (.inl (upd_same ..))) rfl fun k y v hy hv => ?_
  match k with
  | 0 => cases hy; cases hv; exact .int _
  | 1 => cases hy; cases hv; exact r.kt (.upd_new hT)
  | k + 2 => cases hy
theorem itOk_enL {K : PySem.W.Frag} {H1 : Hp} {p : Addr} {xs : List D} {ok : DG → Prop} (h : ∀ G' H', KT K H1 H' → MH K G' H' → ok G' → ∃ vs, SqL K H' p vs ∧ RDs K H' xs vs) : ItOk K H1 (Ite K p) (enumD xs) ok := fun i H' G' k m o => by
  obtain ⟨vs, hq, r⟩ := h G' H' k m o
  refine ⟨fun d hd => ?_, fun hl => ⟨vs, hq, by rw [← r.1, ← enumD_length]; exact hl⟩⟩
  obtain ⟨x, hx, rfl⟩ := enumD_get hd
  obtain ⟨v, h1, h2⟩ := r.get hx
  refine ⟨⟨vs, v, hq, h1⟩, fun y H'' z => ?_⟩
  obtain ⟨T, w, rfl, hT, rfl, e⟩ := z
  have e := e vs hq
  rw [h1] at e
  cases e
  exact ⟨m.new (.upd_new hT) (m.fresh hT), .upd_new hT, pair_rd hT h2⟩
theorem itOk_enT {K : PySem.W.Frag} {H1 : Hp} {p : Addr} {xs : List D} {ok : DG → Prop} (h : ∀ G' H', KT K H1 H' → MH K G' H' → ok G' → ∃ vs, SqT K H' p vs ∧ RDs K H' xs vs) : ItOk K H1 (ItEt K p) (enumD xs) ok := fun i H' G' k m o => by
  obtain ⟨vs, hq, r⟩ := h G' H' k m o
  refine ⟨fun d hd => ?_, fun hl => ⟨vs, hq, by rw [← r.1, ← enumD_length]; exact hl⟩⟩
  obtain ⟨x, hx, rfl⟩ := enumD_get hd
  obtain ⟨v, h1, h2⟩ := r.get hx
  refine ⟨⟨vs, v, hq, h1⟩, fun y H'' z => ?_⟩
  obtain ⟨T, w, rfl, hT, rfl, e⟩ := z
  have e := e vs hq
  rw [h1] at e
  cases e
  exact ⟨m.new (.upd_new hT) (m.fresh hT), .upd_new hT, pair_rd hT h2⟩
theorem di_enumerate {X : Cx} {e : Expr} {t : DA} {p pos tpos : Pos} {elts : List Expr} {kk : Nat} (hg : Gl X "enumerate") (hm : X.mg "enumerate" = none) (ha : DPA X [e] t) (hs : starEach [e] X.env = [(false, eval e X.env)] := by rfl) :
    DPI X (.Tuple elts kk tpos) (.Call (.Name "enumerate" p) [e] [] pos) (diEnumerate t) := by
  obtain ⟨ma, tta, pa, ra⟩ := ha
  refine ⟨fun σ G R R' h q => ma σ G _ _ (fun xs G1 z => ?_) q, _, pi_enV hg hm pa hs, fun σ H σd G R m s h => ra σ H σd G _ m s (ma _ _ _ _ (fun ds G1 z vs H1 m1 r1 k1 => ?_) h)⟩
  · split at z
    · exact h _ _ _ z
    · exact h _ _ _ z
    · split at z <;> first | exact h _ _ _ z | exact z
    · exact z
  · split at z
    · obtain ⟨v, vs', rfl, a1, a2⟩ := r1.cons_inv
      have e := a2.nil_inv
      subst e
      cases a1 with
      | @tup p _ vs hs hl hi => exact ⟨p, rfl, .inr ⟨vs, hs.t, z _ H1 m1 k1 (itOk_enT fun G' H' k' m' o => ⟨vs, k'.sqt hs.t, RDs.kt k' ⟨hl, hi⟩⟩)⟩⟩
    · obtain ⟨v, vs', rfl, a1, a2⟩ := r1.cons_inv
      have e := a2.nil_inv
      subst e
      cases a1 with
      | @lis p _ vs hs hl hi => exact ⟨p, rfl, .inl ⟨vs, hs.l, z _ H1 m1 k1 (itOk_enL fun G' H' k' m' o => ⟨vs, (k'.sqr hs).l, RDs.kt k' ⟨hl, hi⟩⟩)⟩⟩
    · obtain ⟨v, vs', rfl, a1, a2⟩ := r1.cons_inv
      have e := a2.nil_inv
      subst e
      cases a1
      rename_i p
      split at z
      · rename_i xs e
        obtain ⟨vs, g, r⟩ := m1 _ _ e
        refine ⟨p, rfl, .inl ⟨vs, SqL.of g, z _ H1 m1 k1 (itOk_enL fun G' H' k' m' o => ?_)⟩⟩
        obtain ⟨vs', g', r'⟩ := m' _ _ o
        exact ⟨vs', SqL.of g', r'⟩
      · exact False.elim z
    · exact False.elim z
theorem rangeD0 {n : Nat} : rangeD 0 (n : Int) = (List.range n).map fun k : Nat => D.int k := by
  unfold rangeD
  simp
/-! ### int(..) of an int or a truth -/
def intOfD : FL := fun xs G Q => match xs with
  | [.int i] => Q (.int i) G
  | [.bl k] => Q (.int (if k then 1 else 0)) G
  | _ => False
theorem de_intOf {X : Cx} {e : Expr} {es : List Expr} {pos p : Pos} {t : DA} (hg : Gl X "int") (hm : X.mg "int" = none) (ha : DPA X (e :: es) t) (h1 : starEach (e :: es) X.env = (false, eval e X.env) :: starEach es X.env := by rfl) (h2 : ((backTo pos (starEach es X.env)).any fun x => x.fst) = false := by rfl) :
    DPE X (.Call (.Name "int" p) (e :: es) [] pos) (dCB intOfD t) := de_callTy call_int1
  (fun xs G Q Q' h q => by unfold intOfD at q ⊢; split at q <;> first | exact h _ _ q | exact q)
  (fun H G xs ds Q m r h => by
    unfold intOfD at h
    split at h
    · obtain ⟨v, vs', rfl, r1, r2⟩ := r.cons_inv
      have e := r2.nil_inv
      subst e
      cases r1
      exact .inl ⟨_, rfl, h _ _ m (.int _) .refl⟩
    · obtain ⟨v, vs', rfl, r1, r2⟩ := r.cons_inv
      have e := r2.nil_inv
      subst e
      cases r1
      exact .inr ⟨_, rfl, h _ _ m (.int _) .refl⟩
    · exact False.elim h) hg hm (by decide +kernel) ha (by decide) (by decide) h1 h2
theorem s_intB {G : DG} {Q : DK} {k : Bool} (h : Q (.int (if k then 1 else 0)) G) : intOfD [.bl k] G Q := h
instance i_s_intB {G : DG} {Q : DK} {k : Bool} : WStp (intOfD [.bl k] G Q) (Q (.int (if k then 1 else 0)) G) := ⟨fun h => s_intB h⟩
theorem s_intI {G : DG} {Q : DK} {k : Int} (h : Q (.int k) G) : intOfD [.int k] G Q := h
instance i_s_intI {G : DG} {Q : DK} {k : Int} : WStp (intOfD [.int k] G Q) (Q (.int k) G) := ⟨fun h => s_intI h⟩
def chB (g : F2) (y z : D) (tc : DE) (σ : DSt) (G : DG) (Q : DK) : Prop := match z with
  | .bl true => tc σ G fun w G4 => g y w G4 Q
  | .bl false => Q (.bl false) G
  | _ => False
theorem s_chain {f g : F2} {ta tb tc : DE} {σ : DSt} {G : DG} {Q : DK} (h : ta σ G fun x G1 => tb σ G1 fun y G2 => f x y G2 fun z G3 => chB g y z tc σ G3 Q) : dChain f g ta tb tc σ G Q := h
instance i_s_chain {f g : F2} {ta tb tc : DE} {σ : DSt} {G : DG} {Q : DK} : WStp (dChain f g ta tb tc σ G Q) (ta σ G fun x G1 => tb σ G1 fun y G2 => f x y G2 fun z G3 => chB g y z tc σ G3 Q) := ⟨fun h => s_chain h⟩
theorem s_chB {g : F2} {y : D} {k : Bool} {tc : DE} {σ : DSt} {G : DG} {Q : DK} (h : br k (tc σ G fun w G4 => g y w G4 Q) (Q (.bl false) G)) : chB g y (.bl k) tc σ G Q := by cases k <;> exact h
instance i_s_chB {g : F2} {y : D} {k : Bool} {tc : DE} {σ : DSt} {G : DG} {Q : DK} : WStp (chB g y (.bl k) tc σ G Q) (br k (tc σ G fun w G4 => g y w G4 Q) (Q (.bl false) G)) := ⟨fun h => s_chB h⟩
section
variable {G : DG} {Q : DK} {xs : List D} {p : Addr} {s : Str} {k : Bool}
theorem s_isTN (h : Q (.bl false) G) : isD false (.tup xs) .non G Q := h
instance i_s_isTN  : WStp (isD false (.tup xs) .non G Q) (Q (.bl false) G) := ⟨fun h => s_isTN h⟩
theorem s_isnTN (h : Q (.bl true) G) : isD true (.tup xs) .non G Q := h
instance i_s_isnTN  : WStp (isD true (.tup xs) .non G Q) (Q (.bl true) G) := ⟨fun h => s_isnTN h⟩
theorem s_isRN (h : Q (.bl false) G) : isD false (.ref p) .non G Q := h
instance i_s_isRN  : WStp (isD false (.ref p) .non G Q) (Q (.bl false) G) := ⟨fun h => s_isRN h⟩
theorem s_isnRN (h : Q (.bl true) G) : isD true (.ref p) .non G Q := h
instance i_s_isnRN  : WStp (isD true (.ref p) .non G Q) (Q (.bl true) G) := ⟨fun h => s_isnRN h⟩
end
def enB (ds : List D) (G : DG) (R : List D → (DG → Prop) → DG → Prop) : Prop := match ds with
  | [.tup ys] => R (enumD ys) (fun _ => True) G
  | [.lis ys] => R (enumD ys) (fun _ => True) G
  | [.ref p] => match G p with
    | some (.lst ys) => R (enumD ys) (fun G' => G' p = some (.lst ys)) G
    | _ => False
  | _ => False
section
variable {σ : DSt} {G : DG} {t : DA} {R : List D → (DG → Prop) → DG → Prop} {xs : List D} {p : Addr}
theorem s_enum (h : t σ G fun xs G1 => enB xs G1 R) : diEnumerate t σ G R := h
instance i_s_enum  : WStp (diEnumerate t σ G R) (t σ G fun xs G1 => enB xs G1 R) := ⟨fun h => s_enum h⟩
theorem s_enT (h : R (enumD xs) (fun _ => True) G) : enB [.tup xs] G R := h
instance i_s_enT  : WStp (enB [.tup xs] G R) (R (enumD xs) (fun _ => True) G) := ⟨fun h => s_enT h⟩
theorem s_enS (h : R (enumD xs) (fun _ => True) G) : enB [.lis xs] G R := h
instance i_s_enS  : WStp (enB [.lis xs] G R) (R (enumD xs) (fun _ => True) G) := ⟨fun h => s_enS h⟩
theorem s_enL (e : G p = some (.lst xs)) (h : R (enumD xs) (fun G' => G' p = some (.lst xs)) G) : enB [.ref p] G R := by simp only [enB, e]; exact h
end
end FD

namespace FD
open PySem L2
/-! ### more steps -/
theorem ok_Z : EncOk D.int PyData.int := ⟨fun n G x => pyD_int, fun x y => by
  simp only [PyData.eqv]
  by_cases h : x = y
  · simp [h]
  · simp [h]⟩
theorem s_neIS {G : DG} {Q : DK} {a : Int} {z : Str} (hz : PyData.strOk z = true) (k : Q (.bl true) G) : neD (.int a) (.str z) G Q := by
  show py2 _ _ G _
  unfold py2
  rw [show pyD 9 G (.int a) = some (.int a) from rfl, show pyD 9 G (.str z) = some (.str z) by simp [pyD, hz]]
  exact k
theorem le_reput {G G' : DG} {f : Addr} {o o' : O} (l : Le (up G f o) G') : Le (up G f o') (up G' f o') := fun b ob e => by
  by_cases h : b = f
  · subst h
    rw [up_same] at e ⊢
    exact e
  · rw [up_ne h] at e ⊢
    exact l b ob (by rw [up_ne h]; exact e)
end FD

namespace FD
open PySem L2
/-! ### instances of own classes -/
def FldOk (K : PySem.W.Frag) (n f : Str) : Prop := ∃ C, ClsAt K n C ∧ Cls K C ∧ NoAttr K C f
def putD (f : Str) (v : D) : List (Str × D) → List (Str × D)
  | [] => [(f, v)]
  | (g, x) :: r => if g = f then (g, v) :: r else (g, x) :: putD f v r
theorem lookup_rd {K : PySem.W.Frag} {H : Hp} {f : Str} : ∀ {fs : List (Str × D)} {fvs : List (Str × V)}, fvs.map (·.1) = fs.map (·.1) → RDs K H (fs.map (·.2)) (fvs.map (·.2)) → ∀ {d : D}, fs.lookup f = some d → ∃ v, fvs.lookup f = some v ∧ RD K H d v
  | [], fvs, _, _, d, h => by cases h
  | (g, x) :: fs, fvs, e, r, d, h => by
    cases fvs with
    | nil => simp at e
    | cons y ys =>
      obtain ⟨g', v⟩ := y
      simp only [List.map_cons, List.cons.injEq] at e
      obtain ⟨rfl, e⟩ := e
      obtain ⟨v', vs', ev, r1, r2⟩ := RDs.cons_inv (by simpa using r)
      simp only [List.map_cons, List.cons.injEq] at ev
      obtain ⟨rfl, rfl⟩ := ev
      by_cases hg : f = g'
      · subst hg
        rw [List.lookup_cons_self] at h ⊢
        cases h
        exact ⟨v, rfl, r1⟩
      · have hb : (f == g') = false := beq_eq_false_iff_ne.mpr hg
        rw [List.lookup_cons, hb] at h ⊢
        exact lookup_rd e r2 h
theorem lookup_none {f : Str} : ∀ {fs : List (Str × D)} {fvs : List (Str × V)}, fvs.map (·.1) = fs.map (·.1) → fs.lookup f = none → fvs.lookup f = none
  | [], fvs, e, _ => by
    cases fvs with
    | nil => rfl
    | cons y ys => simp at e
  | (g, x) :: fs, fvs, e, h => by
    cases fvs with
    | nil => simp at e
    | cons y ys =>
      obtain ⟨g', v⟩ := y
      simp only [List.map_cons, List.cons.injEq] at e
      obtain ⟨rfl, e⟩ := e
      by_cases hg : f = g'
      · subst hg
        rw [List.lookup_cons_self] at h
        cases h
      · have hb : (f == g') = false := beq_eq_false_iff_ne.mpr hg
        rw [List.lookup_cons, hb] at h ⊢
        exact lookup_none e h
theorem put_rd {K : PySem.W.Frag} {H : Hp} {f : Str} {d : D} {v : V} (rv : RD K H d v) : ∀ {fs : List (Str × D)} {fvs : List (Str × V)}, fvs.map (·.1) = fs.map (·.1) → RDs K H (fs.map (·.2)) (fvs.map (·.2)) → (putF f v fvs).map (·.1) = (putD f d fs).map (·.1) ∧ RDs K H ((putD f d fs).map (·.2)) ((putF f v fvs).map (·.2))
  | [], fvs, e, _ => by
    cases fvs with
    | nil => exact ⟨rfl, .cons rv .nil⟩
    | cons y ys => simp at e
  | (g, x) :: fs, fvs, e, r => by
    cases fvs with
    | nil => simp at e
    | cons y ys =>
      obtain ⟨g', u⟩ := y
      simp only [List.map_cons, List.cons.injEq] at e
      obtain ⟨rfl, e⟩ := e
      obtain ⟨v', vs', ev, r1, r2⟩ := RDs.cons_inv (by simpa using r)
      simp only [List.map_cons, List.cons.injEq] at ev
      obtain ⟨rfl, rfl⟩ := ev
      unfold putF putD
      by_cases hg : g' = f
      · rw [if_pos hg, if_pos hg]
        exact ⟨by simp [e], by simpa using RDs.cons rv r2⟩
      · rw [if_neg hg, if_neg hg]
        obtain ⟨a, b⟩ := put_rd (f := f) rv e r2
        exact ⟨by simp [a], by simpa using RDs.cons r1 b⟩
section
variable {X : Cx} {k : Nat} {Cn : Ct} {E : DX} {x m n f : Str} {p pos pos' apos : Pos} {e o value : Expr} {es : List Expr} {ta tv to : DE} {t : DA}
def dFld (n f : Str) (ta : DE) : DE := fun σ G Q => ta σ G fun x G1 => ∃ p fs v, x = .ref p ∧ G1 p = some (.ins n fs) ∧ fs.lookup f = some v ∧ Q v G1
theorem de_fld (c : FldOk X.K n f) (he : DPE X e ta) (hb : attributeBase e f X.env (eval e X.env) = eval e X.env := by rfl) : DPE X (.Attribute e f pos) (dFld n f ta) := by
  obtain ⟨ma, tta, pa, ra⟩ := he
  obtain ⟨C, hC, c1, c2⟩ := c
  refine ⟨fun σ G Q Q' h q => ma σ G _ _ (fun x G1 ⟨p, fs, v, a, b, l, q1⟩ => ⟨p, fs, v, a, b, l, h _ _ q1⟩) q, _, pe_fld pa hb, fun σ H σd G Q m s h => ?_⟩
  refine ra σ H σd G _ m s (ma _ _ _ _ (fun dx G1 ⟨p, fs, v, a, b, l, q1⟩ x H1 m1 r1 k1 => ?_) h)
  subst a
  cases r1
  obtain ⟨C', dx, fvs, hc', h1, h2, h3⟩ := m1 p _ b
  obtain rfl := hC.uniq hc'
  obtain ⟨u, hu, ru⟩ := lookup_rd h2 h3 l
  exact ⟨p, C, dx, fvs, u, rfl, h1, c1, c2, hu, q1 u H1 m1 ru k1⟩
def dSetF (n f : Str) (ta tv : DE) : DS := fun D σ G => tv σ G fun y G1 => ta σ G1 fun x G2 => ∃ p fs, x = .ref p ∧ G2 p = some (.ins n fs) ∧ fs.length < 1000 ∧ D.nx σ (up G2 p (.ins n (putD f y fs)))
theorem KT.upd_ins {K : PySem.W.Frag} {H : Hp} {p C dx : Addr} {fs : List (Str × V)} {u : HO} (h : H p = some (.ins C dx fs)) : KT K H (L2.upd H p u) := .upd_mut h (fun _ e => by cases e) (fun _ _ e => by cases e)
theorem ds_fld (c : FldOk X.K n f) (ha : DPE X o ta) (hv : DPE X value tv) (hs : swapsWith value (some (.Attribute o f pos')) pos.line X.env = pure false := by rfl) : DPS X (.Assign [.Attribute o f pos'] value pos) (dSetF n f ta tv) := by
  obtain ⟨ma, tta, pa, ra⟩ := ha
  obtain ⟨mv, ttv, pv, rv⟩ := hv
  obtain ⟨C, hC, c1, c2⟩ := c
  refine ⟨fun σ G D D' l q => mv σ G _ _ (fun y G1 q1 => ma σ G1 _ _ (fun x G2 ⟨p, fs, a, b, z, q2⟩ => ⟨p, fs, a, b, z, l.1 _ _ q2⟩) q1) q, _, ps_fld pa pv hs, fun σ H σd G D m s h => ?_⟩
  refine rv σ H σd G _ m s (mv _ _ _ _ (fun dy G1 h1 y H1 m1 r1 k1 => ra σ H1 σd G1 _ m1 (s.kt k1) (ma _ _ _ _ (fun dx G2 ⟨p, fs, a, b, z, q2⟩ x H2 m2 r2 k2 => ?_) h1)) h)
  subst a
  cases r2
  obtain ⟨C', dx, fvs, hc', h1, h2, h3⟩ := m2 p _ b
  obtain rfl := hC.uniq hc'
  have kk : KT X.K H2 (L2.upd H2 p (.ins C dx (putF f y fvs))) := .upd_ins h1
  obtain ⟨e1, e2⟩ := put_rd (f := f) (r1.kt k2) h2 h3
  refine ⟨p, C, dx, fvs, rfl, h1, c1, c2, ?_, q2 σ _ (m2.upd kk ⟨C, dx, _, hC, upd_same, e1, e2.kt kk⟩) (s.kt ((k1.trans k2).trans kk)) ((k1.trans k2).trans kk)⟩
  have := congrArg List.length h2
  simp at this
  omega
/-- a method of a class -/
def MethOk (P : Program) (w : World) (K : PySem.W.Frag) (mg : Str → Option Value) (base : Heap) (k : Nat) (n m : Str) (Cn : Ct) : Prop := ∃ C f fd ps, ClsAt K n C ∧ Cls K C ∧ Meth K C m f ∧ Binds K fd ps [] ∧ FK P w K mg base k f fd ps (spOf K Cn)
def tMethF (X : Cx) (C : Addr) (m : Str) (sp : Sp) (EL : XK) (ta : TE) (t : TA) : TE := fun σ H Q => ta σ H fun x H1 => ∃ a dx fs, x = .ref a ∧ H1 a = some (.ins C dx fs) ∧ fs.lookup m = none ∧ t σ H1 fun vs H2 => KT X.K X.H_0 H2 → sp (x :: vs) H2 Q EL
def dMeth (n m : Str) (Cn : Ct) (E : DX) (ta : DE) (t : DA) : DE := fun σ G Q => ta σ G fun x G1 => ∃ p fs, x = .ref p ∧ G1 p = some (.ins n fs) ∧ fs.lookup m = none ∧ t σ G1 fun ds G2 => UpC Cn (x :: ds) G2 Q E
theorem dMeth_mono (mo : MonoE to) (ma : MonoA t) : MonoE (dMeth n m Cn E to t) := fun σ G Q Q' h q => mo σ G _ _ (fun x G1 ⟨p, fs, a, b, c, z⟩ => ⟨p, fs, a, b, c, ma _ _ _ _ (fun ds G2 z2 => z2.mono h) z⟩) q
theorem dMeth_sim {C : Addr} {tto : TE} {tta : TA} {EL : XK} (hC : ClsAt X.K n C) (mo : MonoE to) (ma : MonoA t) (ro : ∀ σ H σd G Q, MH X.K G H → SR X.K H σd σ → to σd G (lf X.K H Q) → tto σ H Q) (ra : ∀ σ H σd G Q, MH X.K G H → SR X.K H σd σ → t σd G (lfA X.K H Q) → tta σ H Q) (he : ∀ H, KT X.K X.H_0 H → ∀ c fo G', E c fo G' → lfX X.K H EL c fo G') :
    ∀ σ H σd G Q, MH X.K G H → SR X.K H σd σ → dMeth n m Cn E to t σd G (lf X.K H Q) → tMethF X C m (spOf X.K Cn) EL tto tta σ H Q := fun σ H σd G Q mm s h =>
  ro σ H σd G _ mm s (mo _ _ _ _ (fun dx G1 ⟨p, fs, a, b, c, z⟩ x H1 m1 r1 k1 => by
    subst a
    cases r1
    obtain ⟨C', dx, fvs, hc', h1, h2, h3⟩ := m1 p _ b
    obtain rfl := hC.uniq hc'
    refine ⟨p, dx, fvs, rfl, h1, lookup_none h2 c, ra σ H1 σd G1 _ m1 (s.kt k1) (ma _ _ _ _ (fun ds G2 z2 vs H2 m2 r2 k2 k0 => ?_) z)⟩
    obtain ⟨Q0, E0, g1, g2, g3⟩ := z2
    exact ⟨.ref p :: ds, G2, Q0, E0, m2, r2.cons (.ref p), g1, fun d G' q => lf_kt (k1.trans k2) (g2 d G' q), fun c fo G' q => he H2 k0 c fo G' (g3 c fo G' q)⟩) h)
theorem de_meth {pl : Sem Bool} (F : MethOk X.prog X.w X.K X.mg X.base k n m Cn) (hr : Room k X.A) (hgd : X.A.guards = some []) (hE : PassD X E) (ho : DPE X o to) (ha : DPA X (e :: es) t)
    (hst : starEach (e :: es) X.env = (false, eval e X.env) :: starEach es X.env := by rfl) (hpl : (backTo pos (starEach es X.env)).any (·.1) = false := by rfl)
    (ht : eval (.Call (.Attribute o m apos) (e :: es) [] pos) X.env = (do
      let ov ← eval o X.env
      standAt apos.atName
      let (f, first) ← holding [ov] (getMethod ov m pl)
      callWith pos f first (backTo pos (starEach (e :: es) X.env)) (backToKw pos (keywordEach [] X.env))) := by rfl) :
    DPE X (.Call (.Attribute o m apos) (e :: es) [] pos) (dMeth n m Cn E to t) := by
  obtain ⟨ma, tta, pa, ra⟩ := ha
  obtain ⟨mo, tto, po, ro⟩ := ho
  obtain ⟨EL, hx, _, hE⟩ := hE
  obtain ⟨C, f, fd, ps, hC, c, hm, hb, F⟩ := F
  refine ⟨dMeth_mono mo ma, tMethF X C m (spOf X.K Cn) EL tto tta, ⟨fun pins s σ H Q I h => ?_⟩, dMeth_sim hC mo ma ro ra hE⟩
  refine PySem.W.methodCall_KW (pl := pl) (thn (po.run pins s σ H _ I h) fun u s1 ⟨x, H1, I1, rx, a, dx, fs, ex, ea, l, q⟩ => ?_) ht
  subst ex
  obtain rfl : u = Value.ref a := rx
  refine getmeth_ok I1 ea c hm l ?_
  refine PySem.W.callWith_K (first := [.ref a]) (h₀ := X.base) I.ok.mod.kin hm.kp (thn (pa.run pos pins s1 σ H1 _ I1 q) fun us s2 ⟨vs, H2, I2, r, q2⟩ => ⟨I2.kIn, ?_⟩) hst hpl
  exact run_fk (us := .ref a :: us) (vs := .ref a :: vs) F hr hgd hb hx I2 (.cons rfl r) (q2 (inv_kt I2))
/-- C(..) -/
def MakeOk (P : Program) (w : World) (K : PySem.W.Frag) (mg : Str → Option Value) (base : Heap) (k : Nat) (n : Str) (Cn : Ct) : Prop := ∃ C f fd ps, ClsAt K n C ∧ mg n = some (.ref C) ∧ Mk K C f ∧ Binds K fd ps [] ∧ FK P w K mg base k f fd ps (spOf K Cn)
def dMake (n : Str) (Cn : Ct) (E : DX) (t : DA) : DE := fun σ G Q => t σ G fun ds G1 => ∀ x, G1 x = none → UpC Cn (.ref x :: ds) (up G1 x (.ins n [])) (fun v G2 => v = .non ∧ Q (.ref x) G2) E
def tMakeF (X : Cx) (C : Addr) (sp : Sp) (EL : XK) (t : TA) : TE := fun σ H Q => t σ H fun vs H1 => ∀ x dx, H1 x = none → H1 dx = none → dx ≠ x → KT X.K X.H_0 (upd (upd H1 dx (.own x)) x (.ins C dx [])) →
  sp (.ref x :: vs) (upd (upd H1 dx (.own x)) x (.ins C dx [])) (fun v H2 => v = .non ∧ Q (.ref x) H2) EL
theorem run_makeF {C f : Addr} {fd : FuncData} {ps : List Str} {sp : Sp} {EL : XK} {pins : List (Addr × Obj)} {σ : St} {H : Hp} {s : Shared} {Q : VK} {us : List Value} {vs : List V} (M : Mk X.K C f) (F : FK X.prog X.w X.K X.mg X.base k f fd ps sp) (hr : Room (k + 1) X.A) (hg : X.A.guards = some []) (hb : Binds X.K fd ps [])
    (hx : Passes (L2.CX X.prog X.w) X EL) (I : L2.Inv X pins σ H s) (r : Vals vs us)
    (h : ∀ x dx, H x = none → H dx = none → dx ≠ x → KT X.K X.H_0 (upd (upd H dx (.own x)) x (.ins C dx [])) → sp (.ref x :: vs) (upd (upd H dx (.own x)) x (.ins C dx [])) (fun v H2 => v = .non ∧ Q (.ref x) H2) EL) :
    wpAny (model X.prog X.w) X.A (call (.ref C) us) (EP X pins σ Q) X.xe s := by
  have I2 := Inv.made (C := C) I
  have hq := h (s.heap.objs.size + 1) s.heap.objs.size (I.hok.fresh (Nat.le_succ _)) (I.hok.fresh (Nat.le_refl _)) (Nat.ne_of_lt (Nat.lt_succ_self _)) (inv_kt I2)
  have r2 : Vals (V.ref (s.heap.objs.size + 1) :: vs) (Value.ref (s.heap.objs.size + 1) :: us) := .cons rfl r
  have hl : (Value.ref (s.heap.objs.size + 1) :: us ++ []).length = ps.length := by
    have e := r2.length
    rw [F.len _ _ _ _ hq] at e
    rw [List.append_nil]
    exact e.symm
  have hb' := hb _ (Value.ref (s.heap.objs.size + 1) :: us) I2.kIn hl
  rw [List.append_nil] at hb'
  refine wpAny_call (make_map (f := f) I.kIn M.makes M.init (beq_iff_eq.mp M.fn) (codeAny_mono (F.run _ X.stack _ _ ⟨Value.ref (s.heap.objs.size + 1) :: us, []⟩ (Value.ref (s.heap.objs.size + 1) :: us) _ _ EL (hr.make C us []) ?_
    (I2.env0.make C us []) hb' r2 hq) fun r s' hq' => ?_))
  · exact hg
  cases r with
  | error e => exact hx pins σ _ _ e s' I2 hq'
  | ok fl =>
    cases fl with
    | ret u =>
      obtain ⟨v, H', I3, rv, ev, q3⟩ := I2.after hq'
      subst ev
      exact ⟨rv, ⟨V.ref (s.heap.objs.size + 1), H', I3, rfl, q3⟩⟩
    | next => exact False.elim hq'
    | brk => exact False.elim hq'
    | cont => exact False.elim hq'
theorem dMake_mono (ma : MonoA t) : MonoE (dMake n Cn E t) := fun σ G Q Q' h q => ma σ G _ _ (fun ds G1 z x hx => (z x hx).mono fun d G' w => ⟨w.1, h _ _ w.2⟩) q
theorem dMake_sim {C : Addr} {tta : TA} {EL : XK} (hC : ClsAt X.K n C) (ma : MonoA t) (ra : ∀ σ H σd G Q, MH X.K G H → SR X.K H σd σ → t σd G (lfA X.K H Q) → tta σ H Q) (he : ∀ H, KT X.K X.H_0 H → ∀ c fo G', E c fo G' → lfX X.K H EL c fo G') :
    ∀ σ H σd G Q, MH X.K G H → SR X.K H σd σ → dMake n Cn E t σd G (lf X.K H Q) → tMakeF X C (spOf X.K Cn) EL tta σ H Q := fun σ H σd G Q mm s h =>
  ra σ H σd G _ mm s (ma _ _ _ _ (fun ds G1 z vs H1 m1 r1 k1 x dx hx hdx ne k0 => by
    obtain ⟨Q0, E0, g1, g2, g3⟩ := z x (m1.fresh hx)
    have ka : KT X.K H1 (upd H1 dx (.own x)) := .upd_new hdx
    have hx' : upd H1 dx (.own x) x = none := by rw [upd_ne (Ne.symm ne)]; exact hx
    have kb : KT X.K (upd H1 dx (.own x)) (upd (upd H1 dx (.own x)) x (.ins C dx [])) := .upd_new hx'
    have m2 : MH X.K (up G1 x (.ins n [])) (upd (upd H1 dx (.own x)) x (.ins C dx [])) := (m1.new ka (m1.fresh hdx)).upd kb ⟨C, dx, [], hC, upd_same, rfl, .nil⟩
    refine ⟨.ref x :: ds, up G1 x (.ins n []), Q0, E0, m2, ((r1.kt ka).kt kb).cons (.ref x), g1, fun d G' q v H' m' r' k' => ?_, fun c fo G' q => he _ k0 c fo G' (g3 c fo G' q)⟩
    obtain ⟨ed, q2⟩ := g2 d G' q
    subst ed
    cases r'
    exact ⟨rfl, q2 (.ref x) H' m' (.ref x) (((k1.trans ka).trans kb).trans k')⟩) h)
theorem de_make (F : MakeOk X.prog X.w X.K X.mg X.base k n Cn) (hr : Room (k + 1) X.A) (hgd : X.A.guards = some []) (hE : PassD X E) (ha : DPA X (e :: es) t)
    (hg : Gl X n := by rfl) (hdb : (n == ("__debug__" : Str)) = false := by decide) (he : starEach (e :: es) X.env = (false, eval e X.env) :: starEach es X.env := by rfl) (hpl : (backTo pos (starEach es X.env)).any (·.1) = false := by rfl) :
    DPE X (.Call (.Name n p) (e :: es) [] pos) (dMake n Cn E t) := by
  obtain ⟨ma, tta, pa, ra⟩ := ha
  obtain ⟨EL, hx, _, hE⟩ := hE
  obtain ⟨C, f, fd, ps, hC, hm, M, hb, F⟩ := F
  refine ⟨dMake_mono ma, tMakeF X C (spOf X.K Cn) EL tta, ⟨fun pins s σ H Q I h => ?_⟩, dMake_sim hC ma ra hE⟩
  refine wpAny_Call_Name_kw (ld_glob I hg hm ?_ hdb)
  refine PySem.W.callWith_K (h₀ := X.base) I.ok.mod.kin M.kp (thn (pa.run pos pins s σ H _ I h) fun us s1 ⟨vs, H1, I1, r, q⟩ => ⟨I1.kIn, ?_⟩) he hpl
  exact run_makeF M F hr hgd hb hx I1 r q
end
/-! ### constants of the program's top -/
section
variable {X : Cx} {x : Str} {pos : Pos}
theorem de_globI {i : Int} (h : ∃ t, X.mg x = some (.int i t)) (hg : Gl X x := by rfl) (hd : (x == ("__debug__" : Str)) = false := by decide) : DPE X (.Name x pos) (dC (.int i)) := let ⟨_, hm⟩ := h; de_glob hg hm (v := .int i) ⟨_, rfl⟩ (fun _ => .int _) hd
end
/-! ### methods at their class -/
section
variable {P : Program} {w : World} {K : PySem.W.Frag} {mg : Str → Option Value} {base : Heap}
def MethAt (K : PySem.W.Frag) (n m q : Str) (st : Stmt) (ps : List Str) : Prop := ∃ C f fd, ClsAt K n C ∧ Cls K C ∧ Meth K C m f ∧ Fun K m q st f fd ∧ Binds K fd ps []
def MakeAt (K : PySem.W.Frag) (mg : Str → Option Value) (n q : Str) (st : Stmt) (ps : List Str) : Prop := ∃ C f fd, ClsAt K n C ∧ mg n = some (.ref C) ∧ Mk K C f ∧ Fun K "__init__" q st f fd ∧ Binds K fd ps []
theorem meth_ok {n m q : Str} {st : Stmt} {N ps : List Str} {k : Nat} {C : Ct} {T : DX → DS} (D : MethAt K n m q st ps) (S : FnScope N ps (defScope st)) (len : ∀ ds G Q E, C ds G Q E → ds.length = ps.length)
    (der : ∀ (f : Addr) (cdv : Value) (A : Around) (outer : List Env) (s : Shared) (H : Hp) (EL : XK) (E : DX), Room k (cx P w K mg base N q (defScope st) f cdv A outer s H EL).A → (cx P w K mg base N q (defScope st) f cdv A outer s H EL).A.guards = some [] →
      PassesOwn (model P w) (cx P w K mg base N q (defScope st) f cdv A outer s H EL).A (cx P w K mg base N q (defScope st) f cdv A outer s H EL).env (cx P w K mg base N q (defScope st) f cdv A outer s H EL).xe →
      PassD (cx P w K mg base N q (defScope st) f cdv A outer s H EL) E → DPSs (cx P w K mg base N q (defScope st) f cdv A outer s H EL) (defBody st) (T E))
    (run : ∀ ds G Q E, C ds G Q E → T E { nx := fun _ G' => DrK Q .non G', rt := DrK Q, bk := fun _ _ => False, ct := fun _ _ => False } (dstart N ds) G) : MethOk P w K mg base (k + 1) n m C := by
  obtain ⟨Ca, f, fd, hC, c, hm, F, hb⟩ := D
  exact ⟨Ca, f, fd, ps, hC, c, hm, hb, fk_ok F S len (der f) run⟩
theorem make_ok {n q : Str} {st : Stmt} {N ps : List Str} {k : Nat} {C : Ct} {T : DX → DS} (D : MakeAt K mg n q st ps) (S : FnScope N ps (defScope st)) (len : ∀ ds G Q E, C ds G Q E → ds.length = ps.length)
    (der : ∀ (f : Addr) (cdv : Value) (A : Around) (outer : List Env) (s : Shared) (H : Hp) (EL : XK) (E : DX), Room k (cx P w K mg base N q (defScope st) f cdv A outer s H EL).A → (cx P w K mg base N q (defScope st) f cdv A outer s H EL).A.guards = some [] →
      PassesOwn (model P w) (cx P w K mg base N q (defScope st) f cdv A outer s H EL).A (cx P w K mg base N q (defScope st) f cdv A outer s H EL).env (cx P w K mg base N q (defScope st) f cdv A outer s H EL).xe →
      PassD (cx P w K mg base N q (defScope st) f cdv A outer s H EL) E → DPSs (cx P w K mg base N q (defScope st) f cdv A outer s H EL) (defBody st) (T E))
    (run : ∀ ds G Q E, C ds G Q E → T E { nx := fun _ G' => DrK Q .non G', rt := DrK Q, bk := fun _ _ => False, ct := fun _ _ => False } (dstart N ds) G) : MakeOk P w K mg base (k + 1) n C := by
  obtain ⟨Ca, f, fd, hC, hm, M, F, hb⟩ := D
  exact ⟨Ca, f, fd, ps, hC, hm, M, hb, fk_ok F S len (der f) run⟩
end
/-! ### steps -/
section
variable {σ : DSt} {G : DG} {Q : DK} {n f m : Str} {fs : List (Str × D)} {p : Addr} {d : D} {ta tv to : DE} {t : DA} {E : DX} {Cn : Ct} {nx bk ct : DSt → DG → Prop} {rt : DK} {ds : List D}
def fldB (n f : Str) (x : D) (G : DG) (Q : DK) : Prop := ∃ p fs v, x = .ref p ∧ G p = some (.ins n fs) ∧ fs.lookup f = some v ∧ Q v G
theorem s_fld (h : ta σ G fun x G1 => fldB n f x G1 Q) : dFld n f ta σ G Q := h
instance i_s_fld  : WStp (dFld n f ta σ G Q) (ta σ G fun x G1 => fldB n f x G1 Q) := ⟨fun h => s_fld h⟩
theorem s_fldB (e : G p = some (.ins n fs)) (e2 : fs.lookup f = some d) (h : Q d G) : fldB n f (.ref p) G Q := ⟨p, fs, d, rfl, e, e2, h⟩
def setFB (n f : Str) (x y : D) (G : DG) (R : DG → Prop) : Prop := ∃ p fs, x = .ref p ∧ G p = some (.ins n fs) ∧ fs.length < 1000 ∧ R (up G p (.ins n (putD f y fs)))
theorem s_setF (h : tv σ G fun y G1 => ta σ G1 fun x G2 => setFB n f x y G2 fun G3 => nx σ G3) : dSetF n f ta tv ⟨nx, rt, bk, ct⟩ σ G := h
instance i_s_setF  : WStp (dSetF n f ta tv ⟨nx, rt, bk, ct⟩ σ G) (tv σ G fun y G1 => ta σ G1 fun x G2 => setFB n f x y G2 fun G3 => nx σ G3) := ⟨fun h => s_setF h⟩
theorem s_setFB {R : DG → Prop} {fs' : List (Str × D)} (e : G p = some (.ins n fs)) (e2 : fs.length < 1000) (e3 : putD f d fs = fs') (h : R (up G p (.ins n fs'))) : setFB n f (.ref p) d G R := ⟨p, fs, rfl, e, e2, by rw [e3]; exact h⟩
def methB (n m : Str) (x : D) (G : DG) (A : Prop) : Prop := ∃ p fs, x = .ref p ∧ G p = some (.ins n fs) ∧ fs.lookup m = none ∧ A
theorem s_meth (h : to σ G fun x G1 => methB n m x G1 (t σ G1 fun ds G2 => UpC Cn (x :: ds) G2 Q E)) : dMeth n m Cn E to t σ G Q := h
instance i_s_meth  : WStp (dMeth n m Cn E to t σ G Q) (to σ G fun x G1 => methB n m x G1 (t σ G1 fun ds G2 => UpC Cn (x :: ds) G2 Q E)) := ⟨fun h => s_meth h⟩
theorem s_methB {A : Prop} (e : G p = some (.ins n fs)) (e2 : fs.lookup m = none) (h : A) : methB n m (.ref p) G A := ⟨p, fs, rfl, e, e2, h⟩
def makeB (n : Str) (Cn : Ct) (ds : List D) (G : DG) (Q : DK) (E : DX) : Prop := ∀ x, G x = none → UpC Cn (.ref x :: ds) (up G x (.ins n [])) (fun v G2 => v = .non ∧ Q (.ref x) G2) E
theorem s_make (h : t σ G fun ds G1 => makeB n Cn ds G1 Q E) : dMake n Cn E t σ G Q := h
instance i_s_make  : WStp (dMake n Cn E t σ G Q) (t σ G fun ds G1 => makeB n Cn ds G1 Q E) := ⟨fun h => s_make h⟩
end
end FD

namespace FD
open PySem L2
section
variable {X : Cx} {a b c e : Expr} {es rest : List Expr} {ta tb tc : DE} {pos : Pos}
/-! ### range, downwards -/
def downD (hi lo : Int) : List D := (List.range (hi - lo).toNat).map fun i => D.int (hi - (i : Nat))
/-- lo, lo + c, .. (n of them) -/
def stepD (lo c : Int) (n : Nat) : List D := (List.range n).map fun i => D.int (lo + (i : Nat) * c)
theorem stepD_down {hi lo : Int} : stepD hi (-1) (hi - lo).toNat = downD hi lo := by
  unfold stepD downD
  refine List.map_congr_left fun i _ => ?_
  congr 1
  omega
def diRange3 (t : DA) : DI := fun σ G R => t σ G fun xs G1 => match xs with
  | [.int i, .int j, .int c] => ∃ n, RgC i j c n ∧ R (stepD i c n) (fun _ => True) G1
  | _ => False
end
section
variable {σ : DSt} {G : DG} {Q : DK} {p q : Addr} {xs : List D} {d : D} {ts : DA}
def rng3B (xs : List D) (G : DG) (R : List D → (DG → Prop) → DG → Prop) : Prop := match xs with
  | [.int i, .int j, .int c] => ∃ n, RgC i j c n ∧ R (stepD i c n) (fun _ => True) G
  | _ => False
theorem s_rng3 {R : List D → (DG → Prop) → DG → Prop} (h : ts σ G fun xs G1 => rng3B xs G1 R) : diRange3 ts σ G R := h
instance i_s_rng3 {R : List D → (DG → Prop) → DG → Prop} : WStp (diRange3 ts σ G R) (ts σ G fun xs G1 => rng3B xs G1 R) := ⟨fun h => s_rng3 h⟩
theorem s_rng3B {i j : Int} {R : List D → (DG → Prop) → DG → Prop} (e : -(2 ^ 62) ≤ i ∧ i < 2 ^ 62 ∧ -(2 ^ 62) ≤ j ∧ j < 2 ^ 62) (h : R (downD i j) (fun _ => True) G) : rng3B [.int i, .int j, .int (-1)] G R := ⟨_, .neg e.1 e.2.1 e.2.2.1 e.2.2.2, by rw [stepD_down]; exact h⟩
end
theorem putD_new {f : Str} {v : D} : ∀ {fs : List (Str × D)}, fs.lookup f = none → putD f v fs = fs ++ [(f, v)]
  | [], _ => rfl
  | (g, x) :: r, h => by
    unfold putD
    by_cases e : f = g
    · subst e
      rw [List.lookup_cons_self] at h
      cases h
    · have hb : (f == g) = false := beq_eq_false_iff_ne.mpr e
      rw [List.lookup_cons, hb] at h
      rw [if_neg (Ne.symm e), putD_new h]
      rfl
theorem s_setFN {n f : Str} {d : D} {G : DG} {p : Addr} {R : DG → Prop} {fs : List (Str × D)} (e : G p = some (.ins n fs)) (e2 : fs.length < 1000) (e3 : fs.lookup f = none) (h : R (up G p (.ins n (fs ++ [(f, d)])))) : setFB n f (.ref p) d G R := s_setFB e e2 (putD_new e3) h
theorem lex_new' {ws : List Addr} {G G' : DG} {q : Addr} {o : O} (l : LeX ws G G') (h : G' q = none) : LeX ws G (up G' q o) := fun b ob hb e => up_nx (gne (l b ob hb e) h) (l b ob hb e)
end FD

namespace FD
open PySem L2
/-! ### a list of new lists -/
structure Lls (G G' : DG) (a : Addr) (cs : List Addr) (wss : List (List D)) : Prop where
  le : Le G G'
  ha : G' a = some (.lst (cs.map .ref))
  len : cs.length = wss.length
  nd : cs.Nodup
  ac : a ∉ cs
  at_ : ∀ (i : Nat) c ws, cs[i]? = some c → wss[i]? = some ws → G' c = some (.lst ws)
  fa : G a = none
  fc : ∀ c ∈ cs, G c = none
theorem Lls.new {G G' : DG} {a q : Addr} {cs : List Addr} {wss : List (List D)} {o : O} (h : Lls G G' a cs wss) (hq : G' q = none) : Lls G (up G' q o) a cs wss :=
  { h with
    le := fun b ob e => up_nx (gne (h.le b ob e) hq) (h.le b ob e), ha := up_nx (gne h.ha hq) h.ha
    at_ := fun i c ws e1 e2 => up_nx (gne (h.at_ i c ws e1 e2) hq) (h.at_ i c ws e1 e2) }
theorem Lls.free {G G' : DG} {a c : Addr} {cs : List Addr} {wss : List (List D)} (h : Lls G G' a cs wss) (hc : G' c = none) : G c = none ∧ c ≠ a ∧ c ∉ cs := by
  refine ⟨?_, fun e => ?_, fun m => ?_⟩
  · cases e : G c with
    | none => rfl
    | some o => rw [h.le c o e] at hc; cases hc
  · subst e
    rw [h.ha] at hc
    cases hc
  · obtain ⟨i, hi, e⟩ := List.mem_iff_getElem.mp m
    have := h.at_ i c (wss[i]'(h.len ▸ hi)) (by rw [List.getElem?_eq_getElem hi, e]) (List.getElem?_eq_getElem _)
    rw [hc] at this
    cases this
theorem Lls.more {G G' : DG} {a c : Addr} {cs : List Addr} {wss : List (List D)} {ws : List D} (h : Lls G G' a cs wss) (hc : G' c = none) : Lls G (up (up G' c (.lst ws)) a (.lst ((cs ++ [c]).map .ref))) a (cs ++ [c]) (wss ++ [ws]) := by
  have n := h.new (o := .lst ws) hc
  obtain ⟨gc, ca, hcc⟩ := h.free hc
  refine ⟨le_new h.fa n.le, up_same, by simp [h.len], ?_, by simp [h.ac, Ne.symm ca], fun i d ws' e1 e2 => ?_, h.fa, ?_⟩
  · rw [List.nodup_append]
    exact ⟨h.nd, by simp, fun u hu v hv => by simp at hv; subst hv; exact fun e => hcc (e ▸ hu)⟩
  · have hd := List.mem_of_getElem? e1
    refine up_nx (fun e => ?_) ?_
    · subst e
      simp [h.ac, Ne.symm ca] at hd
    · by_cases hi : i < cs.length
      · rw [List.getElem?_append_left hi] at e1
        rw [List.getElem?_append_left (h.len ▸ hi)] at e2
        exact n.at_ i d ws' e1 e2
      · have : i = cs.length := by
          have := (List.getElem?_eq_some_iff.mp e1).1
          simp at this
          omega
        subst this
        rw [List.getElem?_append_right (by omega)] at e1
        rw [h.len, List.getElem?_append_right (by omega)] at e2
        simp at e1 e2
        subst e1
        subst e2
        exact up_same
  · intro u hu
    simp at hu
    rcases hu with hu | rfl
    · exact h.fc u hu
    · exact gc
theorem Lls.put {G G' : DG} {a c : Addr} {cs : List Addr} {wss : List (List D)} {i : Nat} {ws : List D} (h : Lls G G' a cs wss) (hc : cs[i]? = some c) : Lls G (up G' c (.lst ws)) a cs (wss.set i ws) := by
  have hm := List.mem_of_getElem? hc
  refine { h with le := le_new (h.fc c hm) h.le, ha := up_nx (fun e => h.ac (e ▸ hm)) h.ha, len := by simp [h.len], at_ := fun j d vs e1 e2 => ?_ }
  by_cases e : j = i
  · subst e
    have hi := (List.getElem?_eq_some_iff.mp hc).1
    rw [List.getElem?_set_self (h.len ▸ hi)] at e2
    rw [hc] at e1
    cases e1
    cases e2
    exact up_same
  · rw [List.getElem?_set_ne (Ne.symm e)] at e2
    refine up_nx (fun z => ?_) (h.at_ j d vs e1 e2)
    subst z
    obtain ⟨l1, f1⟩ := List.getElem?_eq_some_iff.mp e1
    obtain ⟨l2, f2⟩ := List.getElem?_eq_some_iff.mp hc
    exact e ((List.getElem_inj (h₀ := l1) (h₁ := l2) h.nd).mp (f1.trans f2.symm))
theorem Lls.le_of {G G' : DG} {a : Addr} {cs : List Addr} {wss : List (List D)} (h : Lls G G' a cs wss) {G2 : DG} (l : Le G' G2) : Lls G G2 a cs wss :=
  { h with le := h.le.trans l, ha := l _ _ h.ha, at_ := fun i c ws e1 e2 => l _ _ (h.at_ i c ws e1 e2) }
theorem Lls.py {α β : Type} {G G' : DG} {a : Addr} {cs : List Addr} {xs : List (List β)} {enc : β → D} {encP : β → PyData} {n : Nat} (h : Lls G G' a cs (xs.map fun x => x.map enc)) (hpy : ∀ x, pyD (n + 1) G' (enc x) = some (encP x)) : pyD (n + 3) G' (.ref a) = some (.list (xs.map fun x => .list (x.map encP))) := by
  refine pyD_ref h.ha ?_
  have main : ∀ (cs : List Addr) (xs : List (List β)), cs.length = xs.length → (∀ (i : Nat) c x, cs[i]? = some c → xs[i]? = some x → G' c = some (.lst (x.map enc))) → pyAll (pyD (n + 2) G') (cs.map .ref) = some (xs.map fun x => PyData.list (x.map encP)) := by
    intro cs
    induction cs with
    | nil =>
      intro xs hl _
      cases xs with
      | nil => rfl
      | cons x xs => simp at hl
    | cons c cs ih =>
      intro xs hl hh
      cases xs with
      | nil => simp at hl
      | cons x xs =>
        refine pyAll_c (pyD_ref (hh 0 c x rfl rfl) (pyAll_map fun y _ => hpy y)) (ih xs (by simpa using hl) fun i c' x' e1 e2 => hh (i + 1) c' x' (by simpa using e1) (by simpa using e2))
  refine main cs xs (by simpa using h.len) fun i c x e1 e2 => h.at_ i c _ e1 (by rw [List.getElem?_map, e2]; rfl)
end FD

namespace FD
open PySem PyProof.Rows Srt SrtO
/-! ### sorted of a tuple of ints -/
section
variable {prog : Program} {w : World} {A : Around} {E : Value → Shared → Prop} {s : Shared}
end
end FD
namespace FD
open PySem L2
section
variable {X : Cx} {a b c e : Expr} {es rest : List Expr} {ta tb tc : DE} {pos : Pos}
end
end FD

namespace FD
open PySem L2
/-! ### list.count of data -/
section
variable {X : Cx} {a b c e : Expr} {es rest : List Expr} {ta tb tc : DE} {pos : Pos}
end
end FD

namespace FD
open PySem L2
/-! ### dicts by nested keys -/
theorem paired_of {α β : Type} {F : α → β → Prop} : ∀ {l₁ : List α} {l₂ : List β}, l₁.length = l₂.length → (∀ (i : Nat) a b, l₁[i]? = some a → l₂[i]? = some b → F a b) → Paired F l₁ l₂
  | [], [], _, _ => .nil
  | a :: l₁, b :: l₂, h, f => .cons (f 0 a b rfl rfl) (paired_of (by simpa using h) fun i x y e1 e2 => f (i + 1) x y (by simpa using e1) (by simpa using e2))
theorem paired_get {α β : Type} {F : α → β → Prop} : ∀ {l₁ : List α} {l₂ : List β}, Paired F l₁ l₂ → ∀ (i : Nat) a b, l₁[i]? = some a → l₂[i]? = some b → F a b
  | _, _, .nil, i, a, b, e, _ => by simp at e
  | _, _, .cons r _, 0, a, b, e1, e2 => by
    simp at e1 e2
    subst e1 e2
    exact r
  | _, _, .cons _ t, i + 1, a, b, e1, e2 => paired_get t i a b (by simpa using e1) (by simpa using e2)
section
variable {X : Cx} {pins : List (Addr × Obj)} {σ : St} {H : Hp} {s : Shared}
mutual
theorem nk_is (I : L2.Inv X pins σ H s) : ∀ (d : D) (k : NestedKey), nkD d = some k → ∀ (v : V) (u : Value), RD X.K H d v → RelV v u → NestedIs s.heap k u
  | .non, k, e, v, u, r, ru => by
    cases r
    simp only [nkD, Option.some.injEq] at e
    subst e
    cases (show u = Value.none from ru)
    exact .none
  | .int i, k, e, v, u, r, ru => by
    cases r
    simp only [nkD, Option.some.injEq] at e
    subst e
    obtain ⟨t, rfl⟩ := (show ∃ t, u = Value.int i t from ru)
    exact .int i t
  | .bl b, k, e, v, u, r, ru => by
    cases r
    simp only [nkD, Option.some.injEq] at e
    subst e
    cases (show u = Value.bool b from ru)
    exact .bool rfl
  | .str x, k, e, v, u, r, ru => by
    cases r
    simp only [nkD, Option.some.injEq] at e
    subst e
    obtain ⟨t, rfl⟩ := (show ∃ t, u = Value.str x t from ru)
    exact .text x t
  | .tup xs, k, e, v, u, r, ru => by
    simp only [nkD, Option.map_eq_some_iff] at e
    obtain ⟨ks, e1, rfl⟩ := e
    cases r with
    | tup h hl hi =>
      obtain ⟨its, r1, ⟨o, ho, hc, n, hd⟩, _⟩ := I.tuple h.t
      cases (show u = Value.ref _ from ru)
      exact .tup ho hc hd (by simpa using nk_all I xs ks e1 _ _ ⟨hl, hi⟩ r1)
  | .tpl xs, k, e, v, u, r, ru => by
    simp only [nkD, Option.map_eq_some_iff] at e
    obtain ⟨ks, e1, rfl⟩ := e
    cases r with
    | tpl h hl hi =>
      obtain ⟨its, r1, ⟨o, ho, hc, n, hd⟩, _⟩ := I.tuple h
      cases (show u = Value.ref _ from ru)
      exact .tup ho hc hd (by simpa using nk_all I xs ks e1 _ _ ⟨hl, hi⟩ r1)
  | .lis _, k, e, v, u, r, ru => by simp [nkD] at e
  | .ref _, k, e, v, u, r, ru => by simp [nkD] at e
  | .ty _, k, e, v, u, r, ru => by simp [nkD] at e
theorem nk_all (I : L2.Inv X pins σ H s) : ∀ (ds : List D) (ks : List NestedKey), nkDs ds = some ks → ∀ (vs : List V) (us : List Value), RDs X.K H ds vs → Vals vs us → NestedAll s.heap ks us
  | [], ks, e, vs, us, r, ru => by
    simp only [nkDs, Option.some.injEq] at e
    subst e
    cases r.nil_inv
    cases ru
    exact .nil
  | d :: ds, ks, e, vs, us, r, ru => by
    unfold nkDs at e
    obtain ⟨v, vs', rfl, r1, r2⟩ := r.cons_inv
    cases e1 : nkD d with
    | none => rw [e1] at e; simp at e
    | some k =>
      cases e2 : nkDs ds with
      | none => rw [e1, e2] at e; simp at e
      | some ks' =>
        rw [e1, e2] at e
        simp only [Option.some.injEq] at e
        subst e
        cases ru with
        | cons a b => exact .cons (nk_is I d k e1 _ _ r1 a) (nk_all I ds ks' e2 _ _ r2 b)
end
/-- what stands for one pair -/
def Rl (X : Cx) (H : Hp) (ow : Option World) (kv : D × D) (x : NestedKey × Addr × Value) : Prop := nkD kv.1 = some x.1 ∧ x.1.depth ≤ 8 ∧ RD X.K H kv.1 (.ref x.2.1) ∧ HashOk ow x.1 (x.1.hash X.w) ∧ ∃ v, RD X.K H kv.2 v ∧ RelV v x.2.2
theorem dic_fwd0 {a : Addr} {ow : Option World} {kvs : List (D × D)} {ks : List (NestedKey × Addr)} {vs : List V} (I : L2.Inv X pins σ H s) (hO : ∃ o es ep, s.heap.get? a = some o ∧ o.ExactDict ∧ o.data = .dict es ep ∧ dicP ow ks vs es.toList) (h1 : (a == sysModules) = false) (h2 : kvs.length ≤ sizeLine) (h3 : (ks.map (·.1)).Nodup) (h4 : kvs.length = ks.length)
    (h5 : ∀ (i : Nat) (kv : D × D) (k : NestedKey × Addr), kvs[i]? = some kv → ks[i]? = some k → nkD kv.1 = some k.1 ∧ k.1.depth ≤ 8 ∧ RD X.K H kv.1 (.ref k.2)) (h6 : RDs X.K H (kvs.map (·.2)) vs) (hw : ∀ w, ow = some w → w = X.w) :
    ∃ xs, s.heap.DictOfH (nestedKind X.prog X.w) a xs ∧ Paired (Rl X H ow) kvs xs := by
  obtain ⟨o, es, ep, e1, e2, e3, p1, p2, p3⟩ := hO
  have hlen : kvs.length = es.toList.length := by rw [h4, p1]
  have hk : ∀ (i : Nat) (e : DictEntry), es.toList[i]? = some e → ∃ k v kv, ks[i]? = some k ∧ vs[i]? = some v ∧ kvs[i]? = some kv := fun i e he => by
    have hi : i < es.toList.length := (List.getElem?_eq_some_iff.mp he).1
    exact ⟨ks[i]'(by omega), vs[i]'(by omega), kvs[i]'(by omega), List.getElem?_eq_getElem _, List.getElem?_eq_getElem _, List.getElem?_eq_getElem _⟩
  have hh : ∀ (k : NestedKey) (z : Int), HashOk ow k z → z = k.hash X.w := fun k z q => by
    cases ow with
    | none => exact q X.w
    | some w => rw [← hw w rfl]; exact q
  refine ⟨List.zipWith (fun (k : NestedKey × Addr) (e : DictEntry) => (k.1, k.2, e.val)) ks es.toList, ⟨o, es, ep, e1, e2, e3, ?_, ?_, ?_⟩, paired_of ?_ ?_⟩
  · refine List.ext_getElem? fun i => ?_
    cases he : es.toList[i]? with
    | none =>
      have hi := List.getElem?_eq_none_iff.mp he
      symm
      rw [List.getElem?_eq_none_iff]
      simp only [List.length_map, List.length_zipWith]
      omega
    | some e =>
      obtain ⟨k, v, kv, q1, q2, q3⟩ := hk i e he
      obtain ⟨b1, b2, b3⟩ := p3 i e k v he q1 q2
      rw [List.getElem?_map, List.getElem?_zipWith, q1, he]
      show some e = some (entryOfKey (nestedKind X.prog X.w) (k.1, k.2, e.val))
      congr 1
      obtain ⟨eh, ek, ev⟩ := e
      have c1 : eh = k.1.hash X.w := hh _ _ b1
      have c2 : ek = .ref k.2 := b2
      subst c1 c2
      rfl
  · intro x hx
    obtain ⟨i, hi⟩ := List.mem_iff_getElem?.mp hx
    rw [List.getElem?_zipWith] at hi
    cases he : es.toList[i]? with
    | none => rw [he] at hi; cases hk2 : ks[i]? <;> rw [hk2] at hi <;> simp at hi
    | some e =>
      obtain ⟨k, v, kv, q1, q2, q3⟩ := hk i e he
      rw [q1, he] at hi
      cases hi
      obtain ⟨c1, c2, c3⟩ := h5 i kv k q3 q1
      exact ⟨nk_is I _ _ c1 _ _ c3 rfl, c2⟩
  · have : (List.zipWith (fun (k : NestedKey × Addr) (e : DictEntry) => (k.1, k.2, e.val)) ks es.toList).map (·.1) = ks.map (·.1) := by
      refine List.ext_getElem? fun i => ?_
      rw [List.getElem?_map, List.getElem?_map, List.getElem?_zipWith]
      cases he : es.toList[i]? with
      | none =>
        have hi := List.getElem?_eq_none_iff.mp he
        have : ks[i]? = none := List.getElem?_eq_none_iff.mpr (by omega)
        rw [this]
        rfl
      | some e =>
        obtain ⟨k, v, kv, q1, q2, q3⟩ := hk i e he
        rw [q1]
        rfl
    rw [this]
    exact h3
  · simp only [List.length_zipWith]
    omega
  · intro i kv x e1' e2'
    rw [List.getElem?_zipWith] at e2'
    cases he : es.toList[i]? with
    | none => rw [he] at e2'; cases hk2 : ks[i]? <;> rw [hk2] at e2' <;> simp at e2'
    | some e =>
      obtain ⟨k, v, kv', q1, q2, q3⟩ := hk i e he
      rw [q1, he] at e2'
      cases e2'
      rw [e1'] at q3
      cases q3
      obtain ⟨c1, c2, c3⟩ := h5 i kv k e1' q1
      obtain ⟨b1, b2, b3⟩ := p3 i e k v he q1 q2
      refine ⟨c1, c2, c3, ?_, v, h6.2 i kv.2 v (by rw [List.getElem?_map, e1']; rfl) q2, b3⟩
      have := hh _ _ b1
      rw [this] at b1
      exact b1
theorem dic_fwd {a : Addr} {ow : Option World} {kvs : List (D × D)} (I : L2.Inv X pins σ H s) (m : MO X.K H a (.dic ow kvs)) (hw : ∀ w, ow = some w → w = X.w) :
    ∃ xs, s.heap.DictOfH (nestedKind X.prog X.w) a xs ∧ Paired (Rl X H ow) kvs xs ∧ (a == sysModules) = false ∧ kvs.length ≤ sizeLine ∧ Mut (H a) := by
  obtain ⟨ks, vs, h, h1, h2, h3, h4, h5, h6⟩ := m
  obtain ⟨z, _, _⟩ := I.hok a _ h
  obtain ⟨xs, q1, q2⟩ := dic_fwd0 I z h1 h2 h3 h4 h5 h6 hw
  exact ⟨xs, q1, q2, h1, h2, by rw [h]; exact True.intro⟩
theorem dif_fwd {a : Addr} {ow : Option World} {kvs : List (D × D)} (I : L2.Inv X pins σ H s) (m : MO X.K H a (.dif ow kvs)) (hw : ∀ w, ow = some w → w = X.w) :
    ∃ xs, s.heap.DictOfH (nestedKind X.prog X.w) a xs ∧ Paired (Rl X H ow) kvs xs ∧ (a == sysModules) = false ∧ kvs.length ≤ sizeLine := by
  obtain ⟨od, ks, vs, h, h1, h2, h3, h4, h5, h6⟩ := m
  obtain ⟨_, z, _, _⟩ := I.hok a _ h
  obtain ⟨xs, q1, q2⟩ := dic_fwd0 I z h1 h2 h3 h4 h5 h6 hw
  exact ⟨xs, q1, q2, h1, h2⟩
/-- such a dict, walked or not -/
def isDi (G : DG) (a : Addr) (kvs : List (D × D)) : Prop := G a = some (.dic none kvs) ∨ G a = some (.dif none kvs)
theorem di_fwd {G : DG} {a : Addr} {kvs : List (D × D)} (I : L2.Inv X pins σ H s) (m : MH X.K G H) (h : isDi G a kvs) :
    ∃ xs, s.heap.DictOfH (nestedKind X.prog X.w) a xs ∧ Paired (Rl X H none) kvs xs ∧ (a == sysModules) = false ∧ kvs.length ≤ sizeLine := by
  rcases h with h | h
  · obtain ⟨xs, q1, q2, q3, q4, _⟩ := dic_fwd I (m a _ h) (by intro w z; cases z)
    exact ⟨xs, q1, q2, q3, q4⟩
  · exact dif_fwd I (m a _ h) (by intro w z; cases z)
theorem dic_bwd {a : Addr} {ow : Option World} {kvs : List (D × D)} {xs : List (NestedKey × Addr × Value)} {h' : Heap} (dd : h'.DictOfH (nestedKind X.prog X.w) a xs) (P : Paired (Rl X H ow) kvs xs) (hs : (a == sysModules) = false) (hz : kvs.length ≤ sizeLine) :
    ∃ u : HO, Mut (some u) ∧ ObjOk X.prog X.w (upd H a u) h' a u ∧ (KT X.K H (upd H a u) → MO X.K (upd H a u) a (.dic ow kvs)) := by
  obtain ⟨o, es, ep, e1, e2, e3, e4, e5, e6⟩ := dd
  have hl := Paired.length P
  have : ∀ (l₁ : List (D × D)) (l₂ : List (NestedKey × Addr × Value)), Paired (Rl X H ow) l₁ l₂ → ∃ vs, RDs X.K H (l₁.map (·.2)) vs ∧ Vals vs (l₂.map (·.2.2)) := fun l₁ l₂ p => by
    induction p with
    | nil => exact ⟨[], .nil, .nil⟩
    | cons r _ ih =>
      obtain ⟨vs, q1, q2⟩ := ih
      obtain ⟨_, _, _, _, v, r1, r2⟩ := r
      exact ⟨v :: vs, .cons r1 q1, .cons r2 q2⟩
  obtain ⟨vs, q1, q2⟩ := this kvs xs P
  have hv := Paired.length q2
  rw [List.length_map] at hv
  refine ⟨dicO ow a (xs.map fun x => (x.1, x.2.1)) vs, True.intro, ⟨⟨o, es, ep, e1, e2, e3, by rw [e4]; simp, by simpa using hv, fun i e k v c1 c2 c3 => ?_⟩, ⟨o, e1⟩, fun h1 h2 ⟨o', es', ep', z1, z2⟩ k => ⟨o', es', ep', k _ z1, z2⟩⟩, fun kt => ⟨_, _, upd_same, hs, hz, by rw [List.map_map]; exact e6, by simpa using hl, fun i kv k c1 c2 => ?_, q1.kt kt⟩⟩
  · rw [e4, List.getElem?_map] at c1
    rw [List.getElem?_map] at c2
    cases ex : xs[i]? with
    | none => rw [ex] at c1; cases c1
    | some x =>
      rw [ex] at c1 c2
      cases c1
      cases c2
      have hi : i < kvs.length := by
        have := (List.getElem?_eq_some_iff.mp ex).1
        omega
      obtain ⟨_, _, _, b4, _⟩ := paired_get P i kvs[i] x (List.getElem?_eq_getElem _) ex
      exact ⟨b4, rfl, paired_get q2 i v x.2.2 c3 (by rw [List.getElem?_map, ex]; rfl)⟩
  · rw [List.getElem?_map] at c2
    cases ex : xs[i]? with
    | none => rw [ex] at c2; cases c2
    | some x =>
      rw [ex] at c2
      cases c2
      obtain ⟨b1, b2, b3, _⟩ := paired_get P i kv x c1 ex
      exact ⟨b1, b2, b3.kt kt⟩
end
/-! ### looking and laying -/
def lookN (k : NestedKey) : List (D × D) → Option D
  | [] => none
  | kv :: r => if nkD kv.1 = some k then some kv.2 else lookN k r
def putN (k : NestedKey) (y v : D) : List (D × D) → List (D × D)
  | [] => [(y, v)]
  | kv :: r => if nkD kv.1 = some k then (kv.1, v) :: r else kv :: putN k y v r
theorem look_at {X : Cx} {H : Hp} {ow : Option World} {k : NestedKey} : ∀ {kvs : List (D × D)} {xs : List (NestedKey × Addr × Value)}, Paired (Rl X H ow) kvs xs → match lookN k kvs, atKey xs k with
    | none, none => True
    | some d, some p => ∃ v, RD X.K H d v ∧ RelV v p.2
    | _, _ => False
  | _, _, .nil => by simp [lookN, atKey]
  | _, _, .cons (a := kv) (b := x) (l₂ := l2) r t => by
    have ih := look_at (k := k) t
    obtain ⟨r1, _, _, _, r2⟩ := r
    unfold lookN
    by_cases e : x.1 = k
    · rw [if_pos (by rw [r1, e])]
      have : atKey (x :: l2) k = some x.2 := by unfold atKey; rw [List.find?_cons_of_pos (by simpa using e)]; rfl
      rw [this]
      exact r2
    · rw [if_neg (by rw [r1]; simpa using e)]
      have : ∀ l, atKey (x :: l) k = atKey l k := fun l => by unfold atKey; rw [List.find?_cons_of_neg (by simpa using e)]
      rw [this]
      exact ih
theorem look_some {X : Cx} {H : Hp} {ow : Option World} {k : NestedKey} {kvs : List (D × D)} {xs : List (NestedKey × Addr × Value)} {d : D} (P : Paired (Rl X H ow) kvs xs) (h : lookN k kvs = some d) : ∃ p, atKey xs k = some p ∧ ∃ v, RD X.K H d v ∧ RelV v p.2 := by
  have := look_at (k := k) P
  rw [h] at this
  cases e : atKey xs k with
  | none => rw [e] at this; exact this.elim
  | some p => rw [e] at this; exact ⟨p, rfl, this⟩
theorem look_is {X : Cx} {H : Hp} {ow : Option World} {k : NestedKey} {kvs : List (D × D)} {xs : List (NestedKey × Addr × Value)} (P : Paired (Rl X H ow) kvs xs) : (atKey xs k).isSome = (lookN k kvs).isSome := by
  have := look_at (k := k) P
  cases h : lookN k kvs with
  | none =>
    rw [h] at this
    cases e : atKey xs k with
    | none => rfl
    | some p => rw [e] at this; exact this.elim
  | some d =>
    rw [h] at this
    cases e : atKey xs k with
    | none => rw [e] at this; exact this.elim
    | some p => rfl
theorem storedH_cons_eq {x : NestedKey × Addr × Value} {xs : List (NestedKey × Addr × Value)} {k : NestedKey} {a : Addr} {v : Value} (h : x.1 = k) (hn : k ∉ xs.map (·.1)) : storedH (x :: xs) k a v = (x.1, x.2.1, v) :: xs := by
  have : (atKey (x :: xs) k).isSome = true := by unfold atKey; rw [List.find?_cons_of_pos (by simpa using h)]; rfl
  unfold storedH
  rw [if_pos this, List.map_cons]
  congr 1
  · unfold putAt; rw [if_pos h]
  · conv => rhs; rw [← List.map_id xs]
    refine List.map_congr_left fun y hy => ?_
    unfold putAt
    rw [if_neg fun e => hn (List.mem_map.mpr ⟨y, hy, e⟩)]
    rfl
theorem storedH_cons_ne {x : NestedKey × Addr × Value} {xs : List (NestedKey × Addr × Value)} {k : NestedKey} {a : Addr} {v : Value} (h : x.1 ≠ k) : storedH (x :: xs) k a v = x :: storedH xs k a v := by
  have : atKey (x :: xs) k = atKey xs k := by unfold atKey; rw [List.find?_cons_of_neg (by simpa using h)]
  unfold storedH
  rw [this]
  split
  · rw [List.map_cons]
    congr 1
    unfold putAt; rw [if_neg h]
  · rfl
theorem put_at {X : Cx} {H : Hp} {ow : Option World} {k : NestedKey} {y d : D} {a : Addr} {v : V} {u : Value} (hy : nkD y = some k) (hd : k.depth ≤ 8) (ry : RD X.K H y (.ref a)) (hh : HashOk ow k (k.hash X.w)) (rd : RD X.K H d v) (rv : RelV v u) :
    ∀ {kvs : List (D × D)} {xs : List (NestedKey × Addr × Value)}, Paired (Rl X H ow) kvs xs → (xs.map (·.1)).Nodup → Paired (Rl X H ow) (putN k y d kvs) (storedH xs k a u)
  | _, _, .nil, _ => by
    show Paired _ [(y, d)] [(k, a, u)]
    exact .cons ⟨hy, hd, ry, hh, v, rd, rv⟩ .nil
  | _, _, .cons (a := kv) (b := x) (l₁ := l1) (l₂ := l2) r t, nd => by
    rw [List.map_cons, List.nodup_cons] at nd
    have hr := r
    obtain ⟨r1, r2, r3, r4, r5⟩ := r
    unfold putN
    by_cases e : x.1 = k
    · rw [if_pos (by rw [r1, e]), storedH_cons_eq e (by rw [← e]; exact nd.1)]
      exact .cons ⟨r1, r2, r3, r4, v, rd, rv⟩ t
    · rw [if_neg (by rw [r1]; simpa using e), storedH_cons_ne e]
      exact .cons hr (put_at hy hd ry hh rd rv t nd.2)
theorem putN_len {k : NestedKey} {y d : D} : ∀ {kvs : List (D × D)}, (putN k y d kvs).length ≤ kvs.length + 1
  | [] => by simp [putN]
  | kv :: r => by
    unfold putN
    split
    · simp
    · have := putN_len (k := k) (y := y) (d := d) (kvs := r)
      simp only [List.length_cons]
      omega
/-! ### keys that are ints or texts -/
def keyD : D → Option Key
  | .int i => some (.inl i)
  | .str x => some (.inr x)
  | _ => none
def lookK (k : Key) : List (Key × D) → Option D
  | [] => none
  | kv :: r => if kv.1 = k then some kv.2 else lookK k r
def putKD (kvs : List (Key × D)) (k : Key) (v : D) : List (Key × D) := if (kvs.any fun kv => decide (kv.1 = k)) = true then kvs.map fun kv => if kv.1 = k then (kv.1, v) else kv else kvs ++ [(k, v)]
theorem keyD_rd {K : PySem.W.Frag} {H : Hp} {y : D} {v : V} {k : Key} (r : RD K H y v) (h : keyD y = some k) : v = kV k := by
  cases r <;> simp [keyD] at h <;> subst h <;> rfl
theorem lookK_at {K : PySem.W.Frag} {H : Hp} {k : Key} : ∀ {kvs : List (Key × D)} {kvs' : List (Key × V)}, kvs'.map (·.1) = kvs.map (·.1) → RDs K H (kvs.map (·.2)) (kvs'.map (·.2)) → match lookK k kvs, valV kvs' k with
    | none, none => True
    | some d, some v => RD K H d v
    | _, _ => False
  | [], [], _, _ => True.intro
  | [], _ :: _, h, _ => by simp at h
  | _ :: _, [], h, _ => by simp at h
  | kv :: r, p :: r', h, rd => by
    simp only [List.map_cons, List.cons.injEq] at h
    obtain ⟨v, vs', e, r1, r2⟩ := RDs.cons_inv rd
    simp only [List.map_cons, List.cons.injEq] at e
    obtain ⟨rfl, rfl⟩ := e
    have ih := lookK_at (k := k) h.2 r2
    unfold lookK
    by_cases e : kv.1 = k
    · rw [if_pos e, valV_pos (h.1.trans e)]
      exact r1
    · rw [if_neg e, valV_neg fun z => e (h.1.symm.trans z)]
      exact ih
theorem putK_at {K : PySem.W.Frag} {H : Hp} {k : Key} {d : D} {v : V} (rv : RD K H d v) {kvs : List (Key × D)} {kvs' : List (Key × V)} (h : kvs'.map (·.1) = kvs.map (·.1)) (rd : RDs K H (kvs.map (·.2)) (kvs'.map (·.2))) : (putK kvs' k v).map (·.1) = (putKD kvs k d).map (·.1) ∧ RDs K H ((putKD kvs k d).map (·.2)) ((putK kvs' k v).map (·.2)) := by
  have any_eq : ∀ {l : List (Key × D)} {l' : List (Key × V)}, l'.map (·.1) = l.map (·.1) → (l.any fun kv => decide (kv.1 = k)) = l'.any fun kv => decide (kv.1 = k) := by
    intro l
    induction l with
    | nil => intro l' h; cases l' with | nil => rfl | cons _ _ => simp at h
    | cons x l ih =>
      intro l' h
      cases l' with
      | nil => simp at h
      | cons y l' =>
        simp only [List.map_cons, List.cons.injEq] at h
        rw [List.any_cons, List.any_cons, ih h.2, h.1]
  unfold putK putKD
  rw [any_eq h]
  split
  · clear any_eq
    induction kvs generalizing kvs' with
    | nil => cases kvs' with | nil => exact ⟨rfl, .nil⟩ | cons _ _ => simp at h
    | cons x l ih =>
      cases kvs' with
      | nil => simp at h
      | cons y l' =>
        simp only [List.map_cons, List.cons.injEq] at h
        obtain ⟨v0, vs', e, r1, r2⟩ := RDs.cons_inv rd
        simp only [List.map_cons, List.cons.injEq] at e
        obtain ⟨rfl, rfl⟩ := e
        rename_i hany
        have hi : ∀ {l : List (Key × D)} {l' : List (Key × V)}, l'.map (·.1) = l.map (·.1) → RDs K H (l.map (·.2)) (l'.map (·.2)) → (l'.map fun kv => if kv.1 = k then (kv.1, v) else kv).map (·.1) = (l.map fun kv => if kv.1 = k then (kv.1, d) else kv).map (·.1) ∧ RDs K H ((l.map fun kv => if kv.1 = k then (kv.1, d) else kv).map (·.2)) ((l'.map fun kv => if kv.1 = k then (kv.1, v) else kv).map (·.2)) := by
          intro l
          induction l with
          | nil => intro l' h _; cases l' with | nil => exact ⟨rfl, .nil⟩ | cons _ _ => simp at h
          | cons x l ih =>
            intro l' h rd
            cases l' with
            | nil => simp at h
            | cons y l' =>
              simp only [List.map_cons, List.cons.injEq] at h
              obtain ⟨v0, vs', e, r1, r2⟩ := RDs.cons_inv rd
              simp only [List.map_cons, List.cons.injEq] at e
              obtain ⟨rfl, rfl⟩ := e
              obtain ⟨i1, i2⟩ := ih h.2 r2
              simp only [List.map_cons, List.cons.injEq]
              by_cases e : x.1 = k
              · rw [if_pos e, if_pos (h.1.trans e)]
                exact ⟨⟨h.1, i1⟩, .cons rv i2⟩
              · rw [if_neg e, if_neg fun z => e (h.1.symm.trans z)]
                exact ⟨⟨h.1, i1⟩, .cons r1 i2⟩
        exact hi (l := x :: l) (l' := y :: l') (by simp [h.1, h.2]) rd
  · rw [List.map_append, List.map_append, List.map_append, List.map_append, h]
    exact ⟨rfl, rd.append (.cons rv .nil)⟩
/-! ### the readings -/
def isTupD (y : D) : Prop := (∃ xs, y = .tup xs) ∨ ∃ xs, y = .tpl xs
mutual
def plainK : NestedKey → Bool
  | .none => true
  | .num _ => true
  | .text _ => false
  | .tup ks => plainKs ks
def plainKs : List NestedKey → Bool
  | [] => true
  | k :: ks => plainK k && plainKs ks
end
mutual
theorem hash_plain (w w' : World) : ∀ k : NestedKey, plainK k = true → k.hash w = k.hash w'
  | .none, _ => rfl
  | .num _, _ => rfl
  | .text _, h => by simp [plainK] at h
  | .tup ks, h => by
    unfold plainK at h
    unfold NestedKey.hash
    rw [hashes_plain w w' ks h]
theorem hashes_plain (w w' : World) : ∀ ks : List NestedKey, plainKs ks = true → NestedKey.hashes w ks = NestedKey.hashes w' ks
  | [], _ => rfl
  | k :: ks, h => by
    unfold plainKs at h
    rw [Bool.and_eq_true] at h
    unfold NestedKey.hashes
    rw [hash_plain w w' k h.1, hashes_plain w w' ks h.2]
end
def hasIt (G : DG) (a : Addr) (y : D) (o : Option D) : Prop := (∃ kvs k, G a = some (.dK kvs) ∧ keyD y = some k ∧ lookK k kvs = o) ∨ ∃ kvs k, isDi G a kvs ∧ isTupD y ∧ nkD y = some k ∧ k.depth ≤ 8 ∧ lookN k kvs = o
def putIt (G : DG) (a : Addr) (y v : D) (G' : DG) : Prop := (∃ kvs k, G a = some (.dK kvs) ∧ keyD y = some k ∧ kvs.length < sizeLine ∧ G' = up G a (.dK (putKD kvs k v))) ∨ ∃ kvs k, G a = some (.dic none kvs) ∧ isTupD y ∧ nkD y = some k ∧ k.depth ≤ 8 ∧ plainK k = true ∧ kvs.length < sizeLine ∧ G' = up G a (.dic none (putN k y v kvs))
def getD : F2 := fun x y G Q => ∃ a v, x = .ref a ∧ hasIt G a y (some v) ∧ Q v G
theorem getD_mono : MonoF2 getD := fun x y G Q Q' h ⟨a, v, e, i, q⟩ => ⟨a, v, e, i, h _ _ q⟩
/-- a reading by data, as a reading of the hand layer -/
def r2D (K : PySem.W.Frag) (f : F2) : R2 := fun x y H Q => ∃ G dx dy, MH K G H ∧ RD K H dx x ∧ RD K H dy y ∧ f dx dy G (lf K H Q)
theorem r2D_sim {K : PySem.W.Frag} {f : F2} : Sim2 K (r2D K f) f := fun H G x y dx dy Q m rx ry h => ⟨G, dx, dy, m, rx, ry, h⟩
theorem isTup_ref {K : PySem.W.Frag} {H : Hp} {y : D} {v : V} (h : isTupD y) (r : RD K H y v) : ∃ b, v = .ref b := by
  rcases h with ⟨xs, rfl⟩ | ⟨xs, rfl⟩ <;> cases r <;> exact ⟨_, rfl⟩
section
variable {X : Cx} {a b c e o i value : Expr} {es rest : List Expr} {ta tb tc : DE} {pos pos' : Pos}
theorem room8 (hu : X.A.units + 64 < cLine) : (nestedKind X.prog X.w).room X.A.in1 := by
  show X.A.units + 1 + 8 < cLine
  omega
theorem dk_type {pins : List (Addr × Obj)} {σ : St} {H : Hp} {s : Shared} {G : DG} {p : Addr} {y : D} {oo : Option D} (I : L2.Inv X pins σ H s) (m : MH X.K G H) (h : hasIt G p y oo) : s.TypeIs (.ref p) "dict" := by
  rcases h with ⟨kvs, k, e, _⟩ | ⟨kvs, k, e, _⟩
  · obtain ⟨kvs', e1, _⟩ := m p _ e
    obtain ⟨_, _, vs, _, dd⟩ := dk_rd I.hok (.inl e1)
    exact dd.typeIs
  · obtain ⟨xs, dd, _⟩ := di_fwd I m e
    exact dd.typeIs
theorem get_ok {pins : List (Addr × Obj)} {σ : St} {H : Hp} {s : Shared} {G : DG} {p : Addr} {y d : D} {yv : V} {u : Value} {Q : VK} (hu : X.A.units + 64 < cLine) (I : L2.Inv X pins σ H s) (m : MH X.K G H) (h : hasIt G p y (some d)) (ry : RD X.K H y yv) (ru : RelV yv u) (q : lf X.K H Q d G) : wpAny (model X.prog X.w) X.A (getItem (.ref p) u) (EP X pins σ Q) X.xe s := by
  rcases h with ⟨kvs, k, e, hk, l⟩ | ⟨kvs, k, e, ht, hk, hd, l⟩
  · obtain ⟨kvs', e1, e2, e3⟩ := m p _ e
    have := lookK_at (k := k) e2 e3
    rw [l] at this
    cases ev : valV kvs' k with
    | none => rw [ev] at this; exact this.elim
    | some v =>
      rw [ev] at this
      exact d_getItem (v := v) (A := X.A) (by omega) I (.inl ⟨kvs', k, .inl e1, keyD_rd ry hk, ev.symm⟩) ru fun w' s' I' rw' => ⟨v, H, I', rw', q v H m this .refl⟩
  · obtain ⟨xs, dd, P, hs, hz⟩ := di_fwd I m e
    obtain ⟨pr, ep, v, rv, ru'⟩ := look_some P l
    obtain ⟨b, rfl⟩ := isTup_ref ht ry
    cases (show u = Value.ref b from ru)
    exact wpAny_getItem_heap (room8 hu) ⟨nk_is I y k hk _ _ ry rfl, hd⟩ dd ep ⟨v, H, I.tok _, ru', q v H m rv .refl⟩
theorem de_dget (hu : X.A.units + 64 < cLine) (ha : DPE X a ta) (hb : DPE X b tb) (hs : NoSl b := by exact fun _ _ => rfl) : DPE X (.Subscript a b pos) (dOp getD ta tb) := by
  obtain ⟨ma, tta, pa, ra⟩ := ha
  obtain ⟨mb, ttb, pb, rb⟩ := hb
  refine ⟨dOp_mono getD_mono ma mb, tOp (r2D X.K getD) tta ttb, ⟨fun pins s σ H Q I h => ?_⟩, dOp_run getD_mono r2D_sim ma mb ra rb⟩
  refine subD_of PySem.F.slot_dict_getitem.lookup hs (thn (pa.run pins s σ H _ I h) fun u s1 ⟨x, H1, I1, rx, q1⟩ => thn (pb.run pins s1 σ H1 _ I1 q1) fun iv s2 ⟨y, H2, I2, ry, G, dx, dy, m, rdx, rdy, p, d, ex, hi, q⟩ => ?_)
  subst ex
  cases rdx
  obtain rfl : u = Value.ref p := rx
  exact ⟨dk_type I2 m hi, get_ok hu I2 m hi rdy ry q⟩
/-- d[y] = v -/
def dDput (td ty tv : DE) : DS := fun D σ G => tv σ G fun v G1 => td σ G1 fun x G2 => ty σ G2 fun y G3 => ∃ a G4, x = .ref a ∧ putIt G3 a y v G4 ∧ D.nx σ G4
theorem put_ok {pins : List (Addr × Obj)} {σ : St} {H : Hp} {s : Shared} {G G' : DG} {p : Addr} {y d : D} {yv v : V} {u r : Value} {Q : Unit → Shared → Prop} (hu : X.A.units + 64 < cLine) (I : L2.Inv X pins σ H s) (m : MH X.K G H) (h : putIt G p y d G') (ry : RD X.K H y yv) (ru : RelV yv u) (rd : RD X.K H d v) (rv : RelV v r)
    (q : ∀ H' s', L2.Inv X pins σ H' s' → MH X.K G' H' → KT X.K H H' → Q () s') : wpAny (model X.prog X.w) X.A (setItem (.ref p) u r) Q X.xe s := by
  rcases h with ⟨kvs, k, e, hk, hl, rfl⟩ | ⟨kvs, k, e, ht, hk, hd, hp, hl, rfl⟩
  · obtain ⟨kvs', e1, e2, e3⟩ := m p _ e
    have hlen : kvs'.length = kvs.length := by simpa using congrArg List.length e2
    obtain ⟨c1, c2⟩ := putK_at (k := k) rd e2 e3
    have kk : KT X.K H (L2.upd H p (.dK (putK kvs' k v))) := .upd_mut e1 (fun _ e => by cases e) (fun _ _ e => by cases e)
    exact d_setItem (by omega) I (.inl ⟨kvs', k, e1, keyD_rd ry hk, by omega, rfl⟩) ru rv fun s' I' => q _ s' I' (m.upd kk ⟨_, upd_same, c1, c2.kt kk⟩) kk
  · obtain ⟨xs, dd, P, hs, hz, mu⟩ := dic_fwd I (m p _ e) (by intro w z; cases z)
    obtain ⟨b, rfl⟩ := isTup_ref ht ry
    cases (show u = Value.ref b from ru)
    have hlx := Paired.length P
    refine wpAny_setItem_heap (hsz := by omega) (room8 hu) ⟨nk_is I y k hk _ _ ry rfl, hd⟩ dd fun h' dd' hb => ?_
    have nd : (xs.map (·.1)).Nodup := let ⟨_, _, _, _, _, _, _, _, z⟩ := dd; z
    have P' := put_at hk hd ry (ow := none) (fun w => hash_plain _ _ k hp) rd rv P nd
    have hz' : (putN k y d kvs).length ≤ sizeLine := by have := putN_len (k := k) (y := y) (d := d) (kvs := kvs); omega
    obtain ⟨uo, mu', ob, mo⟩ := dic_bwd dd' P' hs hz'
    have kk : KT X.K H (L2.upd H p uo) := by
      cases hH : H p with
      | none => rw [hH] at mu; exact mu.elim
      | some w0 =>
        rw [hH] at mu
        exact .upd_mut hH (fun _ z => by rw [z] at mu; exact mu.elim) (fun _ _ z => by rw [z] at mu; exact mu.elim)
    have he : ∃ q, h'.get? p = some q := let ⟨q, _, _, hq, _⟩ := dd'; ⟨q, hq⟩
    exact q _ _ (I.write (x := p) (e := p) mu (.inl rfl) (fun b q hb' z => (hb.2 b hb').trans z) he ob) (m.upd kk (mo kk)) kk
theorem ds_dput {tv : DE} (hu : X.A.units + 64 < cLine) (ho : DPE X o ta) (hi : DPE X i tb) (hv : DPE X value tv) (hs : swapsWith value (some (.Subscript o i pos')) pos.line X.env = pure false := by rfl) : DPS X (.Assign [.Subscript o i pos'] value pos) (dDput ta tb tv) := by
  obtain ⟨ma, tta, pa, ra⟩ := ho
  obtain ⟨mb, ttb, pb, rb⟩ := hi
  obtain ⟨mv, ttv, pv, rv⟩ := hv
  refine ⟨fun σ G D D' l q => mv σ G _ _ (fun v G1 q1 => ma σ G1 _ _ (fun x G2 q2 => mb σ G2 _ _ (fun y G3 ⟨a, G4, h1, h2, q3⟩ => ⟨a, G4, h1, h2, l.1 _ _ q3⟩) q2) q1) q,
    fun D σ H => ttv σ H fun v H1 => tta σ H1 fun x H2 => ttb σ H2 fun y H3 => ∃ G d p dy G4, x = .ref p ∧ MH X.K G H3 ∧ RD X.K H3 d v ∧ RD X.K H3 dy y ∧ putIt G p dy d G4 ∧ ∀ H4, MH X.K G4 H4 → KT X.K H3 H4 → D.nx σ H4, ⟨fun pins s σ H D I h => ?_⟩, fun σ H σd G D m s h => ?_⟩
  · refine wpAny_Assign_Subscript (thn (pv.run pins s σ H _ I h) fun r s1 ⟨v, H1, I1, rv', q1⟩ => thn (pa.run pins s1 σ H1 _ I1 q1) fun u s2 ⟨x, H2, I2, rx, q2⟩ => thn (pb.run pins s2 σ H2 _ I2 q2) fun iv s3 ⟨y, H3, I3, ry, G, d, p, dy, G4, ex, m, rd, rdy, g, q3⟩ => ?_) hs
    subst ex
    obtain rfl : u = Value.ref p := rx
    exact put_ok hu I3 m g rdy ry rd rv' fun H4 s4 I4 m4 k4 => ⟨σ, H4, I4, q3 H4 m4 k4⟩
  · refine rv σ H σd G _ m s (mv _ _ _ _ (fun d G1 h1 v H1 m1 r1 k1 => ra σ H1 σd G1 _ m1 (s.kt k1) (ma _ _ _ _ (fun dx G2 h2 x H2 m2 r2 k2 => rb σ H2 σd G2 _ m2 (s.kt (k1.trans k2)) (mb _ _ _ _ (fun dy G3 ⟨p, G4, ex, g, q⟩ y H3 m3 r3 k3 => ?_) h2)) h1)) h)
    subst ex
    cases r2
    exact ⟨G3, d, p, dy, G4, rfl, m3, (r1.kt k2).kt k3, r3, g, fun H4 m4 k4 => q σ H4 m4 (s.kt ((k1.trans k2).trans (k3.trans k4))) ((k1.trans k2).trans (k3.trans k4))⟩
/-- {} -/
def dDicK : DE := fun _ G Q => ∀ p, G p = none → Q (.ref p) (up G p (.dK []))
def dDicN : DE := fun _ G Q => ∀ p, G p = none → Q (.ref p) (up G p (.dic none []))
theorem de_dicN : DPE X (.Dict [] [] pos) dDicN := by
  refine ⟨fun σ G Q Q' h q p hp => h _ _ (q p hp), fun σ H Q => ∀ p u, H p = none → (∀ G, MH X.K G H → MH X.K (up G p (.dic none [])) (upd H p u)) → KT X.K H (upd H p u) → Q (.ref p) (upd H p u), ⟨fun pins s σ H Q I h => ?_⟩, fun σ H σd G Q m s h p u hp hm kk => h p (m.fresh hp) _ _ (hm G m) (.ref p) kk⟩
  have dd : (s.heap.push { cls := .type "dict", data := .dict #[] }).DictOfH (nestedKind X.prog X.w) s.heap.objs.size [] := Heap.DictOfH.new s.heap
  have hb : (s.heap.objs.size == sysModules) = false := beq_eq_false_iff_ne.mpr (Ne.symm (Nat.ne_of_lt I.big))
  obtain ⟨u, mu, ob, mo⟩ := dic_bwd (X := X) (H := H) (ow := none) (kvs := []) dd .nil hb (Nat.zero_le _)
  have hn : H s.heap.objs.size = none := I.hok.fresh (Nat.le_refl _)
  have kk : KT X.K H (L2.upd H s.heap.objs.size u) := .upd_new hn
  exact wpAny_Dict_empty ⟨.ref s.heap.objs.size, _, I.laid (a := s.heap.objs.size) (o := u) (t' := s.toks) (fun _ _ q => Heap.get?_push_of_some _ q) (Nat.le_refl _) ob, rfl, h _ u hn (fun G m => m.upd kk (mo kk)) kk⟩
/-- len(d) -/
def sizeIt (G : DG) (a : Addr) (n : Nat) : Prop := (∃ kvs, G a = some (.dK kvs) ∧ kvs.length = n) ∨ ∃ kvs, isDi G a kvs ∧ kvs.length = n
def lenDicD : FL := fun xs G Q => ∃ a n, xs = [.ref a] ∧ sizeIt G a n ∧ Q (.int (n : Nat)) G
def rLD (K : PySem.W.Frag) (f : FL) : List V → Hp → VK → Prop := fun xs H Q => ∃ G ds, MH K G H ∧ RDs K H ds xs ∧ f ds G (lf K H Q)
theorem rLD_sim {K : PySem.W.Frag} {f : FL} : SimL K (rLD K f) f := fun H G xs ds Q m r h => ⟨G, ds, m, r, h⟩
end
end FD

namespace FD
open PySem L2
/-! ### exceptions: raised, caught and kept -/
/-- a class of exceptions whose instances are asked for their kind -/
structure ExK (K : PySem.W.Frag) (n : Str) (C : Addr) : Prop where
  at_ : ClsAt K n C
  cl : (PySem.W.clsIn K C).isSome = true
  ga : PySem.W.findIn K (.ref C) "__getattribute__" = some (some (.builtin "BaseException.__getattribute__"))
  gg : PySem.W.findIn K (.ref C) "__getattr__" = some none
  sub : PySem.W.subIn K (.ref C) (.type "BaseException") = some true
  ca : PySem.W.findIn K (.ref C) "__class__" = some (some (.builtin "object.__class__"))
  gs : PySem.W.specialIn K (.builtin "object.__class__") "__get__" = some (some (.builtin "getset_descriptor.__get__"))
  tk : PySem.W.takesIn K (.builtin "object.__class__") = some true
  mr : PySem.W.mroIn K C (.type "object") = some true
  hd : PySem.W.hasDictIn K C = true
  ty : PySem.W.typeIn K (.ref C) = some (.type "type")
  kp : PySem.W.keepIn K (.ref C) = true
section
variable {X : Cx} {E : DX} {n m f x : Str} {j : Nat} {p p1 p2 pos pos2 pos' : Pos} {e o : Expr} {es : List Expr} {ta tv : DE} {t : DA}
def dRaise0 (n : Str) (E : DX) : DS := fun _ _ G => E n none G
/-! ### an __init__ of the form: FarError.__init__(self, text); self.f = f -/
end
section
variable {X : Cx} {E : DX} {n m f x : Str} {k j : Nat} {p p1 p2 pos pos2 pos' : Pos} {e o : Expr} {es : List Expr} {ta tv : DE} {t : DA}
def dRaise1 (n f : Str) (E : DX) (ta : DE) : DS := fun _ σ G => ta σ G fun d G1 => E n (some [(f, d)]) G1
end
/-! ### try .. except X as e: c = e -/
section
variable {X : Cx} {pins : List (Addr × Obj)} {σ : St} {H : Hp} {s : Shared}
end
section
variable {X : Cx} {x n y : Str} {c : Value} {i j : Nat} {body : List Stmt} {np pos pos' p1 p2 p3 : Pos} {tb : WX → TS}
end
/-! ### .. by data -/
def PassDS (X : Cx) (Hb : Hp) (ES : DSt → DX) : Prop := ∃ W : WX, Takes X W ∧ ∀ σd σ H, KT X.K Hb H → SR X.K H σd σ → ∀ c fo G', ES σd c fo G' → lfX X.K H (fun cls d H' => W cls d σ H') c fo G'
/-- an expression in a try's body: what it lets out is wished for at the slots -/
structure DPEx (X : Cx) (e : Expr) (t : (DSt → DX) → DE) : Prop where
  mono : ∀ (ES ES' : DSt → DX) σ G (Q Q' : DK), (∀ σ c fo G', ES σ c fo G' → ES' σ c fo G') → (∀ d G', Q d G' → Q' d G') → t ES σ G Q → t ES' σ G Q'
  run : ∀ pn xe Hb ES, PassDS (X.tr pn xe) Hb ES → ∃ tt, PE (X.tr pn xe) e tt ∧ ∀ σ H σd G Q, KT X.K Hb H → MH X.K G H → SR X.K H σd σ → t ES σd G (lf X.K H Q) → tt σ H Q
structure DPX (X : Cx) (sts : List Stmt) (t : (DSt → DX) → DS) : Prop where
  mono : ∀ (ES ES' : DSt → DX) D D' σ G, (∀ σ c fo G', ES σ c fo G' → ES' σ c fo G') → DEnds.Le D D' → t ES D σ G → t ES' D' σ G
  run : ∀ pn xe Hb ES, PassDS (X.tr pn xe) Hb ES → ∃ tt, PSs (X.tr pn xe) sts tt ∧ ∀ σ H σd G D, KT X.K Hb H → MH X.K G H → SR X.K H σd σ → t ES (lfE X.K H D) σd G → tt D σ H
section
variable {X : Cx} {k i j : Nat} {Cn : Ct} {E : DX} {x n y c m cn : Str} {p p1 p2 p3 pos pos2 pos' np apos : Pos} {e o cond : Expr} {es : List Expr} {ta to : DE} {t : DA} {tx : (DSt → DX) → DE} {tb tb2 : (DSt → DX) → DS} {tc : DTt} {body as bs : List Stmt}
def dCallS (C : Ct) (t : DA) (ES : DSt → DX) : DE := fun σ G Q => t σ G fun ds G1 => UpC C ds G1 Q (ES σ)
theorem UpC.imp {C : Ct} {ds : List D} {G : DG} {Q Q' : DK} {E E' : DX} (h : ∀ d G', Q d G' → Q' d G') (he : ∀ c fo G', E c fo G' → E' c fo G') (u : UpC C ds G Q E) : UpC C ds G Q' E' := let ⟨Q0, E0, a, b, c⟩ := u; ⟨Q0, E0, a, fun d G' q => h _ _ (b d G' q), fun x y z q => he _ _ _ (c x y z q)⟩
def isXd : O → Prop
  | .xd _ => True
  | _ => False
/-- behind an exception, kept -/
def kept (ns : List Str) (i j : Nat) (N : DSt → DG → Prop) : DSt → DX := fun σ n fo G => n ∈ ns ∧ ∀ a, G a = none → match fo with
  | none => N (((σ.set i (some (.ref a))).set j (some (.ref a))).set i none) (up G a (.exc n none))
  | some fs => ∀ dd, dd ≠ a → (∀ o, G dd = some o → isXd o) → N (((σ.set i (some (.ref a))).set j (some (.ref a))).set i none) (up (up G dd (.xd fs)) a (.exc n (some dd)))
def dTryK (ns : List Str) (i j : Nat) (tb : (DSt → DX) → DS) : DS := fun D σ G => tb (kept ns i j D.nx) D σ G
theorem MH.over {K : PySem.W.Frag} {G : DG} {H : Hp} {p : Addr} {o : O} (m : MH K G H) (h : MO K H p o) : MH K (up G p o) H := fun a x e => by
  by_cases z : a = p
  · subst z
    rw [up_same] at e
    cases e
    exact h
  · rw [up_ne z] at e
    exact m a x e
end
/-! ### what kind a kept exception is; its field -/
def isKind (n m : Str) : Bool := m == n || (m == ("FarError" : Str) || m == ("ValueError" : Str))
def odOk (G : DG) : Option Addr → Prop
  | none => True
  | some dd => ∃ fs, G dd = some (.xd fs)
section
variable {X : Cx} {ns ms : List Str} {m f : Str} {e : Expr} {es : List Expr} {ta : DE} {p p2 pos : Pos}
def dIsX (ns ms : List Str) (ta : DE) : DE := fun σ G Q => ta σ G fun x G1 => ∃ a n od, x = .ref a ∧ n ∈ ns ∧ G1 a = some (.exc n od) ∧ odOk G1 od ∧ Q (.bl (ms.any (isKind n))) G1
/-- e.f of a kept exception -/
def dXf (n f : Str) (ta : DE) : DE := fun σ G Q => ta σ G fun x G1 => ∃ a dd fs v, x = .ref a ∧ G1 a = some (.exc n (some dd)) ∧ G1 dd = some (.xd fs) ∧ fs.lookup f = some v ∧ Q v G1
end
/-! ### facts of the classes -/
/-! ### steps -/
section
variable {σ : DSt} {G : DG} {Q : DK} {E : DX} {n f : Str} {ns ms : List Str} {i j : Nat} {a dd : Addr} {od : Option Addr} {ta tb tc : DE} {t : DA} {C : Ct} {ES : DSt → DX} {nx bk ct : DSt → DG → Prop} {rt : DK} {De : DEnds} {tx : (DSt → DX) → DS} {d : D} {fs : List (Str × D)}
theorem s_raise0 (h : E n none G) : dRaise0 n E De σ G := h
instance i_s_raise0  : WStp (dRaise0 n E De σ G) (E n none G) := ⟨fun h => s_raise0 h⟩
theorem s_raise1 (h : ta σ G fun d G1 => E n (some [(f, d)]) G1) : dRaise1 n f E ta De σ G := h
instance i_s_raise1  : WStp (dRaise1 n f E ta De σ G) (ta σ G fun d G1 => E n (some [(f, d)]) G1) := ⟨fun h => s_raise1 h⟩
theorem s_tryK (h : tx (kept ns i j nx) ⟨nx, rt, bk, ct⟩ σ G) : dTryK ns i j tx ⟨nx, rt, bk, ct⟩ σ G := h
instance i_s_tryK  : WStp (dTryK ns i j tx ⟨nx, rt, bk, ct⟩ σ G) (tx (kept ns i j nx) ⟨nx, rt, bk, ct⟩ σ G) := ⟨fun h => s_tryK h⟩
theorem s_callS (h : t σ G fun ds G1 => UpC C ds G1 Q (ES σ)) : dCallS C t ES σ G Q := h
instance i_s_callS  : WStp (dCallS C t ES σ G Q) (t σ G fun ds G1 => UpC C ds G1 Q (ES σ)) := ⟨fun h => s_callS h⟩
def isXB (ns ms : List Str) (x : D) (G : DG) (Q : DK) : Prop := ∃ a n od, x = .ref a ∧ n ∈ ns ∧ G a = some (.exc n od) ∧ odOk G od ∧ Q (.bl (ms.any (isKind n))) G
theorem s_isX (h : ta σ G fun x G1 => isXB ns ms x G1 Q) : dIsX ns ms ta σ G Q := h
instance i_s_isX  : WStp (dIsX ns ms ta σ G Q) (ta σ G fun x G1 => isXB ns ms x G1 Q) := ⟨fun h => s_isX h⟩
theorem s_isXB {k : Bool} (e : G a = some (.exc n od)) (hn : n ∈ ns) (ho : odOk G od) (hk : ms.any (isKind n) = k) (h : Q (.bl k) G) : isXB ns ms (.ref a) G Q := ⟨a, n, od, rfl, hn, e, ho, by rw [hk]; exact h⟩
def xfB (n f : Str) (x : D) (G : DG) (Q : DK) : Prop := ∃ a dd fs v, x = .ref a ∧ G a = some (.exc n (some dd)) ∧ G dd = some (.xd fs) ∧ fs.lookup f = some v ∧ Q v G
theorem s_xf (h : ta σ G fun x G1 => xfB n f x G1 Q) : dXf n f ta σ G Q := h
instance i_s_xf  : WStp (dXf n f ta σ G Q) (ta σ G fun x G1 => xfB n f x G1 Q) := ⟨fun h => s_xf h⟩
theorem s_xfB (e : G a = some (.exc n (some dd))) (e2 : G dd = some (.xd fs)) (e3 : fs.lookup f = some d) (h : Q d G) : xfB n f (.ref a) G Q := ⟨a, dd, fs, d, rfl, e, e2, e3, h⟩
end
section
variable {σ : DSt} {G : DG} {Q : DK} {a : Addr} {y d : D} {kvs : List (D × D)} {k : NestedKey} {kks : List (Key × D)} {kk : Key} {ta tb tc : DE} {nx bk ct : DSt → DG → Prop} {rt : DK} {neg : Bool} {o : Option D} {R : DG → Prop}
theorem s_dicK (h : ∀ p, G p = none → Q (.ref p) (up G p (.dK []))) : dDicK σ G Q := h
instance i_s_dicK  : WStp (dDicK σ G Q) (∀ p, G p = none → Q (.ref p) (up G p (.dK []))) := ⟨fun h => s_dicK h⟩
theorem s_dicN (h : ∀ p, G p = none → Q (.ref p) (up G p (.dic none []))) : dDicN σ G Q := h
instance i_s_dicN  : WStp (dDicN σ G Q) (∀ p, G p = none → Q (.ref p) (up G p (.dic none []))) := ⟨fun h => s_dicN h⟩
theorem s_getN (e : G a = some (.dic none kvs)) (ht : isTupD y) (hk : nkD y = some k) (hd : k.depth ≤ 8) (hl : lookN k kvs = some d) (h : Q d G) : getD (.ref a) y G Q := ⟨a, d, rfl, .inr ⟨kvs, k, .inl e, ht, hk, hd, hl⟩, h⟩
theorem s_getK (e : G a = some (.dK kks)) (hk : keyD y = some kk) (hl : lookK kk kks = some d) (h : Q d G) : getD (.ref a) y G Q := ⟨a, d, rfl, .inl ⟨kks, kk, e, hk, hl⟩, h⟩
def dputB (x y v : D) (G : DG) (R : DG → Prop) : Prop := ∃ a G4, x = .ref a ∧ putIt G a y v G4 ∧ R G4
theorem s_dput (h : tc σ G fun v G1 => ta σ G1 fun x G2 => tb σ G2 fun y G3 => dputB x y v G3 fun G4 => nx σ G4) : dDput ta tb tc ⟨nx, rt, bk, ct⟩ σ G := h
instance i_s_dput  : WStp (dDput ta tb tc ⟨nx, rt, bk, ct⟩ σ G) (tc σ G fun v G1 => ta σ G1 fun x G2 => tb σ G2 fun y G3 => dputB x y v G3 fun G4 => nx σ G4) := ⟨fun h => s_dput h⟩
theorem s_dputN (e : G a = some (.dic none kvs)) (ht : isTupD y) (hk : nkD y = some k) (hd : k.depth ≤ 8) (hp : plainK k = true) (hl : kvs.length < 100000) (h : R (up G a (.dic none (putN k y d kvs)))) : dputB (.ref a) y d G R := ⟨a, _, rfl, .inr ⟨kvs, k, e, ht, hk, hd, hp, Nat.lt_of_lt_of_le hl (by decide), rfl⟩, h⟩
theorem s_lenN (e : G a = some (.dic none kvs)) (h : Q (.int (kvs.length : Nat)) G) : lenDicD [.ref a] G Q := ⟨a, _, rfl, .inr ⟨kvs, .inl e, rfl⟩, h⟩
theorem s_getF (e : G a = some (.dif none kvs)) (ht : isTupD y) (hk : nkD y = some k) (hd : k.depth ≤ 8) (hl : lookN k kvs = some d) (h : Q d G) : getD (.ref a) y G Q := ⟨a, d, rfl, .inr ⟨kvs, k, .inr e, ht, hk, hd, hl⟩, h⟩
theorem s_lenF (e : G a = some (.dif none kvs)) (h : Q (.int (kvs.length : Nat)) G) : lenDicD [.ref a] G Q := ⟨a, _, rfl, .inr ⟨kvs, .inr e, rfl⟩, h⟩
theorem s_lenK (e : G a = some (.dK kks)) (h : Q (.int (kks.length : Nat)) G) : lenDicD [.ref a] G Q := ⟨a, _, rfl, .inl ⟨kks, e, rfl⟩, h⟩
end
end FD

namespace FD
open PySem L2
/-! ### methods of a built-in kind, by what is known of the receiver -/
section
variable {X : Cx} {a b c e o : Expr} {es rest : List Expr} {ta tb tc to : DE} {t : DA} {pos apos cpos : Pos} {name : Str} {T id : String} {r : V → List V → Hp → VK → Prop} {f : FM}
def TyOk (X : Cx) (T : String) (ty : V → Hp → Prop) : Prop := ∀ (pins : List (Addr × Obj)) (σ : St) (H : Hp) (s : Shared) (x : V) (v : Value), L2.Inv X pins σ H s → RelV x v → ty x H → s.TypeIs v T ∧ ∀ a, v = .ref a → ∃ ob, s.heap.get? a = some ob ∧ ob.dict = none
def tBX (ty : V → Hp → Prop) (r : V → List V → Hp → VK → Prop) (to : TE) (t : TA) : TE := fun σ H Q => to σ H fun x H1 => ty x H1 ∧ t σ H1 fun xs H2 => r x xs H2 Q
theorem pe_bx {ty : V → Hp → Prop} {tto : TE} {tta : TA} (kd : TyOk X T ty) (pl : PlainAttrs T) (slot : Slot T name id) (hty : typeOf (.builtin id) = pure (.type "method_descriptor")) (hm : MtR X id r) (ho : PE X o tto) (ha : PA X (e :: es) tta)
    (hbase : attributeBase o name X.env (eval o X.env) = eval o X.env := by rfl)
    (hfew : ((backTo cpos (starEach (e :: es) X.env)).all (fun x => !x.1) && (backToKw cpos (keywordEach [] X.env)).all (fun x => x.1.isSome)
      && decide ((e :: es).length + ([] : List Keyword).length + (if ([] : List Keyword).isEmpty then 0 else 1) < 30)) = true := by rfl)
    (hline : (apos.endLine == cpos.line) = true := by rfl) (hs : starEach (e :: es) X.env = (false, eval e X.env) :: starEach es X.env := by rfl) (hplain : (backTo cpos (starEach es X.env)).any (·.1) = false := by rfl) :
    PE X (.Call (.Attribute o name apos) (e :: es) [] cpos) (tBX ty r tto tta) := by
  refine ⟨fun pins s σ H Q I h => ?_⟩
  refine wpAny_Call_method_late hbase hfew hline rfl (thn (ho.run pins s σ H _ I h) fun v s1 hh => ?_)
  obtain ⟨x, H1, I1, r1, hk, q1⟩ := hh
  obtain ⟨h1, h2⟩ := kd pins σ H1 s1 x v I1 r1 hk
  refine ⟨T, id, pl, slot, hty, h1, h2, ?_⟩
  have run := ha.run cpos pins s1 σ H1 _ I1 q1
  rw [hs] at run ⊢
  refine Calls.callWith_builtin (by show (false || (backTo cpos (starEach es X.env)).any (·.1)) = false; rw [hplain] <;> rfl) (Calls.evalArgs_plain ?_)
  exact thn run fun us s2 hh2 => by
    obtain ⟨vs, H2, I2, r2, q2⟩ := hh2
    exact hm pins s2 σ H2 x vs v us Q I2 r1 r2 q2
/-- the receiver is of a kind -/
def dMx (cond : D → DG → Prop) (f : FM) (to : DE) (t : DA) : DE := fun σ G Q => to σ G fun x G1 => cond x G1 ∧ t σ G1 fun xs G2 => f x xs G2 Q
theorem de_mx {ty : V → Hp → Prop} {cond : D → DG → Prop} (kd : TyOk X T ty) (kc : ∀ H G d x, MH X.K G H → RD X.K H d x → cond d G → ty x H) (pl : PlainAttrs T) (slot : Slot T name id) (hty : typeOf (.builtin id) = pure (.type "method_descriptor")) (hm : MtR X id r) (hf : MonoFM f) (hs : SimM X.K r f) (ho : DPE X o to) (ha : DPA X (e :: es) t)
    (hbase : attributeBase o name X.env (eval o X.env) = eval o X.env := by rfl)
    (hfew : ((backTo pos (starEach (e :: es) X.env)).all (fun x => !x.1) && (backToKw pos (keywordEach [] X.env)).all (fun x => x.1.isSome)
      && decide ((e :: es).length + ([] : List Keyword).length + (if ([] : List Keyword).isEmpty then 0 else 1) < 30)) = true := by rfl)
    (hline : (apos.endLine == pos.line) = true := by rfl) (h1 : starEach (e :: es) X.env = (false, eval e X.env) :: starEach es X.env := by rfl) (hplain : (backTo pos (starEach es X.env)).any (·.1) = false := by rfl) :
    DPE X (.Call (.Attribute o name apos) (e :: es) [] pos) (dMx cond f to t) := by
  obtain ⟨mo, tto, po, ro⟩ := ho
  obtain ⟨ma, tta, pa, ra⟩ := ha
  refine ⟨fun σ G Q Q' h q => mo σ G _ _ (fun x G1 q1 => ⟨q1.1, ma σ G1 _ _ (fun xs G2 q2 => hf x xs G2 Q Q' h q2) q1.2⟩) q, _, pe_bx kd pl slot hty hm po pa hbase hfew hline h1 hplain, fun σ H σd G Q m s h => ?_⟩
  refine ro σ H σd G _ m s (mo _ _ _ _ (fun dx G1 q1 x H1 m1 r1 k1 => ?_) h)
  refine ⟨kc H1 G1 dx x m1 r1 q1.1, ra σ H1 σd G1 _ m1 (s.kt k1) (ma _ _ _ _ (fun dxs G2 q2 xs H2 m2 r2 k2 => ?_) q1.2)⟩
  exact hs H2 G2 x xs dx dxs Q m2 (r1.kt k2) r2 (hf _ _ _ _ _ (fun d G' z => lf_kt (k1.trans k2) z) q2)
/-! ### tuple.index -/
theorem s_mx {σ : DSt} {G : DG} {Q : DK} {cond : D → DG → Prop} (h : to σ G fun x G1 => cond x G1 ∧ t σ G1 fun xs G2 => f x xs G2 Q) : dMx cond f to t σ G Q := h
instance i_s_mx {σ : DSt} {G : DG} {Q : DK} {cond : D → DG → Prop} : WStp (dMx cond f to t σ G Q) (to σ G fun x G1 => cond x G1 ∧ t σ G1 fun xs G2 => f x xs G2 Q) := ⟨fun h => s_mx h⟩
/-! ### sorted of a list of pairs of ints -/
abbrev encPI (p : Int × Int) : D := .tup [.int p.1, .int p.2]
def lexLe (p q : Int × Int) : Prop := p.1 < q.1 ∨ (p.1 = q.1 ∧ p.2 ≤ q.2)
def sortedPD : FL := fun xs G Q => ∃ (a : Addr) (ps : List (Int × Int)), xs = [.ref a] ∧ G a = some (.lst (ps.map encPI)) ∧ ∀ (qs : List (Int × Int)) (p : Addr), qs.Perm ps → qs.Pairwise lexLe → G p = none → Q (.ref p) (up G p (.lst (qs.map encPI)))
theorem rd_pair {K : PySem.W.Frag} {H : Hp} {p : Int × Int} {v : V} (r : RD K H (encPI p) v) : ∃ a, v = .ref a ∧ SqT K H a [.int p.1, .int p.2] := by
  cases r with
  | @tup a _ vs h hl hi =>
    refine ⟨a, rfl, ?_⟩
    obtain ⟨v1, vs1, rfl, r1, r2⟩ := RDs.cons_inv (xs := [.int p.2]) ⟨hl, hi⟩
    obtain ⟨v2, vs2, rfl, r3, r4⟩ := r2.cons_inv
    cases r4.nil_inv
    cases r1
    cases r3
    exact h.t
theorem cr_sortedPD : CallR X (.builtin "sorted") (rLD X.K sortedPD) := by
  classical
  intro pins s σ H xs us Q I r ⟨G, ds, m, rd, a, ps, e, hG, q⟩
  subst e
  obtain ⟨v, vs', rfl, r1, r2⟩ := rd.cons_inv
  cases r2.nil_inv
  cases r1
  obtain ⟨u, rfl, ru⟩ := vals1 r
  cases (show u = Value.ref a from ru)
  obtain ⟨vs, hH, rds⟩ := m a _ hG
  obtain ⟨its, rv, hl, hz⟩ := I.list (.inl (.inl hH) : SqL X.K H a vs)
  have one : ∀ (i : Nat) (u : Value), its[i]? = some u → ∃ p v, ps[i]? = some p ∧ vs[i]? = some v ∧ RD X.K H (encPI p) v ∧ RelV v u := fun i u hu => by
    have hi : i < its.length := (List.getElem?_eq_some_iff.mp hu).1
    have h1 := rds.1
    rw [List.length_map] at h1
    have h2 := rv.length
    have e1 : ps[i]? = some (ps[i]'(by omega)) := List.getElem?_eq_getElem _
    have e2 : vs[i]? = some (vs[i]'(by omega)) := List.getElem?_eq_getElem _
    refine ⟨_, _, e1, e2, rds.2 i _ _ (by rw [List.getElem?_map, e1]; rfl) e2, ?_⟩
    obtain ⟨u', q1, q2⟩ := rv.get e2
    rw [hu] at q1
    cases q1
    exact q2
  have pair : ∀ u ∈ its, ∃ p : Int × Int, Srt.IsPair s.heap u p.1 p.2 ∧ ∃ b, u = .ref b ∧ RD X.K H (encPI p) (.ref b) := fun u hu => by
    obtain ⟨i, hi⟩ := List.mem_iff_getElem?.mp hu
    obtain ⟨p, v, _, _, rp, ru⟩ := one i u hi
    obtain ⟨b, rfl, hs⟩ := rd_pair rp
    cases (show u = Value.ref b from ru)
    obtain ⟨jt, rj, ⟨o, ho, hc, n, hd⟩, _⟩ := I.tuple hs
    obtain ⟨u1, u2, rfl, ri, rk⟩ := vals2 rj
    obtain ⟨t1, rfl⟩ := ri
    obtain ⟨t2, rfl⟩ := rk
    exact ⟨p, ⟨b, o, t1, t2, n, rfl, ho, hc, hd⟩, b, rfl, rp⟩
  let k : Value → Int × Int := fun u => if h : ∃ p : Int × Int, Srt.IsPair s.heap u p.1 p.2 ∧ ∃ b, u = .ref b ∧ RD X.K H (encPI p) (.ref b) then h.choose else (0, 0)
  have hk : ∀ u ∈ its, Srt.IsPair s.heap u (k u).1 (k u).2 ∧ ∃ b, u = .ref b ∧ RD X.K H (encPI (k u)) (.ref b) := fun u hu => by
    have h := pair u hu
    have e : k u = h.choose := dif_pos h
    rw [e]
    exact h.choose_spec
  have uniq : ∀ {p p' : Int × Int} {v : V}, RD X.K H (encPI p) v → RD X.K H (encPI p') v → p = p' := fun {p p' v} h1 h2 => by
    obtain ⟨b, rfl, s1⟩ := rd_pair h1
    obtain ⟨b', e, s2⟩ := rd_pair h2
    cases e
    have := I.tuple_inj s1 s2
    simp only [List.cons.injEq, V.int.injEq, and_true] at this
    exact Prod.ext this.1 this.2
  have hks : its.map k = ps := by
    refine List.ext_getElem? fun i => ?_
    rw [List.getElem?_map]
    cases hu : its[i]? with
    | none =>
      have h1 := rds.1
      rw [List.length_map] at h1
      have h2 := rv.length
      have h3 := List.getElem?_eq_none_iff.mp hu
      symm
      rw [Option.map_none]
      exact List.getElem?_eq_none_iff.mpr (by omega)
    | some u =>
      obtain ⟨p, v, e1, _, rp, ru⟩ := one i u hu
      obtain ⟨_, b, rfl, rk⟩ := hk u (List.mem_of_getElem? hu)
      obtain ⟨b', rfl, _⟩ := rd_pair rp
      cases (show Value.ref b = Value.ref b' from ru)
      rw [e1, Option.map_some, uniq rk rp]
  refine SrtO.sorted_pairsO (k := k) hl.isList (by rw [← rv.length]; exact hz) (fun u hu => (hk u hu).1) fun h' d out h1 h2 kp hd hn => ?_
  obtain ⟨n, hn⟩ := hn
  have mem : ∀ u ∈ out, u ∈ its := fun u hu => h2.perm.mem_iff.mp hu
  have hv : ∀ (l : List Value), (∀ u ∈ l, u ∈ its) → ∃ ws, Vals ws l ∧ RDs X.K H ((l.map k).map encPI) ws := fun l => by
    induction l with
    | nil => exact fun _ => ⟨[], .nil, .nil⟩
    | cons u l ih =>
      intro hm
      obtain ⟨ws, w1, w2⟩ := ih fun u hu => hm u (List.mem_cons_of_mem _ hu)
      obtain ⟨_, b, rfl, rk⟩ := hk u (hm _ List.mem_cons_self)
      exact ⟨.ref b :: ws, .cons rfl w1, .cons rk w2⟩
  obtain ⟨ws, w1, w2⟩ := hv out mem
  have hfr := I.hok.fresh hd
  have kk : KT X.K H (L2.upd H d (.lst ws)) := .upd_new hfr
  have hlen : ws.length ≤ sizeLine := by
    rw [w1.length, h2.len, ← rv.length]
    exact hz
  refine ⟨.ref d, upd H d (.lst ws), I.laid (t' := s.toks) kp hd ⟨hlen, out, n, w1, hn⟩, rfl, q (out.map k) d ?_ ?_ (m.fresh hfr) _ _ (m.upd kk ⟨ws, upd_same, w2.kt kk⟩) (.ref d) kk⟩
  · rw [← hks]
    exact h2.perm.map k
  · rw [List.pairwise_map]
    refine h1.imp fun {u w} z => ?_
    have := SrtO.lexB_no.mp z
    unfold lexLe
    omega
theorem sortedPD_mono : MonoFL sortedPD := fun xs G Q Q' h ⟨a, ps, e, s, q⟩ => ⟨a, ps, e, s, fun qs p h1 h2 h3 => h _ _ (q qs p h1 h2 h3)⟩
theorem de_sortedP {p : Pos} {t : DA} (hg : Gl X "sorted") (hm : X.mg "sorted" = none) (ha : DPA X (e :: es) t) (h1 : starEach (e :: es) X.env = (false, eval e X.env) :: starEach es X.env := by rfl) (h2 : ((backTo pos (starEach es X.env)).any fun x => x.fst) = false := by rfl) :
    DPE X (.Call (.Name "sorted" p) (e :: es) [] pos) (dCB sortedPD t) := de_callB cr_sortedPD sortedPD_mono rLD_sim hg hm PyProof.Rows.Boot.«sorted» ha (by decide) (by decide) h1 h2
end
end FD

namespace FD
open PySem PyProof.Rows Srt SrtO
/-! ### sorted of what a dict has as its keys, pairs of ints -/
section
variable {prog : Program} {w : World} {A : Around} {E : Value → Shared → Prop} {s : Shared}
/-- what a dict's keys are, gathered; the heap has grown -/
theorem gather_src {T : String} {r d : Addr} {n : Nat} {P : Nat → Value → Prop} {OK : Heap → Prop} {R : List Value → Shared → Prop} (K : PySem.W.KdlSrc prog w T r d n P OK) (calm : A.handled = none) (good : OK s.heap) (fits : n ≤ sizeLine)
    (fin : ∀ (h' : Heap) (tk : Nat) (got : Array Value), (∀ b o, s.heap.get? b = some o → h'.get? b = some o) → s.heap.objs.size < h'.objs.size → ItemsOf P got n → R got.toList { s with heap := h', toks := tk }) :
    wpAny (model prog w) A (collect (.ref r)) R E s := by
  have lt := K.there _ good
  unfold collect
  apply wpAny_bind
  apply wpAny_runValue
  apply codeAny_builtin entry_proto_collect'
  rw [Around.under_plainId PySem.F.plain_proto_collect _]
  change wpAny _ A.in1 (do again (.builtin "list.__iadd__" ⟨[← newList [], .ref r], []⟩)) _ _ s
  apply wpAny_bind
  refine wpAny_newObj_type ?_
  refine wpAny_pure ⟨PySem.plainId_quiet PySem.F.plain_list_iadd _, codeAny_builtin entry_list_iadd' ?_⟩
  rw [Around.under_plainId PySem.F.plain_list_iadd _]
  have own : (s.heap.push { cls := .type "list", data := .seq ([] : List Value).toArray }).get? s.heap.objs.size = some { cls := .type "list", data := .seq #[] } := Heap.get?_push_size _ rfl
  change wpAny _ A.in1 (Builtin.List.listExtendWith (.ref s.heap.objs.size) (.ref r) (.ref s.heap.objs.size)) _ _ _
  have long := PySem.W.kdl_extend (A := A) (s := { s with heap := s.heap.push { cls := .type "list", data := .seq ([] : List Value).toArray } })
    (R := fun (q : Result) (s' : Shared) => ∃ (h' : Heap) (tk : Nat) (got : Array Value) (c' : Nat), q = .ok (.ret (.ref s.heap.objs.size)) ∧ s' = { s with heap := h', toks := tk } ∧ (∀ b o, s.heap.get? b = some o → h'.get? b = some o) ∧
      h'.get? s.heap.objs.size = some { cls := .type "list", dict := none, data := .seq got c', slots := #[] } ∧ ItemsOf P got n)
    K calm (K.keep _ _ good fun b _ o e => Heap.get?_push_of_some _ e) s.heap.objs.size (Nat.ne_of_gt lt.1) (Nat.ne_of_gt lt.2) (.ref s.heap.objs.size) 0 own
    (fun h' tk got c' hk z1 z2 => ⟨h', tk, got, c', rfl, rfl, fun b o e => hk b o (Nat.ne_of_lt (Heap.lt_size e)) (Heap.get?_push_of_some _ e), z1, z2⟩) fits
  refine wpAny_mono long (fun last s' x => ?_) fun e s' x => ?_
  · cases last with
    | done f =>
      obtain ⟨h', tk, got, c', e, rfl, hk, z1, z2⟩ := x
      cases e
      change wpAny _ A (load s.heap.objs.size >>= _) _ _ _
      exact wpAny_bind (wpAny_load z1 (wpAny_pure (fin h' tk got hk (Heap.lt_size z1) z2)))
    | again c₁ =>
      refine ⟨x.1, codeAny_mono x.2 fun q s₂ y => ?_⟩
      obtain ⟨h', tk, got, c', rfl, rfl, hk, z1, z2⟩ := y
      change wpAny _ A (load s.heap.objs.size >>= _) _ _ _
      exact wpAny_bind (wpAny_load z1 (wpAny_pure (fin h' tk got hk (Heap.lt_size z1) z2)))
  · obtain ⟨_, _, _, _, z, _⟩ := x
    cases z
theorem sorted_src {T : String} {r d : Addr} {n : Nat} {P : Nat → Value → Prop} {OK : Heap → Prop} {k : Value → Int × Int} {Q : Value → Shared → Prop} (K : PySem.W.KdlSrc prog w T r d n P OK) (hh : A.handled = none) (hok : OK s.heap) (hn : n ≤ sizeLine) (hp : ∀ i v, P i v → IsPair s.heap v (k v).1 (k v).2)
    (h : ∀ (h' : Heap) (tk : Nat) (D : Addr) (vs out : List Value), vs.length = n → (∀ (j : Nat) v, vs[j]? = some v → P j v) → Srtd (fun v u => lexB (k v) (k u)) out → Stb (fun v u => lexB (k v) (k u)) out vs → (∀ b o, s.heap.get? b = some o → h'.get? b = some o) → s.heap.objs.size ≤ D → (∃ m, h'.get? D = some (seqObj "list" out.toArray m)) → Q (.ref D) { s with heap := h', toks := tk }) :
    wpAny (model prog w) A (call (.builtin "sorted") [.ref r]) Q E s := by
  apply Calls.call_function_entry kind_sorted plain_sorted entry_sorted (args_sorted1 _)
  unfold Builtin.«sorted»
  apply wpAny_bind (m := checkCount "sorted" 1 1 _)
  apply wpAny_pure
  apply wpAny_bind
  refine gather_src (A := A.in1) K hh hok hn fun h1 tk acc hk grown hacc => ?_
  have hl : acc.toList.length = n := by rw [Array.length_toList]; exact hacc.1
  have hP : ∀ (j : Nat) v, acc.toList[j]? = some v → P j v := fun j v e => hacc.2 j v (by rw [← Array.getElem?_toList]; exact e)
  generalize acc.toList = vs at hl hP
  have le : s.heap.objs.size ≤ h1.objs.size := by omega
  apply wpAny_bind
  refine wpAny_newList ?_ (by rw [hl]; exact hn)
  have here : (h1.push (seqObj "list" vs.toArray 0)).get? h1.objs.size = some (seqObj "list" vs.toArray 0) := Heap.get?_push_size _ rfl
  have keep : ∀ b o, s.heap.get? b = some o → b ≠ h1.objs.size ∧ (h1.push (seqObj "list" vs.toArray 0)).get? b = some o := fun b o e => ⟨Nat.ne_of_lt (Heap.lt_size (hk b o e)), Heap.get?_push_of_some _ (hk b o e)⟩
  change wpAny _ _ _ _ _ { s with heap := h1.push (seqObj "list" vs.toArray 0), toks := tk }
  apply wpAny_bind
  apply wpAny_holding
  refine wpAny_call_entry slot_list_sort ⟨_, here, rfl⟩ entry_list_sort (list_sort_ord (swo_lex k) here (by rw [hl]; exact hn) (fun h2 => ?_) fun out hs hb => ⟨_, rfl, ?_⟩) (args_list_sort _)
  · refine pairs_sortableO (by omega) (fun v hm => ?_) fun o e => ?_
    · obtain ⟨j, hj⟩ := List.mem_iff_getElem?.mp hm
      exact (hp j v (hP j v hj)).keeps fun b o e _ => (keep b o e).2
    · have e' : some o = some (seqObj "list" vs.toArray 0) := e.symm.trans here
      cases e'
      intro c
      exact absurd (Value.type.inj c) (by decide)
  · refine wpAny_pure ⟨_, rfl, ?_⟩
    refine h _ tk h1.objs.size vs out hl hP hs hb (fun b o e => ?_) le ?_
    · rw [sortedHeap_old (keep b o e).1 (Heap.lt_size (keep b o e).2)]
      exact (keep b o e).2
    · exact sortedHeap_at here
end
end FD
namespace FD
open PySem L2
section
variable {X : Cx} {a b c e o : Expr} {es rest : List Expr} {ta tb tc to : DE} {t : DA} {pos apos cpos : Pos}
theorem dic_raw {pins : List (Addr × Obj)} {σ : St} {H : Hp} {s : Shared} {G : DG} {p : Addr} {kvs : List (D × D)} (I : L2.Inv X pins σ H s) (m : MH X.K G H) (hp : G p = some (.dic none kvs)) :
    ∃ es ep xs, s.heap.DictRaw p es ep ∧ es.size = kvs.length ∧ (p == sysModules) = false ∧ kvs.length ≤ sizeLine ∧ Paired (Rl X H none) kvs xs ∧ ∀ (i : Nat) (hi : i < es.size), ∃ kv x, kvs[i]? = some kv ∧ xs[i]? = some x ∧ Rl X H none kv x ∧ es[i].key = .ref x.2.1 ∧ es[i].val = x.2.2 := by
  obtain ⟨xs, ⟨o, es, ep, h1, h2, h3, h4, h5, h6⟩, P, hs, hz, mu⟩ := dic_fwd I (m p _ hp) (by intro w z; cases z)
  have hl := Paired.length P
  have hes : es.size = xs.length := by
    have := congrArg List.length h4
    simpa using this
  refine ⟨es, ep, xs, ⟨o, h1, h2, h3⟩, by omega, hs, hz, P, fun i hi => ?_⟩
  have e1 : kvs[i]? = some (kvs[i]'(by omega)) := List.getElem?_eq_getElem _
  have e2 : xs[i]? = some (xs[i]'(by omega)) := List.getElem?_eq_getElem _
  have e3 : es.toList[i]? = (xs.map (entryOfKey (nestedKind X.prog X.w)))[i]? := by rw [h4]
  rw [List.getElem?_map, e2, Array.getElem?_toList, Array.getElem?_eq_getElem hi] at e3
  have e4 : es[i] = entryOfKey (nestedKind X.prog X.w) (xs[i]'(by omega)) := Option.some.inj e3
  refine ⟨_, _, e1, e2, paired_get P i _ _ e1 e2, ?_, ?_⟩
  · rw [e4]; rfl
  · rw [e4]; rfl
/-- sorted(d), d's keys pairs of ints -/
def sortedDicD : FL := fun xs G Q => ∃ (a : Addr) (kvs : List (D × D)) (ps : List (Int × Int)), xs = [.ref a] ∧ G a = some (.dic none kvs) ∧ kvs.map (·.1) = ps.map encPI ∧ ∀ (qs : List (Int × Int)) (p : Addr), qs.Perm ps → qs.Pairwise lexLe → G p = none → Q (.ref p) (up G p (.lst (qs.map encPI)))
theorem cr_sortedDic (hc : X.calm = true) : CallR X (.builtin "sorted") (rLD X.K sortedDicD) := by
  classical
  intro pins s σ H xs us Q I r ⟨G, ds, m, rd, a, kvs, ps, e, hG, hkp, q⟩
  subst e
  obtain ⟨v, vs', rfl, r1, r2⟩ := rd.cons_inv
  cases r2.nil_inv
  cases r1
  obtain ⟨u, rfl, ru⟩ := vals1 r
  cases (show u = Value.ref a from ru)
  obtain ⟨es, ep, ys, raw, hes, hsys, hz, P, at_⟩ := dic_raw I m hG
  have hpl : ps.length = kvs.length := by
    have := congrArg List.length hkp
    simpa using this.symm
  have key : ∀ (i : Nat) (hi : i < es.size), ∃ p b, ps[i]? = some p ∧ es[i].key = .ref b ∧ RD X.K H (encPI p) (.ref b) := fun i hi => by
    obtain ⟨kv, x, e1, e2, rl, e3, _⟩ := at_ i hi
    have e4 : ps[i]? = some (ps[i]'(by omega)) := List.getElem?_eq_getElem _
    have e5 : (kvs.map (·.1))[i]? = (ps.map encPI)[i]? := by rw [hkp]
    rw [List.getElem?_map, List.getElem?_map, e1, e4] at e5
    refine ⟨_, _, e4, e3, ?_⟩
    have e6 : kv.1 = encPI (ps[i]'(by omega)) := Option.some.inj e5
    rw [← e6]
    exact rl.2.2.1
  have uniq : ∀ {p p' : Int × Int} {v : V}, RD X.K H (encPI p) v → RD X.K H (encPI p') v → p = p' := fun {p p' v} h1 h2 => by
    obtain ⟨b, rfl, s1⟩ := rd_pair h1
    obtain ⟨b', e, s2⟩ := rd_pair h2
    cases e
    have := I.tuple_inj s1 s2
    simp only [List.cons.injEq, V.int.injEq, and_true] at this
    exact Prod.ext this.1 this.2
  let k : Value → Int × Int := fun u => if h : ∃ p : Int × Int, ∃ b, u = .ref b ∧ RD X.K H (encPI p) (.ref b) then h.choose else (0, 0)
  have hk : ∀ (p : Int × Int) b, RD X.K H (encPI p) (.ref b) → k (.ref b) = p := fun p b rp => by
    have h : ∃ p : Int × Int, ∃ b', Value.ref b = .ref b' ∧ RD X.K H (encPI p) (.ref b') := ⟨p, b, rfl, rp⟩
    have e : k (.ref b) = h.choose := dif_pos h
    rw [e]
    obtain ⟨b', e', r'⟩ := h.choose_spec
    cases e'
    exact uniq r' rp
  have isP : ∀ (p : Int × Int) b, RD X.K H (encPI p) (.ref b) → Srt.IsPair s.heap (.ref b) p.1 p.2 := fun p b rp => by
    obtain ⟨b', e', hs⟩ := rd_pair rp
    cases e'
    obtain ⟨jt, rj, ⟨o, ho, hc, n, hd⟩, _⟩ := I.tuple hs
    obtain ⟨u1, u2, rfl, ri, rk⟩ := vals2 rj
    obtain ⟨t1, rfl⟩ := ri
    obtain ⟨t2, rfl⟩ := rk
    exact ⟨b, o, t1, t2, n, rfl, ho, hc, hd⟩
  refine sorted_src (k := k) (PySem.KdlSrc.rawDict hsys) (I.ok.hd hc) raw (by omega) (fun i v ⟨hi, hv⟩ => ?_) fun h' tk d vs out hl hP h1 h2 kp hd hn => ?_
  · obtain ⟨p, b, _, e2, rp⟩ := key i hi
    rw [hv, e2, hk p b rp]
    exact isP p b rp
  · obtain ⟨n, hn⟩ := hn
    have hvs : ∀ (i : Nat) u, vs[i]? = some u → ∃ p b, ps[i]? = some p ∧ u = .ref b ∧ RD X.K H (encPI p) (.ref b) := fun i u hu => by
      obtain ⟨hi, hv⟩ := hP i u hu
      obtain ⟨p, b, e1, e2, rp⟩ := key i hi
      exact ⟨p, b, e1, by rw [hv, e2], rp⟩
    have hks : vs.map k = ps := by
      refine List.ext_getElem? fun i => ?_
      rw [List.getElem?_map]
      cases hu : vs[i]? with
      | none =>
        have h3 := List.getElem?_eq_none_iff.mp hu
        symm
        rw [Option.map_none]
        exact List.getElem?_eq_none_iff.mpr (by omega)
      | some u =>
        obtain ⟨p, b, e1, rfl, rp⟩ := hvs i u hu
        rw [e1, Option.map_some, hk p b rp]
    have mem : ∀ u ∈ out, ∃ p b, u = .ref b ∧ RD X.K H (encPI p) (.ref b) := fun u hu => by
      obtain ⟨i, hi⟩ := List.mem_iff_getElem?.mp (h2.perm.mem_iff.mp hu)
      obtain ⟨p, b, _, e, rp⟩ := hvs i u hi
      exact ⟨p, b, e, rp⟩
    have hv : ∀ (l : List Value), (∀ u ∈ l, ∃ p b, u = .ref b ∧ RD X.K H (encPI p) (.ref b)) → ∃ ws, Vals ws l ∧ RDs X.K H ((l.map k).map encPI) ws := fun l => by
      induction l with
      | nil => exact fun _ => ⟨[], .nil, .nil⟩
      | cons u l ih =>
        intro hm
        obtain ⟨ws, w1, w2⟩ := ih fun u hu => hm u (List.mem_cons_of_mem _ hu)
        obtain ⟨p, b, rfl, rp⟩ := hm u List.mem_cons_self
        refine ⟨.ref b :: ws, .cons rfl w1, .cons ?_ w2⟩
        show RD X.K H (encPI (k (.ref b))) (.ref b)
        rw [hk p b rp]
        exact rp
    obtain ⟨ws, w1, w2⟩ := hv out mem
    have hfr := I.hok.fresh hd
    have kk : KT X.K H (L2.upd H d (.lst ws)) := .upd_new hfr
    have hlen : ws.length ≤ sizeLine := by
      rw [w1.length, h2.len]
      omega
    refine ⟨.ref d, upd H d (.lst ws), I.laid kp hd ⟨hlen, out, n, w1, hn⟩, rfl, q (out.map k) d ?_ ?_ (m.fresh hfr) _ _ (m.upd kk ⟨ws, upd_same, w2.kt kk⟩) (.ref d) kk⟩
    · rw [← hks]
      exact h2.perm.map k
    · rw [List.pairwise_map]
      refine h1.imp fun {u w} z => ?_
      have := SrtO.lexB_no.mp z
      unfold lexLe
      omega
theorem sortedDicD_mono : MonoFL sortedDicD := fun xs G Q Q' h ⟨a, kvs, ps, e, s, z, q⟩ => ⟨a, kvs, ps, e, s, z, fun qs p h1 h2 h3 => h _ _ (q qs p h1 h2 h3)⟩
theorem de_sortedDic {p : Pos} {t : DA} (hc : X.calm = true) (hg : Gl X "sorted") (hm : X.mg "sorted" = none) (ha : DPA X (e :: es) t) (h1 : starEach (e :: es) X.env = (false, eval e X.env) :: starEach es X.env := by rfl) (h2 : ((backTo pos (starEach es X.env)).any fun x => x.fst) = false := by rfl) :
    DPE X (.Call (.Name "sorted" p) (e :: es) [] pos) (dCB sortedDicD t) := de_callB (cr_sortedDic hc) sortedDicD_mono rLD_sim hg hm PyProof.Rows.Boot.«sorted» ha (by decide) (by decide) h1 h2
end
end FD

namespace FD
open PySem L2
/-! ### list(range(..)) -/
def lrB (xs : List D) (G : DG) (Q : DK) : Prop := match xs with
  | [.int b] => RgOk 0 b ∧ ∀ q, G q = none → Q (.ref q) (up G q (.lst (rangeD 0 b)))
  | [.int a, .int b] => RgOk a b ∧ ∀ q, G q = none → Q (.ref q) (up G q (.lst (rangeD a b)))
  | _ => False
def dListRange (t : DA) : DE := fun σ G Q => t σ G fun xs G1 => lrB xs G1 Q
section
variable {X : Cx} {a b : Expr} {ta tb : DE}
end
section
variable {ts : DA} {σ : DSt} {G : DG} {Q : DK} {p : Addr} {xs : List D} {d : D}
theorem s_lr (h : ts σ G fun xs G1 => lrB xs G1 Q) : dListRange ts σ G Q := h
instance i_s_lr  : WStp (dListRange ts σ G Q) (ts σ G fun xs G1 => lrB xs G1 Q) := ⟨fun h => s_lr h⟩
theorem s_lr1 {b : Int} (e : 0 ≤ b ∧ b ≤ 16777216) (h : ∀ q, G q = none → Q (.ref q) (up G q (.lst (rangeD 0 b)))) : lrB [.int b] G Q := ⟨.of_le (by omega) e.2 (by omega) e.1, h⟩
theorem s_lr2 {a b : Int} (e : 0 ≤ a ∧ a ≤ 16777216 ∧ 0 ≤ b ∧ b ≤ 16777216) (h : ∀ q, G q = none → Q (.ref q) (up G q (.lst (rangeD a b)))) : lrB [.int a, .int b] G Q := ⟨.of_le e.1 e.2.2.2 e.2.1 e.2.2.1, h⟩
end
end FD

namespace FD
open PySem L2
/-! ### list.index of data, dict.get -/
section
variable {X : Cx} {a b c e o : Expr} {es rest : List Expr} {ta tb tc to : DE} {t : DA} {pos apos cpos : Pos}
/-! ### dict.get with a default -/
def isDc (x : D) (G : DG) : Prop := ∃ a kvs, x = .ref a ∧ G a = some (.dic none kvs)
def dcV (K : PySem.W.Frag) (x : V) (H : Hp) : Prop := ∃ a kvs, x = .ref a ∧ MO K H a (.dic none kvs)
theorem dc_ok : TyOk X "dict" (dcV X.K) := fun pins σ H s x v I r h => by
  obtain ⟨a, kvs, rfl, mo⟩ := h
  cases (show v = Value.ref a from r)
  obtain ⟨xs, dd, _⟩ := dic_fwd I mo (by intro w z; cases z)
  refine ⟨dd.typeIs, fun b e => ?_⟩
  cases e
  obtain ⟨o, es, ep, e1, e2, _⟩ := dd
  exact ⟨o, e1, e2.2.1⟩
def getmD : FM := fun x xs G Q => ∃ a kvs k y z, x = .ref a ∧ xs = [y, z] ∧ G a = some (.dic none kvs) ∧ isTupD y ∧ nkD y = some k ∧ k.depth ≤ 8 ∧ Q ((lookN k kvs).getD z) G
def rGetm (K : PySem.W.Frag) : V → List V → Hp → VK → Prop := fun x xs H Q => ∃ G a kvs k y z yv zv, x = .ref a ∧ xs = [yv, zv] ∧ MH K G H ∧ G a = some (.dic none kvs) ∧ RD K H y yv ∧ RD K H z zv ∧ isTupD y ∧ nkD y = some k ∧ k.depth ≤ 8 ∧ lf K H Q ((lookN k kvs).getD z) G
theorem mt_getm (hu : X.A.units + 64 < cLine) : MtR X "dict.get" (rGetm X.K) := by
  intro pins s σ H x xs v us Q I rx rxs h
  obtain ⟨G, p, kvs, k, y, z, yv, zv, rfl, rfl, m, e, ry, rz, ht, hk, hd, q⟩ := h
  obtain ⟨b, rfl⟩ := isTup_ref ht ry
  cases (show v = Value.ref p from rx)
  cases rxs with
  | cons r1 r2 =>
    cases r2 with
    | cons r3 r4 =>
      cases r4
      rename_i u1 u2
      cases (show u1 = Value.ref b from r1)
      obtain ⟨xs, dd, P, hs, hz, _⟩ := dic_fwd I (m p _ e) (by intro w z; cases z)
      refine call_meetsIn PySem.F.slot_dict_get dd.typeIs PySem.F.entry_dict_get (PySem.F.args_dict_get_3 _ _ _) (meetsH_dict_get_default (nestedKind X.prog X.w) p b hs u2) ⟨?_, k, xs, ⟨nk_is I y k hk _ _ ry rfl, hd⟩, dd, ?_⟩
      · show X.A.units + 1 + 8 < cLine
        omega
      · cases hl : lookN k kvs with
        | none =>
          have : atKey xs k = none := by
            have := look_is (k := k) P
            rw [hl] at this
            cases e : atKey xs k with
            | none => rfl
            | some p => rw [e] at this; cases this
          rw [this]
          rw [hl] at q
          exact ⟨zv, H, I.tok _, r3, q zv H m rz .refl⟩
        | some d =>
          obtain ⟨pr, ep, v, rv, ru'⟩ := look_some P hl
          rw [ep]
          rw [hl] at q
          exact ⟨v, H, I.tok _, ru', q v H m rv .refl⟩
theorem de_getm (hu : X.A.units + 64 < cLine) (ho : DPE X o to) (ha : DPA X (e :: es) t)
    (hbase : attributeBase o "get" X.env (eval o X.env) = eval o X.env := by rfl)
    (hfew : ((backTo pos (starEach (e :: es) X.env)).all (fun x => !x.1) && (backToKw pos (keywordEach [] X.env)).all (fun x => x.1.isSome)
      && decide ((e :: es).length + ([] : List Keyword).length + (if ([] : List Keyword).isEmpty then 0 else 1) < 30)) = true := by rfl)
    (hline : (apos.endLine == pos.line) = true := by rfl) (h1 : starEach (e :: es) X.env = (false, eval e X.env) :: starEach es X.env := by rfl) (hplain : (backTo pos (starEach es X.env)).any (·.1) = false := by rfl) :
    DPE X (.Call (.Attribute o "get" apos) (e :: es) [] pos) (dMx isDc getmD to t) :=
  de_mx dc_ok (fun H G d x m r h => by
    obtain ⟨a, kvs, rfl, e⟩ := h
    cases r
    exact ⟨_, kvs, rfl, m _ _ e⟩) PySem.F.plainAttrs_dict PySem.F.slot_dict_get PySem.F.type_dict_get (mt_getm hu)
    (fun x xs G Q Q' h ⟨a, kvs, k, y, z, a1, a2, a3, a4, a5, a6, q⟩ => ⟨a, kvs, k, y, z, a1, a2, a3, a4, a5, a6, h _ _ q⟩)
    (fun H G x xs dx dxs Q m rx rs ⟨a, kvs, k, y, z, a1, a2, a3, a4, a5, a6, q⟩ => by
      subst a1 a2
      cases rx
      obtain ⟨v, vs', rfl, r1, r2⟩ := rs.cons_inv
      obtain ⟨v2, vs2, rfl, r3, r4⟩ := r2.cons_inv
      cases r4.nil_inv
      exact ⟨G, a, kvs, k, y, z, v, v2, rfl, rfl, m, a3, r1, r3, a4, a5, a6, q⟩) ho ha hbase hfew hline h1 hplain
theorem s_getm {G : DG} {Q : DK} {a : Addr} {kvs : List (D × D)} {k : NestedKey} {y z : D} (e : G a = some (.dic none kvs)) (ht : isTupD y) (hk : nkD y = some k) (hd : k.depth ≤ 8) (h : Q ((lookN k kvs).getD z) G) : getmD (.ref a) [y, z] G Q := ⟨a, kvs, k, y, z, rfl, rfl, e, ht, hk, hd, h⟩
end
/-! ### a comprehension inside a comprehension -/
structure BlkF (F : Str × NameKind → Str × NameKind) : Prop where
  fst : ∀ p, (F p).1 = p.1
  fre : ∀ p, p.2 = .free → (F p).2 = .free ∨ (F p).2 = .cell
  oth : ∀ p, p.2 ≠ .free → (F p).2 = p.2
end FD

namespace FD
open PySem L2
/-! ### zip of two lists; facts about a new cell -/
theorem new_l {G H : DG} {c : Addr} {o : O} (e : up G c o = H) (hc : G c = none) : Le G H := e ▸ le_new hc (.refl _)
theorem new_g {G H : DG} {c : Addr} {o : O} (e : up G c o = H) : H c = some o := e ▸ up_same
def zipD (xs ys : List D) : List D := (xs.zip ys).map fun p => D.tpl [p.1, p.2]
def zpB (zs : List D) (G1 : DG) (R : List D → (DG → Prop) → DG → Prop) : Prop := match zs with
  | [.ref p, .ref q] => match G1 p, G1 q with
    | some (.lst xs), some (.lst ys) => R (zipD xs ys) (fun G' => G' p = some (.lst xs) ∧ G' q = some (.lst ys)) G1
    | _, _ => False
  | _ => False
def diZip (t : DA) : DI := fun σ G R => t σ G fun zs G1 => zpB zs G1 R
theorem s_zip {t : DA} {σ : DSt} {G : DG} {R : List D → (DG → Prop) → DG → Prop} (h : t σ G fun zs G1 => zpB zs G1 R) : diZip t σ G R := h
instance i_s_zip {t : DA} {σ : DSt} {G : DG} {R : List D → (DG → Prop) → DG → Prop} : WStp (diZip t σ G R) (t σ G fun zs G1 => zpB zs G1 R) := ⟨fun h => s_zip h⟩
theorem s_zipL {p q : Addr} {xs ys : List D} {G : DG} {R : List D → (DG → Prop) → DG → Prop} (e1 : G p = some (.lst xs)) (e2 : G q = some (.lst ys)) (h : R (zipD xs ys) (fun G' => G' p = some (.lst xs) ∧ G' q = some (.lst ys)) G) : zpB [.ref p, .ref q] G R := by
  simp only [zpB, e1, e2]
  exact h
end FD

namespace FD
open PySem L2
/-! ### a dict by nested keys, walked by its keys: it is locked and stays so -/
def Itn (ow : Option World) (d : Addr) (od : Obj) (ks : List (NestedKey × Addr)) (vs : List V) : It :=
  ⟨fun i H => H d = some (.frz od (dicO ow d ks vs)) ∧ i < ks.length, fun i H x H' => H' = H ∧ ∃ k : NestedKey × Addr, ks[i]? = some k ∧ x = .ref k.2, fun i H => H d = some (.frz od (dicO ow d ks vs)) ∧ ks.length ≤ i⟩
section
variable {X : Cx} {pins : List (Addr × Obj)} {σ : St} {H : Hp} {s : Shared} {ow : Option World} {d : Addr} {od : Obj} {ks : List (NestedKey × Addr)} {vs : List V}
theorem frz_dic (I : L2.Inv X pins σ H s) (h : H d = some (.frz od (dicO ow d ks vs))) : s.heap.get? d = some od ∧ od.ExactDict ∧ ∃ es ep, od.data = .dict es ep ∧ es.size = ks.length ∧ ∀ (i : Nat) k, ks[i]? = some k → ∃ en : DictEntry, es[i]? = some en ∧ en.key = .ref k.2 := by
  obtain ⟨hg, ⟨o, es, ep, e1, e2, e3, p1, p2, p3⟩, _⟩ := I.hok d _ h
  rw [hg] at e1
  cases e1
  refine ⟨hg, e2, es, ep, e3, by rw [← p1]; exact Array.length_toList.symm, fun i k hk => ?_⟩
  have hi := (List.getElem?_eq_some_iff.mp hk).1
  have h1 : i < es.toList.length := by omega
  have h2 : i < vs.length := by omega
  have := p3 i _ k _ (List.getElem?_eq_getElem h1) hk (List.getElem?_eq_getElem h2)
  refine ⟨es.toList[i], ?_, this.2.1⟩
  rw [← Array.getElem?_toList, List.getElem?_eq_getElem h1]
end
theorem turn_n {P : Program} {w : World} {K : PySem.W.Frag} {tg : Expr} {ow : Option World} {d : Addr} {od : Obj} {ks : List (NestedKey × Addr)} {vs : List V} {es : Array DictEntry} {ep : Nat} (it : Addr) (hod : od.data = .dict es ep) :
    Turn P w K tg (Itn ow d od ks vs) [it] it (fun i h => h.IsKeyIter it d i ks.length ep) := by
  refine ⟨List.mem_singleton.mpr rfl, fun i h st b hb => ?_, fun i h h' st k => st.at fun oi e => k it (List.mem_singleton.mpr rfl) oi e, ?_, ?_, fun A i s Q E st h => ?_⟩
  · obtain rfl := List.mem_singleton.mp hb
    obtain ⟨oi, q1, q2, q3⟩ := st
    exact ⟨oi, q1, fun v z => by rw [q3] at z; cases z⟩
  · intro X' x1 x2 x3 ca i pn s σ H E I hf st go
    subst x1 x2 x3
    obtain ⟨g1, g2⟩ := go
    obtain ⟨f0, f1, _, f3, f4, f5⟩ := hf it (List.mem_singleton.mpr rfl)
    obtain ⟨c1, c2, es', ep', c3, c4, c5⟩ := frz_dic I g1
    rw [hod] at c3
    cases c3
    have hk := List.getElem?_eq_getElem g2
    obtain ⟨en, n1, n2⟩ := c5 i _ hk
    refine next_key_item st c1 hod c4 n1 fun h' st' sb => ?_
    have J : L2.Inv X' pn σ H { s with heap := h' } := I.turned (t' := s.toks) (fun b ob hb e => (sb.2 b hb).trans e) f0 f1 f3 f4 f5
    obtain ⟨oi, q1, q2, q3⟩ := id st'
    refine ⟨en.key, rfl, go_of (s := { s with heap := h' }) q1 q2 q3 (by decide) ?_⟩
    exact ⟨.ref ks[i].2, H, J, n2, ⟨rfl, _, hk, rfl⟩, st', fun b hb => (hf b hb).1⟩
  · intro X' x1 x2 x3 ca i pn s σ H E I hf st go
    subst x1 x2 x3
    obtain ⟨g1, g2⟩ := go
    obtain ⟨f0, f1, _, f3, f4, f5⟩ := hf it (List.mem_singleton.mpr rfl)
    obtain ⟨c1, c2, es', ep', c3, c4, c5⟩ := frz_dic I g1
    rw [hod] at c3
    cases c3
    exact next_key_end (I.ok.hd ca) st c1 hod c4 g2 fun h' eb =>
      ⟨rfl, I.turned (t' := s.toks) (fun b ob hb e => eb b ob hb e) f0 f1 f3 f4 f5⟩
  · have ty := st.typeIs (s := s)
    refine wpAny_pyIter_slot ty F.slot_dict_keyiterator_iter ?_
    refine wpAny_call_entry F.slot_dict_keyiterator_iter ty F.entry_dict_keyiterator_iter ?_ (F.args_dict_keyiterator_iter_1 _)
    exact wpAny_pure ⟨_, rfl, "dict_keyiterator", _, ty, F.slot_dict_keyiterator_next.lookup, h⟩
def iDic (td : TE) : TI := fun σ H R => td σ H fun x H1 => ∃ d, x = .ref d ∧ (d == sysModules) = false ∧
  ((∃ ow ks vs, H1 d = some (dicO ow d ks vs) ∧ ∀ od, R (Itn ow d od ks vs) (L2.upd H1 d (.frz od (dicO ow d ks vs)))) ∨ ∃ ow od ks vs, H1 d = some (.frz od (dicO ow d ks vs)) ∧ R (Itn ow d od ks vs) H1)
theorem pi_dic {X : Cx} {tg e : Expr} {td : TE} (he : PE X e td) : PI X tg e (iDic td) := by
  refine ⟨fun pins s σ H R I h => thn (he.run pins s σ H _ I h) fun u s1 ⟨x, H1, I1, rx, d, ex, hs, q⟩ => ?_⟩
  subst ex
  obtain rfl : u = Value.ref d := rx
  have fin : ∀ ow od ks vs H2, L2.Inv X pins σ H2 s1 → H2 d = some (.frz od (dicO ow d ks vs)) → R (Itn ow d od ks vs) H2 → wpAny (model X.prog X.w) X.A (pyIter (.ref d)) (PIE X pins σ tg R) X.xe s1 := by
    intro ow od ks vs H2 I2 h2 r
    obtain ⟨c1, c2, es, ep, c3, c4, c5⟩ := frz_dic I2 h2
    refine iter_keys hs c1 c2 c3 (pi_one (tk := s1.toks) I2 _ (turn_n _ c3) ⟨_, Heap.get?_push_size _ rfl, rfl, ?_⟩ r)
    rw [c4]
    rfl
  rcases q with ⟨ow, ks, vs, h1, r⟩ | ⟨ow, od, ks, vs, h1, r⟩
  · obtain ⟨od, I2⟩ := I1.lock h1 True.intro
    exact fin ow od ks vs _ I2 upd_same (r od)
  · exact fin ow od ks vs _ I1 h1 r
def dicB (x : D) (G : DG) (R : List D → (DG → Prop) → DG → Prop) : Prop := ∃ d ow kvs, x = .ref d ∧ (G d = some (.dic ow kvs) ∨ G d = some (.dif ow kvs)) ∧ R (kvs.map (·.1)) (fun _ => True) (up G d (.dif ow kvs))
def diDic (t : DE) : DI := fun σ G R => t σ G fun x G1 => dicB x G1 R
theorem itOk_n {K : PySem.W.Frag} {H1 : Hp} {ow : Option World} {d : Addr} {od : Obj} {ks : List (NestedKey × Addr)} {vs : List V} {kvs : List (D × D)} {ok : DG → Prop} (h : H1 d = some (.frz od (dicO ow d ks vs))) (hl : kvs.length = ks.length)
    (h5 : ∀ (i : Nat) (kv : D × D) (k : NestedKey × Addr), kvs[i]? = some kv → ks[i]? = some k → nkD kv.1 = some k.1 ∧ k.1.depth ≤ 8 ∧ RD K H1 kv.1 (.ref k.2)) : ItOk K H1 (Itn ow d od ks vs) (kvs.map (·.1)) ok := fun i H' G' k m o => by
  have h' := k.lis _ _ _ h
  refine ⟨fun y hy => ?_, fun hn => ⟨h', by rw [List.length_map] at hn; omega⟩⟩
  have hi : i < kvs.length := by
    have := (List.getElem?_eq_some_iff.mp hy).1
    rwa [List.length_map] at this
  rw [List.getElem?_map, List.getElem?_eq_getElem hi] at hy
  cases hy
  refine ⟨⟨h', by omega⟩, fun x H'' z => ?_⟩
  obtain ⟨rfl, kk, hk, rfl⟩ := z
  exact ⟨m, .refl, ((h5 i _ kk (List.getElem?_eq_getElem hi) hk).2.2).kt k⟩
theorem di_dic {X : Cx} {tg l : Expr} {ta : DE} (ha : DPE X l ta) : DPI X tg l (diDic ta) := by
  obtain ⟨ma, tta, pa, ra⟩ := ha
  refine ⟨fun σ G R R' h q => ma σ G _ _ (fun x G1 ⟨d, ow, kvs, e, i, z⟩ => ⟨d, ow, kvs, e, i, h _ _ _ z⟩) q, _, pi_dic pa, fun σ H σd G R m s h => ra σ H σd G _ m s (ma _ _ _ _ (fun x G1 ⟨d, ow, kvs, e, i, z⟩ v H1 m1 r1 k1 => ?_) h)⟩
  subst e
  cases r1
  refine ⟨d, rfl, ?_⟩
  rcases i with i | i
  · obtain ⟨ks, vs, h, h1, h2, h3, h4, h5, h6⟩ := m1 d _ i
    refine ⟨h1, .inl ⟨ow, ks, vs, h, fun od => ?_⟩⟩
    have kk : KT X.K H1 (L2.upd H1 d (.frz od (dicO ow d ks vs))) := .upd_mut h (fun _ e => by cases e) (fun _ _ e => by cases e)
    have h5' := fun i kv k e1 e2 => let ⟨b1, b2, b3⟩ := h5 i kv k e1 e2; (⟨b1, b2, b3.kt kk⟩ : nkD kv.1 = some k.1 ∧ k.1.depth ≤ 8 ∧ RD X.K (L2.upd H1 d (.frz od (dicO ow d ks vs))) kv.1 (.ref k.2))
    exact z _ _ (m1.upd kk ⟨od, ks, vs, upd_same, h1, h2, h3, h4, h5', h6.kt kk⟩) (k1.trans kk) (itOk_n upd_same h4 h5')
  · obtain ⟨od, ks, vs, h, h1, h2, h3, h4, h5, h6⟩ := m1 d _ i
    refine ⟨h1, .inr ⟨ow, od, ks, vs, h, z _ _ ?_ k1 (itOk_n h h4 h5)⟩⟩
    have : up G1 d (.dif ow kvs) = G1 := by
      funext b
      by_cases e : b = d
      · rw [e, up_same, i]
      · exact up_ne e
    rw [this]
    exact m1
theorem s_diD {t : DE} {σ : DSt} {G : DG} {R : List D → (DG → Prop) → DG → Prop} (h : t σ G fun x G1 => dicB x G1 R) : diDic t σ G R := h
instance i_s_diD {t : DE} {σ : DSt} {G : DG} {R : List D → (DG → Prop) → DG → Prop} : WStp (diDic t σ G R) (t σ G fun x G1 => dicB x G1 R) := ⟨fun h => s_diD h⟩
theorem s_diN {d : Addr} {ow : Option World} {kvs : List (D × D)} {G : DG} {R : List D → (DG → Prop) → DG → Prop} (e : G d = some (.dic ow kvs)) (h : R (kvs.map (·.1)) (fun _ => True) (up G d (.dif ow kvs))) : dicB (.ref d) G R := ⟨d, ow, kvs, rfl, .inl e, h⟩
theorem s_diF {d : Addr} {ow : Option World} {kvs : List (D × D)} {G : DG} {R : List D → (DG → Prop) → DG → Prop} (e : G d = some (.dif ow kvs)) (h : R (kvs.map (·.1)) (fun _ => True) G) : dicB (.ref d) G R := by
  refine ⟨d, ow, kvs, rfl, .inr e, ?_⟩
  have : up G d (.dif ow kvs) = G := by
    funext b
    by_cases z : b = d
    · rw [z, up_same, e]
    · exact up_ne z
  rw [this]
  exact h
end FD

namespace FD
open PySem L2
/-! ### sorted(set(list)) of pairs of small numbers -/
def ltP (a b : Nat × Nat) : Prop := a.1 < b.1 ∨ (a.1 = b.1 ∧ a.2 < b.2)
def dSortSet (ta : DE) : DE := fun σ G Q => ta σ G fun x G1 => ∃ (a : Addr) (l : List (Nat × Nat)), x = .ref a ∧ G1 a = some (.lst (l.map encNN)) ∧ l.length < 64 ∧ (∀ t ∈ l, t.1 < 64 ∧ t.2 < 64) ∧
  ∀ (l' : List (Nat × Nat)) q, l'.Pairwise ltP → (∀ t, t ∈ l' ↔ t ∈ l) → G1 q = none → Q (.ref q) (up G1 q (.lst (l'.map encNN)))
section
variable {X : Cx} {e : Expr} {ta : DE} {pos pos2 p p2 : Pos}
theorem s_sortSet {σ : DSt} {G : DG} {Q : DK} (h : ta σ G fun x G1 => ∃ (a : Addr) (l : List (Nat × Nat)), x = .ref a ∧ G1 a = some (.lst (l.map encNN)) ∧ l.length < 64 ∧ (∀ t ∈ l, t.1 < 64 ∧ t.2 < 64) ∧
  ∀ (l' : List (Nat × Nat)) q, l'.Pairwise ltP → (∀ t, t ∈ l' ↔ t ∈ l) → G1 q = none → Q (.ref q) (up G1 q (.lst (l'.map encNN)))) : dSortSet ta σ G Q := h
instance i_s_sortSet {σ : DSt} {G : DG} {Q : DK} : WStp (dSortSet ta σ G Q) (ta σ G fun x G1 => ∃ (a : Addr) (l : List (Nat × Nat)), x = .ref a ∧ G1 a = some (.lst (l.map encNN)) ∧ l.length < 64 ∧ (∀ t ∈ l, t.1 < 64 ∧ t.2 < 64) ∧
  ∀ (l' : List (Nat × Nat)) q, l'.Pairwise ltP → (∀ t, t ∈ l' ↔ t ∈ l) → G1 q = none → Q (.ref q) (up G1 q (.lst (l'.map encNN)))) := ⟨fun h => s_sortSet h⟩
end
end FD

namespace FD
open PySem L2
/-! ### list[::-1] -/
def revLD (x : D) (G : DG) (Q : DK) : Prop := match x with
  | .lis xs => ∀ n, G n = none → Q (.ref n) (up G n (.lst xs.reverse))
  | .ref p => match G p with
    | some (.lst xs) => ∀ n, G n = none → Q (.ref n) (up G n (.lst xs.reverse))
    | _ => False
  | _ => False
def dRevL (te : DE) : DE := fun σ G Q => te σ G fun x G1 => revLD x G1 Q
theorem s_revL {te : DE} {σ : DSt} {G : DG} {Q : DK} (h : te σ G fun x G1 => revLD x G1 Q) : dRevL te σ G Q := h
instance i_s_revL {te : DE} {σ : DSt} {G : DG} {Q : DK} : WStp (dRevL te σ G Q) (te σ G fun x G1 => revLD x G1 Q) := ⟨fun h => s_revL h⟩
theorem s_revLB {G : DG} {Q : DK} {p : Addr} {xs : List D} (e : G p = some (.lst xs)) (h : ∀ n, G n = none → Q (.ref n) (up G n (.lst xs.reverse))) : revLD (.ref p) G Q := by
  simp only [revLD, e]
  exact h
end FD

namespace FD
open PySem L2
/-! ### {k: v, ..}: keys ints or texts -/
def mergeKD (kvs more : List (Key × D)) : List (Key × D) := more.foldl (fun acc kv => putKD acc kv.1 kv.2) kvs
def dPairs : List (DE × DE) → DSt → DG → (List (Key × D) → DG → Prop) → Prop
  | [], _, G, Q => Q [] G
  | (tk, tv) :: r, σ, G, Q => tk σ G fun x G1 => tv σ G1 fun y G2 => dPairs r σ G2 fun kvs G3 => ∃ k, keyD x = some k ∧ Q ((k, y) :: kvs) G3
structure DPPs (X : Cx) (pos : Pos) (keys : List (Option Expr)) (values : List Expr) (trs : List (DE × DE)) : Prop where
  mono : ∀ σ G (Q Q' : List (Key × D) → DG → Prop), (∀ d G', Q d G' → Q' d G') → dPairs trs σ G Q → dPairs trs σ G Q'
  run : ∃ tts, PPs X pos keys values tts ∧ ∀ σ H σd G (Q : List (V × V) → Hp → Prop), MH X.K G H → SR X.K H σd σ →
    dPairs trs σd G (fun kvs G' => ∀ (kvs' : List (Key × V)) H', MH X.K G' H' → kvs'.map (·.1) = kvs.map (·.1) → RDs X.K H' (kvs.map (·.2)) (kvs'.map (·.2)) → KT X.K H H' → Q (kvs'.map fun kv => (kV kv.1, kv.2)) H') → tPairs tts σ H Q
section
variable {X : Cx} {pos : Pos} {keys : List (Option Expr)} {values : List Expr} {trs : List (DE × DE)} {k v : Expr} {tk tv : DE}
def dDisp (trs : List (DE × DE)) : DE := fun σ G Q => ∀ p, G p = none → dPairs trs σ (up G p (.dK [])) fun kvs G2 => G2 p = some (.dK []) ∧ kvs.length ≤ 15 ∧ Q (.ref p) (up G2 p (.dK (mergeKD [] kvs)))
theorem s_disp {σ : DSt} {G : DG} {Q : DK} (h : ∀ p, G p = none → dPairs trs σ (up G p (.dK [])) fun kvs G2 => G2 p = some (.dK []) ∧ kvs.length ≤ 15 ∧ Q (.ref p) (up G2 p (.dK (mergeKD [] kvs)))) : dDisp trs σ G Q := h
instance i_s_disp {σ : DSt} {G : DG} {Q : DK} : WStp (dDisp trs σ G Q) (∀ p, G p = none → dPairs trs σ (up G p (.dK [])) fun kvs G2 => G2 p = some (.dK []) ∧ kvs.length ≤ 15 ∧ Q (.ref p) (up G2 p (.dK (mergeKD [] kvs)))) := ⟨fun h => s_disp h⟩
theorem s_prc {σ : DSt} {G : DG} {Q : List (Key × D) → DG → Prop} (h : tk σ G fun x G1 => tv σ G1 fun y G2 => dPairs trs σ G2 fun kvs G3 => ∃ k, keyD x = some k ∧ Q ((k, y) :: kvs) G3) : dPairs ((tk, tv) :: trs) σ G Q := h
instance i_s_prc {σ : DSt} {G : DG} {Q : List (Key × D) → DG → Prop} : WStp (dPairs ((tk, tv) :: trs) σ G Q) (tk σ G fun x G1 => tv σ G1 fun y G2 => dPairs trs σ G2 fun kvs G3 => ∃ k, keyD x = some k ∧ Q ((k, y) :: kvs) G3) := ⟨fun h => s_prc h⟩
theorem s_prn {σ : DSt} {G : DG} {Q : List (Key × D) → DG → Prop} (h : Q [] G) : dPairs [] σ G Q := h
instance i_s_prn {σ : DSt} {G : DG} {Q : List (Key × D) → DG → Prop} : WStp (dPairs [] σ G Q) (Q [] G) := ⟨fun h => s_prn h⟩
end
end FD

namespace FD
open PySem L2
/-! ### a field as one of several targets -/
section
variable {X : Cx} {C : Addr} {n f m cn : Str} {k : Nat} {Cn : Ct} {o : Expr} {pos pos' np apos : Pos} {ta : DE}
def gFldH (K : PySem.W.Frag) (ta : TE) (f : Str) : TG := fun y σ H Q => ta σ H fun x H2 => ∃ a C dx fs, x = .ref a ∧ H2 a = some (.ins C dx fs) ∧ Cls K C ∧ NoAttr K C f ∧ fs.length < 1000 ∧ Q σ (L2.upd H2 a (.ins C dx (putF f y fs)))
theorem pg_fldH {ta : TE} (ha : PE X o ta) : PG X (.Attribute o f pos) (gFldH X.K ta f) := by
  refine ⟨fun pins s σ H v u Q I r h => ?_⟩
  rw [PySem.assign_Attribute]
  refine wpAny_bind (wpAny_holding (thn (ha.run pins s σ H _ I h) fun ov s1 ⟨x, H1, I1, r1, a, C, dx, fs, ex, ea, c, n, l, q⟩ => ?_))
  subst ex
  obtain rfl : ov = Value.ref a := r1
  refine wpAny_bind (wpAny_standAt (wpAny_bind (wpAny_holding (setattr_ok I1 ea c n l r fun s3 I3 => ?_))))
  exact wpAny_release ⟨σ, _, I3, q⟩
def dgFld (n f : Str) (ta : DE) : DTg := fun y σ G Q => ta σ G fun x G1 => setFB n f x y G1 fun G2 => Q σ G2
theorem dg_fld (c : FldOk X.K n f) (ha : DPE X o ta) : DPG X (.Attribute o f pos) (dgFld n f ta) := by
  obtain ⟨ma, tta, pa, ra⟩ := ha
  obtain ⟨C, hC, c1, c2⟩ := c
  refine ⟨fun d σ G Q Q' h q => ma σ G _ _ (fun x G1 ⟨p, fs, a, b, z, q2⟩ => ⟨p, fs, a, b, z, h _ _ q2⟩) q, _, pg_fldH pa, fun d v σ H σd G Q m s r h => ?_⟩
  refine ra σ H σd G _ m s (ma _ _ _ _ (fun dx G2 ⟨p, fs, a, b, z, q2⟩ x H2 m2 r2 k2 => ?_) h)
  subst a
  cases r2
  obtain ⟨C', dx, fvs, hc', h1, h2, h3⟩ := m2 p _ b
  obtain rfl := hC.uniq hc'
  have kk : KT X.K H2 (L2.upd H2 p (.ins C dx (putF f v fvs))) := .upd_ins h1
  obtain ⟨e1, e2⟩ := put_rd (f := f) (r.kt k2) h2 h3
  refine ⟨p, C, dx, fvs, rfl, h1, c1, c2, ?_, q2 σ _ (m2.upd kk ⟨C, dx, _, hC, upd_same, e1, e2.kt kk⟩) (s.kt (k2.trans kk)) (k2.trans kk)⟩
  have := congrArg List.length h2
  simp at this
  omega
theorem s_gFld {σ : DSt} {G : DG} {d : D} {QS : DSt → DG → Prop} (h : ta σ G fun x G1 => setFB n f x d G1 fun G2 => QS σ G2) : dgFld n f ta d σ G QS := h
instance i_s_gFld {σ : DSt} {G : DG} {d : D} {QS : DSt → DG → Prop} : WStp (dgFld n f ta d σ G QS) (ta σ G fun x G1 => setFB n f x d G1 fun G2 => QS σ G2) := ⟨fun h => s_gFld h⟩
/-! ### try .. except C: without a name -/
def dTryP (ns : List Str) (tb : (DSt → DX) → DS) (th : DS) : DS := fun D σ G => tb (fun σ n fo G => n ∈ ns ∧ th D σ G) D σ G
theorem s_tryP {ns : List Str} {tb : (DSt → DX) → DS} {th : DS} {nx : DSt → DG → Prop} {rt : DK} {bk ct : DSt → DG → Prop} {σ : DSt} {G : DG} (h : tb (fun σ n fo G => n ∈ ns ∧ th ⟨nx, rt, bk, ct⟩ σ G) ⟨nx, rt, bk, ct⟩ σ G) : dTryP ns tb th ⟨nx, rt, bk, ct⟩ σ G := h
instance i_s_tryP {ns : List Str} {tb : (DSt → DX) → DS} {th : DS} {nx : DSt → DG → Prop} {rt : DK} {bk ct : DSt → DG → Prop} {σ : DSt} {G : DG} : WStp (dTryP ns tb th ⟨nx, rt, bk, ct⟩ σ G) (tb (fun σ n fo G => n ∈ ns ∧ th ⟨nx, rt, bk, ct⟩ σ G) ⟨nx, rt, bk, ct⟩ σ G) := ⟨fun h => s_tryP h⟩
/-! ### o.m() in a try's body -/
def dMethS0 (n m : Str) (Cn : Ct) (ta : DE) (ES : DSt → DX) : DE := fun σ G Q => ta σ G fun x G1 => ∃ p fs, x = .ref p ∧ G1 p = some (.ins n fs) ∧ fs.lookup m = none ∧ UpC Cn [x] G1 Q (ES σ)
theorem s_methS0 {to : DE} {ES : DSt → DX} {σ : DSt} {G : DG} {Q : DK} (h : to σ G fun x G1 => methB n m x G1 (UpC Cn [x] G1 Q (ES σ))) : dMethS0 n m Cn to ES σ G Q := h
instance i_s_methS0 {to : DE} {ES : DSt → DX} {σ : DSt} {G : DG} {Q : DK} : WStp (dMethS0 n m Cn to ES σ G Q) (to σ G fun x G1 => methB n m x G1 (UpC Cn [x] G1 Q (ES σ))) := ⟨fun h => s_methS0 h⟩
/-! ### x == []: a list of any things -/
def eqLD : F2 := fun x y G Q => ∃ p q xs, x = .ref p ∧ y = .ref q ∧ G p = some (.lst xs) ∧ G q = some (.lst []) ∧ Q (.bl (decide (xs.length = 0))) G
theorem s_eqL {G : DG} {Q : DK} {p q : Addr} {xs : List D} (e : G p = some (.lst xs)) (e2 : G q = some (.lst [])) (h : Q (.bl (decide (xs.length = 0))) G) : eqLD (.ref p) (.ref q) G Q := ⟨p, q, xs, rfl, rfl, e, e2, h⟩
end
end FD

namespace FD
open PySem L2
/-! ### dicts by nested keys with texts in them: their hashes hang on the world w -/
def putW (w : World) (G : DG) (a : Addr) (y v : D) (G' : DG) : Prop := ∃ kvs k, G a = some (.dic (some w) kvs) ∧ isTupD y ∧ nkD y = some k ∧ k.depth ≤ 8 ∧ kvs.length < sizeLine ∧ G' = up G a (.dic (some w) (putN k y v kvs))
section
variable {X : Cx} {w : World} {a b c e o i value : Expr} {es rest : List Expr} {ta tb tc : DE} {pos pos' : Pos}
/-- d[y] = v -/
def dWput (w : World) (td ty tv : DE) : DS := fun D σ G => tv σ G fun v G1 => td σ G1 fun x G2 => ty σ G2 fun y G3 => ∃ a G4, x = .ref a ∧ putW w G3 a y v G4 ∧ D.nx σ G4
/-- {} -/
def dDicW (w : World) : DE := fun _ G Q => ∀ p, G p = none → Q (.ref p) (up G p (.dic (some w) []))
def dWone (w : World) (tk tv : DE) : DE := fun σ G Q => ∀ p, G p = none → tk σ (up G p (.dic (some w) [])) fun y G1 => tv σ G1 fun v G2 => G2 p = some (.dic (some w) []) ∧ ∃ k, isTupD y ∧ nkD y = some k ∧ k.depth ≤ 8 ∧ Q (.ref p) (up G2 p (.dic (some w) [(y, v)]))
end
section
variable {w : World} {σ : DSt} {G : DG} {Q : DK} {a : Addr} {y d : D} {kvs : List (D × D)} {k : NestedKey} {ta tb tc : DE} {nx bk ct : DSt → DG → Prop} {rt : DK} {neg : Bool} {R : DG → Prop}
theorem s_dicW (h : ∀ p, G p = none → Q (.ref p) (up G p (.dic (some w) []))) : dDicW w σ G Q := h
instance i_s_dicW  : WStp (dDicW w σ G Q) (∀ p, G p = none → Q (.ref p) (up G p (.dic (some w) []))) := ⟨fun h => s_dicW h⟩
def wputB (w : World) (x y v : D) (G : DG) (R : DG → Prop) : Prop := ∃ a G4, x = .ref a ∧ putW w G a y v G4 ∧ R G4
theorem s_wput (h : tc σ G fun v G1 => ta σ G1 fun x G2 => tb σ G2 fun y G3 => wputB w x y v G3 fun G4 => nx σ G4) : dWput w ta tb tc ⟨nx, rt, bk, ct⟩ σ G := h
instance i_s_wput  : WStp (dWput w ta tb tc ⟨nx, rt, bk, ct⟩ σ G) (tc σ G fun v G1 => ta σ G1 fun x G2 => tb σ G2 fun y G3 => wputB w x y v G3 fun G4 => nx σ G4) := ⟨fun h => s_wput h⟩
def woneB (w : World) (p : Addr) (y v : D) (G : DG) (Q : DK) : Prop := G p = some (.dic (some w) []) ∧ ∃ k, isTupD y ∧ nkD y = some k ∧ k.depth ≤ 8 ∧ Q (.ref p) (up G p (.dic (some w) [(y, v)]))
theorem s_wone (h : ∀ p, G p = none → ta σ (up G p (.dic (some w) [])) fun y G1 => tb σ G1 fun v G2 => woneB w p y v G2 Q) : dWone w ta tb σ G Q := h
instance i_s_wone  : WStp (dWone w ta tb σ G Q) (∀ p, G p = none → ta σ (up G p (.dic (some w) [])) fun y G1 => tb σ G1 fun v G2 => woneB w p y v G2 Q) := ⟨fun h => s_wone h⟩
end
end FD

namespace FD
open PySem L2
/-! ### list(reversed(list)) -/
section
open PySem.Spec PyProof.Rows
variable {prog : Program} {w : World} {A : Around} {E : Value → Shared → Prop} {s : Shared}
end
section
open PySem.Spec PyProof.Rows
variable {X : Cx} {e : Expr} {te : TE} {ta : DE} {p p2 pos pos2 : Pos}
def revLB (x : D) (G : DG) (Q : DK) : Prop := ∃ a xs, x = .ref a ∧ G a = some (.lst xs) ∧ ∀ q, G q = none → Q (.ref q) (up G q (.lst xs.reverse))
def dListRev (ta : DE) : DE := fun σ G Q => ta σ G fun x G1 => revLB x G1 Q
theorem s_listRev {σ : DSt} {G : DG} {Q : DK} (h : ta σ G fun x G1 => revLB x G1 Q) : dListRev ta σ G Q := h
instance i_s_listRev {σ : DSt} {G : DG} {Q : DK} : WStp (dListRev ta σ G Q) (ta σ G fun x G1 => revLB x G1 Q) := ⟨fun h => s_listRev h⟩
theorem s_revLB2 {G : DG} {Q : DK} {a : Addr} {xs : List D} (e : G a = some (.lst xs)) (h : ∀ q, G q = none → Q (.ref q) (up G q (.lst xs.reverse))) : revLB (.ref a) G Q := ⟨a, xs, rfl, e, h⟩
end
end FD

namespace FD
open PySem L2
/-! ### sum and min of a tuple of whole numbers -/
section
open PySem.Spec PyProof.Rows
variable {prog : Program} {w : World} {A : Around} {E : Value → Shared → Prop} {s : Shared} {l : Addr} {xs : Array (Int × Tok)} {its : List Value} {ns : List Int} {Q : Value → Shared → Prop}
theorem iter_tupI {R : Value → Shared → Prop} (ht : s.heap.IsTuple l (intItems xs))
    (h : ∀ t : Shared, t = { s with heap := s.heap.push { cls := .type "tuple_iterator", data := .fields #[.ref l, .int 0 0] } } → (t.heap.IsTupleIter s.heap.objs.size l 0 ∧ t.heap.IsTuple l (intItems xs)) → (∀ b ∈ [s.heap.objs.size, l], b < t.heap.objs.size) → l ≠ s.heap.objs.size → R (.ref s.heap.objs.size) t) :
    wpAny (model prog w) A (pyIter (.ref l)) R E s := by
  have lt : l < s.heap.objs.size := let ⟨_, e, _⟩ := ht; Heap.lt_size e
  refine wpAny_pyIter_tuple ht (h _ rfl ⟨⟨_, Heap.get?_push_size _ rfl, rfl, rfl⟩, ht.push _⟩ (fun b hb => ?_) (Nat.ne_of_lt lt))
  simp only [List.mem_cons, List.not_mem_nil, or_false] at hb
  show b < (s.heap.push _).objs.size; rw [Heap.size_push]
  rcases hb with rfl | rfl
  · exact Nat.lt_succ_self _
  · exact Nat.lt_succ_of_lt lt
theorem kept_tup {h' : Heap} (hk : ∀ b o, b ∉ [s.heap.objs.size] → (s.heap.push { cls := .type "tuple_iterator", data := .fields #[.ref l, .int 0 0] }).get? b = some o → h'.get? b = some o) (b : Addr) (o : Obj) (e : s.heap.get? b = some o) : h'.get? b = some o :=
  hk b o (fun z => absurd (Heap.lt_size e) (by rw [List.mem_singleton.mp z]; exact Nat.lt_irrefl _)) (Heap.get?_push_of_some _ e)
theorem sum_tup (hh : A.handled = none) (hl : s.heap.IsTuple l its.toArray) (hi : IntsAre its ns) (h : ∀ h' tk t', (∀ b o, s.heap.get? b = some o → h'.get? b = some o) → Q (.int ns.sum t') { s with heap := h', toks := tk }) : wpAny (model prog w) A (call (.builtin "sum") [.ref l]) Q E s := by
  obtain ⟨ys, e⟩ := hi.allInts.items
  have hn : numsOf (intItems ys).toList = ns := e ▸ hi.numsOf
  rw [nums_intItems] at hn; rw [e] at hl
  refine call_sum_walkG (iter_tupI hl fun t et st hb hne => ?_)
  subst et
  refine ⟨_, _, _, _, _, _, numAt ys, rfl, Walks.tuple (A := A.in1) hh _ l hne (intItems ys), st, hb, fun _ _ => intItems_at, fun h' tk t' hk => ?_⟩
  have z := h h' tk t' (kept_tup hk)
  have e2 : (intItems ys).size = ys.size := by simp [intItems]
  rw [e2, preSum_eq, List.take_of_length_le (by simp), hn]
  exact z
end
section
variable {X : Cx} {e : Expr} {es : List Expr} {pos : Pos}
def rSumT (K : PySem.W.Frag) : List V → Hp → VK → Prop := fun vs H Q => ∃ (a : Addr) (ns : List Int), vs = [V.ref a] ∧ SqT K H a (ns.map V.int) ∧ Q (.int ns.sum) H
theorem cr_sumT (hc : X.calm = true) : CallR X (.builtin "sum") (rSumT X.K) := by
  intro pins s σ H vs us Q I r ⟨a, ns, ev, hs, q⟩
  subst ev
  obtain ⟨its, rv, hl, _⟩ := I.tuple hs
  rw [Vals.ref1 r]
  exact sum_tup (I.ok.hd hc) hl rv.ints fun h' tk t' hk => ⟨.int _, H, I.kept hk, ⟨_, rfl⟩, q⟩
def sumTD : FL := fun xs G Q => ∃ ns : List Int, xs = [.tup (ns.map .int)] ∧ Q (.int ns.sum) G
theorem tupI_ok {K : PySem.W.Frag} {H : Hp} {ns : List Int} {xs : List V} (r : RDs K H [.tup (ns.map D.int)] xs) : ∃ a, xs = [V.ref a] ∧ SqT K H a (ns.map V.int) := by
  obtain ⟨v, vs', rfl, r1, r2⟩ := r.cons_inv
  cases r2.nil_inv
  cases r1 with
  | tup hs hl hi =>
    have := RDs.int_inv ⟨hl, hi⟩
    subst this
    exact ⟨_, rfl, hs.t⟩
theorem de_sumT {p : Pos} {t : DA} (hc : X.calm = true) (hg : Gl X "sum") (hm : X.mg "sum" = none) (ha : DPA X (e :: es) t) (h1 : starEach (e :: es) X.env = (false, eval e X.env) :: starEach es X.env := by rfl) (h2 : ((backTo pos (starEach es X.env)).any fun x => x.fst) = false := by rfl) :
    DPE X (.Call (.Name "sum" p) (e :: es) [] pos) (dCB sumTD t) := de_callB (cr_sumT hc) (fun xs G Q Q' h ⟨ns, e, q⟩ => ⟨ns, e, h _ _ q⟩)
  (fun H G xs ds Q m r ⟨ns, e, q⟩ => by
    subst e
    obtain ⟨a, rfl, hs⟩ := tupI_ok r
    exact ⟨a, ns, rfl, hs, q _ _ m (.int _) .refl⟩) hg hm (by decide +kernel) ha (by decide) (by decide) h1 h2
theorem s_sumT {ns : List Int} {G : DG} {Q : DK} (h : Q (.int ns.sum) G) : sumTD [.tup (ns.map .int)] G Q := ⟨ns, rfl, h⟩
theorem encN_int (ns : List Nat) : ns.map encN = (ns.map fun n : Nat => (n : Int)).map D.int := by rw [List.map_map]; rfl
end
end FD

namespace FD
/-! ### sorted(dict), its keys texts -/
section
open PySem PySem.W PyProof.Rows
variable {prog : Program} {w : World} {A : Around} {E : Value → Shared → Prop} {s : Shared}
end
open PySem L2
section
variable {X : Cx} {e : Expr} {es : List Expr} {pos : Pos}
end
end FD

namespace FD
open PySem L2
/-! ### text.count(text) -/
section
variable {X : Cx} {e : Expr} {es : List Expr} {pos : Pos}
def isSt (x : D) (_ : DG) : Prop := ∃ a, x = .str a
theorem s_isSt {G : DG} {a : Str} {P : Prop} (h : P) : isSt (.str a) G ∧ P := ⟨⟨a, rfl⟩, h⟩
instance i_s_isSt {G : DG} {a : Str} {P : Prop} : WStp (isSt (.str a) G ∧ P) (P) := ⟨fun h => s_isSt h⟩
end
/-! ### shown texts of low codes -/
section
open PyProof.Rows
def Lw (d : PyData) : Prop := ∀ k, 116 < k → k ∉ d.shown.cps.toList
theorem Lw.ok {d : PyData} (h : Lw d) : PyData.strOk d.shown = true := by
  unfold PyData.strOk
  rw [← Array.all_toList, List.all_eq_true]
  intro c hc
  rw [decide_eq_true_eq]
  rcases Nat.lt_or_ge c 1114112 with z | z
  · exact z
  · exact absurd hc (h c (by omega))
end
/-! ### lists of texts -/
end FD

namespace FD
open PySem L2
/-! ### list.reverse() -/
section
variable {X : Cx}
theorem RDs.rvs {K : PySem.W.Frag} {H : Hp} : ∀ {xs : List D} {vs : List V}, RDs K H xs vs → RDs K H xs.reverse vs.reverse
  | [], vs, r => by
    have e := r.nil_inv
    subst e
    exact .nil
  | x :: xs, vs, r => by
    obtain ⟨v, vs', rfl, r1, r2⟩ := r.cons_inv
    rw [List.reverse_cons, List.reverse_cons]
    exact r2.rvs.append (.cons r1 .nil)
def reverseD : FM := fun x xs G Q => match x, xs with
  | .ref p, [] => ∃ zs, G p = some (.lst zs) ∧ Q .non (up G p (.lst zs.reverse))
  | _, _ => False
theorem de_reverse {o : Expr} {apos pos : Pos} {to : DE} (ho : DPE X o to)
    (hbase : attributeBase o "reverse" X.env (eval o X.env) = eval o X.env := by rfl) (hline : (apos.endLine == pos.line) = true := by rfl) :
    DPE X (.Call (.Attribute o "reverse" apos) [] [] pos) (dMt reverseD to dNil) := de_mtL0 PySem.F.slot_list_reverse PySem.F.type_list_reverse mt_reverse
  (fun x xs G Q Q' h q => by
    unfold reverseD at q ⊢
    split at q
    · obtain ⟨zs, z1, z3⟩ := q
      exact ⟨zs, z1, h _ _ z3⟩
    · exact q)
  (fun H G x xs dx dxs Q m rx rs h => by
    unfold reverseD at h
    split at h
    · obtain ⟨zs, z1, z3⟩ := h
      cases rx
      have e := rs.nil_inv
      subst e
      obtain ⟨vs, g, r⟩ := m _ _ z1
      refine ⟨_, vs, rfl, rfl, g, ?_⟩
      exact z3 .non _ (m.upd (.upd_lst g) (.new_lst r.rvs (.upd_lst g))) .non (.upd_lst g)
    · exact False.elim h) ho hbase hline
theorem s_reverse {G : DG} {Q : DK} {p : Addr} {zs : List D} (e : G p = some (.lst zs)) (h : Q .non (up G p (.lst zs.reverse))) : reverseD (.ref p) [] G Q := ⟨zs, e, h⟩
end
end FD

namespace FD
open PySem L2
/-! ### texts: join, split, str(int), int(text), the signs of a text, one sign in a text -/
section
variable {X : Cx} {e a b : Expr} {es : List Expr} {pos : Pos} {ta tb : DE}
def joinD : FM := fun x xs G Q => ∃ a p, ∃ ys : List Str, x = .str a ∧ xs = [.ref p] ∧ G p = some (.lst (ys.map D.str)) ∧ (ys.map (·.length)).sum + ys.length * a.length ≤ 16777216 ∧ Q (.str (Str.join a ys)) G
instance stpJoin {x : D} {xs : List D} {G : DG} {Q : DK} : WEnd (joinD x xs G Q) := {}
def splitD : FM := fun x xs G Q => ∃ a b, x = .str a ∧ xs = [.str b] ∧ (b.length == 0) = false ∧ a.length + 2 ≤ sizeLine ∧ ∀ p, G p = none → Q (.ref p) (up G p (.lst ((Txt.split a b).map D.str)))
instance stpSplit {x : D} {xs : List D} {G : DG} {Q : DK} : WEnd (splitD x xs G Q) := {}
def strD : FL := fun xs G Q => (∃ i, xs = [.int i] ∧ i.natAbs.log2 < 1920 ∧ Q (.str (toString i)) G) ∨ ∃ a, xs = [.str a] ∧ Q (.str a) G
instance stpStr {i : Int} {G : DG} {Q : DK} : WEnd (strD [.int i] G Q) := {}
theorem s_strS {G : DG} {Q : DK} {z : Str} (h : Q (.str z) G) : strD [.str z] G Q := .inr ⟨z, rfl, h⟩
instance i_s_strS {G : DG} {Q : DK} {z : Str} : WStp (strD [.str z] G Q) (Q (.str z) G) := ⟨fun h => s_strS h⟩
/-- the signs of a text -/
def signs (x : Str) : List D := x.cps.toList.map fun c => .str ⟨#[c]⟩
def diTxt (t : DE) : DI := fun σ G R => t σ G fun x G1 => ∃ z, x = .str z ∧ R (signs z) (fun _ => True) G1
theorem s_diTxt {te : DE} {σ : DSt} {G : DG} {R : List D → (DG → Prop) → DG → Prop} (h : te σ G fun x G1 => ∃ z, x = .str z ∧ R (signs z) (fun _ => True) G1) : diTxt te σ G R := h
instance i_s_diTxt {te : DE} {σ : DSt} {G : DG} {R : List D → (DG → Prop) → DG → Prop} : WStp (diTxt te σ G R) (te σ G fun x G1 => ∃ z, x = .str z ∧ R (signs z) (fun _ => True) G1) := ⟨fun h => s_diTxt h⟩
theorem s_diTxtV {z : Str} {G : DG} {R : List D → (DG → Prop) → DG → Prop} (h : R (signs z) (fun _ => True) G) : ∃ z', D.str z = .str z' ∧ R (signs z') (fun _ => True) G := ⟨z, rfl, h⟩
instance i_s_diTxtV {z : Str} {G : DG} {R : List D → (DG → Prop) → DG → Prop} : WStp (∃ z', D.str z = .str z' ∧ R (signs z') (fun _ => True) G) (R (signs z) (fun _ => True) G) := ⟨fun h => s_diTxtV h⟩
def inSD : F2 := fun x y G Q => ∃ (c : Nat) (z : Str), x = .str ⟨#[c]⟩ ∧ y = .str z ∧ Q (.bl (decide (c ∈ z.cps.toList))) G
theorem s_inS {G : DG} {Q : DK} {c : Nat} {z : Str} (h : Q (.bl (decide (c ∈ z.cps.toList))) G) : inSD (.str ⟨#[c]⟩) (.str z) G Q := ⟨c, z, rfl, rfl, h⟩
instance i_s_inS {G : DG} {Q : DK} {c : Nat} {z : Str} : WStp (inSD (.str ⟨#[c]⟩) (.str z) G Q) (Q (.bl (decide (c ∈ z.cps.toList))) G) := ⟨fun h => s_inS h⟩
end
end FD

namespace FD
open PySem L2
/-! ### a text times an int, one sign not in a text, exceptions made as values -/
section
variable {X : Cx} {e a b o : Expr} {es : List Expr} {pos p p2 : Pos} {ta tb : DE} {E : DX} {n f m : Str} {k j : Nat} {t : DA}
def ninSD : F2 := fun x y G Q => ∃ (c : Nat) (z : Str), x = .str ⟨#[c]⟩ ∧ y = .str z ∧ Q (.bl (!decide (c ∈ z.cps.toList))) G
theorem s_ninS {G : DG} {Q : DK} {c : Nat} {z : Str} (h : Q (.bl (!decide (c ∈ z.cps.toList))) G) : ninSD (.str ⟨#[c]⟩) (.str z) G Q := ⟨c, z, rfl, rfl, h⟩
instance i_s_ninS {G : DG} {Q : DK} {c : Nat} {z : Str} : WStp (ninSD (.str ⟨#[c]⟩) (.str z) G Q) (Q (.bl (!decide (c ∈ z.cps.toList))) G) := ⟨fun h => s_ninS h⟩
/-! exceptions as values -/
/-- N(text): a class without __init__ -/
def dExc0 (n : Str) : DE := fun _ G Q => ∀ a, G a = none → Q (.ref a) (up G a (.exc n none))
/-- N(x): a class whose __init__ keeps x -/
def dExc1 (n f : Str) (ta : DE) : DE := fun σ G Q => ta σ G fun d G1 => ∀ a dd, dd ≠ a → G1 a = none → (∀ o, G1 dd = some o → isXd o) → Q (.ref a) (up (up G1 dd (.xd [(f, d)])) a (.exc n (some dd)))
theorem s_exc0 {σ : DSt} {G : DG} {Q : DK} (h : ∀ a, G a = none → Q (.ref a) (up G a (.exc n none))) : dExc0 n σ G Q := h
instance i_s_exc0 {σ : DSt} {G : DG} {Q : DK} : WStp (dExc0 n σ G Q) (∀ a, G a = none → Q (.ref a) (up G a (.exc n none))) := ⟨fun h => s_exc0 h⟩
theorem s_exc1 {σ : DSt} {G : DG} {Q : DK} (h : ta σ G fun d G1 => ∀ a dd, dd ≠ a → G1 a = none → (∀ o, G1 dd = some o → isXd o) → Q (.ref a) (up (up G1 dd (.xd [(f, d)])) a (.exc n (some dd)))) : dExc1 n f ta σ G Q := h
instance i_s_exc1 {σ : DSt} {G : DG} {Q : DK} : WStp (dExc1 n f ta σ G Q) (ta σ G fun d G1 => ∀ a dd, dd ≠ a → G1 a = none → (∀ o, G1 dd = some o → isXd o) → Q (.ref a) (up (up G1 dd (.xd [(f, d)])) a (.exc n (some dd)))) := ⟨fun h => s_exc1 h⟩
end
end FD

namespace FD
open PySem L2
local macro_rules | `(tactic| walk_at "look") => `(tactic| first | assumption | exact up_same | (refine up_nx ?e ?f; (case e => walk_at "ne"); (case f => walk_at "look")))
local macro_rules | `(tactic| walk_at "ne") => `(tactic| first | assumption | exact Ne.symm (by assumption) | ((refine gne (G := ?G) (o := ?o) ?h ?k); (case k => assumption); (case h => walk_at "look")) | ((refine Ne.symm (gne (G := ?G) (o := ?o) ?h ?k)); (case k => assumption); (case h => walk_at "look")))
local macro_rules | `(tactic| walk_at "none") => `(tactic| first | assumption | exact up_free (by assumption) | exact up_free (up_free (by assumption)) | exact up_free (up_free (up_free (by assumption))) | exact up_free (up_free (up_free (up_free (by assumption)))) | exact up_free (up_free (up_free (up_free (up_free (by assumption))))) | exact up_free (up_free (up_free (up_free (up_free (up_free (by assumption)))))))
local macro_rules | `(tactic| walk_at "at") => `(tactic| first | assumption | exact atI_zero | rfl | (rw [atI_cast]; assumption) | (rw [atI_cast]; rfl))
local macro_rules | `(tactic| walk_at "sz") => `(tactic| first | exact Nat.le_of_ble_eq_true rfl | assumption | (refine szL ?_; simp only [List.length_map, List.length_append, List.length_cons, List.length_nil, List.length_range, List.length_take, List.length_drop]; omega))
local macro_rules | `(tactic| walk_at "run") => `(tactic| repeat (first | refine wst ?_ | ((with_reducible refine s_var (d := ?d) ?e ?_); (case e => rfl)) | ((fail_if_success (refine wend ?_)); walk_at "s")))
local macro_rules | `(tactic| walk_at "le") => `(tactic| ((refine LeX.le ?_); repeat (first | with_reducible exact lex_refl | ((with_reducible refine lex_put ?h ?_); (case h => walk_at "look")) | ((with_reducible refine lex_mem ?h ?_); (case h => simp; done)) | ((with_reducible refine lex_new ?h ?_); (case h => walk_at "none")))))
local macro_rules | `(tactic| walk_at "lex") => `(tactic| repeat (first | with_reducible exact lex_refl | ((with_reducible refine lex_mem ?h ?_); (case h => simp; done)) | ((with_reducible refine lex_new' ?_ ?h); (case h => assumption))))
local macro_rules | `(tactic| walk_at "s") => `(tactic| first | ((with_reducible refine s_revLB2 (xs := ?xs) ?e ?_); (case e => walk_at "look")) | ((with_reducible refine s_eqL (xs := ?xs) ?e ?f ?_); (case e => walk_at "look"); (case f => walk_at "look")) | ((with_reducible refine s_getK (kks := ?kks) (kk := ?kk) (d := ?d) ?e ?hk ?hl ?_); (case e => walk_at "look"); (case hk => rfl); (case hl => rfl)) | ((with_reducible refine s_revLB (xs := ?xs) ?e ?_); (case e => walk_at "look")) | ((with_reducible refine s_diF (kvs := ?kvs) ?e ?_); (case e => walk_at "look")) | ((with_reducible refine s_lenF (kvs := ?kvs) ?e ?_); (case e => walk_at "look")) | ((with_reducible refine s_zipL (xs := ?xs) (ys := ?ys) ?e ?f ?_); (case e => walk_at "look"); (case f => walk_at "look")) | ((with_reducible refine s_lr1 ?e ?_); (case e => constructor <;> omega)) | ((with_reducible refine s_lr2 ?e ?_); (case e => (refine ⟨?_, ?_, ?_, ?_⟩ <;> omega))) | ((with_reducible refine s_isXB (n := ?n) (od := ?od) (k := ?k) ?e ?f ?g ?hk ?_); (case e => walk_at "look"); (case f => decide); (case g => first | exact True.intro | exact ⟨_, by walk_at "look"⟩); (case hk => rfl)) | ((with_reducible refine s_xfB (dd := ?dd) (fs := ?fs) (d := ?d) ?e ?f ?g ?_); (case e => walk_at "look"); (case f => walk_at "look"); (case g => rfl)) | ((with_reducible refine s_lenN (kvs := ?kvs) ?e ?_); (case e => walk_at "look")) | ((with_reducible refine s_lenK (kks := ?kks) ?e ?_); (case e => walk_at "look")) | ((with_reducible refine s_var (d := ?d) ?e ?_); (case e => rfl)) | ((with_reducible refine s_itS (d := ?d) ?f ?_); (case f => walk_at "at")) | ((with_reducible refine s_modI ?e ?_); (case e => first | omega | assumption)) | ((with_reducible refine s_divI ?e ?_); (case e => exact ⟨by omega, by omega⟩)) | ((with_reducible refine s_mulI ?e ?_); (case e => first | exact .inl ⟨by omega, by omega⟩ | exact .inr ⟨by omega, by omega⟩)) | ((with_reducible refine s_powI ?e ?_); (case e => exact ⟨by omega, by omega, by omega⟩)) | ((with_reducible refine s_setD (xs := ?xs) (j := ?j) ?e ?f ?_); (case e => walk_at "look"); (case f => first | rfl | assumption | (refine ixN_nat ?_; first | omega | (simp only [List.length_map, List.length_append, List.length_cons, List.length_nil, List.length_range, List.length_set]; omega)))) | ((with_reducible refine s_gtl ?_ ?e); (case e => rfl)) | ((with_reducible refine s_rng1 ?e ?_); (case e => first | (constructor <;> omega) | (simp only [List.length_map, List.length_append, List.length_cons, List.length_nil, List.length_range, List.length_set]; constructor <;> omega))) | ((with_reducible refine s_rng2 ?e ?_); (case e => first | (refine ⟨?_, ?_, ?_, ?_⟩ <;> omega) | (simp only [List.length_map, List.length_append, List.length_cons, List.length_nil, List.length_range, List.length_set]; refine ⟨?_, ?_, ?_, ?_⟩ <;> omega))) | ((with_reducible refine s_seqL (xs := ?xs) ?e ?_); (case e => walk_at "look")) | ((with_reducible refine s_sliceL (xs := ?xs) ?e ?_); (case e => walk_at "look")) | ((with_reducible refine s_tupL (xs := ?xs) ?e ?_); (case e => walk_at "look")) | ((with_reducible refine s_listL (xs := ?xs) ?e ?_); (case e => walk_at "look")) | ((with_reducible refine s_isi (tn := ?tn) ?e ?f ?_); (case e => rfl); (case f => decide)) | ((with_reducible refine s_ins (xs := ?xs) ?e ?f ?g ?_); (case e => walk_at "look"); (case f => first | assumption | (refine szLt ?_; simp only [List.length_map, List.length_append, List.length_cons, List.length_nil, List.length_range]; omega)); (case g => constructor <;> omega)) | ((with_reducible refine s_isiL (xs := ?xs) ?e ?f ?_); (case e => walk_at "look"); (case f => decide)) | ((with_reducible refine s_addT ?e ?_); (case e => walk_at "sz")) | ((with_reducible refine s_enL (xs := ?xs) ?e ?_); (case e => walk_at "look")) | ((with_reducible refine s_setFN (fs := ?fs) ?e ?f ?g ?_); (case e => walk_at "look"); (case f => (simp only [List.length_append, List.length_cons, List.length_nil]; decide)); (case g => rfl); (try simp only [List.cons_append, List.nil_append])) | ((with_reducible refine s_rng3B ?e ?_); (case e => first | (refine ⟨?_, ?_, ?_, ?_⟩ <;> omega) | (simp only [List.length_map, List.length_append, List.length_cons, List.length_nil, List.length_range, List.length_set]; refine ⟨?_, ?_, ?_, ?_⟩ <;> omega))) | ((with_reducible refine s_clr (xs := ?xs) ?e ?_); (case e => walk_at "look")) | ((with_reducible refine s_addL (xs := ?xs) (ys := ?ys) ?e ?f ?g ?_); (case e => walk_at "look"); (case f => walk_at "look"); (case g => walk_at "sz")) | refine wst ?_)
local macro_rules | `(tactic| walk_at "s") => `(tactic| first | ((with_reducible refine s_itL (xs := ?xs) (d := ?d) ?e ?f ?_); (case e => walk_at "look"); (case f => walk_at "at")) | ((with_reducible refine s_mkT ?e ?_); (case e => walk_at "sz")) | ((with_reducible refine s_itT (d := ?d) ?f ?_); (case f => walk_at "at")) | ((with_reducible refine br_tt ?e ?_); (case e => decide)) | ((with_reducible refine br_ff ?e ?_); (case e => decide)) | ((with_reducible refine s_fldB (fs := ?fs) (d := ?d) ?e ?f ?_); (case e => walk_at "look"); (case f => rfl)) | ((with_reducible refine s_methB (fs := ?fs) ?e ?f ?_); (case e => walk_at "look"); (case f => rfl)) | ((with_reducible refine s_optT (k := ?k) ?e ?_); (case e => rfl)) | ((with_reducible refine s_mkL ?e ?_); (case e => walk_at "sz")) | ((with_reducible refine s_gt ?_ ?e); (case e => rfl)) | ((with_reducible refine s_app (xs := ?xs) ?e ?f ?_); (case e => walk_at "look"); (case f => first | assumption | (refine szLt ?_; simp only [List.length_map, List.length_append, List.length_cons, List.length_nil, List.length_range]; omega))) | ((with_reducible refine s_isl (xs := ?xs) ?e ?_); (case e => walk_at "look")) | ((with_reducible refine s_lenL (xs := ?xs) ?e ?_); (case e => walk_at "look")))

/-! ### the laws' numbers from a cell: any numbers from nought on will do -/
def C_law_mix : Ct := fun ds G Q _ => ∃ (c k : Int), ds = [.int c, .int k] ∧ 0 ≤ k ∧ k < 1000 ∧ ∀ r, 0 ≤ r → r < 1000000000 → Q (.int r) G
theorem len_law_mix (ds G Q E) (h : C_law_mix ds G Q E) : ds.length = 2 := by obtain ⟨_, _, rfl, _⟩ := h; rfl
abbrev N_law_mix : List Str := ["cell", "k", "prime", "one"]
def T_law_mix : DX → DS := fun E => (dSeq (dAsg (dOp itemD (dLst (dCons (dC (.int 2147483647)) (dCons (dC (.int 2147483629)) (dCons (dC (.int 2147483587)) (dCons (dC (.int 2147483579)) (dCons (dC (.int 2147483563)) (dCons (dC (.int 2147483549)) (dCons (dC (.int 2147483543)) dNil)))))))) (dOp modD (dVar 1) (dC (.int 7)))) (dgName 2))
    (dSeq (dAsg (dOp modD (dOp mulD (dOp addD (dOp modD (dVar 0) (dC (.int 998244353))) (dOp mulD (dC (.int 104729)) (dOp addD (dVar 1) (dC (.int 1))))) (dOp addD (dOp addD (dOp mulD (dVar 1) (dVar 1)) (dOp mulD (dC (.int 7)) (dVar 1))) (dC (.int 13)))) (dVar 2)) (dgName 3))
    (dSeq (dAsg (dOp modD (dOp powD (dVar 3) (dC (.int 5))) (dC (.int 1000000007))) (dgName 3))
    (dSeq (dAsg (dOp modD (dOp addD (dOp addD (dOp mulD (dVar 3) (dC (.int 48271))) (dOp mulD (dC (.int 31)) (dVar 1))) (dC (.int 5))) (dVar 2)) (dgName 3))
    (dRet (dOp divD (dOp modD (dOp powD (dVar 3) (dC (.int 3))) (dC (.int 998244353))) (dC (.int 8))))))))
theorem run_law_mix (ds G Q E) (h : C_law_mix ds G Q E) : T_law_mix E { nx := fun _ G' => DrK Q .non G', rt := DrK Q, bk := fun _ _ => False, ct := fun _ _ => False } (dstart N_law_mix ds) G := by
  obtain ⟨c, k, rfl, k0, k1, q⟩ := h
  show T_law_mix E _ [some (.int c), some (.int k), none, none] G
  unfold T_law_mix
  walk_at "run"
  intro p hp
  have m0 := Int.emod_nonneg k (show (7 : Int) ≠ 0 by decide)
  have m1 := Int.emod_lt_of_pos k (show (0 : Int) < 7 by decide)
  obtain ⟨j, ej⟩ : ∃ j : Nat, k % 7 = (j : Int) := ⟨(k % 7).toNat, by omega⟩
  walk_at "run"
  rw [ej]
  obtain ⟨pr, ep, p0, p1⟩ : ∃ pr : Int, [D.int 2147483647, .int 2147483629, .int 2147483587, .int 2147483579, .int 2147483563, .int 2147483549, .int 2147483543][j]? = some (.int pr) ∧ 2147483543 ≤ pr ∧ pr ≤ 2147483647 := by
    rcases (show j = 0 ∨ j = 1 ∨ j = 2 ∨ j = 3 ∨ j = 4 ∨ j = 5 ∨ j = 6 by omega) with rfl | rfl | rfl | rfl | rfl | rfl | rfl <;> exact ⟨_, rfl, by decide, by decide⟩
  have c0 := Int.emod_nonneg c (show (998244353 : Int) ≠ 0 by decide)
  have c1 := Int.emod_lt_of_pos c (show (0 : Int) < 998244353 by decide)
  have kk : 0 ≤ k * k ∧ k * k ≤ 1000000 := ⟨Int.mul_nonneg k0 k0, Int.le_trans (Int.mul_le_mul (show k ≤ 1000 by omega) (show k ≤ 1000 by omega) k0 (by decide)) (by decide)⟩
  generalize hkk : k * k = kk' at kk
  walk_at "run"
  rw [hkk]
  generalize (c % 998244353 + 104729 * (k + 1)) * (kk' + 7 * k + 13) = z1
  have a0 := Int.emod_nonneg z1 (show pr ≠ 0 by omega)
  have a1 := Int.emod_lt_of_pos z1 (show 0 < pr by omega)
  generalize z1 % pr = z2 at a0 a1
  walk_at "run"
  generalize z2 ^ (5 : Int).toNat = z3
  have a2 := Int.emod_nonneg z3 (show (1000000007 : Int) ≠ 0 by decide)
  have a3 := Int.emod_lt_of_pos z3 (show (0 : Int) < 1000000007 by decide)
  generalize z3 % 1000000007 = z4 at a2 a3
  walk_at "run"
  generalize z4 * 48271 + 31 * k + 5 = z5
  have a4 := Int.emod_nonneg z5 (show pr ≠ 0 by omega)
  have a5 := Int.emod_lt_of_pos z5 (show 0 < pr by omega)
  generalize z5 % pr = z6 at a4 a5
  walk_at "run"
  generalize z6 ^ (3 : Int).toNat = z7
  have a6 := Int.emod_nonneg z7 (show (998244353 : Int) ≠ 0 by decide)
  have a7 := Int.emod_lt_of_pos z7 (show (0 : Int) < 998244353 by decide)
  exact s_rtD (G0 := G) (le_new hp (.refl _)) (q _ (by omega) (by omega))
def C_law_digits : Ct := fun ds G Q _ => ∃ (c : Int) (n : Nat), ds = [.int c, .int n] ∧ n ≤ 1000 ∧ ∀ (rs : List Nat) p, rs.length = n → (∀ r ∈ rs, r < 1000000000) → G p = none → Q (.ref p) (up G p (.lst (rs.map encN)))
theorem len_law_digits (ds G Q E) (h : C_law_digits ds G Q E) : ds.length = 2 := by obtain ⟨_, _, rfl, _⟩ := h; rfl
abbrev N_law_digits : List Str := ["cell", "many", "found", "left_over", "wide", "k"]
def T_law_digits : DX → DS := fun E => (dSeq (dAsg (dLst dNil) (dgName 2))
    (dSeq (dAsg (dCB absD (dCons (dVar 0) dNil)) (dgName 3))
    (dSeq (dAsg (dOp geD (dVar 3) (dOp powD (dC (.int 10)) (dC (.int 18)))) (dgName 4))
    (dSeq (dFor (diRange (dCons (dVar 1) dNil)) (dgName 5) (dIf (dAnd (dTru (dVar 4)) (dTest (dOp gtD (dVar 3) (dC (.int 0))))) (dSeq (dDrop (dMt appendD (dVar 2) (dCons (dOp modD (dVar 3) (dC (.int 10007))) dNil)))
    (dAsg (dOp divD (dVar 3) (dC (.int 10007))) (dgName 3))) (dDrop (dMt appendD (dVar 2) (dCons (dCall C_law_mix E (dCons (dVar 0) (dCons (dVar 5) dNil))) dNil)))))
    (dRet (dVar 2))))))
theorem run_law_digits (ds G Q E) (h : C_law_digits ds G Q E) : T_law_digits E { nx := fun _ G' => DrK Q .non G', rt := DrK Q, bk := fun _ _ => False, ct := fun _ _ => False } (dstart N_law_digits ds) G := by
  obtain ⟨c, n, rfl, hn, q⟩ := h
  show T_law_digits E _ [some (.int c), some (.int n), none, none, none, none] G
  unfold T_law_digits
  walk_at "run"
  intro p hp
  walk_at "run"
  have l0 : 0 ≤ (if c < 0 then -c else c) := by split <;> omega
  generalize (if c < 0 then -c else c) = lo at l0
  generalize hw : decide ((10 : Int) ^ (18 : Int).toNat ≤ lo) = wd
  refine loop_inv (fun i σ G' => ∃ (rs : List Nat) (lo : Int) (v5 : Option D), rs.length = i ∧ (∀ r ∈ rs, r < 1000000000) ∧ 0 ≤ lo ∧ σ = [some (.int c), some (.int n), some (.ref p), some (.int lo), some (.bl wd), v5] ∧ G' = up G p (.lst (rs.map encN))) ⟨[], lo, none, rfl, by simp, l0, rfl, rfl⟩ (fun _ _ _ _ _ => trivial) (fun i d σ' G' N hd hi hP hN => ?_) (fun σ' G' hP => ?_)
  · obtain ⟨rs, lo, v5, hl, hr, l0, rfl, rfl⟩ := hP
    obtain ⟨rfl, hi2⟩ := rangeD_get0 hd
    have more : ∀ (r lo' : Int) (v : Option D), 0 ≤ r → r < 1000000000 → 0 ≤ lo' → N [some (.int c), some (.int n), some (.ref p), some (.int lo'), some (.bl wd), v] (up G p (.lst (rs.map encN ++ [.int r]))) := fun r lo' v r0 r1 l1 => by
      refine hN _ _ _ (.refl _) ⟨rs ++ [r.toNat], lo', v, by simp [hl], fun x hx => ?_, l1, rfl, ?_⟩
      · rcases List.mem_append.mp hx with h | h
        · exact hr x h
        · simp at h
          omega
      · rw [List.map_append]
        simp only [List.map_cons, List.map_nil, encN]
        rw [show ((r.toNat : Nat) : Int) = r by omega]
    walk_at "run"
    refine br_bool (fun h => ?_) (fun h => ?_)
    · walk_at "run"
      refine br_dec (fun h2 => ?_) (fun h2 => ?_)
      · walk_at "run"
        rw [up_up]
        refine more _ _ _ (Int.emod_nonneg _ (by decide)) ?_ ?_
        · have := Int.emod_lt_of_pos lo (show (0 : Int) < 10007 by decide)
          omega
        · exact Int.ediv_nonneg l0 (by decide)
      · walk_at "run"
        refine UpC.of ⟨c, i, rfl, by omega, by omega, fun r r0 r1 => ?_⟩
        walk_at "run"
        rw [up_up]
        exact more r lo _ r0 r1 l0
    · walk_at "run"
      refine UpC.of ⟨c, i, rfl, by omega, by omega, fun r r0 r1 => ?_⟩
      walk_at "run"
      rw [up_up]
      exact more r lo _ r0 r1 l0
  · obtain ⟨rs, lo, v5, hl, hr, l0, rfl, rfl⟩ := hP
    rw [rangeD_length] at hl
    walk_at "run"
    exact s_rt (q rs p (by omega) hr hp)

def C_law_at : Ct := fun ds G Q _ => ∃ (ns : List Int) (k : Int), ds = [.lis (ns.map .int), .int k] ∧ 0 ≤ k ∧ k < 1000 ∧ ∀ r, Q (.int r) G
theorem len_law_at (ds G Q E) (h : C_law_at ds G Q E) : ds.length = 2 := by obtain ⟨_, _, rfl, _⟩ := h; rfl
abbrev N_law_at : List Str := ["script", "k"]
def T_law_at : DX → DS := fun E => (dSeq (dIf (dTest (dOp ltD (dVar 1) (dCB lenD (dCons (dVar 0) dNil)))) (dRet (dOp itemD (dVar 0) (dVar 1))) dNext)
    (dRet (dOp addD (dOp addD (dOp mulD (dC (.int 67)) (dVar 1)) (dC (.int 19))) (dCB lenD (dCons (dVar 0) dNil)))))
theorem run_law_at (ds G Q E) (h : C_law_at ds G Q E) : T_law_at E { nx := fun _ G' => DrK Q .non G', rt := DrK Q, bk := fun _ _ => False, ct := fun _ _ => False } (dstart N_law_at ds) G := by
  obtain ⟨ns, k, rfl, k0, k1, q⟩ := h
  show T_law_at E _ [some (.lis (ns.map .int)), some (.int k)] G
  unfold T_law_at
  obtain ⟨k, rfl⟩ : ∃ j : Nat, k = (j : Int) := ⟨k.toNat, by omega⟩
  walk_at "run"
  refine br_dec (fun h => ?_) (fun h => ?_)
  · rw [List.length_map] at h
    have e : (ns.map D.int)[k]? = some (.int (ns[k]'(by omega))) := by rw [List.getElem?_map, List.getElem?_eq_getElem (by omega)]; rfl
    walk_at "run"
    exact s_rt (q _)
  · walk_at "run"
    exact s_rt (q _)

/-! ### a heap with two ends: the plain model -/
inductive Deed where
  | lay (t : Int) | take
  deriving DecidableEq
def encDeed : Deed → D
  | .lay t => .tup [.str "lay", .int t]
  | .take => .tup [.str "take"]
inductive What where
  | nil | got (t : Int) | lost
  deriving DecidableEq
def encWhat : What → D
  | .nil => .non
  | .got t => .int t
  | .lost => .str "lost"
def encOI : Option Int → D
  | none => .non
  | some t => .int t
def whatOf : Option Int → What
  | none => .nil
  | some t => .got t
theorem encWhat_of (x : Option Int) : encWhat (whatOf x) = encOI x := by cases x <;> rfl
structure Mv where
  n : Nat
  ph : Nat
  f : Int
  x : Option Int
  told : List What
def encMv (m : Mv) : D := .tup [.int m.n, .int m.ph, .int m.f, encOI m.x, .tup (m.told.map encWhat)]
structure Sta where
  near : Int
  far : Int
  box : Nat → Option Int
  ms : List Mv
def encBx (L : Nat) (b : Nat → Option Int) : List D := (List.range L).map fun i => encOI (b i)
def encSt (L : Nat) (s : Sta) : D := .tup [.int s.near, .int s.far, .tup (encBx L s.box), .tup (s.ms.map encMv)]
structure Play where
  deeds : List Deed
  tries : List Nat
def encPlay (p : Play) : D := .tup [.tup (p.deeds.map encDeed), .tup (p.tries.map encN)]
def endM (m : Mv) (w : What) : Mv := ⟨m.n + 1, 0, 0, none, m.told ++ [w]⟩
def setB (b : Nat → Option Int) (i : Nat) (t : Int) : Nat → Option Int := fun k => if k = i then some t else b k
def layM (t : Int) (s : Sta) (m : Mv) : Sta × Mv :=
  if m.ph = 0 then ({ s with box := setB s.box s.near.toNat t }, ⟨m.n, 1, 0, none, m.told⟩) else ({ s with near := s.near + 1 }, ⟨m.n + 1, 0, 0, none, m.told⟩)
def takeM (bare : Bool) (s : Sta) (m : Mv) : Sta × Mv :=
  if m.ph = 0 then ({ s with near := s.near - 1 }, ⟨m.n, 1, 0, none, m.told⟩)
  else if m.ph = 1 then (s, ⟨m.n, 2, s.far, none, m.told⟩)
  else if m.ph = 2 then
    if s.near < m.f then ({ s with near := m.f }, endM m .nil)
    else if m.f < s.near then (s, endM m (whatOf (s.box s.near.toNat)))
    else (s, ⟨m.n, if bare then 4 else 3, m.f, s.box s.near.toNat, m.told⟩)
  else if m.ph = 3 then
    if s.far = m.f then ({ s with far := s.far + 1 }, ⟨m.n, 4, m.f, m.x, m.told⟩) else (s, ⟨m.n, 4, m.f, none, m.told⟩)
  else ({ s with near := m.f + 1 }, endM m (whatOf m.x))
def attM (blind : Bool) (s : Sta) (m : Mv) : Sta × Mv :=
  if m.ph = 0 then (s, ⟨m.n, 1, s.far, none, m.told⟩)
  else if m.ph = 1 then
    if s.near ≤ m.f then (s, endM m .nil) else (s, ⟨m.n, 2, m.f, none, m.told⟩)
  else if m.ph = 2 then (s, ⟨m.n, 3, m.f, s.box m.f.toNat, m.told⟩)
  else if s.far = m.f ∨ blind = true then ({ s with far := m.f + 1 }, endM m (whatOf m.x))
  else (s, endM m .lost)
def putM (r : Sta × Mv) (who : Nat) : Sta := { r.1 with ms := r.1.ms.set who r.2 }
def stepM (bare blind : Bool) (p : Play) (s : Sta) (who : Nat) : Option Sta := match s.ms[who]? with
  | none => none
  | some m => match who with
    | 0 => match p.deeds[m.n]? with
      | none => none
      | some (.lay t) => some (putM (layM t s m) 0)
      | some .take => some (putM (takeM bare s m) 0)
    | w + 1 => if p.tries[w]? = some m.n then none else some (putM (attM blind s m) (w + 1))
def encOS (L : Nat) : Option Sta → D
  | none => .non
  | some s => encSt L s
def sta0 (p : Play) : Sta := ⟨0, 0, fun _ => none, List.replicate (1 + p.tries.length) ⟨0, 0, 0, none, []⟩⟩
/-! ### what stands in every state -/
def lays (ds : List Deed) (n : Nat) : Nat := ((ds.take n).filter fun d => decide (d ≠ .take)).length
theorem lays_le (ds : List Deed) (n : Nat) : lays ds n ≤ n := Nat.le_trans (List.length_filter_le _ _) (by simp; omega)
theorem lays_len (ds : List Deed) (n : Nat) : lays ds n ≤ ds.length := Nat.le_trans (List.length_filter_le _ _) (by simp; omega)
theorem lays_succ {ds : List Deed} {n : Nat} {d : Deed} (h : ds[n]? = some d) : lays ds (n + 1) = lays ds n + (if d = .take then 0 else 1) := by
  unfold lays
  rw [List.take_add_one, h, List.filter_append]
  by_cases e : d = .take <;> simp [e]
theorem lays_lt {ds : List Deed} {n : Nat} {d : Deed} (h : ds[n]? = some d) : lays ds n < ds.length := by
  have h1 := (List.getElem?_eq_some_iff.mp h).1
  have := lays_le ds n
  omega
structure Own (ds : List Deed) (ly nr : Int) (m : Mv) : Prop where
  n : m.n ≤ ds.length
  ph : m.ph ≤ 4
  near : nr ≤ ly
  start : m.ph = 0 → 0 ≤ nr ∧ m.f = 0
  x : m.ph ≤ 2 → m.x = none
  last : ds[m.n]? = none → m.ph = 0
  lay : ∀ t, ds[m.n]? = some (.lay t) → m.ph ≤ 1 ∧ 0 ≤ nr ∧ m.f = 0
  take : ds[m.n]? = some .take → (m.ph = 1 → -1 ≤ nr ∧ nr + 1 ≤ ly ∧ m.f = 0) ∧ (m.ph = 2 → -1 ≤ nr ∧ nr + 1 ≤ ly ∧ 0 ≤ m.f ∧ m.f ≤ ly) ∧ (3 ≤ m.ph → nr = m.f ∧ 0 ≤ m.f ∧ m.f + 1 ≤ ly)
structure Thf (most : Nat) (ly : Int) (m : Mv) : Prop where
  n : m.n ≤ most
  ph : m.ph ≤ 3
  start : m.ph = 0 → m.f = 0
  x : m.ph ≤ 2 → m.x = none
  f : 0 ≤ m.f
  two : 2 ≤ m.ph → m.f + 1 ≤ ly
/-- things come of the deeds -/
structure Thg (ds : List Deed) (s : Sta) : Prop where
  box : ∀ i t, s.box i = some t → .lay t ∈ ds
  x : ∀ m ∈ s.ms, ∀ t, m.x = some t → .lay t ∈ ds
  told : ∀ m ∈ s.ms, ∀ t, .got t ∈ m.told → .lay t ∈ ds
  len : ∀ m ∈ s.ms, m.told.length ≤ m.n
structure SOk (p : Play) (s : Sta) : Prop where
  len : s.ms.length = 1 + p.tries.length
  far0 : 0 ≤ s.far
  own : ∀ m, s.ms[0]? = some m → s.far ≤ lays p.deeds m.n ∧ Own p.deeds (lays p.deeds m.n) s.near m
  thf : ∀ w m0 m, s.ms[0]? = some m0 → s.ms[w + 1]? = some m → ∃ most, p.tries[w]? = some most ∧ Thf most (lays p.deeds m0.n) m
  thg : Thg p.deeds s
theorem sta0_ok (p : Play) : SOk p (sta0 p) := by
  have hm : ∀ m ∈ (sta0 p).ms, m = ⟨0, 0, 0, none, []⟩ := fun m h => List.eq_of_mem_replicate h
  refine ⟨by simp [sta0], by simp [sta0], fun m h => ?_, fun w m0 m h0 h => ?_, ⟨fun i t h => (by cases h), fun m h t e => (by rw [hm m h] at e; cases e), fun m h t e => (by rw [hm m h] at e; cases e), fun m h => by rw [hm m h]; simp⟩⟩
  · obtain rfl := hm m (List.mem_of_getElem? h)
    refine ⟨by simp [sta0], by simp, by simp, by simp [sta0], fun _ => ⟨by simp [sta0], rfl⟩, fun _ => rfl, fun _ => rfl, fun t _ => ⟨by simp, by simp [sta0], rfl⟩, fun _ => ⟨fun e => (by cases e), fun e => (by cases e), fun e => by simp at e⟩⟩
  · obtain rfl := hm m (List.mem_of_getElem? h)
    have hw : w < p.tries.length := by
      have := (List.getElem?_eq_some_iff.mp h).1
      simp [sta0] at this
      omega
    exact ⟨p.tries[w], List.getElem?_eq_getElem hw, by simp, by simp, fun _ => rfl, fun _ => rfl, by simp, fun e => by simp at e⟩
theorem thg_put {ds : List Deed} {s s' : Sta} {m : Mv} {who : Nat} (h : Thg ds s) (hb : ∀ i t, s'.box i = some t → .lay t ∈ ds) (hs : s'.ms = s.ms) (hx : ∀ t, m.x = some t → .lay t ∈ ds) (ht : ∀ t, .got t ∈ m.told → .lay t ∈ ds) (hl : m.told.length ≤ m.n) : Thg ds (putM (s', m) who) := by
  refine ⟨hb, fun k hk => ?_, fun k hk => ?_, fun k hk => ?_⟩
  all_goals
    have hk' : k ∈ s'.ms.set who m := hk
    rw [hs] at hk'
    rcases List.mem_or_eq_of_mem_set hk' with h1 | h1
  · exact h.x k h1
  · subst h1; exact hx
  · exact h.told k h1
  · subst h1; exact ht
  · exact h.len k h1
  · subst h1; exact hl
theorem mem_end {m : Mv} {w : What} {t : Int} {P : Prop} (h1 : .got t ∈ m.told → P) (h2 : w = .got t → P) (h : .got t ∈ (endM m w).told) : P := by
  rcases List.mem_append.mp h with h | h
  · exact h1 h
  · exact h2 (by simpa using (List.mem_singleton.mp h).symm)
theorem whatOf_got {x : Option Int} {t : Int} (h : whatOf x = .got t) : x = some t := by
  cases x with
  | none => cases h
  | some u => cases h; rfl
/-- a small deed keeps it -/
theorem step_ok {bare blind : Bool} {p : Play} {s s' : Sta} {who : Nat} (h : SOk p s) (e : stepM bare blind p s who = some s') : SOk p s' := by
  unfold stepM at e
  cases em : s.ms[who]? with
  | none => rw [em] at e; cases e
  | some m =>
    rw [em] at e
    have hmm : m ∈ s.ms := List.mem_of_getElem? em
    have hlt := (List.getElem?_eq_some_iff.mp em).1
    cases who with
    | zero =>
      obtain ⟨hfar, ho⟩ := h.own m em
      cases ed : p.deeds[m.n]? with
      | none => simp only [ed] at e; cases e
      | some d =>
        have hlen := (List.getElem?_eq_some_iff.mp ed).1
        have hls := lays_succ ed
        -- what the owner's part has to be
        have fin : ∀ (t : Sta) (k : Mv), t.ms = s.ms → (∀ i u, t.box i = some u → .lay u ∈ p.deeds) → (∀ u, k.x = some u → .lay u ∈ p.deeds) → (∀ u, .got u ∈ k.told → .lay u ∈ p.deeds) → k.told.length ≤ k.n → m.n ≤ k.n → 0 ≤ t.far → t.far ≤ lays p.deeds m.n → Own p.deeds (lays p.deeds k.n) t.near k → SOk p (putM (t, k) 0) := by
          intro t k hs hb hx ht hl hn hf0 hf hO
          have hmono : (lays p.deeds m.n : Int) ≤ lays p.deeds k.n := by
            unfold lays
            have : ((p.deeds.take m.n).filter fun d => decide (d ≠ .take)).Sublist ((p.deeds.take k.n).filter fun d => decide (d ≠ .take)) := List.Sublist.filter _ (List.take_sublist_take_left hn)
            have := this.length_le
            omega
          refine ⟨by show (t.ms.set 0 k).length = _; rw [List.length_set, hs]; exact h.len, hf0, fun k' hk' => ?_, fun w m0 m' h0 h1 => ?_, thg_put h.thg hb hs hx ht hl⟩
          · have hk2 : (t.ms.set 0 k)[0]? = some k' := hk'
            rw [hs, List.getElem?_set_self hlt] at hk2
            cases hk2
            exact ⟨by show t.far ≤ _; omega, hO⟩
          · have h02 : (t.ms.set 0 k)[0]? = some m0 := h0
            have h12 : (t.ms.set 0 k)[w + 1]? = some m' := h1
            rw [hs, List.getElem?_set_self hlt] at h02
            cases h02
            rw [hs, List.getElem?_set_ne (by omega)] at h12
            obtain ⟨most, e1, hT⟩ := h.thf w m m' em h12
            exact ⟨most, e1, hT.n, hT.ph, hT.start, hT.x, hT.f, fun e => by have := hT.two e; omega⟩
        have htold := h.thg.told m hmm
        have hml := h.thg.len m hmm
        have hbx := h.thg.box
        cases d with
        | lay t =>
          simp only [ed] at e
          cases e
          obtain ⟨l1, l2, l3⟩ := ho.lay t ed
          simp only [reduceCtorEq, if_false] at hls
          unfold layM
          by_cases hp : m.ph = 0
          · rw [if_pos hp]
            refine fin _ _ rfl (fun i u hu => ?_) (fun u hu => by cases hu) htold hml (Nat.le_refl _) h.far0 hfar ⟨ho.n, by simp, ho.near, fun e => (by cases e), fun _ => rfl, fun e => (by rw [ed] at e; cases e), fun u _ => ⟨by simp, l2, rfl⟩, fun e => (by rw [ed] at e; cases e)⟩
            unfold setB at hu
            simp only at hu
            split at hu
            · cases hu
              exact List.mem_of_getElem? ed
            · exact hbx i u hu
          · rw [if_neg hp]
            have hnr := ho.near
            refine fin _ _ rfl hbx (fun u hu => by cases hu) htold (by show m.told.length ≤ m.n + 1; omega) (Nat.le_succ _) h.far0 hfar ⟨by show m.n + 1 ≤ _; omega, by simp, ?_, fun _ => ⟨?_, rfl⟩, fun _ => rfl, fun _ => rfl, fun u _ => ⟨by simp, ?_, rfl⟩, fun _ => ⟨fun e => (by cases e), fun e => (by cases e), fun e => by simp at e⟩⟩
            · show s.near + 1 ≤ (lays p.deeds (m.n + 1) : Int)
              omega
            · show 0 ≤ s.near + 1
              omega
            · show 0 ≤ s.near + 1
              omega
        | take =>
          simp only [ed] at e
          cases e
          obtain ⟨t1, t2, t3⟩ := ho.take ed
          simp only [if_true, Nat.add_zero] at hls
          have hnr := ho.near
          have again : ∀ (k : Mv) (near : Int), k.n = m.n → k.ph ≤ 4 → 1 ≤ k.ph → near ≤ lays p.deeds m.n → (k.ph ≤ 2 → k.x = none) → ((k.ph = 1 → -1 ≤ near ∧ near + 1 ≤ (lays p.deeds m.n : Int) ∧ k.f = 0) ∧ (k.ph = 2 → -1 ≤ near ∧ near + 1 ≤ (lays p.deeds m.n : Int) ∧ 0 ≤ k.f ∧ k.f ≤ lays p.deeds m.n) ∧ (3 ≤ k.ph → near = k.f ∧ 0 ≤ k.f ∧ k.f + 1 ≤ (lays p.deeds m.n : Int))) → Own p.deeds (lays p.deeds k.n) near k := by
            intro k near en k4 k1 hk hx ht
            rw [en]
            exact ⟨by rw [en]; exact ho.n, k4, hk, fun e => by omega, hx, fun e => (by rw [en, ed] at e; cases e), fun u e => (by rw [en, ed] at e; cases e), fun _ => ht⟩
          have done : ∀ (w : What) (near : Int), near ≤ (lays p.deeds m.n : Int) → 0 ≤ near → Own p.deeds (lays p.deeds (endM m w).n) near (endM m w) := by
            intro w near h1 h2
            refine ⟨by show m.n + 1 ≤ _; omega, by simp [endM], ?_, fun _ => ⟨h2, rfl⟩, fun _ => rfl, fun _ => rfl, fun u _ => ⟨by simp [endM], h2, rfl⟩, fun _ => ⟨fun e => (by cases e), fun e => (by cases e), fun e => by simp [endM] at e⟩⟩
            show near ≤ (lays p.deeds (m.n + 1) : Int)
            omega
          have elen : ∀ w : What, (endM m w).told.length ≤ (endM m w).n := fun w => by
            show (m.told ++ [w]).length ≤ m.n + 1
            simp
            omega
          unfold takeM
          split
          · rename_i hp
            obtain ⟨n0, _⟩ := ho.start hp
            refine fin _ _ rfl hbx (fun u hu => by cases hu) htold hml (Nat.le_refl _) h.far0 hfar (again _ _ rfl (by simp) (by simp) (by show s.near - 1 ≤ _; omega) (fun _ => rfl) ⟨fun _ => ⟨?_, ?_, rfl⟩, fun e => (by cases e), fun e => by simp at e⟩)
            · show -1 ≤ s.near - 1
              omega
            · show s.near - 1 + 1 ≤ _
              omega
          · split
            · rename_i hp0 hp
              obtain ⟨a1, a2, _⟩ := t1 hp
              exact fin _ _ rfl hbx (fun u hu => by cases hu) htold hml (Nat.le_refl _) h.far0 hfar (again _ _ rfl (by simp) (by simp) hnr (fun _ => rfl) ⟨fun e => (by cases e), fun _ => ⟨a1, a2, h.far0, hfar⟩, fun e => by simp at e⟩)
            · split
              · rename_i hp0 hp1 hp
                obtain ⟨a1, a2, a3, a4⟩ := t2 hp
                split
                · exact fin _ _ rfl hbx (fun u hu => by cases hu) (fun u => mem_end (htold u) (fun e => by cases e)) (elen _) (Nat.le_succ _) h.far0 hfar (done _ _ a4 a3)
                · split
                  · rename_i b1 b2
                    exact fin _ _ rfl hbx (fun u hu => by cases hu) (fun u => mem_end (htold u) (fun e => hbx _ _ (whatOf_got e))) (elen _) (Nat.le_succ _) h.far0 hfar (done _ _ hnr (by omega))
                  · rename_i b1 b2
                    have en : s.near = m.f := by omega
                    refine fin _ _ rfl hbx (fun u hu => hbx _ _ hu) htold hml (Nat.le_refl _) h.far0 hfar (again _ _ rfl ?_ ?_ hnr ?_ ⟨?_, ?_, fun _ => ⟨en, a3, by show m.f + 1 ≤ _; omega⟩⟩)
                    all_goals (cases bare <;> simp)
              · split
                · rename_i hp0 hp1 hp2 hp
                  obtain ⟨a1, a2, a3⟩ := t3 (by omega)
                  split
                  · rename_i b1
                    exact fin _ _ rfl hbx (h.thg.x m hmm) htold hml (Nat.le_refl _) (by show 0 ≤ s.far + 1; have := h.far0; omega) (by show s.far + 1 ≤ _; omega) (again _ _ rfl (by simp) (by simp) hnr (fun e => by simp at e) ⟨fun e => (by cases e), fun e => (by cases e), fun _ => ⟨a1, a2, a3⟩⟩)
                  · exact fin _ _ rfl hbx (fun u hu => by cases hu) htold hml (Nat.le_refl _) h.far0 hfar (again _ _ rfl (by simp) (by simp) hnr (fun e => by simp at e) ⟨fun e => (by cases e), fun e => (by cases e), fun _ => ⟨a1, a2, a3⟩⟩)
                · rename_i hp0 hp1 hp2 hp3
                  obtain ⟨a1, a2, a3⟩ := t3 (by omega)
                  exact fin _ _ rfl hbx (fun u hu => by cases hu) (fun u => mem_end (htold u) (fun e => h.thg.x m hmm _ (whatOf_got e))) (elen _) (Nat.le_succ _) h.far0 hfar (done _ _ (by show m.f + 1 ≤ _; omega) (by show 0 ≤ m.f + 1; omega))
    | succ w =>
      simp only at e
      split at e
      · cases e
      · rename_i hne
        cases e
        obtain ⟨m0, em0⟩ : ∃ m0, s.ms[0]? = some m0 := ⟨s.ms[0]'(by omega), List.getElem?_eq_getElem (by omega)⟩
        obtain ⟨hfar, ho⟩ := h.own m0 em0
        obtain ⟨most, emo, hT⟩ := h.thf w m0 m em0 em
        have hnm : m.n < most := by
          have := hT.n
          have : m.n ≠ most := fun z => hne (by rw [emo, z])
          omega
        have fin : ∀ (t : Sta) (k : Mv), t.ms = s.ms → t.near = s.near → t.box = s.box → (∀ u, k.x = some u → .lay u ∈ p.deeds) → (∀ u, .got u ∈ k.told → .lay u ∈ p.deeds) → k.told.length ≤ k.n → 0 ≤ t.far → t.far ≤ lays p.deeds m0.n → Thf most (lays p.deeds m0.n) k → SOk p (putM (t, k) (w + 1)) := by
          intro t k hs hnr hb hx ht hl hf0 hf hO
          refine ⟨by show (t.ms.set (w + 1) k).length = _; rw [List.length_set, hs]; exact h.len, hf0, fun k' hk' => ?_, fun w' m0' m' h0 h1 => ?_, thg_put h.thg (by rw [hb]; exact h.thg.box) hs hx ht hl⟩
          · have hk2 : (t.ms.set (w + 1) k)[0]? = some k' := hk'
            rw [hs, List.getElem?_set_ne (by omega), em0] at hk2
            cases hk2
            refine ⟨hf, ?_⟩
            show Own p.deeds _ t.near _
            rw [hnr]
            exact ho
          · have h02 : (t.ms.set (w + 1) k)[0]? = some m0' := h0
            have h12 : (t.ms.set (w + 1) k)[w' + 1]? = some m' := h1
            rw [hs, List.getElem?_set_ne (by omega), em0] at h02
            cases h02
            by_cases ew : w = w'
            · subst ew
              rw [hs, List.getElem?_set_self hlt] at h12
              cases h12
              exact ⟨most, emo, hO⟩
            · rw [hs, List.getElem?_set_ne (by omega)] at h12
              exact h.thf w' m0 m' em0 h12
        have htold := h.thg.told m hmm
        have hml := h.thg.len m hmm
        have elen : ∀ w : What, (endM m w).told.length ≤ (endM m w).n := fun w => by
          show (m.told ++ [w]).length ≤ m.n + 1
          simp
          omega
        have done : ∀ w : What, Thf most (lays p.deeds m0.n) (endM m w) := fun w => ⟨by show m.n + 1 ≤ most; omega, by simp [endM], fun _ => rfl, fun _ => rfl, by simp [endM], fun e => by simp [endM] at e⟩
        unfold attM
        split
        · exact fin _ _ rfl rfl rfl (fun u hu => by cases hu) htold hml h.far0 hfar ⟨hT.n, by simp, fun e => (by cases e), fun _ => rfl, h.far0, fun e => by simp at e⟩
        · split
          · split
            · exact fin _ _ rfl rfl rfl (fun u hu => by cases hu) (fun u => mem_end (htold u) (fun e => by cases e)) (elen _) h.far0 hfar (done _)
            · rename_i hp0 hp1 b1
              have := ho.near
              exact fin _ _ rfl rfl rfl (fun u hu => by cases hu) htold hml h.far0 hfar ⟨hT.n, by simp, fun e => (by cases e), fun _ => rfl, hT.f, fun _ => by show m.f + 1 ≤ _; omega⟩
          · split
            · rename_i hp0 hp1 hp
              exact fin _ _ rfl rfl rfl (fun u hu => h.thg.box _ _ hu) htold hml h.far0 hfar ⟨hT.n, by simp, fun e => (by cases e), fun e => by simp at e, hT.f, fun _ => hT.two (by omega)⟩
            · rename_i hp0 hp1 hp2
              have h2 := hT.two (by omega)
              have h3 := hT.f
              split
              · exact fin _ _ rfl rfl rfl (fun u hu => by cases hu) (fun u => mem_end (htold u) (fun e => h.thg.x m hmm _ (whatOf_got e))) (elen _) (by show 0 ≤ m.f + 1; omega) (by show m.f + 1 ≤ _; omega) (done _)
              · exact fin _ _ rfl rfl rfl (fun u hu => by cases hu) (fun u => mem_end (htold u) (fun e => by cases e)) (elen _) h.far0 hfar (done _)

/-! ### the program's small deeds -/
theorem encBx_len {L : Nat} {b : Nat → Option Int} : (encBx L b).length = L := by simp [encBx]
theorem encBx_get {L : Nat} {b : Nat → Option Int} {i : Nat} (h : i < L) : (encBx L b)[i]? = some (encOI (b i)) := by
  unfold encBx
  rw [List.getElem?_map, List.getElem?_range h]
  rfl
theorem atI_bx {L : Nat} {b : Nat → Option Int} {i : Int} (h0 : 0 ≤ i) (h : i < L) : atI (encBx L b) i = some (encOI (b i.toNat)) := by
  obtain ⟨j, rfl⟩ : ∃ j : Nat, i = (j : Int) := ⟨i.toNat, by omega⟩
  rw [atI_cast, encBx_get (by omega)]
  simp
theorem take_drop_set {α : Type} {xs : List α} {i : Nat} {v : α} (h : i < xs.length) : xs.take i ++ [v] ++ xs.drop (i + 1) = xs.set i v := by
  rw [List.set_eq_take_append_cons_drop, if_pos h]
  simp
theorem encBx_set {L : Nat} {b : Nat → Option Int} {i : Nat} {t : Int} : (encBx L b).set i (.int t) = encBx L (setB b i t) := by
  apply List.ext_getElem?
  intro k
  by_cases hk : k < L
  · by_cases e : i = k
    · subst e
      rw [List.getElem?_set_self (by rw [encBx_len]; exact hk), encBx_get hk]
      simp [setB, encOI]
    · rw [List.getElem?_set_ne e, encBx_get hk, encBx_get hk]
      simp [setB, Ne.symm e]
  · rw [List.getElem?_eq_none (by simp [encBx_len]; omega), List.getElem?_eq_none (by simp [encBx_len]; omega)]
theorem cut_set {xs : List D} {i : Int} {v : D} (h0 : 0 ≤ i) (h : i < xs.length) : cutD xs none (some i) ++ [v] ++ cutD xs (some (i + 1)) none = xs.set i.toNat v := by
  obtain ⟨j, rfl⟩ : ∃ j : Nat, i = (j : Int) := ⟨i.toNat, by omega⟩
  rw [cutD_upto, show ((j : Int) + 1) = ((j + 1 : Nat) : Int) by omega, cutD_from, take_drop_set (by omega)]
  simp
def C_ended : Ct := fun ds G Q _ => ∃ m w, ds = [encMv m, encWhat w] ∧ m.told.length ≤ 1000 ∧ Q (encMv (endM m w)) G
theorem len_ended (ds G Q E) (h : C_ended ds G Q E) : ds.length = 2 := by obtain ⟨_, _, rfl, _⟩ := h; rfl
abbrev N_ended : List Str := ["mover", "what"]
def T_ended : DX → DS := fun E => (dRet (dTup (dCons (dOp addD (dOp itemD (dVar 0) (dC (.int 0))) (dC (.int 1))) (dCons (dC (.int 0)) (dCons (dC (.int 0)) (dCons (dC .non) (dCons (dOp addD (dOp itemD (dVar 0) (dC (.int 4))) (dTup (dCons (dVar 1) dNil))) dNil)))))))
theorem run_ended (ds G Q E) (h : C_ended ds G Q E) : T_ended E { nx := fun _ G' => DrK Q .non G', rt := DrK Q, bk := fun _ _ => False, ct := fun _ _ => False } (dstart N_ended ds) G := by
  obtain ⟨m, w, rfl, hl, q⟩ := h
  show T_ended E _ [some (.tup [.int m.n, .int m.ph, .int m.f, encOI m.x, .tup (m.told.map encWhat)]), some (encWhat w)] G
  unfold T_ended
  walk_at "run"
  have e : encMv (endM m w) = .tup [.int (m.n + 1), .int 0, .int 0, .non, .tup (m.told.map encWhat ++ [encWhat w])] := by
    simp [encMv, endM, encOI]
  rw [e] at q
  exact s_rt q
theorem u_ended {m : Mv} {w : What} {d : D} {G : DG} {Q : DK} {E : DX} (hd : d = encWhat w) (hl : m.told.length ≤ 1000) (k : Q (encMv (endM m w)) G) : UpC C_ended [.tup [.int m.n, .int m.ph, .int m.f, encOI m.x, .tup (m.told.map encWhat)], d] G Q E := by
  subst hd
  exact UpC.of ⟨m, w, rfl, hl, k⟩
def C_lay : Ct := fun ds G Q _ => ∃ L s m t, ds = [encSt L s, encMv m, .int t] ∧ L ≤ 1000 ∧ 0 ≤ s.near ∧ s.near < L ∧ Q (.tup [encSt L (layM t s m).1, encMv (layM t s m).2]) G
theorem len_lay (ds G Q E) (h : C_lay ds G Q E) : ds.length = 3 := by obtain ⟨_, _, _, _, rfl, _⟩ := h; rfl
abbrev N_lay : List Str := ["state", "mover", "thing", "near", "far", "boxes", "movers"]
def T_lay : DX → DS := fun E => (dSeq (dAsg (dVar 0) (dgTup 4 (dgCons (dgName 3) (dgCons (dgName 4) (dgCons (dgName 5) (dgCons (dgName 6) dgNil))))))
    (dSeq (dIf (dTest (dOp eqD (dOp itemD (dVar 1) (dC (.int 1))) (dC (.int 0)))) (dRet (dTup (dCons (dTup (dCons (dVar 3) (dCons (dVar 4) (dCons (dOp addD (dOp addD (dSl (dVar 5) dNoPart (dPart (dVar 3))) (dTup (dCons (dVar 2) dNil))) (dSl (dVar 5) (dPart (dOp addD (dVar 3) (dC (.int 1)))) dNoPart)) (dCons (dVar 6) dNil))))) (dCons (dTup (dCons (dOp itemD (dVar 1) (dC (.int 0))) (dCons (dC (.int 1)) (dCons (dC (.int 0)) (dCons (dC .non) (dCons (dOp itemD (dVar 1) (dC (.int 4))) dNil)))))) dNil)))) dNext)
    (dRet (dTup (dCons (dTup (dCons (dOp addD (dVar 3) (dC (.int 1))) (dCons (dVar 4) (dCons (dVar 5) (dCons (dVar 6) dNil))))) (dCons (dTup (dCons (dOp addD (dOp itemD (dVar 1) (dC (.int 0))) (dC (.int 1))) (dCons (dC (.int 0)) (dCons (dC (.int 0)) (dCons (dC .non) (dCons (dOp itemD (dVar 1) (dC (.int 4))) dNil)))))) dNil))))))
theorem run_lay (ds G Q E) (h : C_lay ds G Q E) : T_lay E { nx := fun _ G' => DrK Q .non G', rt := DrK Q, bk := fun _ _ => False, ct := fun _ _ => False } (dstart N_lay ds) G := by
  obtain ⟨L, s, m, t, rfl, hL, n0, n1, q⟩ := h
  show T_lay E _ [some (.tup [.int s.near, .int s.far, .tup (encBx L s.box), .tup (s.ms.map encMv)]), some (.tup [.int m.n, .int m.ph, .int m.f, encOI m.x, .tup (m.told.map encWhat)]), some (.int t), none, none, none, none] G
  unfold T_lay
  have e3 := cut_set (xs := encBx L s.box) (v := D.int t) n0 (by rw [encBx_len]; exact n1)
  rw [encBx_set] at e3
  have c1 : (cutD (encBx L s.box) none (some s.near) ++ [D.int t]).length + (cutD (encBx L s.box) (some (s.near + 1)) none).length ≤ sizeLine := by
    rw [← List.length_append, e3, encBx_len]
    exact szL (by omega)
  have c2 : (cutD (encBx L s.box) none (some s.near)).length + [D.int t].length ≤ sizeLine := by
    rw [List.length_append] at c1
    omega
  walk_at "run"
  refine br_bool (fun h => ?_) (fun h => ?_)
  · have hp : m.ph = 0 := by
      have : (m.ph : Int) = 0 := by simpa using h
      omega
    walk_at "run"
    rw [e3]
    unfold layM at q
    rw [if_pos hp] at q
    exact s_rt q
  · have hp : ¬ m.ph = 0 := fun e => by
      rw [e] at h
      simp at h
    walk_at "run"
    unfold layM at q
    rw [if_neg hp] at q
    exact s_rt q
def C_take : Ct := fun ds G Q _ => ∃ rs L s m, ds = [.str rs, encSt L s, encMv m] ∧ m.told.length ≤ 1000 ∧ (m.ph = 2 → m.f ≤ s.near → 0 ≤ s.near ∧ s.near < L) ∧ Q (.tup [encSt L (takeM (decide (rs = ("bare" : Str))) s m).1, encMv (takeM (decide (rs = ("bare" : Str))) s m).2]) G
theorem len_take (ds G Q E) (h : C_take ds G Q E) : ds.length = 3 := by obtain ⟨_, _, _, _, rfl, _⟩ := h; rfl
abbrev N_take : List Str := ["rules", "state", "mover", "near", "far", "boxes", "movers", "number", "phase", "f", "x", "told"]
def T_take : DX → DS := fun E => (dSeq (dAsg (dVar 1) (dgTup 4 (dgCons (dgName 3) (dgCons (dgName 4) (dgCons (dgName 5) (dgCons (dgName 6) dgNil))))))
    (dSeq (dAsg (dVar 2) (dgTup 5 (dgCons (dgName 7) (dgCons (dgName 8) (dgCons (dgName 9) (dgCons (dgName 10) (dgCons (dgName 11) dgNil)))))))
    (dSeq (dIf (dTest (dOp eqD (dVar 8) (dC (.int 0)))) (dRet (dTup (dCons (dTup (dCons (dOp subD (dVar 3) (dC (.int 1))) (dCons (dVar 4) (dCons (dVar 5) (dCons (dVar 6) dNil))))) (dCons (dTup (dCons (dVar 7) (dCons (dC (.int 1)) (dCons (dC (.int 0)) (dCons (dC .non) (dCons (dVar 11) dNil)))))) dNil)))) dNext)
    (dSeq (dIf (dTest (dOp eqD (dVar 8) (dC (.int 1)))) (dRet (dTup (dCons (dVar 1) (dCons (dTup (dCons (dVar 7) (dCons (dC (.int 2)) (dCons (dVar 4) (dCons (dC .non) (dCons (dVar 11) dNil)))))) dNil)))) dNext)
    (dSeq (dIf (dAnd (dTest (dOp eqD (dVar 8) (dC (.int 2)))) (dTest (dOp ltD (dVar 3) (dVar 9)))) (dRet (dTup (dCons (dTup (dCons (dVar 9) (dCons (dVar 4) (dCons (dVar 5) (dCons (dVar 6) dNil))))) (dCons (dCall C_ended E (dCons (dVar 2) (dCons (dC .non) dNil))) dNil)))) dNext)
    (dSeq (dIf (dAnd (dTest (dOp eqD (dVar 8) (dC (.int 2)))) (dTest (dOp gtD (dVar 3) (dVar 9)))) (dRet (dTup (dCons (dVar 1) (dCons (dCall C_ended E (dCons (dVar 2) (dCons (dOp itemD (dVar 5) (dVar 3)) dNil))) dNil)))) dNext)
    (dSeq (dIf (dTest (dOp eqD (dVar 8) (dC (.int 2)))) (dRet (dTup (dCons (dVar 1) (dCons (dTup (dCons (dVar 7) (dCons (dIfE (dTest (dOp eqD (dVar 0) (dC (.str "bare")))) (dC (.int 4)) (dC (.int 3))) (dCons (dVar 9) (dCons (dOp itemD (dVar 5) (dVar 3)) (dCons (dVar 11) dNil)))))) dNil)))) dNext)
    (dSeq (dIf (dAnd (dTest (dOp eqD (dVar 8) (dC (.int 3)))) (dTest (dOp eqD (dVar 4) (dVar 9)))) (dRet (dTup (dCons (dTup (dCons (dVar 3) (dCons (dOp addD (dVar 4) (dC (.int 1))) (dCons (dVar 5) (dCons (dVar 6) dNil))))) (dCons (dTup (dCons (dVar 7) (dCons (dC (.int 4)) (dCons (dVar 9) (dCons (dVar 10) (dCons (dVar 11) dNil)))))) dNil)))) dNext)
    (dSeq (dIf (dTest (dOp eqD (dVar 8) (dC (.int 3)))) (dRet (dTup (dCons (dVar 1) (dCons (dTup (dCons (dVar 7) (dCons (dC (.int 4)) (dCons (dVar 9) (dCons (dC .non) (dCons (dVar 11) dNil)))))) dNil)))) dNext)
    (dRet (dTup (dCons (dTup (dCons (dOp addD (dVar 9) (dC (.int 1))) (dCons (dVar 4) (dCons (dVar 5) (dCons (dVar 6) dNil))))) (dCons (dCall C_ended E (dCons (dVar 2) (dCons (dVar 10) dNil))) dNil)))))))))))))
theorem beqN {a b : Nat} : (((a : Nat) : Int) == (b : Nat)) = decide (a = b) := by
  by_cases h : a = b
  · simp [h]
  · simp [h]; omega
theorem br_n {a : Nat} {b : Int} {A B : Prop} (c : Nat) (hc : b = (c : Nat)) (h1 : a = c → A) (h2 : ¬ a = c → B) : br ((a : Int) == b) A B := by
  subst hc
  rw [beqN]
  exact br_dec h1 h2
theorem run_take (ds G Q E) (h : C_take ds G Q E) : T_take E { nx := fun _ G' => DrK Q .non G', rt := DrK Q, bk := fun _ _ => False, ct := fun _ _ => False } (dstart N_take ds) G := by
  obtain ⟨rs, L, s, m, rfl, hl, hb, q⟩ := h
  show T_take E _ [some (.str rs), some (.tup [.int s.near, .int s.far, .tup (encBx L s.box), .tup (s.ms.map encMv)]), some (.tup [.int m.n, .int m.ph, .int m.f, encOI m.x, .tup (m.told.map encWhat)]), none, none, none, none, none, none, none, none, none] G
  unfold takeM at q
  unfold T_take
  walk_at "run"
  refine br_n 0 rfl (fun h0 => ?_) (fun h0 => ?_)
  · walk_at "run"
    rw [if_pos h0] at q
    exact s_rt q
  rw [if_neg h0] at q
  walk_at "run"
  refine br_n 1 rfl (fun h1 => ?_) (fun h1 => ?_)
  · walk_at "run"
    rw [if_pos h1] at q
    exact s_rt q
  rw [if_neg h1] at q
  walk_at "run"
  refine br_n 2 rfl (fun h2 => ?_) (fun h2 => ?_)
  · rw [if_pos h2] at q
    walk_at "run"
    refine br_dec (fun h3 => ?_) (fun h3 => ?_)
    · rw [if_pos h3] at q
      walk_at "run"
      refine u_ended (w := .nil) rfl hl ?_
      walk_at "run"
      exact s_rt q
    · rw [if_neg h3] at q
      obtain ⟨b0, b1⟩ := hb h2 (by omega)
      have ea := atI_bx (b := s.box) b0 b1
      walk_at "run"
      refine br_n 2 rfl (fun _ => ?_) (fun h => absurd h2 h)
      walk_at "run"
      refine br_dec (fun h4 => ?_) (fun h4 => ?_)
      · rw [if_pos h4] at q
        walk_at "run"
        refine u_ended (w := whatOf (s.box s.near.toNat)) (encWhat_of _).symm hl ?_
        walk_at "run"
        exact s_rt q
      · rw [if_neg h4] at q
        walk_at "run"
        refine br_n 2 rfl (fun _ => ?_) (fun h => absurd h2 h)
        walk_at "run"
        refine br_dec (fun h5 => ?_) (fun h5 => ?_)
        · rw [decide_eq_true h5] at q
          walk_at "run"
          exact s_rt q
        · rw [decide_eq_false h5] at q
          walk_at "run"
          exact s_rt q
  · rw [if_neg h2] at q
    walk_at "run"
    refine br_n 2 rfl (fun h => absurd h h2) (fun _ => ?_)
    walk_at "run"
    refine br_n 2 rfl (fun h => absurd h h2) (fun _ => ?_)
    walk_at "run"
    refine br_n 3 rfl (fun h3 => ?_) (fun h3 => ?_)
    · rw [if_pos h3] at q
      walk_at "run"
      refine br_bool (fun h => ?_) (fun h => ?_)
      · rw [if_pos (by simpa using h)] at q
        walk_at "run"
        exact s_rt q
      · rw [if_neg (by simpa using h)] at q
        walk_at "run"
        refine br_n 3 rfl (fun _ => ?_) (fun h => absurd h3 h)
        walk_at "run"
        exact s_rt q
    · rw [if_neg h3] at q
      walk_at "run"
      refine br_n 3 rfl (fun h => absurd h h3) (fun _ => ?_)
      walk_at "run"
      refine u_ended (w := whatOf m.x) (encWhat_of _).symm hl ?_
      walk_at "run"
      exact s_rt q
def C_attempt : Ct := fun ds G Q _ => ∃ rs L s m, ds = [.str rs, encSt L s, encMv m] ∧ m.told.length ≤ 1000 ∧ (m.ph = 2 → 0 ≤ m.f ∧ m.f < L) ∧ Q (.tup [encSt L (attM (decide (rs = ("blind" : Str))) s m).1, encMv (attM (decide (rs = ("blind" : Str))) s m).2]) G
theorem len_attempt (ds G Q E) (h : C_attempt ds G Q E) : ds.length = 3 := by obtain ⟨_, _, _, _, rfl, _⟩ := h; rfl
abbrev N_attempt : List Str := ["rules", "state", "mover", "near", "far", "boxes", "movers", "number", "phase", "f", "x", "told"]
def T_attempt : DX → DS := fun E => (dSeq (dAsg (dVar 1) (dgTup 4 (dgCons (dgName 3) (dgCons (dgName 4) (dgCons (dgName 5) (dgCons (dgName 6) dgNil))))))
    (dSeq (dAsg (dVar 2) (dgTup 5 (dgCons (dgName 7) (dgCons (dgName 8) (dgCons (dgName 9) (dgCons (dgName 10) (dgCons (dgName 11) dgNil)))))))
    (dSeq (dIf (dTest (dOp eqD (dVar 8) (dC (.int 0)))) (dRet (dTup (dCons (dVar 1) (dCons (dTup (dCons (dVar 7) (dCons (dC (.int 1)) (dCons (dVar 4) (dCons (dC .non) (dCons (dVar 11) dNil)))))) dNil)))) dNext)
    (dSeq (dIf (dAnd (dTest (dOp eqD (dVar 8) (dC (.int 1)))) (dTest (dOp leD (dVar 3) (dVar 9)))) (dRet (dTup (dCons (dVar 1) (dCons (dCall C_ended E (dCons (dVar 2) (dCons (dC .non) dNil))) dNil)))) dNext)
    (dSeq (dIf (dTest (dOp eqD (dVar 8) (dC (.int 1)))) (dRet (dTup (dCons (dVar 1) (dCons (dTup (dCons (dVar 7) (dCons (dC (.int 2)) (dCons (dVar 9) (dCons (dC .non) (dCons (dVar 11) dNil)))))) dNil)))) dNext)
    (dSeq (dIf (dTest (dOp eqD (dVar 8) (dC (.int 2)))) (dRet (dTup (dCons (dVar 1) (dCons (dTup (dCons (dVar 7) (dCons (dC (.int 3)) (dCons (dVar 9) (dCons (dOp itemD (dVar 5) (dVar 9)) (dCons (dVar 11) dNil)))))) dNil)))) dNext)
    (dSeq (dIf (dOr (dTest (dOp eqD (dVar 4) (dVar 9))) (dTest (dOp eqD (dVar 0) (dC (.str "blind"))))) (dRet (dTup (dCons (dTup (dCons (dVar 3) (dCons (dOp addD (dVar 9) (dC (.int 1))) (dCons (dVar 5) (dCons (dVar 6) dNil))))) (dCons (dCall C_ended E (dCons (dVar 2) (dCons (dVar 10) dNil))) dNil)))) dNext)
    (dRet (dTup (dCons (dVar 1) (dCons (dCall C_ended E (dCons (dVar 2) (dCons (dC (.str "lost")) dNil))) dNil)))))))))))
theorem run_attempt (ds G Q E) (h : C_attempt ds G Q E) : T_attempt E { nx := fun _ G' => DrK Q .non G', rt := DrK Q, bk := fun _ _ => False, ct := fun _ _ => False } (dstart N_attempt ds) G := by
  obtain ⟨rs, L, s, m, rfl, hl, hb, q⟩ := h
  show T_attempt E _ [some (.str rs), some (.tup [.int s.near, .int s.far, .tup (encBx L s.box), .tup (s.ms.map encMv)]), some (.tup [.int m.n, .int m.ph, .int m.f, encOI m.x, .tup (m.told.map encWhat)]), none, none, none, none, none, none, none, none, none] G
  unfold attM at q
  unfold T_attempt
  walk_at "run"
  refine br_n 0 rfl (fun h0 => ?_) (fun h0 => ?_)
  · walk_at "run"
    rw [if_pos h0] at q
    exact s_rt q
  rw [if_neg h0] at q
  walk_at "run"
  refine br_n 1 rfl (fun h1 => ?_) (fun h1 => ?_)
  · rw [if_pos h1] at q
    walk_at "run"
    refine br_dec (fun h3 => ?_) (fun h3 => ?_)
    · rw [if_pos h3] at q
      walk_at "run"
      refine u_ended (w := .nil) rfl hl ?_
      walk_at "run"
      exact s_rt q
    · rw [if_neg h3] at q
      walk_at "run"
      refine br_n 1 rfl (fun _ => ?_) (fun h => absurd h1 h)
      walk_at "run"
      exact s_rt q
  rw [if_neg h1] at q
  walk_at "run"
  refine br_n 1 rfl (fun h => absurd h h1) (fun _ => ?_)
  walk_at "run"
  refine br_n 2 rfl (fun h2 => ?_) (fun h2 => ?_)
  · rw [if_pos h2] at q
    obtain ⟨b0, b1⟩ := hb h2
    have ea := atI_bx (b := s.box) b0 b1
    walk_at "run"
    exact s_rt q
  rw [if_neg h2] at q
  walk_at "run"
  refine br_bool (fun h3 => ?_) (fun h3 => ?_)
  · rw [if_pos (.inl (by simpa using h3))] at q
    walk_at "run"
    refine u_ended (w := whatOf m.x) (encWhat_of _).symm hl ?_
    walk_at "run"
    exact s_rt q
  · walk_at "run"
    refine br_dec (fun h4 => ?_) (fun h4 => ?_)
    · rw [if_pos (.inr (by simpa using h4))] at q
      walk_at "run"
      refine u_ended (w := whatOf m.x) (encWhat_of _).symm hl ?_
      walk_at "run"
      exact s_rt q
    · rw [if_neg (by simp [h4]; simpa using h3)] at q
      walk_at "run"
      refine u_ended (w := .lost) rfl hl ?_
      walk_at "run"
      exact s_rt q
structure PlOk (p : Play) : Prop where
  deeds : p.deeds.length ≤ 7
  tries : p.tries.length ≤ 9
  most : ∀ k ∈ p.tries, k ≤ 9
theorem told_le {p : Play} {s : Sta} (hp : PlOk p) (h : SOk p s) {m : Mv} (hm : m ∈ s.ms) : m.told.length ≤ 9 := by
  have h1 := h.thg.len m hm
  obtain ⟨i, e⟩ := List.mem_iff_getElem?.mp hm
  cases i with
  | zero =>
    have h2 := (h.own m e).2.n
    have := hp.deeds
    omega
  | succ w =>
    have hl := (List.getElem?_eq_some_iff.mp e).1
    obtain ⟨most, e2, h3⟩ := h.thf w (s.ms[0]'(by omega)) m (List.getElem?_eq_getElem (by omega)) e
    have h4 := h3.n
    have := hp.most most (List.mem_of_getElem? e2)
    omega
def C_moved : Ct := fun ds G Q _ => ∃ p rs s who, ds = [encPlay p, .str rs, encSt p.deeds.length s, .int (who : Nat)] ∧ PlOk p ∧ SOk p s ∧ who ≤ p.tries.length ∧ Q (encOS p.deeds.length (stepM (decide (rs = ("bare" : Str))) (decide (rs = ("blind" : Str))) p s who)) G
theorem len_moved (ds G Q E) (h : C_moved ds G Q E) : ds.length = 4 := by obtain ⟨_, _, _, _, rfl, _⟩ := h; rfl
abbrev N_moved : List Str := ["play", "rules", "state", "who", "deeds", "tries", "mover", "whole", "movers"]
def T_moved : DX → DS := fun E => (dSeq (dAsg (dVar 0) (dgTup 2 (dgCons (dgName 4) (dgCons (dgName 5) dgNil))))
    (dSeq (dAsg (dOp itemD (dOp itemD (dVar 2) (dC (.int 3))) (dVar 3)) (dgName 6))
    (dSeq (dIf (dTest (dOp gtD (dVar 3) (dC (.int 0)))) (dSeq (dIf (dTest (dOp eqD (dOp itemD (dVar 6) (dC (.int 0))) (dOp itemD (dVar 5) (dOp subD (dVar 3) (dC (.int 1)))))) (dRet (dC .non)) dNext)
    (dAsg (dCall C_attempt E (dCons (dVar 1) (dCons (dVar 2) (dCons (dVar 6) dNil)))) (dgTup 2 (dgCons (dgName 7) (dgCons (dgName 6) dgNil))))) (dIf (dTest (dOp eqD (dOp itemD (dVar 6) (dC (.int 0))) (dCB lenD (dCons (dVar 4) dNil)))) (dRet (dC .non)) (dIf (dTest (dOp eqD (dOp itemD (dOp itemD (dVar 4) (dOp itemD (dVar 6) (dC (.int 0)))) (dC (.int 0))) (dC (.str "lay")))) (dAsg (dCall C_lay E (dCons (dVar 2) (dCons (dVar 6) (dCons (dOp itemD (dOp itemD (dVar 4) (dOp itemD (dVar 6) (dC (.int 0)))) (dC (.int 1))) dNil)))) (dgTup 2 (dgCons (dgName 7) (dgCons (dgName 6) dgNil)))) (dAsg (dCall C_take E (dCons (dVar 1) (dCons (dVar 2) (dCons (dVar 6) dNil)))) (dgTup 2 (dgCons (dgName 7) (dgCons (dgName 6) dgNil)))))))
    (dSeq (dAsg (dOp itemD (dVar 7) (dC (.int 3))) (dgName 8))
    (dRet (dOp addD (dSl (dVar 7) dNoPart (dPart (dC (.int 3)))) (dTup (dCons (dOp addD (dOp addD (dSl (dVar 8) dNoPart (dPart (dVar 3))) (dTup (dCons (dVar 6) dNil))) (dSl (dVar 8) (dPart (dOp addD (dVar 3) (dC (.int 1)))) dNoPart)) dNil))))))))
theorem encDeed_0 (d : Deed) : ∃ z zs, encDeed d = .tup (.str z :: zs) ∧ (decide (z = ("lay" : Str)) = true → ∃ t, d = .lay t ∧ zs = [.int t]) ∧ (decide (z = ("lay" : Str)) = false → d = .take ∧ zs = []) ∧ (decide (z = ("take" : Str)) = true → d = .take ∧ zs = []) ∧ (decide (z = ("take" : Str)) = false → ∃ t, d = .lay t ∧ zs = [.int t]) := by
  cases d with
  | lay t => exact ⟨_, _, rfl, fun _ => ⟨t, rfl, rfl⟩, fun h => absurd h (by decide), fun h => absurd h (by decide), fun _ => ⟨t, rfl, rfl⟩⟩
  | take => exact ⟨_, _, rfl, fun h => absurd h (by decide), fun _ => ⟨rfl, rfl⟩, fun _ => ⟨rfl, rfl⟩, fun h => absurd h (by decide)⟩
theorem run_moved (ds G Q E) (h : C_moved ds G Q E) : T_moved E { nx := fun _ G' => DrK Q .non G', rt := DrK Q, bk := fun _ _ => False, ct := fun _ _ => False } (dstart N_moved ds) G := by
  obtain ⟨p, rs, s, who, rfl, hp, hs, hw, q⟩ := h
  have hd7 := hp.deeds
  have ht9 := hp.tries
  have hlm := hs.len
  have hwl : who < s.ms.length := by omega
  have em : s.ms[who]? = some s.ms[who] := List.getElem?_eq_getElem hwl
  have hmm := List.getElem_mem hwl
  have htl := told_le hp hs hmm
  generalize s.ms[who] = m at em hmm htl
  show T_moved E _ [some (.tup [.tup (p.deeds.map encDeed), .tup (p.tries.map encN)]), some (.str rs), some (.tup [.int s.near, .int s.far, .tup (encBx p.deeds.length s.box), .tup (s.ms.map encMv)]), some (.int who), none, none, none, none, none] G
  have eM : (s.ms.map encMv)[who]? = some (.tup [.int m.n, .int m.ph, .int m.f, encOI m.x, .tup (m.told.map encWhat)]) := by
    rw [List.getElem?_map, em]
    rfl
  unfold stepM at q
  simp only [em] at q
  -- the end: the mover put into its place
  have c3 : ∀ k : Mv, cutD (s.ms.map encMv) none (some (who : Int)) ++ [encMv k] ++ cutD (s.ms.map encMv) (some ((who : Int) + 1)) none = (s.ms.set who k).map encMv := fun k => by
    have := cut_set (xs := s.ms.map encMv) (v := encMv k) (i := (who : Int)) (by omega) (by rw [List.length_map]; omega)
    rw [this, List.map_set]
    simp
  have fin : ∀ (t : Sta) (k : Mv) (v7 v8 : Option D), t.ms = s.ms → Q (encSt p.deeds.length (putM (t, k) who)) G →
      dSeq (dAsg (dOp itemD (dVar 7) (dC (.int 3))) (dgName 8)) (dRet (dOp addD (dSl (dVar 7) dNoPart (dPart (dC (.int 3)))) (dTup (dCons (dOp addD (dOp addD (dSl (dVar 8) dNoPart (dPart (dVar 3))) (dTup (dCons (dVar 6) dNil))) (dSl (dVar 8) (dPart (dOp addD (dVar 3) (dC (.int 1)))) dNoPart)) dNil))))
        { nx := fun _ G' => DrK Q .non G', rt := DrK Q, bk := fun _ _ => False, ct := fun _ _ => False } [some (.tup [.tup (p.deeds.map encDeed), .tup (p.tries.map encN)]), some (.str rs), some (.tup [.int s.near, .int s.far, .tup (encBx p.deeds.length s.box), .tup (s.ms.map encMv)]), some (.int who), some (.tup (p.deeds.map encDeed)), some (.tup (p.tries.map encN)), some (encMv k), some (encSt p.deeds.length t), v8] G := by
    intro t k v7 v8 hts hq
    have e1 : encSt p.deeds.length t = .tup [.int t.near, .int t.far, .tup (encBx p.deeds.length t.box), .tup (s.ms.map encMv)] := by rw [← hts]; rfl
    rw [e1]
    have c5 := c3 k
    have c1 : (cutD (s.ms.map encMv) none (some (who : Int)) ++ [encMv k]).length + (cutD (s.ms.map encMv) (some ((who : Int) + 1)) none).length ≤ sizeLine := by
      rw [← List.length_append, c5, List.length_map, List.length_set]
      exact szL (by omega)
    have c2 : (cutD (s.ms.map encMv) none (some (who : Int))).length + [encMv k].length ≤ sizeLine := by
      rw [List.length_append] at c1
      omega
    walk_at "run"
    rw [c5]
    have e3 : cutD [D.int t.near, .int t.far, .tup (encBx p.deeds.length t.box), .tup (s.ms.map encMv)] none (some 3) = [D.int t.near, .int t.far, .tup (encBx p.deeds.length t.box)] := by
      rw [show (3 : Int) = ((3 : Nat) : Int) from rfl, cutD_upto]
      rfl
    rw [e3]
    have e4 : encSt p.deeds.length (putM (t, k) who) = .tup ([D.int t.near, .int t.far, .tup (encBx p.deeds.length t.box)] ++ [.tup ((s.ms.set who k).map encMv)]) := by
      rw [← hts]
      rfl
    rw [e4] at hq
    exact s_rt hq
  unfold T_moved
  walk_at "run"
  refine br_dec (fun h0 => ?_) (fun h0 => ?_)
  · obtain ⟨w, rfl⟩ : ∃ w, who = w + 1 := ⟨who - 1, by omega⟩
    have hwt : w < p.tries.length := by omega
    simp only at q
    have et : (p.tries.map encN)[w]? = some (.int (p.tries[w] : Nat)) := by rw [List.getElem?_map, List.getElem?_eq_getElem hwt]; rfl
    walk_at "run"
    rw [show (((w + 1 : Nat) : Int) - 1) = (w : Nat) by omega]
    walk_at "run"
    refine br_n _ rfl (fun h1 => ?_) (fun h1 => ?_)
    · rw [if_pos (by rw [List.getElem?_eq_getElem hwt, h1])] at q
      walk_at "run"
      exact s_rt q
    · rw [if_neg (by rw [List.getElem?_eq_getElem hwt]; exact fun e => h1 (Option.some.inj e).symm)] at q
      obtain ⟨most, _, hT⟩ := hs.thf w (s.ms[0]'(by omega)) m (List.getElem?_eq_getElem (by omega)) em
      walk_at "run"
      refine UpC.of ⟨rs, p.deeds.length, s, m, rfl, by omega, fun h2 => ⟨hT.f, ?_⟩, ?_⟩
      · have := hT.two (by omega)
        have := lays_len p.deeds (s.ms[0]'(by omega)).n
        omega
      · walk_at "run"
        refine fin _ _ none none ?_ q
        unfold attM
        repeat' split
        all_goals rfl
  · obtain rfl : who = 0 := by omega
    obtain ⟨hfar, ho⟩ := hs.own m em
    walk_at "run"
    refine br_bool (fun h1 => ?_) (fun h1 => ?_)
    · have e1 : m.n = p.deeds.length := by
        have : ((m.n : Nat) : Int) = (p.deeds.length : Nat) := by simpa using h1
        omega
      rw [List.getElem?_eq_none (by omega)] at q
      walk_at "run"
      exact s_rt q
    · have e1 : m.n < p.deeds.length := by
        have h2 : ¬ ((m.n : Nat) : Int) = (p.deeds.length : Nat) := by simpa using h1
        have := ho.n
        omega
      have ed := List.getElem?_eq_getElem e1
      have eD : (p.deeds.map encDeed)[m.n]? = some (encDeed p.deeds[m.n]) := by rw [List.getElem?_map, ed]; rfl
      generalize p.deeds[m.n] = d at ed eD
      simp only [ed] at q
      obtain ⟨z, zs, ez, z1, z2, _, _⟩ := encDeed_0 d
      rw [ez] at eD
      walk_at "run"
      refine br_bool (fun h2 => ?_) (fun h2 => ?_)
      · obtain ⟨t, rfl, rfl⟩ := z1 h2
        obtain ⟨a1, a2, a3⟩ := ho.lay t ed
        have := ho.near
        have := lays_lt ed
        walk_at "run"
        refine UpC.of ⟨p.deeds.length, s, m, t, rfl, by omega, a2, by omega, ?_⟩
        walk_at "run"
        refine fin _ _ none none ?_ q
        unfold layM
        split <;> rfl
      · obtain ⟨rfl, rfl⟩ := z2 h2
        obtain ⟨t1, t2, t3⟩ := ho.take ed
        have := lays_lt ed
        walk_at "run"
        refine UpC.of ⟨rs, p.deeds.length, s, m, rfl, by omega, fun h3 h4 => ?_, ?_⟩
        · obtain ⟨b1, b2, b3, b4⟩ := t2 h3
          exact ⟨by omega, by omega⟩
        · walk_at "run"
          refine fin _ _ none none ?_ q
          unfold takeM
          repeat' split
          all_goals rfl

/-! ### what was told -/
def leftOf (s : Sta) : List (Option Int) := (List.range' s.far.toNat (s.near - s.far).toNat).map s.box
def toldOf (s : Sta) : List (List What) := s.ms.map (·.told)
theorem cutD_mid {xs : List D} {a b : Nat} (h1 : a ≤ b) (h2 : b ≤ xs.length) : cutD xs (some (a : Int)) (some (b : Int)) = (xs.drop a).take (b - a) := by
  unfold cutD
  rw [HT.sIx_nat, HT.sIx_nat, Nat.min_eq_left h2, Nat.min_eq_left (show a ≤ xs.length by omega)]
theorem cut_left {L : Nat} {s : Sta} {m : Int} (h0 : 0 ≤ s.far) (h1 : s.far ≤ L) (h2 : s.near ≤ L) (hm : m = if s.near > s.far then s.near else s.far) : cutD (encBx L s.box) (some s.far) (some m) = (leftOf s).map encOI := by
  obtain ⟨a, ea⟩ : ∃ a : Nat, s.far = (a : Int) := ⟨s.far.toNat, by omega⟩
  obtain ⟨b, eb, hab, hb⟩ : ∃ b : Nat, m = (b : Int) ∧ a ≤ b ∧ b ≤ L := ⟨m.toNat, by subst hm; split <;> omega, by subst hm; split <;> omega, by subst hm; split <;> omega⟩
  rw [ea, eb, cutD_mid hab (by rw [encBx_len]; exact hb)]
  unfold leftOf encBx
  have e1 : (s.near - s.far).toNat = b - a := by rw [eb] at hm; split at hm <;> omega
  rw [e1, ea, List.map_map, ← List.map_drop, ← List.map_take]
  have e2 : ((List.range L).drop a).take (b - a) = List.range' (a : Int).toNat (b - a) := by
    apply List.ext_getElem?
    intro i
    rw [Int.toNat_natCast]
    by_cases hi : i < b - a
    · rw [List.getElem?_take_of_lt hi, List.getElem?_drop, List.getElem?_range (by omega), List.getElem?_range' hi]
      simp
    · rw [List.getElem?_eq_none (by simp; omega), List.getElem?_eq_none (by simp; omega)]
  rw [e2]
  rfl
structure Told (G G' : DG) (a b : Addr) (cs : List Addr) (s : Sta) : Prop where
  l : Lls G G' a cs ((toldOf s).map fun x => x.map encWhat)
  hb : G' b = some (.lst ((leftOf s).map encOI))
  ab : a ≠ b
  bc : b ∉ cs
  fb : G b = none
theorem Told.mono {G G' G2 : DG} {a b : Addr} {cs : List Addr} {s : Sta} (h : Told G G' a b cs s) (l : Le G' G2) : Told G G2 a b cs s :=
  ⟨h.l.le_of l, l _ _ h.hb, h.ab, h.bc, h.fb⟩
def C_told_by : Ct := fun ds G Q _ => ∃ L s, ds = [encSt L s] ∧ L ≤ 1000 ∧ 0 ≤ s.far ∧ s.far ≤ L ∧ s.near ≤ L ∧ s.ms.length ≤ 1000 ∧ ∀ G' a b cs, Told G G' a b cs s → Q (.tup [.ref a, .ref b]) G'
theorem len_told_by (ds G Q E) (h : C_told_by ds G Q E) : ds.length = 1 := by obtain ⟨_, _, rfl, _⟩ := h; rfl
abbrev N_told_by : List Str := ["state", "near", "far", "boxes", "movers", "mover"]
def T_told_by : DX → DS := fun E => (dSeq (dAsg (dVar 0) (dgTup 4 (dgCons (dgName 1) (dgCons (dgName 2) (dgCons (dgName 3) (dgCons (dgName 4) dgNil))))))
    (dRet (dTup (dCons (dLc (diSeq (dVar 4)) (bdN 5) [5] dYes (dCB listD (dCons (dOp itemD (dVar 5) (dC (.int 4))) dNil))) (dCons (dCB listD (dCons (dSl (dVar 3) (dPart (dVar 2)) (dPart (dCB maxD (dCons (dVar 2) (dCons (dVar 1) dNil))))) dNil)) dNil)))))
theorem run_told_by (ds G Q E) (h : C_told_by ds G Q E) : T_told_by E { nx := fun _ G' => DrK Q .non G', rt := DrK Q, bk := fun _ _ => False, ct := fun _ _ => False } (dstart N_told_by ds) G := by
  obtain ⟨L, s, rfl, hL, f0, f1, n1, hm, q⟩ := h
  show T_told_by E _ [some (.tup [.int s.near, .int s.far, .tup (encBx L s.box), .tup (s.ms.map encMv)]), none, none, none, none, none] G
  unfold T_told_by
  walk_at "run"
  intro a ha
  refine comp_inv (fun i G' => ∃ cs, Lls G G' a cs (((toldOf s).take i).map fun x => x.map encWhat)) ⟨[], le_new ha (.refl _), up_same, by simp, by simp, by simp, by simp, ha, by simp⟩ (fun _ _ _ _ => trivial) (fun i d G' hd hi hP => ?_) (fun G' hP => ?_)
  · obtain ⟨cs, hK⟩ := hP
    rw [List.length_map] at hi
    rw [List.getElem?_map, List.getElem?_eq_getElem hi] at hd
    cases hd
    refine ⟨_, rfl, fun N hN => ?_⟩
    have em : encMv s.ms[i] = .tup [.int s.ms[i].n, .int s.ms[i].ph, .int s.ms[i].f, encOI s.ms[i].x, .tup (s.ms[i].told.map encWhat)] := rfl
    rw [em]
    walk_at "run"
    intro c hc
    refine ⟨cs.map .ref, up_nx (gne hK.ha hc) hK.ha, szLt (by rw [List.length_map, hK.len]; simp [toldOf]; omega), hN _ _ (.refl _) ⟨cs ++ [c], ?_⟩⟩
    have := hK.more (ws := s.ms[i].told.map encWhat) hc
    rw [List.map_append] at this
    have e2 : ((toldOf s).take (i + 1)).map (fun x => x.map encWhat) = ((toldOf s).take i).map (fun x => x.map encWhat) ++ [s.ms[i].told.map encWhat] := by
      have hi' : i < (toldOf s).length := by simpa [toldOf] using hi
      rw [List.take_add_one, List.getElem?_eq_getElem hi', List.map_append]
      simp [toldOf]
    rw [e2]
    exact this
  · obtain ⟨cs, hK⟩ := hP
    rw [List.length_map, List.take_of_length_le (by simp [toldOf])] at hK
    walk_at "run"
    intro b hb
    rw [cut_left f0 f1 n1 rfl] at *
    obtain ⟨gb, ba, bc⟩ := hK.free hb
    walk_at "run"
    exact s_rt (q _ a b cs ⟨hK.new hb, up_same, Ne.symm ba, bc, gb⟩)
def C_first_state : Ct := fun ds G Q _ => ∃ p, ds = [encPlay p] ∧ PlOk p ∧ Q (encSt p.deeds.length (sta0 p)) G
theorem len_first_state (ds G Q E) (h : C_first_state ds G Q E) : ds.length = 1 := by obtain ⟨_, rfl, _⟩ := h; rfl
abbrev N_first_state : List Str := ["play", "deeds", "tries", "movers"]
def T_first_state : DX → DS := fun E => (dSeq (dAsg (dVar 0) (dgTup 2 (dgCons (dgName 1) (dgCons (dgName 2) dgNil))))
    (dSeq (dAsg (dOp mulD (dTup (dCons (dTup (dCons (dC (.int 0)) (dCons (dC (.int 0)) (dCons (dC (.int 0)) (dCons (dC .non) (dCons (dTup dNil) dNil)))))) dNil)) (dOp addD (dC (.int 1)) (dCB lenD (dCons (dVar 2) dNil)))) (dgName 3))
    (dRet (dTup (dCons (dC (.int 0)) (dCons (dC (.int 0)) (dCons (dOp mulD (dTup (dCons (dC .non) dNil)) (dCB lenD (dCons (dVar 1) dNil))) (dCons (dVar 3) dNil))))))))
theorem rep_one {α : Type} {x : α} (n : Nat) : (List.replicate n [x]).flatten = List.replicate n x := by
  induction n with
  | zero => rfl
  | succ n ih => rw [List.replicate_succ, List.flatten_cons, ih]; rfl
theorem enc_sta0 {p : Play} {L : Nat} : encSt L (sta0 p) = .tup [.int 0, .int 0, .tup (List.replicate L .non), .tup (List.replicate (1 + p.tries.length) (.tup [.int 0, .int 0, .int 0, .non, .tup []]))] := by
  have e1 : encBx L (fun _ => none) = List.replicate L .non := by
    unfold encBx
    rw [show (fun i : Nat => encOI ((fun _ => none) i)) = fun _ => D.non from rfl, List.map_const', List.length_range]
  show D.tup [.int 0, .int 0, .tup (encBx L fun _ => none), .tup ((List.replicate (1 + p.tries.length) _).map encMv)] = _
  rw [e1, List.map_replicate]
  rfl
theorem run_first_state (ds G Q E) (h : C_first_state ds G Q E) : T_first_state E { nx := fun _ G' => DrK Q .non G', rt := DrK Q, bk := fun _ _ => False, ct := fun _ _ => False } (dstart N_first_state ds) G := by
  obtain ⟨p, rfl, hp, q⟩ := h
  have hd := hp.deeds
  have ht := hp.tries
  show T_first_state E _ [some (.tup [.tup (p.deeds.map encDeed), .tup (p.tries.map encN)]), none, none, none] G
  unfold T_first_state
  walk_at "run"
  refine s_mulT ⟨by simp, by rw [List.length_map]; omega, by rw [List.length_map]; omega, by simp⟩ ?_
  walk_at "run"
  refine s_mulT ⟨by simp, by rw [List.length_map]; omega, by rw [List.length_map]; omega, by simp⟩ ?_
  walk_at "run"
  rw [rep_one, rep_one]
  rw [enc_sta0] at q
  rw [show ((1 : Int) + ((p.tries.map encN).length : Nat)).toNat = 1 + p.tries.length by rw [List.length_map]; omega, show (((p.deeds.map encDeed).length : Nat) : Int).toNat = p.deeds.length by rw [List.length_map]; omega]
  exact s_rt q
def runM (p : Play) : Sta → List Nat → Option Sta
  | s, [] => some s
  | s, w :: ws => match stepM false false p s w with
    | none => none
    | some s' => runM p s' ws
theorem runM_ok {p : Play} : ∀ {ws : List Nat} {s s' : Sta}, SOk p s → runM p s ws = some s' → SOk p s'
  | [], s, s', h, e => by cases e; exact h
  | w :: ws, s, s', h, e => by
    unfold runM at e
    cases es : stepM false false p s w with
    | none => rw [es] at e; cases e
    | some t => rw [es] at e; exact runM_ok (step_ok h es) e
theorem runM_snoc {p : Play} : ∀ {ws : List Nat} {s t : Sta} {w : Nat}, runM p s ws = some t → runM p s (ws ++ [w]) = stepM false false p t w
  | [], s, t, w, e => by
    cases e
    show (match stepM false false p s w with | none => none | some s' => runM p s' []) = _
    cases stepM false false p s w <;> rfl
  | v :: ws, s, t, w, e => by
    unfold runM at e
    show (match stepM false false p s v with | none => none | some s' => runM p s' (ws ++ [w])) = _
    cases es : stepM false false p s v with
    | none => rw [es] at e; cases e
    | some u => rw [es] at e; exact runM_snoc e
theorem runM_who {p : Play} {s t : Sta} {w : Nat} (h : SOk p s) (e : stepM false false p s w = some t) : w ≤ p.tries.length := by
  unfold stepM at e
  cases em : s.ms[w]? with
  | none => rw [em] at e; cases e
  | some m =>
    have := (List.getElem?_eq_some_iff.mp em).1
    have := h.len
    omega
theorem sok_left {p : Play} {s : Sta} (h : SOk p s) : 0 ≤ s.far ∧ s.far ≤ p.deeds.length ∧ s.near ≤ p.deeds.length := by
  have hl : 0 < s.ms.length := by rw [h.len]; omega
  obtain ⟨h1, h2⟩ := h.own _ (List.getElem?_eq_getElem hl)
  have := lays_len p.deeds s.ms[0].n
  have := h2.near
  exact ⟨h.far0, by omega, by omega⟩
/-! ### the laws' own small deeds: the same -/
def takeE (s : Sta) (m : Mv) : Option What :=
  if m.ph = 0 ∨ m.ph = 1 ∨ m.ph = 3 then none
  else if m.ph = 2 then
    if s.near < m.f then some .nil else if m.f < s.near then some (whatOf (s.box s.near.toNat)) else none
  else some (whatOf m.x)
def attE (blind : Bool) (s : Sta) (m : Mv) : Option What :=
  if m.ph = 0 ∨ m.ph = 2 then none
  else if m.ph = 1 then if s.near ≤ m.f then some .nil else none
  else if s.far = m.f ∨ blind = true then some (whatOf m.x) else some .lost
theorem takeE_end {bare : Bool} {s : Sta} {m : Mv} {w : What} (h : takeE s m = some w) : (takeM bare s m).2 = endM m w := by
  unfold takeE at h
  unfold takeM
  split at h
  · cases h
  · rename_i h0
    rw [if_neg (by omega), if_neg (by omega)]
    split at h
    · rename_i h2
      rw [if_pos h2]
      split at h
      · rename_i h3
        cases h
        rw [if_pos h3]
      · rename_i h3
        rw [if_neg h3]
        split at h
        · rename_i h4
          cases h
          rw [if_pos h4]
        · cases h
    · rename_i h2
      cases h
      rw [if_neg h2, if_neg (by omega)]
theorem attE_end {blind : Bool} {s : Sta} {m : Mv} {w : What} (h : attE blind s m = some w) : (attM blind s m).2 = endM m w := by
  unfold attE at h
  unfold attM
  split at h
  · cases h
  · rename_i h0
    rw [if_neg (by omega)]
    split at h
    · rename_i h1
      rw [if_pos h1]
      split at h
      · rename_i h3
        cases h
        rw [if_pos h3]
      · cases h
    · rename_i h1
      rw [if_neg h1, if_neg (by omega)]
      split at h
      · rename_i h3
        cases h
        rw [if_pos h3]
      · rename_i h3
        cases h
        rw [if_neg h3]
def encOW : Option What → D
  | none => .non
  | some w => .tup [encWhat w]
theorem encOW_of (x : Option Int) : encOW (some (whatOf x)) = .tup [encOI x] := by
  show D.tup [encWhat (whatOf x)] = _
  rw [encWhat_of]
def partOf (e : Option What) (m k : Mv) : D := match e with
  | none => encMv k
  | some _ => encMv m
def C_law_take_part : Ct := fun ds G Q _ => ∃ rs s m, ds = [.str rs, .int s.near, .int s.far, .tup (encBx 8 s.box), encMv m] ∧ (m.ph ≤ 2 → m.x = none) ∧ (m.ph ≤ 1 → m.f = 0) ∧ (m.ph = 2 → -1 ≤ s.near ∧ s.near < 8 ∧ 0 ≤ m.f) ∧
  Q (.tup [.int (takeM (decide (rs = ("bare" : Str))) s m).1.near, .int (takeM (decide (rs = ("bare" : Str))) s m).1.far, partOf (takeE s m) m (takeM (decide (rs = ("bare" : Str))) s m).2, encOW (takeE s m)]) G
theorem len_law_take_part (ds G Q E) (h : C_law_take_part ds G Q E) : ds.length = 5 := by obtain ⟨_, _, _, rfl, _⟩ := h; rfl
abbrev N_law_take_part : List Str := ["rules", "near", "far", "box", "part", "number", "phase", "f", "x", "told", "kept_thing"]
def T_law_take_part : DX → DS := fun E => (dSeq (dAsg (dVar 4) (dgTup 5 (dgCons (dgName 5) (dgCons (dgName 6) (dgCons (dgName 7) (dgCons (dgName 8) (dgCons (dgName 9) dgNil)))))))
    (dSeq (dIf (dTest (dOp eqD (dVar 6) (dC (.int 0)))) (dRet (dTup (dCons (dOp subD (dVar 1) (dC (.int 1))) (dCons (dVar 2) (dCons (dTup (dCons (dVar 5) (dCons (dC (.int 1)) (dCons (dVar 7) (dCons (dVar 8) (dCons (dVar 9) dNil)))))) (dCons (dC .non) dNil)))))) dNext)
    (dSeq (dIf (dTest (dOp eqD (dVar 6) (dC (.int 1)))) (dRet (dTup (dCons (dVar 1) (dCons (dVar 2) (dCons (dTup (dCons (dVar 5) (dCons (dC (.int 2)) (dCons (dVar 2) (dCons (dVar 8) (dCons (dVar 9) dNil)))))) (dCons (dC .non) dNil)))))) dNext)
    (dSeq (dIf (dTest (dOp eqD (dVar 6) (dC (.int 2)))) (dSeq (dIf (dTest (dOp eqD (dVar 1) (dVar 7))) (dRet (dTup (dCons (dVar 1) (dCons (dVar 2) (dCons (dTup (dCons (dVar 5) (dCons (dOp addD (dC (.int 3)) (dCB intOfD (dCons (dOp eqD (dVar 0) (dC (.str "bare"))) dNil))) (dCons (dVar 7) (dCons (dOp itemD (dVar 3) (dVar 1)) (dCons (dVar 9) dNil)))))) (dCons (dC .non) dNil)))))) dNext)
    (dRet (dTup (dCons (dCB maxD (dCons (dVar 1) (dCons (dVar 7) dNil))) (dCons (dVar 2) (dCons (dVar 4) (dCons (dTup (dCons (dOp itemD (dLst (dCons (dC .non) (dCons (dOp itemD (dVar 3) (dVar 1)) dNil))) (dCB intOfD (dCons (dOp gtD (dVar 1) (dVar 7)) dNil))) dNil)) dNil))))))) dNext)
    (dSeq (dIf (dTest (dOp eqD (dVar 6) (dC (.int 3)))) (dSeq (dAsg (dVar 8) (dgName 10))
    (dSeq (dIf (dTest (dOp neD (dVar 2) (dVar 7))) (dAsg (dC .non) (dgName 10)) dNext)
    (dRet (dTup (dCons (dVar 1) (dCons (dOp addD (dVar 2) (dCB intOfD (dCons (dOp eqD (dVar 2) (dVar 7)) dNil))) (dCons (dTup (dCons (dVar 5) (dCons (dC (.int 4)) (dCons (dVar 7) (dCons (dVar 10) (dCons (dVar 9) dNil)))))) (dCons (dC .non) dNil)))))))) dNext)
    (dRet (dTup (dCons (dOp addD (dVar 7) (dC (.int 1))) (dCons (dVar 2) (dCons (dVar 4) (dCons (dTup (dCons (dVar 8) dNil)) dNil)))))))))))
theorem atI_m1 {b : Nat → Option Int} : atI (encBx 8 b) (-1) = some (encOI (b 7)) := rfl
theorem run_law_take_part (ds G Q E) (h : C_law_take_part ds G Q E) : T_law_take_part E { nx := fun _ G' => DrK Q .non G', rt := DrK Q, bk := fun _ _ => False, ct := fun _ _ => False } (dstart N_law_take_part ds) G := by
  obtain ⟨rs, s, m, rfl, hx, hf, hn, q⟩ := h
  show T_law_take_part E _ [some (.str rs), some (.int s.near), some (.int s.far), some (.tup (encBx 8 s.box)), some (.tup [.int m.n, .int m.ph, .int m.f, encOI m.x, .tup (m.told.map encWhat)]), none, none, none, none, none, none] G
  unfold takeM takeE at q
  unfold T_law_take_part
  walk_at "run"
  refine br_n 0 rfl (fun h0 => ?_) (fun h0 => ?_)
  · rw [if_pos h0, if_pos (.inl h0)] at q
    have e1 := hx (by omega)
    have e2 := hf (by omega)
    rw [e1, e2]
    walk_at "run"
    exact s_rt q
  rw [if_neg h0] at q
  walk_at "run"
  refine br_n 1 rfl (fun h1 => ?_) (fun h1 => ?_)
  · rw [if_pos h1, if_pos (.inr (.inl h1))] at q
    have e1 := hx (by omega)
    rw [e1]
    walk_at "run"
    exact s_rt q
  rw [if_neg h1] at q
  walk_at "run"
  refine br_n 2 rfl (fun h2 => ?_) (fun h2 => ?_)
  · rw [if_pos h2, if_neg (show ¬ (m.ph = 0 ∨ m.ph = 1 ∨ m.ph = 3) by omega), if_pos h2] at q
    obtain ⟨n0, n1, n2⟩ := hn h2
    walk_at "run"
    refine br_bool (fun h3 => ?_) (fun h3 => ?_)
    · have h3 : s.near = m.f := by simpa using h3
      simp only [if_neg (show ¬ s.near < m.f by omega), if_neg (show ¬ m.f < s.near by omega)] at q
      have ea := atI_bx (L := 8) (b := s.box) (i := s.near) (by omega) (by omega)
      walk_at "run"
      have e4 : (3 : Int) + (if decide (rs = Str.ofString "bare") = true then 1 else 0) = ((if decide (rs = Str.ofString "bare") = true then 4 else 3 : Nat) : Int) := by split <;> rfl
      rw [e4]
      exact s_rt q
    · have h3 : ¬ s.near = m.f := by simpa using h3
      by_cases h4 : s.near < m.f
      · rw [if_pos h4, if_pos h4] at q
        obtain ⟨d, hd⟩ : ∃ d, atI (encBx 8 s.box) s.near = some d := by
          by_cases hm : s.near = -1
          · exact ⟨_, by rw [hm]; exact atI_m1⟩
          · exact ⟨_, atI_bx (by omega) (by omega)⟩
        have e5 : decide (m.f < s.near) = false := decide_eq_false (by omega)
        walk_at "run"
        intro c hc
        walk_at "run"
        rw [e5]
        refine s_itL up_same (d := .non) rfl ?_
        walk_at "run"
        rw [show (if m.f > s.near then m.f else s.near) = m.f by rw [if_pos h4]]
        exact s_rtD (le_new hc (.refl _)) q
      · simp only [if_neg h4, if_pos (show m.f < s.near by omega)] at q
        have ea := atI_bx (L := 8) (b := s.box) (i := s.near) (by omega) (by omega)
        have e5 : decide (m.f < s.near) = true := decide_eq_true (by omega)
        walk_at "run"
        intro c hc
        walk_at "run"
        rw [e5]
        refine s_itL up_same (d := encOI (s.box s.near.toNat)) rfl ?_
        walk_at "run"
        rw [show (if m.f > s.near then m.f else s.near) = s.near by rw [if_neg (by omega)]]
        rw [encOW_of] at q
        exact s_rtD (le_new hc (.refl _)) q
  rw [if_neg h2] at q
  walk_at "run"
  refine br_n 3 rfl (fun h3 => ?_) (fun h3 => ?_)
  · rw [if_pos h3, if_pos (show m.ph = 0 ∨ m.ph = 1 ∨ m.ph = 3 from .inr (.inr h3))] at q
    walk_at "run"
    refine br_bool (fun h4 => ?_) (fun h4 => ?_)
    · have h4 : ¬ s.far = m.f := by simpa using h4
      rw [if_neg h4] at q
      walk_at "run"
      rw [show (s.far == m.f) = false by simpa using h4]
      have e6 : s.far + (if false = true then 1 else 0) = s.far := by simp
      rw [e6]
      exact s_rt q
    · have h4 : s.far = m.f := by simpa using h4
      rw [if_pos h4] at q
      walk_at "run"
      rw [show (s.far == m.f) = true by simpa using h4]
      exact s_rt q
  · rw [if_neg h3, if_neg (show ¬ (m.ph = 0 ∨ m.ph = 1 ∨ m.ph = 3) by omega), if_neg h2] at q
    walk_at "run"
    rw [encOW_of] at q
    exact s_rt q
def C_law_try_part : Ct := fun ds G Q _ => ∃ rs s m, ds = [.str rs, .int s.near, .int s.far, .tup (encBx 8 s.box), encMv m] ∧ (m.ph ≤ 2 → m.x = none) ∧ (m.ph = 2 → 0 ≤ m.f ∧ m.f < 8) ∧
  Q (.tup [.int (attM (decide (rs = ("blind" : Str))) s m).1.far, partOf (attE (decide (rs = ("blind" : Str))) s m) m (attM (decide (rs = ("blind" : Str))) s m).2, encOW (attE (decide (rs = ("blind" : Str))) s m)]) G
theorem len_law_try_part (ds G Q E) (h : C_law_try_part ds G Q E) : ds.length = 5 := by obtain ⟨_, _, _, rfl, _⟩ := h; rfl
abbrev N_law_try_part : List Str := ["rules", "near", "far", "box", "part", "number", "phase", "f", "x", "told"]
def T_law_try_part : DX → DS := fun E => (dSeq (dAsg (dVar 4) (dgTup 5 (dgCons (dgName 5) (dgCons (dgName 6) (dgCons (dgName 7) (dgCons (dgName 8) (dgCons (dgName 9) dgNil)))))))
    (dSeq (dIf (dTest (dOp eqD (dVar 6) (dC (.int 0)))) (dRet (dTup (dCons (dVar 2) (dCons (dTup (dCons (dVar 5) (dCons (dC (.int 1)) (dCons (dVar 2) (dCons (dVar 8) (dCons (dVar 9) dNil)))))) (dCons (dC .non) dNil))))) dNext)
    (dSeq (dIf (dTest (dOp eqD (dVar 6) (dC (.int 1)))) (dSeq (dIf (dTest (dOp leD (dVar 1) (dVar 7))) (dRet (dTup (dCons (dVar 2) (dCons (dVar 4) (dCons (dTup (dCons (dC .non) dNil)) dNil))))) dNext)
    (dRet (dTup (dCons (dVar 2) (dCons (dTup (dCons (dVar 5) (dCons (dC (.int 2)) (dCons (dVar 7) (dCons (dVar 8) (dCons (dVar 9) dNil)))))) (dCons (dC .non) dNil)))))) dNext)
    (dSeq (dIf (dTest (dOp eqD (dVar 6) (dC (.int 2)))) (dRet (dTup (dCons (dVar 2) (dCons (dTup (dCons (dVar 5) (dCons (dC (.int 3)) (dCons (dVar 7) (dCons (dOp itemD (dVar 3) (dVar 7)) (dCons (dVar 9) dNil)))))) (dCons (dC .non) dNil))))) dNext)
    (dSeq (dIf (dOr (dTest (dOp eqD (dVar 2) (dVar 7))) (dTest (dOp eqD (dVar 0) (dC (.str "blind"))))) (dRet (dTup (dCons (dOp addD (dVar 7) (dC (.int 1))) (dCons (dVar 4) (dCons (dTup (dCons (dVar 8) dNil)) dNil))))) dNext)
    (dRet (dTup (dCons (dVar 2) (dCons (dVar 4) (dCons (dTup (dCons (dC (.str "lost")) dNil)) dNil))))))))))
theorem run_law_try_part (ds G Q E) (h : C_law_try_part ds G Q E) : T_law_try_part E { nx := fun _ G' => DrK Q .non G', rt := DrK Q, bk := fun _ _ => False, ct := fun _ _ => False } (dstart N_law_try_part ds) G := by
  obtain ⟨rs, s, m, rfl, hx, hn, q⟩ := h
  show T_law_try_part E _ [some (.str rs), some (.int s.near), some (.int s.far), some (.tup (encBx 8 s.box)), some (.tup [.int m.n, .int m.ph, .int m.f, encOI m.x, .tup (m.told.map encWhat)]), none, none, none, none, none] G
  unfold attM attE at q
  unfold T_law_try_part
  walk_at "run"
  refine br_n 0 rfl (fun h0 => ?_) (fun h0 => ?_)
  · rw [if_pos h0, if_pos (.inl h0)] at q
    rw [hx (by omega)]
    walk_at "run"
    exact s_rt q
  rw [if_neg h0] at q
  walk_at "run"
  refine br_n 1 rfl (fun h1 => ?_) (fun h1 => ?_)
  · rw [if_pos h1, if_neg (show ¬ (m.ph = 0 ∨ m.ph = 2) by omega), if_pos h1] at q
    walk_at "run"
    refine br_dec (fun h3 => ?_) (fun h3 => ?_)
    · rw [if_pos h3, if_pos h3] at q
      walk_at "run"
      exact s_rt q
    · rw [if_neg h3, if_neg h3] at q
      rw [hx (by omega)]
      walk_at "run"
      exact s_rt q
  rw [if_neg h1] at q
  walk_at "run"
  refine br_n 2 rfl (fun h2 => ?_) (fun h2 => ?_)
  · rw [if_pos h2, if_pos (.inr h2)] at q
    obtain ⟨b0, b1⟩ := hn h2
    have ea := atI_bx (L := 8) (b := s.box) (i := m.f) b0 b1
    walk_at "run"
    exact s_rt q
  rw [if_neg h2, if_neg (show ¬ (m.ph = 0 ∨ m.ph = 2) by omega), if_neg h1] at q
  walk_at "run"
  refine br_bool (fun h3 => ?_) (fun h3 => ?_)
  · have h3 : s.far = m.f := by simpa using h3
    rw [if_pos (.inl h3), if_pos (.inl h3)] at q
    walk_at "run"
    rw [encOW_of] at q
    exact s_rt q
  · have h3 : ¬ s.far = m.f := by simpa using h3
    walk_at "run"
    refine br_dec (fun h4 => ?_) (fun h4 => ?_)
    · rw [if_pos (.inr (by simpa using h4)), if_pos (.inr (by simpa using h4))] at q
      walk_at "run"
      rw [encOW_of] at q
      exact s_rt q
    · rw [if_neg (by simp [h4]; exact h3), if_neg (by simp [h4]; exact h3)] at q
      walk_at "run"
      exact s_rt q
def C_law_small_step : Ct := fun ds G Q _ => ∃ p rs s who, ds = [encPlay p, .str rs, encSt 8 s, .int (who : Nat)] ∧ PlOk p ∧ SOk p s ∧ who ≤ p.tries.length ∧ Q (encOS 8 (stepM (decide (rs = ("bare" : Str))) (decide (rs = ("blind" : Str))) p s who)) G
theorem len_law_small_step (ds G Q E) (h : C_law_small_step ds G Q E) : ds.length = 4 := by obtain ⟨_, _, _, _, rfl, _⟩ := h; rfl
abbrev N_law_small_step : List Str := ["play", "rules", "state", "who", "near", "far", "box", "parts_here", "part", "most", "what"]
def T_law_small_step : DX → DS := fun E => (dSeq (dAsg (dVar 2) (dgTup 4 (dgCons (dgName 4) (dgCons (dgName 5) (dgCons (dgName 6) (dgCons (dgName 7) dgNil))))))
    (dSeq (dAsg (dOp itemD (dVar 7) (dVar 3)) (dgName 8))
    (dSeq (dAsg (dOp itemD (dOp addD (dTup (dCons (dCB lenD (dCons (dOp itemD (dVar 0) (dC (.int 0))) dNil)) dNil)) (dOp itemD (dVar 0) (dC (.int 1)))) (dVar 3)) (dgName 9))
    (dSeq (dIf (dTest (dOp eqD (dOp itemD (dVar 8) (dC (.int 0))) (dVar 9))) (dRet (dC .non)) dNext)
    (dSeq (dIf (dTest (dOp gtD (dVar 3) (dC (.int 0)))) (dAsg (dCall C_law_try_part E (dCons (dVar 1) (dCons (dVar 4) (dCons (dVar 5) (dCons (dVar 6) (dCons (dVar 8) dNil)))))) (dgTup 3 (dgCons (dgName 5) (dgCons (dgName 8) (dgCons (dgName 10) dgNil))))) (dIf (dTest (dOp eqD (dOp itemD (dOp itemD (dOp itemD (dVar 0) (dC (.int 0))) (dOp itemD (dVar 8) (dC (.int 0)))) (dC (.int 0))) (dC (.str "take")))) (dAsg (dCall C_law_take_part E (dCons (dVar 1) (dCons (dVar 4) (dCons (dVar 5) (dCons (dVar 6) (dCons (dVar 8) dNil)))))) (dgTup 4 (dgCons (dgName 4) (dgCons (dgName 5) (dgCons (dgName 8) (dgCons (dgName 10) dgNil)))))) (dSeq (dAsg (dC .non) (dgName 10))
    (dIf (dTest (dOp eqD (dOp itemD (dVar 8) (dC (.int 1))) (dC (.int 0)))) (dSeq (dAsg (dOp addD (dOp addD (dSl (dVar 6) dNoPart (dPart (dVar 4))) (dTup (dCons (dOp itemD (dOp itemD (dOp itemD (dVar 0) (dC (.int 0))) (dOp itemD (dVar 8) (dC (.int 0)))) (dC (.int 1))) dNil))) (dSl (dVar 6) (dPart (dOp addD (dVar 4) (dC (.int 1)))) dNoPart)) (dgName 6))
    (dAsg (dOp addD (dTup (dCons (dOp itemD (dVar 8) (dC (.int 0))) (dCons (dC (.int 1)) dNil))) (dSl (dVar 8) (dPart (dC (.int 2))) dNoPart)) (dgName 8))) (dSeq (dAsg (dOp addD (dVar 4) (dC (.int 1))) (dgName 4))
    (dAsg (dTup dNil) (dgName 10)))))))
    (dSeq (dIf (dTest (dOp (isD true) (dVar 10) (dC .non))) (dAsg (dTup (dCons (dOp addD (dOp itemD (dVar 8) (dC (.int 0))) (dC (.int 1))) (dCons (dC (.int 0)) (dCons (dC (.int 0)) (dCons (dC .non) (dCons (dOp addD (dOp itemD (dVar 8) (dC (.int 4))) (dVar 10)) dNil)))))) (dgName 8)) dNext)
    (dRet (dTup (dCons (dVar 4) (dCons (dVar 5) (dCons (dVar 6) (dCons (dOp addD (dOp addD (dSl (dVar 7) dNoPart (dPart (dVar 3))) (dTup (dCons (dVar 8) dNil))) (dSl (dVar 7) (dPart (dOp addD (dVar 3) (dC (.int 1)))) dNoPart)) dNil))))))))))))
theorem own_f {ds : List Deed} {ly nr : Int} {m : Mv} (h : Own ds ly nr m) (hd : ds[m.n]? = some .take) (hp : m.ph ≤ 1) : m.f = 0 := by
  by_cases h0 : m.ph = 0
  · exact (h.start h0).2
  · exact ((h.take hd).1 (by omega)).2.2
theorem run_law_small_step (ds G Q E) (h : C_law_small_step ds G Q E) : T_law_small_step E { nx := fun _ G' => DrK Q .non G', rt := DrK Q, bk := fun _ _ => False, ct := fun _ _ => False } (dstart N_law_small_step ds) G := by
  obtain ⟨p, rs, s, who, rfl, hp, hs, hw, q⟩ := h
  have hd7 := hp.deeds
  have ht9 := hp.tries
  have hlm := hs.len
  have hwl : who < s.ms.length := by omega
  have em : s.ms[who]? = some s.ms[who] := List.getElem?_eq_getElem hwl
  have hmm := List.getElem_mem hwl
  have htl := told_le hp hs hmm
  generalize s.ms[who] = m at em hmm htl
  show T_law_small_step E _ [some (.tup [.tup (p.deeds.map encDeed), .tup (p.tries.map encN)]), some (.str rs), some (.tup [.int s.near, .int s.far, .tup (encBx 8 s.box), .tup (s.ms.map encMv)]), some (.int who), none, none, none, none, none, none, none] G
  have eM : (s.ms.map encMv)[who]? = some (.tup [.int m.n, .int m.ph, .int m.f, encOI m.x, .tup (m.told.map encWhat)]) := by
    rw [List.getElem?_map, em]
    rfl
  unfold stepM at q
  simp only [em] at q
  have c3 : ∀ k : Mv, cutD (s.ms.map encMv) none (some (who : Int)) ++ [encMv k] ++ cutD (s.ms.map encMv) (some ((who : Int) + 1)) none = (s.ms.set who k).map encMv := fun k => by
    have := cut_set (xs := s.ms.map encMv) (v := encMv k) (i := (who : Int)) (by omega) (by rw [List.length_map]; omega)
    rw [this, List.map_set]
    simp
  -- the last row of all
  have last : ∀ (t : Sta) (k : Mv) (v9 v10 : Option D), t.ms = s.ms → Q (encSt 8 (putM (t, k) who)) G → (dRet (dTup (dCons (dVar 4) (dCons (dVar 5) (dCons (dVar 6) (dCons (dOp addD (dOp addD (dSl (dVar 7) dNoPart (dPart (dVar 3))) (dTup (dCons (dVar 8) dNil))) (dSl (dVar 7) (dPart (dOp addD (dVar 3) (dC (.int 1)))) dNoPart)) dNil)))))) { nx := fun _ G' => DrK Q .non G', rt := DrK Q, bk := fun _ _ => False, ct := fun _ _ => False } [some (.tup [.tup (p.deeds.map encDeed), .tup (p.tries.map encN)]), some (.str rs), some (.tup [.int s.near, .int s.far, .tup (encBx 8 s.box), .tup (s.ms.map encMv)]), some (.int who), some (.int t.near), some (.int t.far), some (.tup (encBx 8 t.box)), some (.tup (s.ms.map encMv)), some (encMv k), v9, v10] G := by
    intro t k v9 v10 hts hq
    have c5 := c3 k
    have c1 : (cutD (s.ms.map encMv) none (some (who : Int)) ++ [encMv k]).length + (cutD (s.ms.map encMv) (some ((who : Int) + 1)) none).length ≤ sizeLine := by
      rw [← List.length_append, c5, List.length_map, List.length_set]
      exact szL (by omega)
    have c2 : (cutD (s.ms.map encMv) none (some (who : Int))).length + [encMv k].length ≤ sizeLine := by
      rw [List.length_append] at c1
      omega
    walk_at "run"
    rw [c5]
    have e4 : encSt 8 (putM (t, k) who) = .tup [D.int t.near, .int t.far, .tup (encBx 8 t.box), .tup ((s.ms.set who k).map encMv)] := by
      rw [← hts]
      rfl
    rw [e4] at hq
    exact s_rt hq
  unfold T_law_small_step
  generalize hR : (dRet (dTup (dCons (dVar 4) (dCons (dVar 5) (dCons (dVar 6) (dCons (dOp addD (dOp addD (dSl (dVar 7) dNoPart (dPart (dVar 3))) (dTup (dCons (dVar 8) dNil))) (dSl (dVar 7) (dPart (dOp addD (dVar 3) (dC (.int 1)))) dNoPart)) dNil)))))) = R at last
  have endd : ∀ (t : Sta) (e : Option What) (k : Mv) (v9 : Option D), (∀ w, e = some w → k = endM m w) → t.ms = s.ms → Q (encSt 8 (putM (t, k) who)) G → dSeq (dIf (dTest (dOp (isD true) (dVar 10) (dC .non))) (dAsg (dTup (dCons (dOp addD (dOp itemD (dVar 8) (dC (.int 0))) (dC (.int 1))) (dCons (dC (.int 0)) (dCons (dC (.int 0)) (dCons (dC .non) (dCons (dOp addD (dOp itemD (dVar 8) (dC (.int 4))) (dVar 10)) dNil)))))) (dgName 8)) dNext) R { nx := fun _ G' => DrK Q .non G', rt := DrK Q, bk := fun _ _ => False, ct := fun _ _ => False } [some (.tup [.tup (p.deeds.map encDeed), .tup (p.tries.map encN)]), some (.str rs), some (.tup [.int s.near, .int s.far, .tup (encBx 8 s.box), .tup (s.ms.map encMv)]), some (.int who), some (.int t.near), some (.int t.far), some (.tup (encBx 8 t.box)), some (.tup (s.ms.map encMv)), some (partOf e m k), v9, some (encOW e)] G := by
    intro t e k v9 he hts hq
    cases e with
    | none =>
      show dSeq _ _ _ [some (.tup [.tup (p.deeds.map encDeed), .tup (p.tries.map encN)]), some (.str rs), some (.tup [.int s.near, .int s.far, .tup (encBx 8 s.box), .tup (s.ms.map encMv)]), some (.int who), some (.int t.near), some (.int t.far), some (.tup (encBx 8 t.box)), some (.tup (s.ms.map encMv)), some (encMv k), v9, some .non] G
      walk_at "run"
      exact last t k _ _ hts hq
    | some w =>
      show dSeq _ _ _ [some (.tup [.tup (p.deeds.map encDeed), .tup (p.tries.map encN)]), some (.str rs), some (.tup [.int s.near, .int s.far, .tup (encBx 8 s.box), .tup (s.ms.map encMv)]), some (.int who), some (.int t.near), some (.int t.far), some (.tup (encBx 8 t.box)), some (.tup (s.ms.map encMv)), some (.tup [.int m.n, .int m.ph, .int m.f, encOI m.x, .tup (m.told.map encWhat)]), v9, some (.tup [encWhat w])] G
      have e3 : encMv k = .tup [.int (m.n + 1), .int 0, .int 0, .non, .tup (m.told.map encWhat ++ [encWhat w])] := by
        rw [he w rfl]
        simp [encMv, endM, encOI]
      have := last t k v9 (some (.tup [encWhat w])) hts hq
      rw [e3] at this
      walk_at "run"
      exact this
  have layd : ∀ (t : Sta) (k : Mv) (v9 : Option D), k = ⟨m.n + 1, 0, 0, none, m.told⟩ → t.ms = s.ms → Q (encSt 8 (putM (t, k) who)) G → dSeq (dIf (dTest (dOp (isD true) (dVar 10) (dC .non))) (dAsg (dTup (dCons (dOp addD (dOp itemD (dVar 8) (dC (.int 0))) (dC (.int 1))) (dCons (dC (.int 0)) (dCons (dC (.int 0)) (dCons (dC .non) (dCons (dOp addD (dOp itemD (dVar 8) (dC (.int 4))) (dVar 10)) dNil)))))) (dgName 8)) dNext) R { nx := fun _ G' => DrK Q .non G', rt := DrK Q, bk := fun _ _ => False, ct := fun _ _ => False } [some (.tup [.tup (p.deeds.map encDeed), .tup (p.tries.map encN)]), some (.str rs), some (.tup [.int s.near, .int s.far, .tup (encBx 8 s.box), .tup (s.ms.map encMv)]), some (.int who), some (.int t.near), some (.int t.far), some (.tup (encBx 8 t.box)), some (.tup (s.ms.map encMv)), some (.tup [.int m.n, .int m.ph, .int m.f, encOI m.x, .tup (m.told.map encWhat)]), v9, some (.tup [])] G := by
    intro t k v9 he hts hq
    have e3 : encMv k = .tup [.int (m.n + 1), .int 0, .int 0, .non, .tup (m.told.map encWhat ++ [])] := by
      rw [he]
      simp [encMv, encOI]
    have := last t k v9 (some (.tup [])) hts hq
    rw [e3] at this
    walk_at "run"
    exact this
  generalize hI : dSeq (dIf (dTest (dOp (isD true) (dVar 10) (dC .non))) (dAsg (dTup (dCons (dOp addD (dOp itemD (dVar 8) (dC (.int 0))) (dC (.int 1))) (dCons (dC (.int 0)) (dCons (dC (.int 0)) (dCons (dC .non) (dCons (dOp addD (dOp itemD (dVar 8) (dC (.int 4))) (dVar 10)) dNil)))))) (dgName 8)) dNext) R = U at endd layd
  walk_at "run"
  rw [List.length_map]
  cases who with
  | zero =>
    obtain ⟨hfar, ho⟩ := hs.own m em
    refine s_itT (d := .int p.deeds.length) (by rw [atI_cast]; rfl) ?_
    walk_at "run"
    refine br_n _ rfl (fun h1 => ?_) (fun h1 => ?_)
    · rw [List.getElem?_eq_none (by omega)] at q
      walk_at "run"
      exact s_rt q
    · have e1 : m.n < p.deeds.length := by
        have := ho.n
        omega
      have ed := List.getElem?_eq_getElem e1
      have eD : (p.deeds.map encDeed)[m.n]? = some (encDeed p.deeds[m.n]) := by rw [List.getElem?_map, ed]; rfl
      generalize p.deeds[m.n] = d at ed eD
      simp only [ed] at q
      obtain ⟨z, zs, ez, _, _, z1, z2⟩ := encDeed_0 d
      rw [ez] at eD
      have hly := lays_lt ed
      walk_at "run"
      refine br_bool (fun h2 => ?_) (fun h2 => ?_)
      · obtain ⟨rfl, rfl⟩ := z1 h2
        obtain ⟨t1, t2, t3⟩ := ho.take ed
        walk_at "run"
        refine UpC.of ⟨rs, s, m, rfl, ho.x, own_f ho ed, fun h3 => ?_, ?_⟩
        · obtain ⟨b1, b2, b3, b4⟩ := t2 h3
          exact ⟨b1, by omega, b3⟩
        · walk_at "run"
          have hbx : (takeM (decide (rs = ("bare" : Str))) s m).1.box = s.box := by
            unfold takeM
            repeat' split
            all_goals rfl
          have := endd (takeM (decide (rs = ("bare" : Str))) s m).1 (takeE s m) (takeM (decide (rs = ("bare" : Str))) s m).2 (some (.int p.deeds.length)) (fun w hw => takeE_end hw) (by unfold takeM; (repeat' split) <;> rfl) q
          rw [hbx] at this
          exact this
      · obtain ⟨t, rfl, rfl⟩ := z2 h2
        obtain ⟨a1, a2, a3⟩ := ho.lay t ed
        have hnr := ho.near
        have e3 := cut_set (xs := encBx 8 s.box) (v := D.int t) a2 (by rw [encBx_len]; omega)
        rw [encBx_set] at e3
        have c1 : (cutD (encBx 8 s.box) none (some s.near) ++ [D.int t]).length + (cutD (encBx 8 s.box) (some (s.near + 1)) none).length ≤ sizeLine := by
          rw [← List.length_append, e3, encBx_len]
          exact szL (by omega)
        have c2 : (cutD (encBx 8 s.box) none (some s.near)).length + [D.int t].length ≤ sizeLine := by
          rw [List.length_append] at c1
          omega
        walk_at "run"
        have q : Q (encOS 8 (some (putM (layM t s m) 0))) G := q
        unfold layM at q
        refine br_n 0 rfl (fun h3 => ?_) (fun h3 => ?_)
        · rw [if_pos h3] at q
          walk_at "run"
          rw [e3]
          have e5 : cutD [D.int m.n, .int m.ph, .int m.f, encOI m.x, .tup (m.told.map encWhat)] (some 2) none = [.int m.f, encOI m.x, .tup (m.told.map encWhat)] := by
            rw [show (2 : Int) = ((2 : Nat) : Int) from rfl, cutD_from]
            rfl
          rw [e5, a3, ho.x (by omega)]
          exact endd { s with box := setB s.box s.near.toNat t } none ⟨m.n, 1, 0, none, m.told⟩ _ (fun w hw => by cases hw) rfl q
        · rw [if_neg h3] at q
          walk_at "run"
          exact layd { s with near := s.near + 1 } _ _ rfl rfl q
  | succ w =>
    simp only at q
    have hwt : w < p.tries.length := by omega
    have et : ([D.int p.deeds.length] ++ p.tries.map encN)[w + 1]? = some (.int (p.tries[w] : Nat)) := by
      rw [List.singleton_append, List.getElem?_cons_succ, List.getElem?_map, List.getElem?_eq_getElem hwt]
      rfl
    walk_at "run"
    refine br_n _ rfl (fun h1 => ?_) (fun h1 => ?_)
    · rw [if_pos (by rw [List.getElem?_eq_getElem hwt, h1])] at q
      walk_at "run"
      exact s_rt q
    · rw [if_neg (by rw [List.getElem?_eq_getElem hwt]; exact fun e => h1 (Option.some.inj e).symm)] at q
      obtain ⟨most, _, hT⟩ := hs.thf w (s.ms[0]'(by omega)) m (List.getElem?_eq_getElem (by omega)) em
      walk_at "run"
      refine br_tt (by simp) ?_
      walk_at "run"
      refine UpC.of ⟨rs, s, m, rfl, hT.x, fun h2 => ⟨hT.f, ?_⟩, ?_⟩
      · have := hT.two (by omega)
        have := lays_len p.deeds (s.ms[0]'(by omega)).n
        omega
      · walk_at "run"
        have hbx : (attM (decide (rs = ("blind" : Str))) s m).1.box = s.box ∧ (attM (decide (rs = ("blind" : Str))) s m).1.near = s.near := by
          unfold attM
          repeat' split
          all_goals exact ⟨rfl, rfl⟩
        have := endd (attM (decide (rs = ("blind" : Str))) s m).1 (attE (decide (rs = ("blind" : Str))) s m) (attM (decide (rs = ("blind" : Str))) s m).2 (some (.int p.tries[w])) (fun w hw => attE_end hw) (by unfold attM; (repeat' split) <;> rfl) q
        rw [hbx.1, hbx.2] at this
        exact this

def C_law_first : Ct := fun ds G Q _ => ∃ p, ds = [encPlay p] ∧ PlOk p ∧ Q (encSt 8 (sta0 p)) G
theorem len_law_first (ds G Q E) (h : C_law_first ds G Q E) : ds.length = 1 := by obtain ⟨_, rfl, _⟩ := h; rfl
abbrev N_law_first : List Str := ["play"]
def T_law_first : DX → DS := fun E => (dRet (dTup (dCons (dC (.int 0)) (dCons (dC (.int 0)) (dCons (dOp mulD (dTup (dCons (dC .non) dNil)) (dC (.int 8))) (dCons (dOp mulD (dTup (dCons (dTup (dCons (dC (.int 0)) (dCons (dC (.int 0)) (dCons (dC (.int 0)) (dCons (dC .non) (dCons (dTup dNil) dNil)))))) dNil)) (dOp addD (dC (.int 1)) (dCB lenD (dCons (dOp itemD (dVar 0) (dC (.int 1))) dNil)))) dNil))))))
theorem run_law_first (ds G Q E) (h : C_law_first ds G Q E) : T_law_first E { nx := fun _ G' => DrK Q .non G', rt := DrK Q, bk := fun _ _ => False, ct := fun _ _ => False } (dstart N_law_first ds) G := by
  obtain ⟨p, rfl, hp, q⟩ := h
  have ht := hp.tries
  show T_law_first E _ [some (.tup [.tup (p.deeds.map encDeed), .tup (p.tries.map encN)])] G
  unfold T_law_first
  walk_at "run"
  refine s_mulT ⟨by simp, by decide, by decide, by simp⟩ ?_
  walk_at "run"
  refine s_mulT ⟨by simp, by rw [List.length_map]; omega, by rw [List.length_map]; omega, by simp⟩ ?_
  walk_at "run"
  rw [rep_one, rep_one]
  rw [enc_sta0] at q
  rw [show ((1 : Int) + ((p.tries.map encN).length : Nat)).toNat = 1 + p.tries.length by rw [List.length_map]; omega]
  exact s_rt q
def C_law_told_by : Ct := C_told_by
theorem len_law_told_by (ds G Q E) (h : C_law_told_by ds G Q E) : ds.length = 1 := by obtain ⟨_, _, rfl, _⟩ := h; rfl
abbrev N_law_told_by : List Str := ["state", "near", "far", "box", "parts_here", "part"]
def T_law_told_by : DX → DS := fun E => (dSeq (dAsg (dVar 0) (dgTup 4 (dgCons (dgName 1) (dgCons (dgName 2) (dgCons (dgName 3) (dgCons (dgName 4) dgNil))))))
    (dRet (dTup (dCons (dLc (diSeq (dVar 4)) (bdN 5) [5] dYes (dCB listD (dCons (dOp itemD (dVar 5) (dC (.int 4))) dNil))) (dCons (dCB listD (dCons (dSl (dVar 3) (dPart (dVar 2)) (dPart (dCB maxD (dCons (dVar 1) (dCons (dVar 2) dNil))))) dNil)) dNil)))))
theorem run_law_told_by (ds G Q E) (h : C_law_told_by ds G Q E) : T_law_told_by E { nx := fun _ G' => DrK Q .non G', rt := DrK Q, bk := fun _ _ => False, ct := fun _ _ => False } (dstart N_law_told_by ds) G := by
  obtain ⟨L, s, rfl, hL, f0, f1, n1, hm, q⟩ := h
  show T_law_told_by E _ [some (.tup [.int s.near, .int s.far, .tup (encBx L s.box), .tup (s.ms.map encMv)]), none, none, none, none, none] G
  unfold T_law_told_by
  walk_at "run"
  intro a ha
  refine comp_inv (fun i G' => ∃ cs, Lls G G' a cs (((toldOf s).take i).map fun x => x.map encWhat)) ⟨[], le_new ha (.refl _), up_same, by simp, by simp, by simp, by simp, ha, by simp⟩ (fun _ _ _ _ => trivial) (fun i d G' hd hi hP => ?_) (fun G' hP => ?_)
  · obtain ⟨cs, hK⟩ := hP
    rw [List.length_map] at hi
    rw [List.getElem?_map, List.getElem?_eq_getElem hi] at hd
    cases hd
    refine ⟨_, rfl, fun N hN => ?_⟩
    have em : encMv s.ms[i] = .tup [.int s.ms[i].n, .int s.ms[i].ph, .int s.ms[i].f, encOI s.ms[i].x, .tup (s.ms[i].told.map encWhat)] := rfl
    rw [em]
    walk_at "run"
    intro c hc
    refine ⟨cs.map .ref, up_nx (gne hK.ha hc) hK.ha, szLt (by rw [List.length_map, hK.len]; simp [toldOf]; omega), hN _ _ (.refl _) ⟨cs ++ [c], ?_⟩⟩
    have := hK.more (ws := s.ms[i].told.map encWhat) hc
    rw [List.map_append] at this
    have e2 : ((toldOf s).take (i + 1)).map (fun x => x.map encWhat) = ((toldOf s).take i).map (fun x => x.map encWhat) ++ [s.ms[i].told.map encWhat] := by
      have hi' : i < (toldOf s).length := by simpa [toldOf] using hi
      rw [List.take_add_one, List.getElem?_eq_getElem hi', List.map_append]
      simp [toldOf]
    rw [e2]
    exact this
  · obtain ⟨cs, hK⟩ := hP
    rw [List.length_map, List.take_of_length_le (by simp [toldOf])] at hK
    walk_at "run"
    intro b hb
    rw [cut_left f0 f1 n1 (by split <;> split <;> omega)] at *
    obtain ⟨gb, ba, bc⟩ := hK.free hb
    walk_at "run"
    exact s_rt (q _ a b cs ⟨hK.new hb, up_same, Ne.symm ba, bc, gb⟩)
theorem good_bare : decide ((Str.ofString "good") = ("bare" : Str)) = false := by decide
theorem good_blind : decide ((Str.ofString "good") = ("blind" : Str)) = false := by decide
theorem u_small {p : Play} {s : Sta} {who : Nat} {G : DG} {Q : DK} {E : DX} (hp : PlOk p) (hs : SOk p s) (hw : who ≤ p.tries.length) (k : Q (encOS 8 (stepM false false p s who)) G) : UpC C_law_small_step [.tup [.tup (p.deeds.map encDeed), .tup (p.tries.map encN)], .str "good", encSt 8 s, .int (who : Nat)] G Q E := by
  refine UpC.of ⟨p, _, s, who, rfl, hp, hs, hw, ?_⟩
  rw [good_bare, good_blind]
  exact k

theorem atI_mem {α : Type} {xs : List α} {i : Int} (h0 : 0 ≤ i) (h1 : i < xs.length) : ∃ d, atI xs i = some d ∧ d ∈ xs := by
  obtain ⟨j, rfl⟩ : ∃ j : Nat, i = (j : Int) := ⟨i.toNat, by omega⟩
  have hj : j < xs.length := by omega
  exact ⟨xs[j], by rw [atI_cast, List.getElem?_eq_getElem hj], List.getElem_mem hj⟩
def ThOk (t : Int) : Prop := t.natAbs < 10 ^ 31
def C_law_play : Ct := fun ds G Q _ => ∃ (a : Addr) (rs : List Nat) (most : Nat) (ts : List Nat), ds = [.ref a, .int (most : Nat), .tup (ts.map encN)] ∧ G a = some (.lst (rs.map encN)) ∧ most + 2 ≤ rs.length ∧ (∀ r ∈ rs, r < 1000000000) ∧ most ≤ 6 ∧
  ∀ deeds, deeds.length ≤ most → (∀ t, .lay t ∈ deeds → ThOk t) → (∀ r, rs[0]? = some r → deeds.length = r % (most + 1)) → Q (encPlay ⟨deeds, ts⟩) G
theorem len_law_play (ds G Q E) (h : C_law_play ds G Q E) : ds.length = 3 := by obtain ⟨_, _, _, _, rfl, _⟩ := h; rfl
abbrev N_law_play : List Str := ["some", "most", "tries", "deeds", "k", "one", "far", "way", "thing"]
def T_law_play : DX → DS := fun E => (dSeq (dAsg (dLst dNil) (dgName 3))
    (dSeq (dFor (diRange (dCons (dOp modD (dOp itemD (dVar 0) (dC (.int 0))) (dOp addD (dVar 1) (dC (.int 1)))) dNil)) (dgName 4) (dSeq (dAsg (dOp itemD (dVar 0) (dOp addD (dC (.int 2)) (dVar 4))) (dgName 5))
    (dSeq (dAsg (dOp itemD (dLst (dCons (dC (.int 7)) (dCons (dC (.int 10)) (dCons (dC (.int 42)) (dCons (dC (.int 99)) (dCons (dUn negD (dC (.int 6))) (dCons (dUn negD (dC (.int 99))) (dCons (dOp powD (dC (.int 10)) (dC (.int 9))) (dCons (dOp subD (dOp powD (dC (.int 10)) (dC (.int 30))) (dC (.int 1))) (dCons (dC (.int 1)) (dCons (dC (.int 100)) (dCons (dC (.int 12)) (dCons (dUn negD (dC (.int 12))) dNil))))))))))))) (dOp modD (dOp divD (dVar 5) (dC (.int 6))) (dC (.int 12)))) (dgName 6))
    (dSeq (dAsg (dOp itemD (dLst (dCons (dOp modD (dOp itemD (dVar 0) (dC (.int 1))) (dC (.int 7))) (dCons (dOp modD (dOp divD (dVar 5) (dC (.int 72))) (dC (.int 5))) dNil))) (dCB intOfD (dCons (dOp gtD (dOp modD (dOp itemD (dVar 0) (dC (.int 1))) (dC (.int 7))) (dC (.int 4))) dNil))) (dgName 7))
    (dSeq (dAsg (dOp itemD (dLst (dCons (dVar 4) (dCons (dOp modD (dOp divD (dVar 5) (dC (.int 6))) (dC (.int 3))) (dCons (dOp subD (dUn negD (dC (.int 1))) (dOp modD (dOp divD (dVar 5) (dC (.int 6))) (dC (.int 4)))) (dCons (dOp subD (dOp powD (dC (.int 10)) (dC (.int 29))) (dVar 5)) (dCons (dVar 6) dNil)))))) (dVar 7)) (dgName 8))
    (dDrop (dMt appendD (dVar 3) (dCons (dOp itemD (dLst (dCons (dTup (dCons (dC (.str "lay")) (dCons (dVar 8) dNil))) (dCons (dTup (dCons (dC (.str "take")) dNil)) (dCons (dTup (dCons (dC (.str "lay")) (dCons (dVar 8) dNil))) dNil)))) (dOp modD (dOp addD (dVar 5) (dOp divD (dVar 4) (dC (.int 3)))) (dC (.int 3)))) dNil))))))))
    (dRet (dTup (dCons (dCB tupleD (dCons (dVar 3) dNil)) (dCons (dVar 2) dNil))))))
theorem t30 : (10 : Int) ^ (30 : Int).toNat = 1000000000000000000000000000000 := by decide
theorem t29 : (10 : Int) ^ (29 : Int).toNat = 100000000000000000000000000000 := by decide
theorem t9 : (10 : Int) ^ (9 : Int).toNat = 1000000000 := by decide
theorem run_law_play (ds G Q E) (h : C_law_play ds G Q E) : T_law_play E { nx := fun _ G' => DrK Q .non G', rt := DrK Q, bk := fun _ _ => False, ct := fun _ _ => False } (dstart N_law_play ds) G := by
  obtain ⟨a, rs, most, ts, rfl, ha, hl, hr, hm, q⟩ := h
  show T_law_play E _ [some (.ref a), some (.int most), some (.tup (ts.map encN)), none, none, none, none, none, none] G
  have get : ∀ i : Nat, i < rs.length → ∃ r : Nat, (rs.map encN)[i]? = some (.int r) ∧ r < 1000000000 := fun i hi => ⟨rs[i], by rw [List.getElem?_map, List.getElem?_eq_getElem hi]; rfl, hr _ (List.getElem_mem hi)⟩
  obtain ⟨r0, g0, _⟩ := get 0 (by omega)
  obtain ⟨r1, g1, _⟩ := get 1 (by omega)
  have g0' : atI (rs.map encN) 0 = some (.int r0) := by rw [atI_0]; exact g0
  have g1' : atI (rs.map encN) 1 = some (.int r1) := by rw [atI_1]; exact g1
  unfold T_law_play
  walk_at "run"
  intro p hp
  have pa : a ≠ p := gne ha hp
  have m0 := Int.emod_nonneg (r0 : Int) (show ((most : Int) + 1) ≠ 0 by omega)
  have m1 := Int.emod_lt_of_pos (r0 : Int) (show 0 < ((most : Int) + 1) by omega)
  walk_at "run"
  have hnat : ((r0 % (most + 1) : Nat) : Int) = (r0 : Int) % ((most : Int) + 1) := by simp
  generalize (r0 : Int) % ((most : Int) + 1) = many at m0 m1 hnat
  refine loop_inv (fun i σ G' => ∃ (deeds : List Deed) (v4 v5 v6 v7 v8 : Option D), deeds.length = i ∧ (∀ t, .lay t ∈ deeds → ThOk t) ∧ σ = [some (.ref a), some (.int most), some (.tup (ts.map encN)), some (.ref p), v4, v5, v6, v7, v8] ∧ G' = up G p (.lst (deeds.map encDeed))) ⟨[], none, none, none, none, none, rfl, by simp, rfl, rfl⟩ (fun _ _ _ _ _ => trivial) (fun i d σ' G' N hd hi hP hN => ?_) (fun σ' G' hP => ?_)
  · obtain ⟨deeds, v4, v5, v6, v7, v8, dl, dt, rfl, rfl⟩ := hP
    obtain ⟨rfl, hi2⟩ := rangeD_get0 hd
    obtain ⟨one, go, ho⟩ := get (2 + i) (by omega)
    have go' : atI (rs.map encN) (2 + (i : Int)) = some (.int one) := by rw [show (2 : Int) + (i : Int) = ((2 + i : Nat) : Int) by omega, atI_cast]; exact go
    walk_at "run"
    intro c1 hc1
    obtain ⟨far, gf, mf⟩ := atI_mem (xs := [D.int 7, .int 10, .int 42, .int 99, .int (-6), .int (-99), .int (10 ^ (9 : Int).toNat), .int (10 ^ (30 : Int).toNat - 1), .int 1, .int 100, .int 12, .int (-12)]) (i := (one : Int) / 6 % 12) (by omega) (by simp; omega)
    obtain ⟨fz, rfl, hfz⟩ : ∃ z : Int, far = .int z ∧ ThOk z := by
      rw [t9, t30] at mf
      simp only [List.mem_cons, List.not_mem_nil, or_false] at mf
      rcases mf with rfl | rfl | rfl | rfl | rfl | rfl | rfl | rfl | rfl | rfl | rfl | rfl <;> exact ⟨_, rfl, by unfold ThOk; decide⟩
    have ac1 : a ≠ c1 := gne (G := up G p (.lst (deeds.map encDeed))) (up_nx pa ha) hc1
    have pc1 : p ≠ c1 := gne (G := up G p (.lst (deeds.map encDeed))) up_same hc1
    walk_at "run"
    intro c2 hc2
    obtain ⟨way, gw, w0, w5⟩ : ∃ way : Int, atI [D.int ((r1 : Int) % 7), .int ((one : Int) / 72 % 5)] (if decide (4 < (r1 : Int) % 7) = true then 1 else 0) = some (.int way) ∧ 0 ≤ way ∧ way < 5 := by
      by_cases h4 : 4 < (r1 : Int) % 7
      · rw [decide_eq_true h4]
        exact ⟨_, rfl, by omega, by omega⟩
      · rw [decide_eq_false h4]
        exact ⟨_, rfl, by omega, by omega⟩
    have ac2 : a ≠ c2 := gne (G := up (up G p (.lst (deeds.map encDeed))) c1 _) (up_nx ac1 (up_nx pa ha)) hc2
    have pc2 : p ≠ c2 := gne (G := up (up G p (.lst (deeds.map encDeed))) c1 _) (up_nx pc1 up_same) hc2
    walk_at "run"
    intro c3 hc3
    obtain ⟨td, gt, mt⟩ := atI_mem (xs := [D.int (i : Nat), .int ((one : Int) / 6 % 3), .int (-1 - (one : Int) / 6 % 4), .int (10 ^ (29 : Int).toNat - one), .int fz]) (i := way) w0 (by simpa using w5)
    obtain ⟨th, rfl, hth⟩ : ∃ z : Int, td = .int z ∧ ThOk z := by
      rw [t29] at mt
      simp only [List.mem_cons, List.not_mem_nil, or_false] at mt
      rcases mt with rfl | rfl | rfl | rfl | rfl
      · exact ⟨_, rfl, by unfold ThOk; omega⟩
      · exact ⟨_, rfl, by unfold ThOk; omega⟩
      · exact ⟨_, rfl, by unfold ThOk; omega⟩
      · exact ⟨_, rfl, by unfold ThOk; omega⟩
      · exact ⟨_, rfl, hfz⟩
    have pc3 : p ≠ c3 := gne (G := up (up (up G p (.lst (deeds.map encDeed))) c1 _) c2 _) (up_nx pc2 (up_nx pc1 up_same)) hc3
    walk_at "run"
    intro c4 hc4
    have pc4 : p ≠ c4 := gne (G := up (up (up (up G p (.lst (deeds.map encDeed))) c1 _) c2 _) c3 _) (up_nx pc3 (up_nx pc2 (up_nx pc1 up_same))) hc4
    obtain ⟨dd, gd, md⟩ := atI_mem (xs := [encDeed (.lay th), encDeed .take, encDeed (.lay th)]) (i := ((one : Int) + (i : Int) / 3) % 3) (by omega) (by simp; omega)
    obtain ⟨dz, rfl, hdz⟩ : ∃ z : Deed, dd = encDeed z ∧ (∀ t, z = .lay t → ThOk t) := by
      simp only [List.mem_cons, List.not_mem_nil, or_false] at md
      rcases md with rfl | rfl | rfl
      · exact ⟨_, rfl, fun t e => by cases e; exact hth⟩
      · exact ⟨_, rfl, fun t e => by cases e⟩
      · exact ⟨_, rfl, fun t e => by cases e; exact hth⟩
    have gd' : atI [D.tup [.str "lay", .int th], .tup [.str "take"], .tup [.str "lay", .int th]] (((one : Int) + (i : Int) / 3) % 3) = some (encDeed dz) := gd
    walk_at "run"
    refine hN _ _ (up G p (.lst ((deeds ++ [dz]).map encDeed))) ?_ ⟨deeds ++ [dz], _, _, _, _, _, by simp [dl], fun t ht => ?_, rfl, rfl⟩
    · rw [List.map_append]
      have n1 : G c1 = none := up_free hc1
      have n2 : G c2 = none := up_free (up_free hc2)
      have n3 : G c3 = none := up_free (up_free (up_free hc3))
      have n4 : G c4 = none := up_free (up_free (up_free (up_free hc4)))
      walk_at "le"
    · rcases List.mem_append.mp ht with h | h
      · exact dt t h
      · exact hdz t (List.mem_singleton.mp h).symm
  · obtain ⟨deeds, v4, v5, v6, v7, v8, dl, dt, rfl, rfl⟩ := hP
    rw [rangeD_length] at dl
    walk_at "run"
    exact s_rtD (le_new hp (.refl _)) (q deeds (by omega) dt fun r hr => by
      rw [List.getElem?_map, hr] at g0
      have : r = r0 := by
        have h : (r : Int) = r0 := by simpa using g0
        omega
      subst this
      omega)

structure Okw (b : Nat) (d : PyData) : Prop where
  s : d.showable = true
  l : d.leavesShort 33 = true
  w : d.bulk ≤ b
theorem Okw.mono {b c : Nat} {d : PyData} (h : Okw b d) (l : b ≤ c) : Okw c d := ⟨h.s, h.l, Nat.le_trans h.w l⟩
theorem Okw.rep {b : Nat} {d : PyData} (h : Okw b d) (hb : b ≤ 100000) : RepOk d := by
  refine ⟨h.s, ?_⟩
  have h1 := PyData.shown_le_bulk 33 (by decide) d h.l
  have h2 := h.w
  have : sizeLine = 16777216 := by decide
  omega
def shWhat : What → PyData
  | .nil => .none
  | .got t => .int t
  | .lost => .str "lost"
def shOI : Option Int → PyData
  | none => .none
  | some t => .int t
theorem py_what {n : Nat} {G : DG} (w : What) : pyD n G (encWhat w) = some (shWhat w) := by
  cases w with
  | nil => exact pyD_non
  | got t => exact pyD_int
  | lost =>
    have h : PyData.strOk (Str.ofString "lost") = true := by decide +kernel
    cases n <;> simp [pyD, encWhat, shWhat, h]
theorem py_oi {n : Nat} {G : DG} (w : Option Int) : pyD n G (encOI w) = some (shOI w) := by
  cases w with
  | none => exact pyD_non
  | some t => exact pyD_int
def shTold (s : Sta) : PyData := .list ((toldOf s).map fun x => .list (x.map shWhat))
def shLeft (s : Sta) : PyData := .list ((leftOf s).map shOI)
theorem Told.pyA {G G' : DG} {a b : Addr} {cs : List Addr} {s : Sta} (h : Told G G' a b cs s) (n : Nat) : pyD (n + 3) G' (.ref a) = some (shTold s) := h.l.py (α := Unit) fun x => py_what x
theorem Told.pyB {G G' : DG} {a b : Addr} {cs : List Addr} {s : Sta} (h : Told G G' a b cs s) (n : Nat) : pyD (n + 1) G' (.ref b) = some (shLeft s) := pyD_ref h.hb (pyAll_map fun x _ => py_oi x)
theorem Told.py {G G' : DG} {a b : Addr} {cs : List Addr} {s : Sta} (h : Told G G' a b cs s) : pyD 9 G' (.tup [.ref a, .ref b]) = some (.tuple [shTold s, shLeft s]) := pyD_tup (pyAll_c (h.pyA 5) (pyAll_c (h.pyB 7) pyAll_nil))
theorem Told.lists {G G' : DG} {a b : Addr} {cs : List Addr} {s : Sta} (h : Told G G' a b cs s) {i : Nat} {x : List What} (hx : (toldOf s)[i]? = some x) : ∃ c, cs[i]? = some c ∧ (cs.map D.ref)[i]? = some (.ref c) ∧ G' c = some (.lst (x.map encWhat)) := by
  have hi := (List.getElem?_eq_some_iff.mp hx).1
  have hl := h.l.len
  rw [List.length_map] at hl
  have hc : cs[i]? = some (cs[i]'(by omega)) := List.getElem?_eq_getElem (by omega)
  exact ⟨_, hc, by rw [List.getElem?_map, hc]; rfl, h.l.at_ i _ _ hc (by rw [List.getElem?_map, hx]; rfl)⟩
/-! ### nothing is got twice, nothing is lost -/
def eff (ds : List Deed) (near : Int) (m : Mv) : Int := if ds[m.n]? = some .take ∧ 1 ≤ m.ph then near + 1 else near
theorem eff_take {ds : List Deed} {near : Int} {m : Mv} (h : ds[m.n]? = some .take) (h1 : 1 ≤ m.ph) : eff ds near m = near + 1 := if_pos ⟨h, h1⟩
theorem eff_zero {ds : List Deed} {near : Int} {m : Mv} (h : m.ph = 0) : eff ds near m = near := if_neg fun z => by omega
theorem eff_lay {ds : List Deed} {near : Int} {m : Mv} {t : Int} (h : ds[m.n]? = some (.lay t)) : eff ds near m = near := if_neg fun z => by rw [h] at z; cases z.1
theorem eff_ge (ds : List Deed) (near : Int) (m : Mv) : near ≤ eff ds near m := by unfold eff; split <;> omega
theorem eff_le (ds : List Deed) (near : Int) (m : Mv) : eff ds near m ≤ near + 1 := by unfold eff; split <;> omega
/-- how often a thing lies in the boxes from a to below b -/
def conC (a b : Int) (box : Nat → Option Int) (t : Int) : Nat := ((List.range' a.toNat (b - a).toNat).map box).count (some t)
theorem conC_nil {a b : Int} {box : Nat → Option Int} {t : Int} (h : b ≤ a) : conC a b box t = 0 := by
  unfold conC
  rw [show (b - a).toNat = 0 by omega]
  rfl
theorem conC_snoc {a b : Int} {box : Nat → Option Int} {t : Int} (h0 : 0 ≤ a) (h : a ≤ b) : conC a (b + 1) box t = conC a b box t + (if box b.toNat = some t then 1 else 0) := by
  unfold conC
  rw [show (b + 1 - a).toNat = (b - a).toNat + 1 by omega, List.range'_concat, List.map_append, List.count_append]
  simp only [List.map_cons, List.map_nil, List.count_singleton, Nat.one_mul]
  rw [show a.toNat + (b - a).toNat = b.toNat by omega]
  simp
theorem conC_cons {a b : Int} {box : Nat → Option Int} {t : Int} (h0 : 0 ≤ a) (h : a < b) : conC a b box t = (if box a.toNat = some t then 1 else 0) + conC (a + 1) b box t := by
  unfold conC
  rw [show (b - a).toNat = (b - (a + 1)).toNat + 1 by omega, List.range'_succ, List.map_cons, List.count_cons]
  rw [show (a + 1).toNat = a.toNat + 1 by omega]
  simp
  omega
theorem conC_set {a b : Int} {box : Nat → Option Int} {t u : Int} {i : Nat} (h0 : 0 ≤ a) (h : b ≤ i) : conC a b (setB box i u) t = conC a b box t := by
  unfold conC
  congr 1
  refine List.map_congr_left fun j hj => ?_
  rw [List.mem_range'_1] at hj
  unfold setB
  rw [if_neg (by omega)]
def gotC (ths : List Mv) (t : Int) : Nat := (ths.map fun k => k.told.count (.got t)).sum
theorem gotC_set {ths : List Mv} {t : Int} {w : Nat} {k k' : Mv} (h : ths[w]? = some k) : gotC (ths.set w k') t + k.told.count (.got t) = gotC ths t + k'.told.count (.got t) := by
  unfold gotC
  induction ths generalizing w with
  | nil => simp at h
  | cons x xs ih =>
    cases w with
    | zero =>
      simp at h
      subst h
      simp
      omega
    | succ w =>
      have := ih (w := w) (by simpa using h)
      simp only [List.set_cons_succ, List.map_cons, List.sum_cons]
      omega
theorem gotC_none {ths : List Mv} {t : Int} (h : ∀ k ∈ ths, k.told = []) : gotC ths t = 0 := by
  unfold gotC
  induction ths with
  | nil => rfl
  | cons x xs ih =>
    rw [List.map_cons, List.sum_cons, ih fun k hk => h k (by simp [hk]), h x (by simp)]
    rfl
structure Csv (ds : List Deed) (near far : Int) (box : Nat → Option Int) (m : Mv) (ths : List Mv) : Prop where
  fe : far ≤ eff ds near m
  t1 : ∀ k ∈ ths, 1 ≤ k.ph → k.f ≤ far
  t2 : ∀ k ∈ ths, 2 ≤ k.ph → k.f = far → k.f < eff ds near m
  t3 : ∀ k ∈ ths, 3 ≤ k.ph → k.f = far → k.x = box k.f.toNat
  tj : ds[m.n]? = some .take → m.ph = 2 → ∀ k ∈ ths, 2 ≤ k.ph → k.f = near → near ≤ m.f
  o2 : ds[m.n]? = some .take → m.ph = 2 → m.f ≤ far ∧ (m.f < near → far ≤ near)
  o3 : ds[m.n]? = some .take → m.ph = 3 → m.f ≤ far ∧ (far = near → m.x = box near.toNat)
  o4 : ds[m.n]? = some .take → 4 ≤ m.ph → far = near + 1
  l1 : ∀ t, ds[m.n]? = some (.lay t) → m.ph ≠ 0 → box near.toNat = some t
  full : ∀ i : Nat, far ≤ i → (i : Int) < eff ds near m → box i ≠ none
  cnt : ∀ t, (ds.take m.n).count (.lay t) = m.told.count (.got t) + gotC ths t + (if 4 ≤ m.ph ∧ m.x = some t then 1 else 0) + conC far (eff ds near m) box t
  len : m.told.length + lays ds m.n = m.n
  tlen : ∀ k ∈ ths, k.told.length = k.n
theorem csv_0 (ds : List Deed) (n : Nat) : Csv ds 0 0 (fun _ => none) ⟨0, 0, 0, none, []⟩ (List.replicate n ⟨0, 0, 0, none, []⟩) := by
  have hm : ∀ k ∈ List.replicate n (⟨0, 0, 0, none, []⟩ : Mv), k = ⟨0, 0, 0, none, []⟩ := fun k h => List.eq_of_mem_replicate h
  have e0 : eff ds 0 ⟨0, 0, 0, none, []⟩ = 0 := eff_zero rfl
  refine ⟨by rw [e0]; exact Int.le_refl _, fun k h e => (by rw [hm k h] at e; simp at e), fun k h e => (by rw [hm k h] at e; simp at e), fun k h e => (by rw [hm k h] at e; simp at e), fun _ e => (by simp at e), fun _ e => (by simp at e), fun _ e => (by simp at e), fun _ e => (by simp at e), fun t _ e => (by simp at e), fun i _ h => (by rw [e0] at h; omega), fun t => ?_, by simp [lays], fun k h => by rw [hm k h]; rfl⟩
  rw [e0, conC_nil (Int.le_refl _)]
  rw [gotC_none fun k h => by rw [hm k h]]
  simp
theorem count_what {l : List What} {x : Option Int} {t : Int} : (l ++ [whatOf x]).count (.got t) = l.count (.got t) + (if x = some t then 1 else 0) := by
  rw [List.count_append, List.count_singleton]
  cases x with
  | none => simp [whatOf]
  | some u => simp [whatOf]
theorem count_nil {l : List What} {t : Int} : (l ++ [What.nil]).count (.got t) = l.count (.got t) := by
  rw [List.count_append, List.count_singleton]
  simp
theorem count_lost {l : List What} {t : Int} : (l ++ [What.lost]).count (.got t) = l.count (.got t) := by
  rw [List.count_append, List.count_singleton]
  simp
theorem laid_take {ds : List Deed} {n : Nat} {t : Int} (h : ds[n]? = some .take) : (ds.take (n + 1)).count (.lay t) = (ds.take n).count (.lay t) := by
  rw [List.take_add_one, h, List.count_append]
  simp
theorem laid_lay {ds : List Deed} {n : Nat} {t u : Int} (h : ds[n]? = some (.lay u)) : (ds.take (n + 1)).count (.lay t) = (ds.take n).count (.lay t) + (if u = t then 1 else 0) := by
  rw [List.take_add_one, h, List.count_append]
  simp [List.count_singleton]
/-- the owner's laying -/
theorem csv_lay {ds : List Deed} {s : Sta} {m : Mv} {ths : List Mv} {t : Int} (h : Csv ds s.near s.far s.box m ths) (ed : ds[m.n]? = some (.lay t)) (h0 : 0 ≤ s.far) (hn : 0 ≤ s.near) (hp : m.ph ≤ 1) :
    Csv ds (layM t s m).1.near (layM t s m).1.far (layM t s m).1.box (layM t s m).2 ths := by
  have e1 : ∀ nr, eff ds nr m = nr := fun nr => eff_lay ed
  have hfe := h.fe
  rw [e1] at hfe
  unfold layM
  split
  · rename_i hp0
    have e2 : eff ds s.near ⟨m.n, 1, 0, none, m.told⟩ = s.near := eff_lay ed
    refine ⟨by rw [e2]; exact hfe, h.t1, fun k hk a b => ?_, fun k hk a b => ?_, fun e => (by rw [ed] at e; cases e), fun e => (by rw [ed] at e; cases e), fun e => (by rw [ed] at e; cases e), fun e => (by rw [ed] at e; cases e), fun u e _ => ?_, fun i a b => ?_, fun u => ?_, h.len, h.tlen⟩
    · have := h.t2 k hk a b
      rw [e1] at this
      rw [e2]
      exact this
    · have h2 := h.t2 k hk (by omega) b
      rw [e1] at h2
      have h3 := h.t3 k hk a b
      have b' : k.f = s.far := b
      show k.x = setB s.box s.near.toNat t k.f.toNat
      unfold setB
      rw [if_neg (by omega)]
      exact h3
    · rw [ed] at e
      cases e
      show setB s.box s.near.toNat t s.near.toNat = some t
      unfold setB
      rw [if_pos rfl]
    · rw [e2] at b
      show setB s.box s.near.toNat t i ≠ none
      unfold setB
      rw [if_neg (by omega)]
      exact h.full i a (by rw [e1]; exact b)
    · have := h.cnt u
      rw [e1, if_neg (by omega)] at this
      rw [e2]
      show _ = _ + _ + _ + conC s.far s.near (setB s.box s.near.toNat t) u
      rw [conC_set h0 (by omega), if_neg (by simp)]
      exact this
  · rename_i hp0
    have hb := h.l1 t ed hp0
    have e2 : eff ds (s.near + 1) ⟨m.n + 1, 0, 0, none, m.told⟩ = s.near + 1 := eff_zero rfl
    have hlen := lays_succ ed
    have hl := h.len
    refine ⟨by rw [e2]; show s.far ≤ s.near + 1; omega, h.t1, fun k hk a b => ?_, h.t3, fun _ e => (by simp at e), fun _ e => (by simp at e), fun _ e => (by simp at e), fun _ e => (by simp at e), fun u _ e => (by simp at e), fun i a b => ?_, fun u => ?_, ?_, h.tlen⟩
    · have := h.t2 k hk a b
      rw [e1] at this
      rw [e2]
      omega
    · rw [e2] at b
      by_cases hi : (i : Int) = s.near
      · rw [show i = s.near.toNat by omega]
        show s.box s.near.toNat ≠ none
        rw [hb]
        simp
      · exact h.full i a (by rw [e1]; omega)
    · have := h.cnt u
      rw [e1, if_neg (by omega)] at this
      rw [e2]
      show (ds.take (m.n + 1)).count (.lay u) = m.told.count (.got u) + _ + _ + conC s.far (s.near + 1) s.box u
      rw [laid_lay ed, conC_snoc h0 hfe, hb, this]
      simp
      omega
    · show m.told.length + lays ds (m.n + 1) = m.n + 1
      rw [hlen]
      simp
      omega

/-- the owner's taking -/
theorem csv_take {ds : List Deed} {s : Sta} {m : Mv} {ths : List Mv} (h : Csv ds s.near s.far s.box m ths) (ed : ds[m.n]? = some .take) (h0 : 0 ≤ s.far) (hp : m.ph ≤ 4) (hn0 : m.ph = 0 → 0 ≤ s.near) (hn : -1 ≤ s.near) (h3 : 3 ≤ m.ph → s.near = m.f) :
    Csv ds (takeM false s m).1.near (takeM false s m).1.far (takeM false s m).1.box (takeM false s m).2 ths := by
  have hfe := h.fe
  have hlays := lays_succ ed
  have hlen := h.len
  -- a take that goes on: the effective end stays
  have on : ∀ (ph : Nat) (f : Int) (x : Option Int) (near far : Int), 1 ≤ ph → near + 1 = eff ds s.near m → far ≤ near + 1 →
      (∀ k ∈ ths, 1 ≤ k.ph → k.f ≤ far) → (∀ k ∈ ths, 2 ≤ k.ph → k.f = far → k.f < near + 1) → (∀ k ∈ ths, 3 ≤ k.ph → k.f = far → k.x = s.box k.f.toNat) →
      (ph = 2 → (∀ k ∈ ths, 2 ≤ k.ph → k.f = near → near ≤ f) ∧ f ≤ far ∧ (f < near → far ≤ near)) → (ph = 3 → f ≤ far ∧ (far = near → x = s.box near.toNat)) → (4 ≤ ph → far = near + 1) →
      (s.far ≤ far) → (∀ t, (if 4 ≤ m.ph ∧ m.x = some t then 1 else 0) + conC s.far (near + 1) s.box t = (if 4 ≤ ph ∧ x = some t then 1 else 0) + conC far (near + 1) s.box t) →
      Csv ds near far s.box ⟨m.n, ph, f, x, m.told⟩ ths := by
    intro ph f x near far p1 en hf k1 k2 k3 c2 c3 c4 hff hc
    have e2 : eff ds near ⟨m.n, ph, f, x, m.told⟩ = near + 1 := eff_take ed p1
    refine ⟨by rw [e2]; exact hf, k1, by rw [e2]; exact k2, k3, fun _ e => (c2 e).1, fun _ e => (c2 e).2, fun _ e => c3 e, fun _ e => c4 e, fun t e => (by have e' : ds[m.n]? = some (.lay t) := e; rw [ed] at e'; cases e'), fun i a b => ?_, fun t => ?_, hlen, h.tlen⟩
    · rw [e2, en] at b
      exact h.full i (by omega) b
    · have h1 := h.cnt t
      have h2 := hc t
      rw [← en] at h1
      rw [e2]
      show (ds.take m.n).count (.lay t) = m.told.count (.got t) + gotC ths t + (if 4 ≤ ph ∧ x = some t then 1 else 0) + conC far (near + 1) s.box t
      omega
  -- a take that ends
  have off : ∀ (w : What) (near : Int), s.far ≤ near → near ≤ eff ds s.near m → (∀ k ∈ ths, 2 ≤ k.ph → k.f = s.far → k.f < near) →
      (∀ t, (if 4 ≤ m.ph ∧ m.x = some t then 1 else 0) + m.told.count (.got t) + conC s.far (eff ds s.near m) s.box t = (m.told ++ [w]).count (.got t) + conC s.far near s.box t) →
      Csv ds near s.far s.box (endM m w) ths := by
    intro w near hf hne k2 hc
    have e2 : eff ds near (endM m w) = near := eff_zero rfl
    refine ⟨by rw [e2]; exact hf, h.t1, by rw [e2]; exact k2, h.t3, fun _ e => (by simp [endM] at e), fun _ e => (by simp [endM] at e), fun _ e => (by simp [endM] at e), fun _ e => (by simp [endM] at e), fun t _ e => (by simp [endM] at e), fun i a b => ?_, fun t => ?_, ?_, h.tlen⟩
    · rw [e2] at b
      exact h.full i a (by omega)
    · have h1 := h.cnt t
      have h2 := hc t
      rw [e2]
      show (ds.take (m.n + 1)).count (.lay t) = (m.told ++ [w]).count (.got t) + gotC ths t + 0 + conC s.far near s.box t
      rw [laid_take ed]
      omega
    · show (m.told ++ [w]).length + lays ds (m.n + 1) = m.n + 1
      rw [hlays]
      simp
      omega
  unfold takeM
  split
  · rename_i p0
    have e1 : eff ds s.near m = s.near := eff_zero p0
    rw [e1] at hfe
    refine on 1 0 none (s.near - 1) s.far (by decide) (by rw [e1]; omega) (by omega) h.t1 (fun k hk a b => ?_) h.t3 (fun e => by simp at e) (fun e => by simp at e) (fun e => by simp at e) (Int.le_refl _) (fun t => ?_)
    · have := h.t2 k hk a b
      rw [e1] at this
      omega
    · rw [if_neg (by omega), if_neg (by simp)]
  · split
    · rename_i p0 p1
      have e1 : eff ds s.near m = s.near + 1 := eff_take ed (by omega)
      rw [e1] at hfe
      refine on 2 s.far none s.near s.far (by decide) e1.symm hfe h.t1 (fun k hk a b => by rw [← e1]; exact h.t2 k hk a b) h.t3 (fun _ => ⟨fun k hk a b => ?_, Int.le_refl _, fun e => by omega⟩) (fun e => by simp at e) (fun e => by simp at e) (Int.le_refl _) (fun t => ?_)
      · have := h.t1 k hk (by omega)
        omega
      · rw [if_neg (by omega), if_neg (by simp)]
    · have e1 : eff ds s.near m = s.near + 1 := eff_take ed (by omega)
      rw [e1] at hfe
      split
      · rename_i p0 p1 p2
        obtain ⟨o1, o2⟩ := h.o2 ed p2
        split
        · rename_i b1
          refine off .nil m.f (by omega) (by rw [e1]; omega) (fun k hk a b => ?_) (fun t => ?_)
          · have := h.t2 k hk a b
            rw [e1] at this
            omega
          · rw [if_neg (by omega), count_nil, e1, show s.near + 1 = m.f by omega]
            omega
        · split
          · rename_i b1 b2
            have hfn := o2 b2
            refine off _ s.near hfn (by rw [e1]; omega) (fun k hk a b => ?_) (fun t => ?_)
            · have h2 := h.t2 k hk a b
              rw [e1] at h2
              have h4 : k.f ≠ s.near := fun z => by
                have := h.tj ed p2 k hk a z
                omega
              omega
            · rw [if_neg (by omega), count_what, e1, conC_snoc h0 hfn]
              omega
          · rename_i b1 b2
            have en : s.near = m.f := by omega
            refine on 3 m.f (s.box s.near.toNat) s.near s.far (by decide) e1.symm hfe h.t1 (fun k hk a b => by rw [← e1]; exact h.t2 k hk a b) h.t3 (fun e => by simp at e) (fun _ => ⟨o1, fun _ => rfl⟩) (fun e => by simp at e) (Int.le_refl _) (fun t => ?_)
            rw [if_neg (by omega), if_neg (by simp)]
      · split
        · rename_i p0 p1 p2 p3
          obtain ⟨o1, o2⟩ := h.o3 ed p3
          have en := h3 (by omega)
          split
          · rename_i b1
            have hx := o2 (by omega)
            refine on 4 m.f m.x s.near (s.far + 1) (by decide) e1.symm (by omega) (fun k hk a => ?_) (fun k hk a b => ?_) (fun k hk a b => ?_) (fun e => by simp at e) (fun e => by simp at e) (fun _ => by omega) (by omega) (fun t => ?_)
            · have := h.t1 k hk a
              omega
            · have := h.t1 k hk (by omega)
              omega
            · have := h.t1 k hk (by omega)
              omega
            · rw [if_neg (by omega), conC_cons h0 (show s.far < s.near + 1 by omega), conC_nil (show s.near + 1 ≤ s.far + 1 by omega), hx, show s.far = s.near by omega]
              simp
          · rename_i b1
            refine on 4 m.f none s.near s.far (by decide) e1.symm hfe h.t1 (fun k hk a b => by rw [← e1]; exact h.t2 k hk a b) h.t3 (fun e => by simp at e) (fun e => by simp at e) (fun _ => by omega) (Int.le_refl _) (fun t => ?_)
            rw [if_neg (by omega), if_neg (by simp)]
        · rename_i p0 p1 p2 p3
          have o4 := h.o4 ed (by omega)
          have en := h3 (by omega)
          refine off (whatOf m.x) (m.f + 1) (by omega) (by rw [e1]; omega) (fun k hk a b => ?_) (fun t => ?_)
          · have := h.t2 k hk a b
            rw [e1] at this
            omega
          · rw [count_what, e1, ← en]
            have : (4 ≤ m.ph ∧ m.x = some t) ↔ m.x = some t := ⟨fun z => z.2, fun z => ⟨by omega, z⟩⟩
            simp only [this]
            omega
/-- a thief's try -/
theorem csv_try {ds : List Deed} {s : Sta} {m k : Mv} {ths : List Mv} {w : Nat} (h : Csv ds s.near s.far s.box m ths) (ek : ths[w]? = some k) (h0 : 0 ≤ s.far) (hp : k.ph ≤ 3) (h3 : ds[m.n]? = some .take → 3 ≤ m.ph → s.near = m.f) :
    Csv ds (attM false s k).1.near (attM false s k).1.far (attM false s k).1.box m (ths.set w (attM false s k).2) := by
  have hkm := List.mem_of_getElem? ek
  have hge := eff_ge ds s.near m
  have hk := h.tlen k hkm
  have mem : ∀ {k' : Mv} {P : Mv → Prop}, (∀ j ∈ ths, P j) → P k' → ∀ j ∈ ths.set w k', P j := fun {k' P} h1 h2 j hj => by
    rcases List.mem_or_eq_of_mem_set hj with e | e
    · exact h1 j e
    · rw [e]; exact h2
  -- far stays
  have stay : ∀ k' : Mv, (1 ≤ k'.ph → k'.f ≤ s.far) → (2 ≤ k'.ph → k'.f = s.far → k'.f < eff ds s.near m) → (3 ≤ k'.ph → k'.f = s.far → k'.x = s.box k'.f.toNat) →
      (ds[m.n]? = some .take → m.ph = 2 → 2 ≤ k'.ph → k'.f = s.near → s.near ≤ m.f) → (∀ t, k'.told.count (.got t) = k.told.count (.got t)) → k'.told.length = k'.n → Csv ds s.near s.far s.box m (ths.set w k') := by
    intro k' a1 a2 a3 aj hc hl
    refine ⟨h.fe, mem h.t1 a1, mem h.t2 a2, mem h.t3 a3, fun e1 e2 => mem (h.tj e1 e2) (aj e1 e2), h.o2, h.o3, h.o4, h.l1, h.full, fun t => ?_, h.len, mem h.tlen hl⟩
    have h1 := h.cnt t
    have h2 := gotC_set (t := t) (k' := k') ek
    have h4 := hc t
    omega
  unfold attM
  split
  · exact stay _ (fun _ => Int.le_refl _) (fun e => by simp at e) (fun e => by simp at e) (fun _ _ e => by simp at e) (fun t => rfl) hk
  · split
    · rename_i p0 p1
      split
      · exact stay _ (fun e => by simp [endM] at e) (fun e => by simp [endM] at e) (fun e => by simp [endM] at e) (fun _ _ e => by simp [endM] at e) (fun t => count_nil) (by show (k.told ++ [What.nil]).length = k.n + 1; simp [hk])
      · rename_i b1
        refine stay _ (fun _ => h.t1 k hkm (by omega)) (fun _ e => ?_) (fun e => by simp at e) (fun _ _ _ e => ?_) (fun t => rfl) hk
        · show k.f < _
          omega
        · have e' : k.f = s.near := e
          omega
    · split
      · rename_i p0 p1 p2
        exact stay _ (fun _ => h.t1 k hkm (by omega)) (fun _ e => h.t2 k hkm (by omega) e) (fun _ _ => rfl) (fun e1 e2 _ e => h.tj e1 e2 k hkm (by omega) e) (fun t => rfl) hk
      · rename_i p0 p1 p2
        have p3 : k.ph = 3 := by omega
        split
        · rename_i b1
          have b2 : s.far = k.f := by
            rcases b1 with b | b
            · exact b
            · cases b
          have hlt := h.t2 k hkm (by omega) b2.symm
          have hx := h.t3 k hkm (by omega) b2.symm
          show Csv ds s.near (k.f + 1) s.box m (ths.set w (endM k (whatOf k.x)))
          have old : ∀ j ∈ ths, 1 ≤ j.ph → j.f ≤ k.f := fun j hj e => by rw [← b2]; exact h.t1 j hj e
          refine ⟨by omega, mem (fun j hj e => ?_) (fun e => by simp [endM] at e), mem (fun j hj e1 e2 => ?_) (fun e => by simp [endM] at e), mem (fun j hj e1 e2 => ?_) (fun e => by simp [endM] at e), fun e1 e2 => mem (h.tj e1 e2) (fun e => by simp [endM] at e), fun e1 e2 => ?_, fun e1 e2 => ?_, fun e1 e2 => ?_, h.l1, fun i a b => h.full i (by omega) b, fun t => ?_, h.len, mem h.tlen (by show (k.told ++ [whatOf k.x]).length = k.n + 1; simp [hk])⟩
          · have := old j hj e
            omega
          · have := old j hj (by omega)
            omega
          · have := old j hj (by omega)
            omega
          · obtain ⟨o1, o2⟩ := h.o2 e1 e2
            refine ⟨by omega, fun z => ?_⟩
            have h5 := o2 z
            have : k.f ≠ s.near := fun z2 => by
              have := h.tj e1 e2 k hkm (by omega) z2
              omega
            omega
          · obtain ⟨o1, o2⟩ := h.o3 e1 e2
            have := h3 e1 (by omega)
            exact ⟨by omega, fun z => by omega⟩
          · have := h.o4 e1 e2
            have := eff_le ds s.near m
            omega
          · have h1 := h.cnt t
            have h2 := gotC_set (t := t) (k' := endM k (whatOf k.x)) ek
            have h4 : (endM k (whatOf k.x)).told.count (.got t) = k.told.count (.got t) + (if k.x = some t then 1 else 0) := count_what
            rw [conC_cons h0 (by omega), b2, ← hx] at h1
            omega
        · exact stay _ (fun e => by simp [endM] at e) (fun e => by simp [endM] at e) (fun e => by simp [endM] at e) (fun _ _ e => by simp [endM] at e) (fun t => count_lost) (by show (k.told ++ [What.lost]).length = k.n + 1; simp [hk])
def CsvS (p : Play) (s : Sta) : Prop := ∃ m ths, s.ms = m :: ths ∧ Csv p.deeds s.near s.far s.box m ths
theorem csv_step {p : Play} {s s' : Sta} {who : Nat} (ok : SOk p s) (h : CsvS p s) (e : stepM false false p s who = some s') : CsvS p s' := by
  obtain ⟨m, ths, em, hc⟩ := h
  have e0 : s.ms[0]? = some m := by rw [em]; rfl
  obtain ⟨hfar, ho⟩ := ok.own m e0
  have t3 : p.deeds[m.n]? = some .take → 3 ≤ m.ph → s.near = m.f := fun a b => ((ho.take a).2.2 b).1
  unfold stepM at e
  cases who with
  | zero =>
    simp only [e0] at e
    cases ed : p.deeds[m.n]? with
    | none => simp only [ed] at e; cases e
    | some d =>
      cases d with
      | lay t =>
        simp only [ed] at e
        cases e
        obtain ⟨l1, l2, _⟩ := ho.lay t ed
        refine ⟨(layM t s m).2, ths, ?_, csv_lay hc ed ok.far0 l2 l1⟩
        show (layM t s m).1.ms.set 0 _ = _
        rw [show (layM t s m).1.ms = s.ms by unfold layM; split <;> rfl, em]
        rfl
      | take =>
        simp only [ed] at e
        cases e
        obtain ⟨a1, a2, a3⟩ := ho.take ed
        refine ⟨(takeM false s m).2, ths, ?_, csv_take hc ed ok.far0 ho.ph (fun z => (ho.start z).1) ?_ (t3 ed)⟩
        · show (takeM false s m).1.ms.set 0 _ = _
          rw [show (takeM false s m).1.ms = s.ms by unfold takeM; (repeat' split) <;> rfl, em]
          rfl
        · have hph := ho.ph
          rcases (show m.ph = 0 ∨ m.ph = 1 ∨ m.ph = 2 ∨ 3 ≤ m.ph by omega) with z | z | z | z
          · have := (ho.start z).1
            omega
          · exact (a1 z).1
          · exact (a2 z).1
          · obtain ⟨b1, b2, _⟩ := a3 z
            omega
  | succ w =>
    cases ek : ths[w]? with
    | none =>
      rw [em, List.getElem?_cons_succ, ek] at e
      cases e
    | some k =>
      have ek' : s.ms[w + 1]? = some k := by rw [em, List.getElem?_cons_succ, ek]
      simp only [ek'] at e
      split at e
      · cases e
      · cases e
        obtain ⟨most, _, hT⟩ := ok.thf w m k e0 ek'
        refine ⟨m, ths.set w (attM false s k).2, ?_, csv_try hc ek ok.far0 hT.ph t3⟩
        show (attM false s k).1.ms.set (w + 1) _ = _
        rw [show (attM false s k).1.ms = s.ms by unfold attM; (repeat' split) <;> rfl, em]
        rfl
/-! ### how many small deeds are left -/
def lim (p : Play) : Nat → Nat
  | 0 => p.deeds.length
  | w + 1 => p.tries.getD w 0
def rem (p : Play) (s : Sta) (w : Nat) : Nat := match s.ms[w]? with
  | none => 0
  | some m => 5 * (lim p w - m.n) - m.ph
theorem take_next (bare : Bool) (s : Sta) (m : Mv) (hp : m.ph ≤ 4) : ((takeM bare s m).2.n = m.n ∧ m.ph < (takeM bare s m).2.ph ∧ (takeM bare s m).2.ph ≤ 4) ∨ ((takeM bare s m).2.n = m.n + 1 ∧ (takeM bare s m).2.ph = 0) := by
  unfold takeM
  split
  · left; refine ⟨rfl, ?_, ?_⟩ <;> simp <;> omega
  · split
    · left; refine ⟨rfl, ?_, ?_⟩ <;> simp <;> omega
    · split
      · split
        · right; exact ⟨rfl, rfl⟩
        · split
          · right; exact ⟨rfl, rfl⟩
          · left
            refine ⟨rfl, ?_, ?_⟩ <;> cases bare <;> simp <;> omega
      · split
        · split
          · left; refine ⟨rfl, ?_, ?_⟩ <;> simp <;> omega
          · left; refine ⟨rfl, ?_, ?_⟩ <;> simp <;> omega
        · right; exact ⟨rfl, rfl⟩
theorem att_next (blind : Bool) (s : Sta) (m : Mv) (hp : m.ph ≤ 3) : ((attM blind s m).2.n = m.n ∧ m.ph < (attM blind s m).2.ph ∧ (attM blind s m).2.ph ≤ 4) ∨ ((attM blind s m).2.n = m.n + 1 ∧ (attM blind s m).2.ph = 0) := by
  unfold attM
  split
  · left; refine ⟨rfl, ?_, ?_⟩ <;> simp <;> omega
  · split
    · split
      · right; exact ⟨rfl, rfl⟩
      · left; refine ⟨rfl, ?_, ?_⟩ <;> simp <;> omega
    · split
      · left; refine ⟨rfl, ?_, ?_⟩ <;> simp <;> omega
      · split
        · right; exact ⟨rfl, rfl⟩
        · right; exact ⟨rfl, rfl⟩
theorem lay_next (t : Int) (s : Sta) (m : Mv) (hp : m.ph ≤ 1) : ((layM t s m).2.n = m.n ∧ m.ph < (layM t s m).2.ph ∧ (layM t s m).2.ph ≤ 4) ∨ ((layM t s m).2.n = m.n + 1 ∧ (layM t s m).2.ph = 0) := by
  unfold layM
  split
  · left; refine ⟨rfl, ?_, ?_⟩ <;> simp <;> omega
  · right; exact ⟨rfl, rfl⟩
/-- a small deed of one: fewer are left to it, as many to the others -/
theorem rem_step {bare blind : Bool} {p : Play} {s s' : Sta} {who : Nat} (ok : SOk p s) (e : stepM bare blind p s who = some s') : rem p s' who < rem p s who ∧ ∀ v, v ≠ who → rem p s' v = rem p s v := by
  have main : ∀ (r : Sta × Mv) (m : Mv), s.ms[who]? = some m → r.1.ms = s.ms → m.ph ≤ 4 → m.n < lim p who → ((r.2.n = m.n ∧ m.ph < r.2.ph ∧ r.2.ph ≤ 4) ∨ (r.2.n = m.n + 1 ∧ r.2.ph = 0)) → rem p (putM r who) who < rem p s who ∧ ∀ v, v ≠ who → rem p (putM r who) v = rem p s v := by
    intro r m em hs h4 hl hr
    have hlt := (List.getElem?_eq_some_iff.mp em).1
    have e1 : (putM r who).ms = s.ms.set who r.2 := by show r.1.ms.set who r.2 = _; rw [hs]
    unfold rem
    refine ⟨?_, fun v hv => ?_⟩
    · rw [e1, List.getElem?_set_self hlt, em]
      show 5 * (lim p who - r.2.n) - r.2.ph < 5 * (lim p who - m.n) - m.ph
      rcases hr with ⟨a, b, c⟩ | ⟨a, b⟩ <;> omega
    · rw [e1, List.getElem?_set_ne (Ne.symm hv)]
  unfold stepM at e
  cases em : s.ms[who]? with
  | none => rw [em] at e; cases e
  | some m =>
    rw [em] at e
    cases who with
    | zero =>
      obtain ⟨_, ho⟩ := ok.own m em
      cases ed : p.deeds[m.n]? with
      | none => simp only [ed] at e; cases e
      | some d =>
        have hl : m.n < lim p 0 := (List.getElem?_eq_some_iff.mp ed).1
        cases d with
        | lay t =>
          simp only [ed] at e
          cases e
          exact main _ m em (by unfold layM; split <;> rfl) ho.ph hl (lay_next t s m (ho.lay t ed).1)
        | take =>
          simp only [ed] at e
          cases e
          exact main _ m em (by unfold takeM; (repeat' split) <;> rfl) ho.ph hl (take_next bare s m ho.ph)
    | succ w =>
      obtain ⟨m0, em0⟩ : ∃ m0, s.ms[0]? = some m0 := by
        have := (List.getElem?_eq_some_iff.mp em).1
        exact ⟨s.ms[0]'(by omega), List.getElem?_eq_getElem (by omega)⟩
      obtain ⟨most, emo, hT⟩ := ok.thf w m0 m em0 em
      simp only at e
      split at e
      · cases e
      · rename_i hne
        cases e
        have hl : m.n < lim p (w + 1) := by
          show m.n < p.tries.getD w 0
          rw [List.getD_eq_getElem?_getD, emo]
          have := hT.n
          have : m.n ≠ most := fun z => hne (by rw [emo, z])
          show m.n < most
          omega
        exact main _ m em (by unfold attM; (repeat' split) <;> rfl) (by have := hT.ph; omega) hl (att_next blind s m hT.ph)
/-- none is left: it has done all -/
theorem rem_none {bare blind : Bool} {p : Play} {s : Sta} {who : Nat} (ok : SOk p s) (hw : who ≤ p.tries.length) (h : rem p s who = 0 ∨ stepM bare blind p s who = none) : rem p s who = 0 ∧ ∀ m, s.ms[who]? = some m → m.n = lim p who ∧ (who = 0 → m.ph = 0) := by
  have hl : who < s.ms.length := by have := ok.len; omega
  have em : s.ms[who]? = some s.ms[who] := List.getElem?_eq_getElem hl
  generalize s.ms[who] = m at em
  have key : m.n = lim p who ∧ (who = 0 → m.ph = 0) → rem p s who = 0 ∧ ∀ m, s.ms[who]? = some m → m.n = lim p who ∧ (who = 0 → m.ph = 0) := fun z => by
    refine ⟨?_, fun m' e => ?_⟩
    · unfold rem
      rw [em]
      show 5 * (lim p who - m.n) - m.ph = 0
      omega
    · rw [em] at e
      cases e
      exact z
  refine key ?_
  cases who with
  | zero =>
    obtain ⟨_, ho⟩ := ok.own m em
    cases ed : p.deeds[m.n]? with
    | none =>
      have h1 := List.getElem?_eq_none_iff.mp ed
      have h2 := ho.n
      exact ⟨by show m.n = p.deeds.length; omega, fun _ => ho.last ed⟩
    | some d =>
      exfalso
      have h1 : m.n < p.deeds.length := (List.getElem?_eq_some_iff.mp ed).1
      rcases h with h | h
      · have h4 := ho.ph
        unfold rem at h
        rw [em] at h
        have h' : 5 * (p.deeds.length - m.n) - m.ph = 0 := h
        omega
      · unfold stepM at h
        cases d <;> simp [em, ed] at h
  | succ w =>
    obtain ⟨m0, em0⟩ : ∃ m0, s.ms[0]? = some m0 := ⟨s.ms[0]'(by omega), List.getElem?_eq_getElem (by omega)⟩
    obtain ⟨most, emo, hT⟩ := ok.thf w m0 m em0 em
    have el : lim p (w + 1) = most := by
      show p.tries.getD w 0 = most
      rw [List.getD_eq_getElem?_getD, emo]
      rfl
    have hn := hT.n
    have h3 := hT.ph
    have hmn : m.n = most := by
      rcases h with h | h
      · unfold rem at h
        rw [em, el] at h
        have h' : 5 * (most - m.n) - m.ph = 0 := h
        omega
      · unfold stepM at h
        rw [em] at h
        simp only at h
        split at h
        · rename_i z
          rw [emo] at z
          exact (Option.some.inj z).symm
        · cases h
    exact ⟨by rw [el]; exact hmn, fun z => by cases z⟩

/-! ### small weavings seen as whole deeds: the plain law -/
inductive Tl where
  | lay (t : Int) | take (x : Option Int) | tr (x : Option Int)
  deriving DecidableEq
structure Ent where
  d : Nat × Nat
  m : Int
  t : Tl
def rowB (r : List Int) : Tl → Option (List Int)
  | .lay t => some (r ++ [t])
  | .take none => if r = [] then some r else none
  | .tr none => if r = [] then some r else none
  | .take (some t) => if r.getLast? = some t then some r.dropLast else none
  | .tr (some t) => if r.head? = some t then some r.tail else none
def rowsB : List Int → List Tl → Option (List Int)
  | r, [] => some r
  | r, t :: ts => (rowB r t).bind fun r' => rowsB r' ts
theorem rowsB_app : ∀ {ts us : List Tl} {r : List Int}, rowsB r (ts ++ us) = (rowsB r ts).bind fun r' => rowsB r' us
  | [], us, r => rfl
  | t :: ts, us, r => by
    show (rowB r t).bind _ = ((rowB r t).bind _).bind _
    cases rowB r t with
    | none => rfl
    | some r' => exact rowsB_app
theorem rowsB_snoc {ts : List Tl} {r r1 r2 : List Int} {t : Tl} (h : rowsB r ts = some r1) (e : rowB r1 t = some r2) : rowsB r (ts ++ [t]) = some r2 := by
  rw [rowsB_app, h]
  show (rowB r1 t).bind _ = _
  rw [e]
  rfl
theorem rowsB_mid {ts us : List Tl} {r r1 r2 r3 : List Int} {t : Tl} (h : rowsB r ts = some r1) (e : rowB r1 t = some r2) (g : rowsB r2 us = some r3) : rowsB r (ts ++ t :: us) = some r3 := by
  rw [rowsB_app, h]
  show (rowB r1 t).bind _ = _
  rw [e]
  exact g
def inB (a b : Int) (box : Nat → Option Int) : List (Option Int) := (List.range' a.toNat (b - a).toNat).map box
theorem inB_nil {a b : Int} {box : Nat → Option Int} (h : b ≤ a) : inB a b box = [] := by
  unfold inB
  rw [show (b - a).toNat = 0 by omega]
  rfl
theorem inB_snoc {a b : Int} {box : Nat → Option Int} (h0 : 0 ≤ a) (h : a ≤ b) : inB a (b + 1) box = inB a b box ++ [box b.toNat] := by
  unfold inB
  rw [show (b + 1 - a).toNat = (b - a).toNat + 1 by omega, List.range'_concat, List.map_append]
  simp only [List.map_cons, List.map_nil, Nat.one_mul]
  rw [show a.toNat + (b - a).toNat = b.toNat by omega]
theorem inB_cons {a b : Int} {box : Nat → Option Int} (h0 : 0 ≤ a) (h : a < b) : inB a b box = box a.toNat :: inB (a + 1) b box := by
  unfold inB
  rw [show (b - a).toNat = (b - (a + 1)).toNat + 1 by omega, List.range'_succ, List.map_cons, show (a + 1).toNat = a.toNat + 1 by omega]
theorem inB_set {a b : Int} {box : Nat → Option Int} {u : Int} {i : Nat} (h0 : 0 ≤ a) (h : b ≤ i) : inB a b (setB box i u) = inB a b box := by
  unfold inB
  refine List.map_congr_left fun j hj => ?_
  rw [List.mem_range'_1] at hj
  unfold setB
  rw [if_neg (by omega)]
/-! ### which deeds are told, and what -/
def oiOf : What → Option (Option Int)
  | .nil => some none
  | .got t => some (some t)
  | .lost => none
theorem oiOf_of (x : Option Int) : oiOf (whatOf x) = some x := by cases x <;> rfl
def tkn (ds : List Deed) (i : Nat) : Nat := i - lays ds i
theorem tkn_succ {ds : List Deed} {i : Nat} {d : Deed} (h : ds[i]? = some d) : tkn ds (i + 1) = tkn ds i + (if d = .take then 1 else 0) := by
  have h1 := lays_succ h
  have h2 := lays_le ds i
  unfold tkn
  by_cases e : d = .take
  · rw [if_pos e] at h1 ⊢
    omega
  · rw [if_neg e] at h1 ⊢
    omega
theorem lays_step (ds : List Deed) (i : Nat) : lays ds (i + 1) ≤ lays ds i + 1 := by
  cases h : ds[i]? with
  | none =>
    unfold lays
    rw [List.take_of_length_le (by have := List.getElem?_eq_none_iff.mp h; omega), List.take_of_length_le (List.getElem?_eq_none_iff.mp h)]
    omega
  | some d =>
    rw [lays_succ h]
    split <;> omega
theorem tkn_mono (ds : List Deed) : ∀ {i j : Nat}, i ≤ j → tkn ds i ≤ tkn ds j := by
  intro i j h
  induction h with
  | refl => exact Nat.le_refl _
  | step _ ih =>
    rename_i k _
    have h1 := lays_step ds k
    have h2 := lays_le ds k
    show tkn ds i ≤ tkn ds (k + 1)
    unfold tkn at *
    omega
theorem tkn_lt {ds : List Deed} {i j : Nat} (h : ds[i]? = some .take) (l : i < j) : tkn ds i < tkn ds j := by
  have := tkn_mono ds (show i + 1 ≤ j by omega)
  rw [tkn_succ h, if_pos rfl] at this
  omega
def ownT (ds : List Deed) (near : Int) (m : Mv) : List What := m.told ++ (if ds[m.n]? = some .take ∧ (4 ≤ m.ph ∨ (m.ph = 2 ∧ near < m.f)) then [whatOf m.x] else [])
def dueL (ds : List Deed) (n : Nat) (ot : List What) (i : Nat) : Option Tl := match ds[i]? with
  | some (.lay t) => if i < n then some (.lay t) else none
  | some .take => ((ot[tkn ds i]?).bind oiOf).map Tl.take
  | none => none
def dueT (ths : List Mv) (w i : Nat) : Option Tl := (ths[w]?).bind fun k => ((k.told[i]?).bind oiOf).map Tl.tr
def due (ds : List Deed) (near : Int) (m : Mv) (ths : List Mv) : Nat × Nat → Option Tl
  | (0, i) => dueL ds m.n (ownT ds near m) i
  | (w + 1, i) => dueT ths w i
theorem dueL_take {ds : List Deed} {n n' : Nat} {ot : List What} {w : What} (h : ds[n]? = some .take) (l : ot.length = tkn ds n) (hn : n' = n ∨ n' = n + 1) (i : Nat) : dueL ds n' (ot ++ [w]) i = if i = n then (oiOf w).map Tl.take else dueL ds n ot i := by
  unfold dueL
  split
  · rename_i e
    have hin : i ≠ n := fun z => by subst z; rw [h] at e; cases e
    rw [if_neg hin]
    have : (i < n' ↔ i < n) := by omega
    simp only [this]
  · rename_i e
    by_cases hin : i = n
    · subst hin
      rw [if_pos rfl, ← l, List.getElem?_concat_length]
      rfl
    · rw [if_neg hin]
      rcases Nat.lt_or_ge i n with z | z
      · have := tkn_lt e z
        rw [List.getElem?_append_left (by omega)]
      · have := tkn_lt h (show n < i by omega)
        rw [List.getElem?_eq_none (by simp; omega), List.getElem?_eq_none (by omega)]
  · rename_i e
    rw [if_neg fun z => by subst z; rw [h] at e; cases e]
theorem dueL_end {ds : List Deed} {n : Nat} {ot : List What} (h : ds[n]? = some .take) (i : Nat) : dueL ds (n + 1) ot i = dueL ds n ot i := by
  unfold dueL
  split
  · rename_i e
    have hin : i ≠ n := fun z => by subst z; rw [h] at e; cases e
    have : (i < n + 1 ↔ i < n) := by omega
    simp only [this]
  · rfl
  · rfl
theorem dueL_lay {ds : List Deed} {n : Nat} {t : Int} {ot : List What} (h : ds[n]? = some (.lay t)) (i : Nat) : dueL ds (n + 1) ot i = if i = n then some (.lay t) else dueL ds n ot i := by
  by_cases hin : i = n
  · subst hin
    unfold dueL
    rw [if_pos rfl, h]
    simp
  · rw [if_neg hin]
    unfold dueL
    split
    · have : (i < n + 1 ↔ i < n) := by omega
      simp only [this]
    · rfl
    · rfl
theorem dueT_add {ths : List Mv} {w : Nat} {k k' : Mv} {x : What} (h : ths[w]? = some k) (l : k.told.length = k.n) (e : k'.told = k.told ++ [x]) (v i : Nat) : dueT (ths.set w k') v i = if (v + 1, i) = (w + 1, k.n) then (oiOf x).map Tl.tr else dueT ths v i := by
  have hlt := (List.getElem?_eq_some_iff.mp h).1
  unfold dueT
  by_cases hv : v = w
  · subst hv
    rw [List.getElem?_set_self hlt, h]
    show ((k'.told[i]?).bind oiOf).map Tl.tr = ite _ _ (((k.told[i]?).bind oiOf).map Tl.tr)
    rw [e]
    by_cases hi : i = k.n
    · subst hi
      rw [if_pos rfl, ← l, List.getElem?_concat_length]
      rfl
    · rw [if_neg fun z => hi (by simpa using z)]
      rcases Nat.lt_or_ge i k.n with z | z
      · rw [List.getElem?_append_left (by omega)]
      · rw [List.getElem?_eq_none (by simp; omega), List.getElem?_eq_none (by omega)]
  · rw [List.getElem?_set_ne (Ne.symm hv), if_neg fun z => hv (by simpa using congrArg Prod.fst z)]
theorem dueT_on {ths : List Mv} {w : Nat} {k k' : Mv} (h : ths[w]? = some k) (e : k'.told = k.told) (v i : Nat) : dueT (ths.set w k') v i = dueT ths v i := by
  have hlt := (List.getElem?_eq_some_iff.mp h).1
  unfold dueT
  by_cases hv : v = w
  · subst hv
    rw [List.getElem?_set_self hlt, h]
    show ((k'.told[i]?).bind oiOf).map Tl.tr = ((k.told[i]?).bind oiOf).map Tl.tr
    rw [e]
  · rw [List.getElem?_set_ne (Ne.symm hv)]
/-! ### when each deed began and was last done -/
abbrev Bgs := Nat × Nat → Option (Nat × Nat)
def bgPut (bg : Bgs) (d : Nat × Nat) (k : Nat) : Bgs := fun e => if e = d then some ((bg d).elim k Prod.fst, k) else bg e
theorem bgPut_self (bg : Bgs) (d : Nat × Nat) (k : Nat) : bgPut bg d k d = some ((bg d).elim k Prod.fst, k) := if_pos rfl
theorem bgPut_ne {bg : Bgs} {d e : Nat × Nat} {k : Nat} (h : e ≠ d) : bgPut bg d k e = bg e := if_neg h
theorem bgPut_fst {bg : Bgs} {d e : Nat × Nat} {k b l : Nat} (h : bg e = some (b, l)) : ∃ l', bgPut bg d k e = some (b, l') := by
  by_cases he : e = d
  · subst he
    exact ⟨k, by rw [bgPut_self, h]; rfl⟩
  · exact ⟨l, by rw [bgPut_ne he]; exact h⟩
structure Bk (bg : Bgs) (k : Nat) (du : Nat × Nat → Option Tl) (L : List Ent) : Prop where
  srt : L.Pairwise fun a b => a.m < b.m
  bnd : ∀ e ∈ L, ∃ b l, bg e.d = some (b, l) ∧ 2 * (b : Int) ≤ e.m ∧ e.m ≤ 2 * (l : Int)
  lt : ∀ d b l, bg d = some (b, l) → b ≤ l ∧ l < k
  key : ∀ d t, (∃ e ∈ L, e.d = d ∧ e.t = t) ↔ du d = some t
  nod : (L.map Ent.d).Nodup
theorem Bk.lt' {bg : Bgs} {k : Nat} {du : Nat × Nat → Option Tl} {L : List Ent} (h : Bk bg k du L) (d : Nat × Nat) : ∀ e b l, bgPut bg d k e = some (b, l) → b ≤ l ∧ l < k + 1 := by
  intro e b l hb
  by_cases he : e = d
  · subst he
    rw [bgPut_self] at hb
    cases hg : bg e with
    | none =>
      rw [hg] at hb
      cases hb
      exact ⟨Nat.le_refl _, by omega⟩
    | some p =>
      rw [hg] at hb
      cases hb
      have := h.lt e p.1 p.2 hg
      show p.1 ≤ k ∧ _
      omega
  · rw [bgPut_ne he] at hb
    have := h.lt e b l hb
    omega
theorem Bk.bnd' {bg : Bgs} {k : Nat} {du : Nat × Nat → Option Tl} {L : List Ent} (h : Bk bg k du L) (d : Nat × Nat) : ∀ e ∈ L, ∃ b l, bgPut bg d k e.d = some (b, l) ∧ 2 * (b : Int) ≤ e.m ∧ e.m ≤ 2 * (l : Int) := by
  intro e he
  obtain ⟨b, l, h1, h2, h3⟩ := h.bnd e he
  by_cases hd : e.d = d
  · refine ⟨b, k, ?_, h2, ?_⟩
    · rw [← hd, bgPut_self, h1]
      rfl
    · have := h.lt _ _ _ h1
      omega
  · exact ⟨b, l, by rw [bgPut_ne hd]; exact h1, h2, h3⟩
theorem Bk.stay {bg : Bgs} {k : Nat} {du du' : Nat × Nat → Option Tl} {L : List Ent} (h : Bk bg k du L) (d : Nat × Nat) (hd : ∀ e, du' e = du e) : Bk (bgPut bg d k) (k + 1) du' L :=
  ⟨h.srt, h.bnd' d, h.lt' d, fun e t => by rw [hd e]; exact h.key e t, h.nod⟩
theorem Bk.add {bg : Bgs} {k : Nat} {du du' : Nat × Nat → Option Tl} {A B : List Ent} {e0 : Ent} (h : Bk bg k du (A ++ B)) (h0 : du e0.d = none) (hd : ∀ e, du' e = if e = e0.d then some e0.t else du e)
    (ha : ∀ e ∈ A, e.m < e0.m) (hb : ∀ e ∈ B, e0.m < e.m) (h1 : e0.m ≤ 2 * (k : Int)) (h2 : ∀ b, (bg e0.d).elim k Prod.fst = b → 2 * (b : Int) ≤ e0.m) : Bk (bgPut bg e0.d k) (k + 1) du' (A ++ e0 :: B) := by
  have hm : ∀ e, e ∈ A ++ e0 :: B ↔ e ∈ A ++ B ∨ e = e0 := fun e => by simp [or_assoc, or_comm, or_left_comm]
  have hn : ∀ e ∈ A ++ B, e.d ≠ e0.d := fun e he z => by
    have := (h.key e.d e.t).mp ⟨e, he, rfl, rfl⟩
    rw [z, h0] at this
    cases this
  refine ⟨?_, fun e he => ?_, h.lt' _, fun d t => ?_, ?_⟩
  · have := h.srt
    rw [List.pairwise_append] at this ⊢
    refine ⟨this.1, List.pairwise_cons.mpr ⟨hb, this.2.1⟩, fun a ha' b hb' => ?_⟩
    rcases List.mem_cons.mp hb' with z | z
    · rw [z]; exact ha a ha'
    · exact this.2.2 a ha' b z
  · rcases (hm e).mp he with z | z
    · exact h.bnd' _ e z
    · subst z
      exact ⟨_, k, bgPut_self _ _ _, h2 _ rfl, h1⟩
  · rw [hd d]
    by_cases z : d = e0.d
    · rw [if_pos z]
      constructor
      · rintro ⟨e, he, e1, e2⟩
        rcases (hm e).mp he with y | y
        · exact absurd (e1.trans z) (hn e y)
        · rw [← e2, y]
      · intro e
        exact ⟨e0, (hm e0).mpr (.inr rfl), z.symm, by injection e⟩
    · rw [if_neg z, ← h.key d t]
      constructor
      · rintro ⟨e, he, e1, e2⟩
        rcases (hm e).mp he with y | y
        · exact ⟨e, y, e1, e2⟩
        · exact absurd (by rw [← e1, y]) z
      · rintro ⟨e, he, e1, e2⟩
        exact ⟨e, (hm e).mpr (.inl he), e1, e2⟩
  · have hnd := h.nod
    rw [List.map_append, List.map_cons] at *
    rw [List.nodup_append] at *
    refine ⟨hnd.1, List.nodup_cons.mpr ⟨fun z => ?_, hnd.2.1⟩, fun a ha' b hb' => ?_⟩
    · obtain ⟨e, he, e1⟩ := List.mem_map.mp z
      exact hn e (by simp [he]) e1
    · rcases List.mem_cons.mp hb' with z | z
      · obtain ⟨e, he, e1⟩ := List.mem_map.mp ha'
        rw [z, ← e1]
        exact hn e (by simp [he])
      · exact hnd.2.2 a ha' b z
structure Fr (bg : Bgs) (m : Mv) (ths : List Mv) : Prop where
  o : ∀ j, bg (0, j) = none ↔ (m.n < j ∨ (j = m.n ∧ m.ph = 0))
  t : ∀ (w : Nat) (k : Mv) (j : Nat), ths[w]? = some k → (bg (w + 1, j) = none ↔ (k.n < j ∨ (j = k.n ∧ k.ph = 0)))
  z : ∀ w j, ths.length ≤ w → bg (w + 1, j) = none
theorem Fr.own {bg : Bgs} {m m' : Mv} {ths : List Mv} {k : Nat} (h : Fr bg m ths) (hm : (m'.n = m.n ∧ 1 ≤ m'.ph) ∨ (m'.n = m.n + 1 ∧ m'.ph = 0)) : Fr (bgPut bg (0, m.n) k) m' ths := by
  refine ⟨fun j => ?_, fun w q j e => ?_, fun w j e => ?_⟩
  · by_cases hj : j = m.n
    · subst hj
      rw [bgPut_self]
      simp only [reduceCtorEq, false_iff]
      omega
    · rw [bgPut_ne (fun z => hj (by simpa using z)), h.o j]
      omega
  · rw [bgPut_ne (by simp)]
    exact h.t w q j e
  · rw [bgPut_ne (by simp)]
    exact h.z w j e
theorem Fr.thf {bg : Bgs} {m k k' : Mv} {ths : List Mv} {n w : Nat} (h : Fr bg m ths) (ek : ths[w]? = some k) (hm : (k'.n = k.n ∧ 1 ≤ k'.ph) ∨ (k'.n = k.n + 1 ∧ k'.ph = 0)) : Fr (bgPut bg (w + 1, k.n) n) m (ths.set w k') := by
  have hlt := (List.getElem?_eq_some_iff.mp ek).1
  refine ⟨fun j => ?_, fun v q j e => ?_, fun v j e => ?_⟩
  · rw [bgPut_ne (by simp)]
    exact h.o j
  · by_cases hv : v = w
    · subst hv
      rw [List.getElem?_set_self hlt] at e
      cases e
      by_cases hj : j = k.n
      · subst hj
        rw [bgPut_self]
        simp only [reduceCtorEq, false_iff]
        omega
      · rw [bgPut_ne (fun z => hj (by simpa using z)), h.t v k j ek]
        omega
    · rw [List.getElem?_set_ne (Ne.symm hv)] at e
      rw [bgPut_ne (fun z => hv (by simpa using congrArg Prod.fst z))]
      exact h.t v q j e
  · rw [List.length_set] at e
    rw [bgPut_ne (fun z => by have := congrArg Prod.fst z; simp at this; omega)]
    exact h.z v j e

/-! ### small weavings seen as whole deeds: each small deed -/
structure Pend (near far : Int) (box : Nat → Option Int) (m : Mv) (ths : List Mv) (bg : Bgs) (A B : List Ent) (far1 : Int) (r : List Int) (x : Int) (row : List Int) (b0 l0 : Nat) : Prop where
  f0 : 0 ≤ far1
  f1 : far1 ≤ far
  ra : rowsB [] (A.map Ent.t) = some (r ++ [x])
  bx : box near.toNat = some x
  rb : r.map some = inB far1 near box
  rk : rowsB r (B.map Ent.t) = some row
  rl : row.map some = inB far near box
  gb : bg (0, m.n) = some (b0, l0)
  am : ∀ e ∈ A, e.m < 2 * (b0 : Int) - 1
  bm : ∀ e ∈ B, 2 * (b0 : Int) < e.m
  th : ∀ (w : Nat) k, ths[w]? = some k → 2 ≤ k.ph → near ≤ k.f → k.f ≤ far1 ∧ ∃ b l, bg (w + 1, k.n) = some (b, l) ∧ b < b0
structure Sn (ds : List Deed) (near far : Int) (box : Nat → Option Int) (m : Mv) (ths : List Mv) (k : Nat) (bg : Bgs) (A B : List Ent) : Prop where
  bk : Bk bg k (due ds near m ths) (A ++ B)
  fr : Fr bg m ths
  mi : ¬ (ds[m.n]? = some .take ∧ 1 ≤ m.ph) → B = [] ∧ ∃ row, rowsB [] (A.map Ent.t) = some row ∧ row.map some = inB far near box
  mp : ds[m.n]? = some .take → 1 ≤ m.ph → far ≤ near → ∃ far1 r x row b0 l0, Pend near far box m ths bg A B far1 r x row b0 l0
  me : ds[m.n]? = some .take → 1 ≤ m.ph → near < far → B = [] ∧ rowsB [] (A.map Ent.t) = some []
def Em (d : Nat × Nat) (A B A' B' : List Ent) : Option Int → Prop
  | none => A' ++ B' = A ++ B
  | some mo => ∃ A1 B1 t, A ++ B = A1 ++ B1 ∧ A' ++ B' = A1 ++ ⟨d, mo, t⟩ :: B1
def begO (bg : Bgs) (m : Mv) (k : Nat) : Nat := (bg (0, m.n)).elim k Prod.fst
def evO (ds : List Deed) (near far : Int) (m : Mv) (bg : Bgs) (k : Nat) : Option Int :=
  if ds[m.n]? = some .take then
    if m.ph = 1 then (if near < far then some (2 * (k : Int)) else none)
    else if m.ph = 2 then (if m.f < near then some (2 * (begO bg m k : Int)) else none)
    else if m.ph = 3 then some (if far = m.f then 2 * (begO bg m k : Int) else 2 * (k : Int))
    else none
  else if m.ph = 0 then none else some (2 * (k : Int))
def evT (ds : List Deed) (near far : Int) (m : Mv) (q : Mv) (bg : Bgs) (k : Nat) : Option Int :=
  if q.ph = 1 then (if near ≤ q.f then some (2 * (k : Int)) else none)
  else if q.ph = 3 then (if far = q.f then some (if ds[m.n]? = some .take ∧ 1 ≤ m.ph ∧ near = q.f then 2 * (begO bg m k : Int) - 1 else 2 * (k : Int)) else none)
  else none
/-! ownT, due -/
theorem ownT_no {ds : List Deed} {near : Int} {m : Mv} (h : ¬ (ds[m.n]? = some .take ∧ (4 ≤ m.ph ∨ (m.ph = 2 ∧ near < m.f)))) : ownT ds near m = m.told := by
  unfold ownT
  rw [if_neg h, List.append_nil]
theorem ownT_yes {ds : List Deed} {near : Int} {m : Mv} (h : ds[m.n]? = some .take) (h2 : 4 ≤ m.ph ∨ (m.ph = 2 ∧ near < m.f)) : ownT ds near m = m.told ++ [whatOf m.x] := by
  unfold ownT
  rw [if_pos ⟨h, h2⟩]
theorem ownM_no {ds : List Deed} {near : Int} {n ph : Nat} {f : Int} {x : Option Int} {told : List What} (h : ¬ (4 ≤ ph ∨ (ph = 2 ∧ near < f))) : ownT ds near ⟨n, ph, f, x, told⟩ = told := ownT_no fun z => h z.2
theorem ownM_yes {ds : List Deed} {near : Int} {n ph : Nat} {f : Int} {x : Option Int} {told : List What} (h : ds[n]? = some .take) (h2 : 4 ≤ ph ∨ (ph = 2 ∧ near < f)) : ownT ds near ⟨n, ph, f, x, told⟩ = told ++ [whatOf x] := ownT_yes h h2
theorem due_own {ds : List Deed} {near near' : Int} {m m' : Mv} {ths : List Mv} {t : Tl} (h : ∀ i, dueL ds m'.n (ownT ds near' m') i = if i = m.n then some t else dueL ds m.n (ownT ds near m) i) (e : Nat × Nat) : due ds near' m' ths e = if e = (0, m.n) then some t else due ds near m ths e := by
  obtain ⟨v, i⟩ := e
  cases v with
  | zero =>
    show dueL _ _ _ _ = _
    rw [h i]
    by_cases z : i = m.n
    · rw [if_pos z, if_pos (by rw [z])]
    · rw [if_neg z, if_neg (fun y => z (by simpa using y))]
      rfl
  | succ v =>
    rw [if_neg (by simp)]
    rfl
theorem due_same {ds : List Deed} {near near' : Int} {m m' : Mv} {ths : List Mv} (h : ∀ i, dueL ds m'.n (ownT ds near' m') i = dueL ds m.n (ownT ds near m) i) (e : Nat × Nat) : due ds near' m' ths e = due ds near m ths e := by
  obtain ⟨v, i⟩ := e
  cases v with
  | zero => exact h i
  | succ v => rfl
theorem tkn_len {ds : List Deed} {near far : Int} {box : Nat → Option Int} {m : Mv} {ths : List Mv} (c : Csv ds near far box m ths) : m.told.length = tkn ds m.n := by
  have := c.len
  unfold tkn
  omega
theorem dueL_none {ds : List Deed} {n : Nat} {ot : List What} (l : ds[n]? = some .take → ot.length = tkn ds n) : dueL ds n ot n = none := by
  unfold dueL
  split
  · simp
  · rename_i e
    rw [List.getElem?_eq_none (by rw [l e]; exact Nat.le_refl _)]
    rfl
  · rfl
theorem map_snoc {row : List Int} {l : List (Option Int)} {o : Option Int} (h : row.map some = l ++ [o]) : ∃ r x, row = r ++ [x] ∧ r.map some = l ∧ o = some x := by
  rcases List.eq_nil_or_concat row with e | ⟨r, x, e⟩
  · subst e
    have := congrArg List.length h
    simp at this
  · rw [List.concat_eq_append] at e
    subst e
    rw [List.map_append] at h
    have := List.append_inj_right' h rfl
    have h2 := List.append_inj_left' h rfl
    exact ⟨r, x, rfl, h2, by simpa using this.symm⟩
theorem map_nil {row : List Int} {l : List (Option Int)} (h : row.map some = l) (e : l = []) : row = [] := by
  subst e
  exact List.map_eq_nil_iff.mp h
section
variable {ds : List Deed} {near far : Int} {box : Nat → Option Int} {m : Mv} {ths : List Mv} {k : Nat} {bg : Bgs} {A B : List Ent}
theorem Bk.below {du : Nat × Nat → Option Tl} {L : List Ent} (h : Bk bg k du L) : ∀ e ∈ L, e.m ≤ 2 * (k : Int) - 2 := fun e he => by
  obtain ⟨b, l, h1, _, h3⟩ := h.bnd e he
  have := h.lt _ _ _ h1
  omega
theorem Sn.beg (h : Sn ds near far box m ths k bg A B) (hp : 1 ≤ m.ph) : ∃ b l, bg (0, m.n) = some (b, l) := by
  cases e : bg (0, m.n) with
  | some p => exact ⟨p.1, p.2, rfl⟩
  | none =>
    have := (h.fr.o m.n).mp e
    omega
theorem Sn.begT (h : Sn ds near far box m ths k bg A B) {w : Nat} {q : Mv} (hq : ths[w]? = some q) (hp : 1 ≤ q.ph) : ∃ b l, bg (w + 1, q.n) = some (b, l) := by
  cases e : bg (w + 1, q.n) with
  | some p => exact ⟨p.1, p.2, rfl⟩
  | none =>
    have := (h.fr.t w q q.n hq).mp e
    omega
/-- the owner lays -/
theorem Sn.lay0 {t : Int} (h : Sn ds near far box m ths k bg A B) (ed : ds[m.n]? = some (.lay t)) (hp : m.ph = 0) (h0 : 0 ≤ far) (hn : 0 ≤ near) : Sn ds near far (setB box near.toNat t) ⟨m.n, 1, 0, none, m.told⟩ ths (k + 1) (bgPut bg (0, m.n) k) A B := by
  have n1 : ∀ ph f x, ¬ (ds[(⟨m.n, ph, f, x, m.told⟩ : Mv).n]? = some .take ∧ 1 ≤ ph) := fun _ _ _ z => by
    have := z.1
    rw [show (ds[(⟨m.n, _, _, _, m.told⟩ : Mv).n]? : Option Deed) = ds[m.n]? from rfl, ed] at this
    cases this
  refine ⟨h.bk.stay _ (due_same fun i => ?_), h.fr.own (.inl ⟨rfl, Nat.le_refl _⟩), fun _ => ?_, fun e => (by rw [show (ds[(⟨m.n, _, _, _, m.told⟩ : Mv).n]? : Option Deed) = ds[m.n]? from rfl, ed] at e; cases e), fun e => (by rw [show (ds[(⟨m.n, _, _, _, m.told⟩ : Mv).n]? : Option Deed) = ds[m.n]? from rfl, ed] at e; cases e)⟩
  · rw [ownT_no (fun z => by have := z.1; rw [ed] at this; cases this), ownT_no (fun z => by have := z.1; rw [ed] at this; cases this)]
  · obtain ⟨hB, row, h1, h2⟩ := h.mi (fun z => by have := z.1; rw [ed] at this; cases this)
    exact ⟨hB, row, h1, by rw [inB_set h0 (by omega)]; exact h2⟩
theorem Sn.lay1 {t : Int} (h : Sn ds near far box m ths k bg A B) (ed : ds[m.n]? = some (.lay t)) (hp : m.ph = 1) (h0 : 0 ≤ far) (hf : far ≤ near) (hb : box near.toNat = some t) : ∃ A' B', Sn ds (near + 1) far box ⟨m.n + 1, 0, 0, none, m.told⟩ ths (k + 1) (bgPut bg (0, m.n) k) A' B' ∧ Em (0, m.n) A B A' B' (some (2 * (k : Int))) := by
  obtain ⟨hB, row, h1, h2⟩ := h.mi (fun z => by have := z.1; rw [ed] at this; cases this)
  subst hB
  have hno : ownT ds near m = m.told := ownT_no (fun z => by have := z.1; rw [ed] at this; cases this)
  have hbw := h.bk.below
  obtain ⟨b0, l0, hg⟩ := h.beg (by omega)
  have hlt := h.bk.lt _ _ _ hg
  refine ⟨A ++ [⟨(0, m.n), 2 * (k : Int), .lay t⟩], [], ⟨?_, h.fr.own (.inr ⟨rfl, rfl⟩), fun _ => ⟨rfl, row ++ [t], ?_, ?_⟩, fun _ e => (by simp at e), fun _ e => (by simp at e)⟩, A, [], .lay t, rfl, by simp⟩
  · rw [List.append_nil]
    refine Bk.add (e0 := ⟨(0, m.n), 2 * (k : Int), .lay t⟩) h.bk ?_ (due_own fun i => ?_) (fun e he => by have := hbw e (by simp [he]); show e.m < 2 * (k : Int); omega) (fun e he => by cases he) (Int.le_refl _) (fun b e => ?_)
    · show dueL ds m.n _ m.n = none
      exact dueL_none (fun e => by rw [ed] at e; cases e)
    · rw [hno, ownT_no (fun z => by simp at z)]
      exact dueL_lay ed i
    · simp only [hg, Option.elim] at e
      show 2 * (b : Int) ≤ 2 * (k : Int)
      omega
  · rw [List.map_append]
    exact rowsB_snoc h1 rfl
  · rw [List.map_append, h2, inB_snoc h0 hf, hb]
    rfl
/-- the owner takes -/
theorem Sn.tk0 (h : Sn ds near far box m ths k bg A B) (c : Csv ds near far box m ths) (ed : ds[m.n]? = some .take) (hp : m.ph = 0) (h0 : 0 ≤ far) : Sn ds (near - 1) far box ⟨m.n, 1, 0, none, m.told⟩ ths (k + 1) (bgPut bg (0, m.n) k) A B := by
  have hfe := c.fe
  rw [eff_zero hp] at hfe
  obtain ⟨hB, row, h1, h2⟩ := h.mi (fun z => by omega)
  subst hB
  have hg : bg (0, m.n) = none := (h.fr.o m.n).mpr (.inr ⟨rfl, hp⟩)
  refine ⟨h.bk.stay _ (due_same fun i => ?_), h.fr.own (.inl ⟨rfl, Nat.le_refl _⟩), fun e => absurd ⟨ed, Nat.le_refl _⟩ e, fun _ _ hf => ?_, fun _ _ hf => ⟨rfl, ?_⟩⟩
  · rw [ownT_no (m := m) (fun z => by have := z.2; omega), ownM_no (by omega)]
  · have e1 : inB far near box = inB far (near - 1) box ++ [box (near - 1).toNat] := by
      have := @inB_snoc far (near - 1) box h0 hf
      rw [show near - 1 + 1 = near by omega] at this
      exact this
    rw [e1] at h2
    obtain ⟨r, x, rfl, h3, h4⟩ := map_snoc h2
    refine ⟨far, r, x, r, k, k, h0, Int.le_refl _, h1, h4, h3, rfl, h3, ?_, fun e he => ?_, fun e he => (by cases he), fun w q hq hq2 hq3 => ⟨c.t1 q (List.mem_of_getElem? hq) (by omega), ?_⟩⟩
    · show bgPut bg (0, m.n) k (0, m.n) = _
      rw [bgPut_self, hg]
      rfl
    · have := h.bk.below e (by simp [he])
      omega
    · obtain ⟨b, l, hb⟩ := h.begT hq (by omega)
      have := h.bk.lt _ _ _ hb
      exact ⟨b, l, by rw [bgPut_ne (by simp)]; exact hb, by omega⟩
  · rw [inB_nil (by omega)] at h2
    have := map_nil h2 rfl
    subst this
    exact h1
theorem Pend.on {ths' : List Mv} {m' : Mv} {A' B' : List Ent} {far1 : Int} {r row : List Int} {x : Int} {b0 l0 : Nat} {d : Nat × Nat} (p : Pend near far box m ths bg A B far1 r x row b0 l0) (hn : m'.n = m.n) (k : Nat)
    (ht : ∀ (w : Nat) q, ths'[w]? = some q → 2 ≤ q.ph → near ≤ q.f → ∃ q', ths[w]? = some q' ∧ 2 ≤ q'.ph ∧ q'.f = q.f ∧ q'.n = q.n) : ∃ l0, Pend near far box m' ths' (bgPut bg d k) A B far1 r x row b0 l0 := by
  obtain ⟨l', hl⟩ := bgPut_fst (d := d) (k := k) p.gb
  refine ⟨l', p.f0, p.f1, p.ra, p.bx, p.rb, p.rk, p.rl, by rw [hn]; exact hl, p.am, p.bm, fun w q hq h2 h3 => ?_⟩
  obtain ⟨q', e1, e2, e3, e4⟩ := ht w q hq h2 h3
  obtain ⟨a1, b, l, a2, a3⟩ := p.th w q' e1 e2 (by omega)
  obtain ⟨l2, hl2⟩ := bgPut_fst (d := d) (k := k) a2
  exact ⟨by omega, b, l2, by rw [← e4]; exact hl2, a3⟩
theorem same_ths : ∀ (w : Nat) q, ths[w]? = some q → 2 ≤ q.ph → near ≤ q.f → ∃ q', ths[w]? = some q' ∧ 2 ≤ q'.ph ∧ q'.f = q.f ∧ q'.n = q.n := fun w q h h2 _ => ⟨q, h, h2, rfl, rfl⟩
theorem Sn.tk1 (h : Sn ds near far box m ths k bg A B) (c : Csv ds near far box m ths) (ed : ds[m.n]? = some .take) (hp : m.ph = 1) : ∃ A' B', Sn ds near far box ⟨m.n, 2, far, none, m.told⟩ ths (k + 1) (bgPut bg (0, m.n) k) A' B' ∧ Em (0, m.n) A B A' B' (if near < far then some (2 * (k : Int)) else none) := by
  have hno : ownT ds near m = m.told := ownT_no (fun z => by have := z.2; omega)
  by_cases hf : near < far
  · rw [if_pos hf]
    obtain ⟨hB, h1⟩ := h.me ed (by omega) hf
    subst hB
    have hbw := h.bk.below
    obtain ⟨b0, l0, hg⟩ := h.beg (by omega)
    have hlt := h.bk.lt _ _ _ hg
    refine ⟨A ++ [⟨(0, m.n), 2 * (k : Int), .take none⟩], [], ⟨?_, h.fr.own (.inl ⟨rfl, Nat.le_of_ble_eq_true rfl⟩), fun e => absurd ⟨ed, Nat.le_of_ble_eq_true rfl⟩ e, fun _ _ e => absurd e (by omega), fun _ _ _ => ⟨rfl, ?_⟩⟩, A, [], .take none, rfl, by simp⟩
    · rw [List.append_nil]
      refine Bk.add (e0 := ⟨(0, m.n), 2 * (k : Int), .take none⟩) h.bk ?_ (due_own fun i => ?_) (fun e he => by have := hbw e (by simp [he]); show e.m < 2 * (k : Int); omega) (fun e he => by cases he) (Int.le_refl _) (fun b e => ?_)
      · show dueL ds m.n _ m.n = none
        exact dueL_none (fun e => by rw [hno]; exact tkn_len c)
      · rw [hno, ownM_yes ed (.inr ⟨rfl, hf⟩)]
        exact dueL_take ed (tkn_len c) (.inl rfl) i
      · simp only [hg, Option.elim] at e
        show 2 * (b : Int) ≤ 2 * (k : Int)
        omega
    · rw [List.map_append]
      exact rowsB_snoc h1 rfl
  · rw [if_neg hf]
    obtain ⟨far1, r, x, row, b0, l0, p⟩ := h.mp ed (by omega) (by omega)
    refine ⟨A, B, ⟨h.bk.stay _ (due_same fun i => ?_), h.fr.own (.inl ⟨rfl, Nat.le_of_ble_eq_true rfl⟩), fun e => absurd ⟨ed, Nat.le_of_ble_eq_true rfl⟩ e, fun _ _ _ => ?_, fun _ _ e => absurd e hf⟩, rfl⟩
    · rw [hno, ownM_no (by omega)]
    · obtain ⟨l', p'⟩ := p.on (m' := ⟨m.n, 2, far, none, m.told⟩) (d := (0, m.n)) (A' := A) (B' := B) rfl k same_ths
      exact ⟨far1, r, x, row, b0, l', p'⟩
theorem Sn.tk2a (h : Sn ds near far box m ths k bg A B) (c : Csv ds near far box m ths) (ed : ds[m.n]? = some .take) (hp : m.ph = 2) (hx : m.x = none) (hf : near < m.f) : Sn ds m.f far box (endM m .nil) ths (k + 1) (bgPut bg (0, m.n) k) A B := by
  have hfe := c.fe
  rw [eff_take ed (by omega)] at hfe
  obtain ⟨o1, o2⟩ := c.o2 ed hp
  obtain ⟨hB, h1⟩ := h.me ed (by omega) (by omega)
  refine ⟨h.bk.stay _ (due_same fun i => ?_), h.fr.own (.inr ⟨rfl, rfl⟩), fun _ => ⟨hB, [], h1, (inB_nil (by omega)).symm⟩, fun _ e => (by simp [endM] at e), fun _ e => (by simp [endM] at e)⟩
  rw [ownT_yes ed (.inr ⟨hp, hf⟩), ownT_no (fun z => by have := z.2; simp [endM] at this), hx]
  exact dueL_end ed i
theorem Sn.tkGot (h : Sn ds near far box m ths k bg A B) (c : Csv ds near far box m ths) (ed : ds[m.n]? = some .take) (hp : 1 ≤ m.ph) (hno : ownT ds near m = m.told) (hf : far ≤ near) {near' : Int} {m' : Mv}
    (hot : ownT ds near' m' = m.told ++ [whatOf (box near.toNat)]) (hn : m'.n = m.n ∨ m'.n = m.n + 1) :
    ∃ row, Bk (bgPut bg (0, m.n) k) (k + 1) (due ds near' m' ths) (A ++ ⟨(0, m.n), 2 * (begO bg m k : Int), .take (box near.toNat)⟩ :: B) ∧ rowsB [] ((A ++ ⟨(0, m.n), 2 * (begO bg m k : Int), .take (box near.toNat)⟩ :: B).map Ent.t) = some row ∧ row.map some = inB far near box := by
  obtain ⟨far1, r, x, row, b0, l0, p⟩ := h.mp ed hp hf
  have hb : begO bg m k = b0 := by unfold begO; rw [p.gb]; rfl
  have hlt := h.bk.lt _ _ _ p.gb
  rw [hb]
  refine ⟨row, Bk.add (e0 := ⟨(0, m.n), 2 * (b0 : Int), .take (box near.toNat)⟩) h.bk ?_ (due_own fun i => ?_) (fun e he => by have := p.am e he; show e.m < 2 * (b0 : Int); omega) (fun e he => p.bm e he) ?_ (fun b e => ?_), ?_, p.rl⟩
  · show dueL ds m.n _ m.n = none
    exact dueL_none (fun e => by rw [hno]; exact tkn_len c)
  · rw [hno, hot, dueL_take ed (tkn_len c) hn i, oiOf_of]
    rfl
  · show 2 * (b0 : Int) ≤ 2 * (k : Int)
    omega
  · simp only [p.gb, Option.elim] at e
    show 2 * (b : Int) ≤ 2 * (b0 : Int)
    omega
  · rw [List.map_append, List.map_cons]
    refine rowsB_mid p.ra ?_ p.rk
    show rowB (r ++ [x]) (.take (box near.toNat)) = some r
    rw [p.bx]
    unfold rowB
    simp
theorem Sn.tk2b (h : Sn ds near far box m ths k bg A B) (c : Csv ds near far box m ths) (ed : ds[m.n]? = some .take) (hp : m.ph = 2) (hf : m.f < near) : ∃ A' B', Sn ds near far box (endM m (whatOf (box near.toNat))) ths (k + 1) (bgPut bg (0, m.n) k) A' B' ∧ Em (0, m.n) A B A' B' (some (2 * (begO bg m k : Int))) := by
  obtain ⟨o1, o2⟩ := c.o2 ed hp
  obtain ⟨row, h1, h2, h3⟩ := h.tkGot c ed (by omega) (ownT_no (fun z => by have := z.2; omega)) (o2 hf) (near' := near) (m' := endM m (whatOf (box near.toNat))) (ownT_no (fun z => by have := z.2; simp [endM] at this)) (.inr rfl)
  refine ⟨_, [], ⟨by rw [List.append_nil]; exact h1, h.fr.own (.inr ⟨rfl, rfl⟩), fun _ => ⟨rfl, row, h2, h3⟩, fun _ e => (by simp [endM] at e), fun _ e => (by simp [endM] at e)⟩, A, B, _, rfl, by rw [List.append_nil]⟩
theorem Sn.tk2c (h : Sn ds near far box m ths k bg A B) (ed : ds[m.n]? = some .take) (hp : m.ph = 2) (hf : near = m.f) {x : Option Int} : Sn ds near far box ⟨m.n, 3, m.f, x, m.told⟩ ths (k + 1) (bgPut bg (0, m.n) k) A B := by
  refine ⟨h.bk.stay _ (due_same fun i => ?_), h.fr.own (.inl ⟨rfl, Nat.le_of_ble_eq_true rfl⟩), fun e => absurd ⟨ed, Nat.le_of_ble_eq_true rfl⟩ e, fun _ _ hf => ?_, fun _ _ e => h.me ed (by omega) e⟩
  · rw [ownT_no (m := m) (fun z => by have := z.2; omega), ownM_no (by omega)]
  · obtain ⟨far1, r, y, row, b0, l0, p⟩ := h.mp ed (by omega) hf
    obtain ⟨l', p'⟩ := p.on (m' := ⟨m.n, 3, m.f, x, m.told⟩) (d := (0, m.n)) (A' := A) (B' := B) rfl k same_ths
    exact ⟨far1, r, y, row, b0, l', p'⟩
theorem Sn.tk3a (h : Sn ds near far box m ths k bg A B) (c : Csv ds near far box m ths) (ed : ds[m.n]? = some .take) (hp : m.ph = 3) (hn : near = m.f) (hf : far = m.f) : ∃ A' B', Sn ds near (far + 1) box ⟨m.n, 4, m.f, m.x, m.told⟩ ths (k + 1) (bgPut bg (0, m.n) k) A' B' ∧ Em (0, m.n) A B A' B' (some (2 * (begO bg m k : Int))) := by
  obtain ⟨o1, o2⟩ := c.o3 ed hp
  have hx := o2 (by omega)
  obtain ⟨row, h1, h2, h3⟩ := h.tkGot c ed (by omega) (ownT_no (fun z => by have := z.2; omega)) (by omega) (near' := near) (m' := ⟨m.n, 4, m.f, m.x, m.told⟩) (by rw [ownM_yes ed (.inl (Nat.le_refl _)), ← hx]) (.inl rfl)
  have := map_nil h3 (inB_nil (by omega))
  subst this
  exact ⟨_, [], ⟨by rw [List.append_nil]; exact h1, h.fr.own (.inl ⟨rfl, Nat.le_of_ble_eq_true rfl⟩), fun e => absurd ⟨ed, Nat.le_of_ble_eq_true rfl⟩ e, fun _ _ e => absurd e (by omega), fun _ _ _ => ⟨rfl, h2⟩⟩, A, B, _, rfl, by rw [List.append_nil]⟩
theorem Sn.tk3b (h : Sn ds near far box m ths k bg A B) (c : Csv ds near far box m ths) (ed : ds[m.n]? = some .take) (hp : m.ph = 3) (hn : near = m.f) (hf : far ≠ m.f) : ∃ A' B', Sn ds near far box ⟨m.n, 4, m.f, none, m.told⟩ ths (k + 1) (bgPut bg (0, m.n) k) A' B' ∧ Em (0, m.n) A B A' B' (some (2 * (k : Int))) := by
  have hno : ownT ds near m = m.told := ownT_no (fun z => by have := z.2; omega)
  obtain ⟨o1, o2⟩ := c.o3 ed hp
  obtain ⟨hB, h1⟩ := h.me ed (by omega) (by omega)
  subst hB
  have hbw := h.bk.below
  obtain ⟨b0, l0, hg⟩ := h.beg (by omega)
  have hlt := h.bk.lt _ _ _ hg
  refine ⟨A ++ [⟨(0, m.n), 2 * (k : Int), .take none⟩], [], ⟨?_, h.fr.own (.inl ⟨rfl, Nat.le_of_ble_eq_true rfl⟩), fun e => absurd ⟨ed, Nat.le_of_ble_eq_true rfl⟩ e, fun _ _ e => absurd e (by omega), fun _ _ _ => ⟨rfl, ?_⟩⟩, A, [], .take none, rfl, by simp⟩
  · rw [List.append_nil]
    refine Bk.add (e0 := ⟨(0, m.n), 2 * (k : Int), .take none⟩) h.bk ?_ (due_own fun i => ?_) (fun e he => by have := hbw e (by simp [he]); show e.m < 2 * (k : Int); omega) (fun e he => by cases he) (Int.le_refl _) (fun b e => ?_)
    · show dueL ds m.n _ m.n = none
      exact dueL_none (fun e => by rw [hno]; exact tkn_len c)
    · rw [hno, ownM_yes ed (.inl (Nat.le_refl _))]
      exact dueL_take ed (tkn_len c) (.inl rfl) i
    · simp only [hg, Option.elim] at e
      show 2 * (b : Int) ≤ 2 * (k : Int)
      omega
  · rw [List.map_append]
    exact rowsB_snoc h1 rfl
theorem Sn.tk4 (h : Sn ds near far box m ths k bg A B) (c : Csv ds near far box m ths) (ed : ds[m.n]? = some .take) (hp : 4 ≤ m.ph) (hn : near = m.f) : Sn ds (m.f + 1) far box (endM m (whatOf m.x)) ths (k + 1) (bgPut bg (0, m.n) k) A B := by
  have o4 := c.o4 ed hp
  obtain ⟨hB, h1⟩ := h.me ed (by omega) (by omega)
  refine ⟨h.bk.stay _ (due_same fun i => ?_), h.fr.own (.inr ⟨rfl, rfl⟩), fun _ => ⟨hB, [], h1, (inB_nil (by omega)).symm⟩, fun _ e => (by simp [endM] at e), fun _ e => (by simp [endM] at e)⟩
  rw [ownT_yes ed (.inl hp), ownT_no (fun z => by have := z.2; simp [endM] at this)]
  exact dueL_end ed i
/-! a thief -/
theorem set_ths {w : Nat} {q q' : Mv} (eq : ths[w]? = some q) (h : 2 ≤ q'.ph → near ≤ q'.f → 2 ≤ q.ph ∧ q.f = q'.f ∧ q.n = q'.n) : ∀ (v : Nat) z, (ths.set w q')[v]? = some z → 2 ≤ z.ph → near ≤ z.f → ∃ y, ths[v]? = some y ∧ 2 ≤ y.ph ∧ y.f = z.f ∧ y.n = z.n := fun v z hz h2 h3 => by
  have hlt := (List.getElem?_eq_some_iff.mp eq).1
  by_cases e : v = w
  · subst e
    rw [List.getElem?_set_self hlt] at hz
    cases hz
    exact ⟨q, eq, h h2 h3⟩
  · rw [List.getElem?_set_ne (Ne.symm e)] at hz
    exact ⟨z, hz, h2, rfl, rfl⟩
theorem due_ths {w : Nat} {q q' : Mv} {t : Tl} (h : ∀ v i, dueT (ths.set w q') v i = if (v + 1, i) = (w + 1, q.n) then some t else dueT ths v i) (e : Nat × Nat) : due ds near m (ths.set w q') e = if e = (w + 1, q.n) then some t else due ds near m ths e := by
  obtain ⟨v, i⟩ := e
  cases v with
  | zero =>
    rw [if_neg (by simp)]
    rfl
  | succ v => exact h v i
theorem due_thsS {w : Nat} {q' : Mv} (h : ∀ v i, dueT (ths.set w q') v i = dueT ths v i) (e : Nat × Nat) : due ds near m (ths.set w q') e = due ds near m ths e := by
  obtain ⟨v, i⟩ := e
  cases v with
  | zero => rfl
  | succ v => exact h v i
/-- a try goes on, or is lost -/
theorem Sn.thOn (h : Sn ds near far box m ths k bg A B) {w : Nat} {q q' : Mv} (eq : ths[w]? = some q) (hq : (q'.n = q.n ∧ 1 ≤ q'.ph) ∨ (q'.n = q.n + 1 ∧ q'.ph = 0)) (hd : ∀ v i, dueT (ths.set w q') v i = dueT ths v i)
    (ht : 2 ≤ q'.ph → near ≤ q'.f → 2 ≤ q.ph ∧ q.f = q'.f ∧ q.n = q'.n) : Sn ds near far box m (ths.set w q') (k + 1) (bgPut bg (w + 1, q.n) k) A B := by
  refine ⟨h.bk.stay _ (due_thsS hd), h.fr.thf eq hq, h.mi, fun a b c => ?_, h.me⟩
  obtain ⟨far1, r, x, row, b0, l0, p⟩ := h.mp a b c
  obtain ⟨l', p'⟩ := p.on (m' := m) (d := (w + 1, q.n)) (A' := A) (B' := B) rfl k (set_ths eq ht)
  exact ⟨far1, r, x, row, b0, l', p'⟩
theorem dueT_none {w : Nat} {q : Mv} (eq : ths[w]? = some q) (l : q.told.length = q.n) : dueT ths w q.n = none := by
  unfold dueT
  rw [eq]
  show ((q.told[q.n]?).bind oiOf).map Tl.tr = none
  rw [List.getElem?_eq_none (by omega)]
  rfl
theorem Sn.th1 (h : Sn ds near far box m ths k bg A B) (c : Csv ds near far box m ths) {w : Nat} {q : Mv} (eq : ths[w]? = some q) (hp : q.ph = 1) (hf : near ≤ q.f) : ∃ A' B', Sn ds near far box m (ths.set w (endM q .nil)) (k + 1) (bgPut bg (w + 1, q.n) k) A' B' ∧ Em (w + 1, q.n) A B A' B' (some (2 * (k : Int))) := by
  have hl := c.tlen q (List.mem_of_getElem? eq)
  have ht1 := c.t1 q (List.mem_of_getElem? eq) (by omega)
  have hbw := h.bk.below
  obtain ⟨b1, l1, hg⟩ := h.begT eq (by omega)
  have hlt := h.bk.lt _ _ _ hg
  have hbk : Bk (bgPut bg (w + 1, q.n) k) (k + 1) (due ds near m (ths.set w (endM q .nil))) ((A ++ B) ++ ⟨(w + 1, q.n), 2 * (k : Int), .tr none⟩ :: []) := by
    refine Bk.add (e0 := ⟨(w + 1, q.n), 2 * (k : Int), .tr none⟩) (by rw [List.append_nil]; exact h.bk) (dueT_none eq hl) (due_ths (t := .tr none) fun v i => dueT_add (x := .nil) eq hl rfl v i) (fun e he => by have := hbw e he; show e.m < 2 * (k : Int); omega) (fun e he => by cases he) (Int.le_refl _) (fun b e => ?_)
    simp only [hg, Option.elim] at e
    show 2 * (b : Int) ≤ 2 * (k : Int)
    omega
  have hfr := h.fr.thf (n := k) eq (k' := endM q .nil) (.inr ⟨rfl, rfl⟩)
  by_cases htk : ds[m.n]? = some .take ∧ 1 ≤ m.ph
  · by_cases hfn : near < far
    · obtain ⟨hB, h1⟩ := h.me htk.1 htk.2 hfn
      subst hB
      refine ⟨A ++ [⟨(w + 1, q.n), 2 * (k : Int), .tr none⟩], [], ⟨by simpa using hbk, hfr, fun e => absurd htk e, fun _ _ e => absurd e (by omega), fun _ _ _ => ⟨rfl, ?_⟩⟩, A, [], .tr none, rfl, by simp⟩
      rw [List.map_append]
      exact rowsB_snoc h1 rfl
    · obtain ⟨far1, r, x, row, b0, l0, p⟩ := h.mp htk.1 htk.2 (by omega)
      obtain ⟨l', p'⟩ := p.on (m' := m) (d := (w + 1, q.n)) (A' := A) (B' := B) rfl k (set_ths eq (q' := endM q .nil) (fun e => by simp [endM] at e))
      have hr := map_nil p.rl (inB_nil (by omega))
      have hb0 := h.bk.lt _ _ _ p.gb
      refine ⟨A, B ++ [⟨(w + 1, q.n), 2 * (k : Int), .tr none⟩], ⟨by simpa using hbk, hfr, fun e => absurd htk e, fun _ _ _ => ⟨far1, r, x, row, b0, l', p'.f0, p'.f1, p'.ra, p'.bx, p'.rb, ?_, p'.rl, p'.gb, p'.am, fun e he => ?_, p'.th⟩, fun _ _ e => absurd e hfn⟩, A ++ B, [], .tr none, by simp, by simp⟩
      · rw [List.map_append]
        refine rowsB_snoc p.rk ?_
        subst hr
        rfl
      · rcases List.mem_append.mp he with z | z
        · exact p.bm e z
        · rw [List.mem_singleton.mp z]
          show 2 * (b0 : Int) < 2 * (k : Int)
          omega
  · obtain ⟨hB, row, h1, h2⟩ := h.mi htk
    subst hB
    have hr := map_nil h2 (inB_nil (by omega))
    refine ⟨A ++ [⟨(w + 1, q.n), 2 * (k : Int), .tr none⟩], [], ⟨by simpa using hbk, hfr, fun _ => ⟨rfl, row, ?_, h2⟩, fun a b => absurd ⟨a, b⟩ htk, fun a b => absurd ⟨a, b⟩ htk⟩, A, [], .tr none, rfl, by simp⟩
    rw [List.map_append]
    refine rowsB_snoc h1 ?_
    subst hr
    rfl
theorem map_cons' {row : List Int} {l : List (Option Int)} {o : Option Int} (h : row.map some = o :: l) : ∃ x r, row = x :: r ∧ r.map some = l ∧ o = some x := by
  cases row with
  | nil => cases h
  | cons x r =>
    rw [List.map_cons] at h
    injection h with h1 h2
    exact ⟨x, r, rfl, h2, h1.symm⟩
theorem Sn.th3 (h : Sn ds near far box m ths k bg A B) (c : Csv ds near far box m ths) {w : Nat} {q : Mv} (eq : ths[w]? = some q) (hp : q.ph = 3) (hf : far = q.f) (h0 : 0 ≤ far) : ∃ A' B', Sn ds near (far + 1) box m (ths.set w (endM q (whatOf q.x))) (k + 1) (bgPut bg (w + 1, q.n) k) A' B' ∧
    Em (w + 1, q.n) A B A' B' (some (if ds[m.n]? = some .take ∧ 1 ≤ m.ph ∧ near = q.f then 2 * (begO bg m k : Int) - 1 else 2 * (k : Int))) := by
  have hqm := List.mem_of_getElem? eq
  have hl := c.tlen q hqm
  have hlt2 := c.t2 q hqm (by omega) hf.symm
  have hx := c.t3 q hqm (by omega) hf.symm
  have hbw := h.bk.below
  obtain ⟨b1, l1, hg⟩ := h.begT eq (by omega)
  have hlt := h.bk.lt _ _ _ hg
  have hfr := h.fr.thf (n := k) eq (k' := endM q (whatOf q.x)) (.inr ⟨rfl, rfl⟩)
  have hdue : ∀ e, due ds near m (ths.set w (endM q (whatOf q.x))) e = if e = (w + 1, q.n) then some (.tr q.x) else due ds near m ths e := due_ths fun v i => by rw [dueT_add eq hl rfl v i, oiOf_of]; rfl
  have hbk : Bk (bgPut bg (w + 1, q.n) k) (k + 1) (due ds near m (ths.set w (endM q (whatOf q.x)))) ((A ++ B) ++ ⟨(w + 1, q.n), 2 * (k : Int), .tr q.x⟩ :: []) := by
    refine Bk.add (e0 := ⟨(w + 1, q.n), 2 * (k : Int), .tr q.x⟩) (by rw [List.append_nil]; exact h.bk) (dueT_none eq hl) hdue (fun e he => by have := hbw e he; show e.m < 2 * (k : Int); omega) (fun e he => by cases he) (Int.le_refl _) (fun b e => ?_)
    simp only [hg, Option.elim] at e
    show 2 * (b : Int) ≤ 2 * (k : Int)
    omega
  have hst : ∀ {x : Int} {r : List Int}, box far.toNat = some x → rowB (x :: r) (.tr q.x) = some r := fun {x r} e => by
    rw [hx, ← hf, e]
    unfold rowB
    simp
  by_cases htk : ds[m.n]? = some .take ∧ 1 ≤ m.ph
  · rw [eff_take htk.1 htk.2] at hlt2
    obtain ⟨far1, r, x, row, b0, l0, p⟩ := h.mp htk.1 htk.2 (by omega)
    have hb0 := h.bk.lt _ _ _ p.gb
    have hbe : begO bg m k = b0 := by unfold begO; rw [p.gb]; rfl
    by_cases hfn : near = q.f
    · rw [if_pos ⟨htk.1, htk.2, hfn⟩, hbe]
      obtain ⟨a1, b, l, a2, a3⟩ := p.th w q eq (by omega) (by omega)
      have hf1 := p.f1
      have e0 : r = [] := map_nil p.rb (inB_nil (by omega))
      have e1 : row = [] := map_nil p.rl (inB_nil (by omega))
      subst e0; subst e1
      refine ⟨A ++ ⟨(w + 1, q.n), 2 * (b0 : Int) - 1, .tr q.x⟩ :: B, [], ⟨?_, hfr, fun e => absurd htk e, fun _ _ e => absurd e (by omega), fun _ _ _ => ⟨rfl, ?_⟩⟩, A, B, .tr q.x, rfl, by simp⟩
      · rw [List.append_nil]
        refine Bk.add (e0 := ⟨(w + 1, q.n), 2 * (b0 : Int) - 1, .tr q.x⟩) h.bk (dueT_none eq hl) hdue (fun e he => p.am e he) (fun e he => by have := p.bm e he; show 2 * (b0 : Int) - 1 < e.m; omega) (by show 2 * (b0 : Int) - 1 ≤ 2 * (k : Int); omega) (fun b' e => ?_)
        simp only [a2, Option.elim] at e
        show 2 * (b' : Int) ≤ 2 * (b0 : Int) - 1
        omega
      · rw [List.map_append, List.map_cons]
        refine rowsB_mid p.ra ?_ p.rk
        show rowB [x] _ = _
        exact hst (by rw [hf, ← hfn]; exact p.bx)
    · rw [if_neg (fun z => hfn z.2.2)]
      have hre := p.rl
      rw [inB_cons h0 (by omega)] at hre
      obtain ⟨y, r2, rfl, h3, h4⟩ := map_cons' hre
      obtain ⟨l', p'⟩ := p.on (m' := m) (d := (w + 1, q.n)) (A' := A) (B' := B) rfl k (set_ths eq (q' := endM q (whatOf q.x)) (fun e => by simp [endM] at e))
      refine ⟨A, B ++ [⟨(w + 1, q.n), 2 * (k : Int), .tr q.x⟩], ⟨by simpa using hbk, hfr, fun e => absurd htk e, fun _ _ _ => ⟨far1, r, x, r2, b0, l', p'.f0, by have := p.f1; omega, p'.ra, p'.bx, p'.rb, ?_, h3, p'.gb, p'.am, fun e he => ?_, p'.th⟩, fun _ _ e => absurd e (by omega)⟩, A ++ B, [], .tr q.x, by simp, by simp⟩
      · rw [List.map_append]
        exact rowsB_snoc p.rk (hst h4)
      · rcases List.mem_append.mp he with z | z
        · exact p.bm e z
        · rw [List.mem_singleton.mp z]
          show 2 * (b0 : Int) < 2 * (k : Int)
          omega
  · rw [if_neg (fun z => htk ⟨z.1, z.2.1⟩)]
    have heff : eff ds near m = near := if_neg htk
    rw [heff] at hlt2
    obtain ⟨hB, row, h1, h2⟩ := h.mi htk
    subst hB
    rw [inB_cons h0 (by omega)] at h2
    obtain ⟨y, r2, rfl, h3, h4⟩ := map_cons' h2
    refine ⟨A ++ [⟨(w + 1, q.n), 2 * (k : Int), .tr q.x⟩], [], ⟨by simpa using hbk, hfr, fun _ => ⟨rfl, r2, ?_, h3⟩, fun a b => absurd ⟨a, b⟩ htk, fun a b => absurd ⟨a, b⟩ htk⟩, A, [], .tr q.x, rfl, by simp⟩
    rw [List.map_append]
    exact rowsB_snoc h1 (hst h4)
end

/-! ### all states of a play: how many there are -/
inductive Rch (bare blind : Bool) (p : Play) : Sta → Prop
  | zero : Rch bare blind p (sta0 p)
  | step {s t : Sta} {who : Nat} (h : Rch bare blind p s) (e : stepM bare blind p s who = some t) : Rch bare blind p t
theorem Rch.ok {bare blind : Bool} {p : Play} {s : Sta} (h : Rch bare blind p s) : SOk p s := by
  induction h with
  | zero => exact sta0_ok p
  | step _ e ih => exact step_ok ih e
/-- boxes beyond the last one are empty -/
def Can (L : Nat) (s : Sta) : Prop := ∀ i, L ≤ i → s.box i = none
theorem layM_box {t : Int} {s : Sta} {m : Mv} {L : Nat} (h : Can L s) (hn : s.near.toNat < L) : Can L (layM t s m).1 := by
  unfold layM
  split
  · intro i hi
    show setB s.box s.near.toNat t i = none
    unfold setB
    rw [if_neg (by omega)]
    exact h i hi
  · exact h
theorem takeM_box (bare : Bool) (s : Sta) (m : Mv) : (takeM bare s m).1.box = s.box := by
  unfold takeM
  repeat' split
  all_goals rfl
theorem attM_box (blind : Bool) (s : Sta) (m : Mv) : (attM blind s m).1.box = s.box ∧ (attM blind s m).1.near = s.near ∧ (attM blind s m).1.ms = s.ms := by
  unfold attM
  repeat' split
  all_goals exact ⟨rfl, rfl, rfl⟩
theorem takeM_ms (bare : Bool) (s : Sta) (m : Mv) : (takeM bare s m).1.ms = s.ms := by
  unfold takeM
  repeat' split
  all_goals rfl
theorem layM_ms (t : Int) (s : Sta) (m : Mv) : (layM t s m).1.ms = s.ms ∧ (layM t s m).1.far = s.far := by
  unfold layM
  split <;> exact ⟨rfl, rfl⟩
/-- the ways in which a small deed is done -/
theorem step_ways {bare blind : Bool} {p : Play} {s t : Sta} {who : Nat} (e : stepM bare blind p s who = some t) : ∃ m, s.ms[who]? = some m ∧
    ((who = 0 ∧ ∃ x, p.deeds[m.n]? = some (.lay x) ∧ t = putM (layM x s m) 0) ∨ (who = 0 ∧ p.deeds[m.n]? = some .take ∧ t = putM (takeM bare s m) 0) ∨ (∃ w, who = w + 1 ∧ p.tries[w]? ≠ some m.n ∧ t = putM (attM blind s m) (w + 1))) := by
  unfold stepM at e
  cases em : s.ms[who]? with
  | none => rw [em] at e; cases e
  | some m =>
    rw [em] at e
    refine ⟨m, rfl, ?_⟩
    cases who with
    | zero =>
      cases ed : p.deeds[m.n]? with
      | none => simp only [ed] at e; cases e
      | some d =>
        cases d with
        | lay x =>
          simp only [ed, Option.some.injEq] at e
          exact .inl ⟨rfl, x, rfl, e.symm⟩
        | take =>
          simp only [ed, Option.some.injEq] at e
          exact .inr (.inl ⟨rfl, rfl, e.symm⟩)
    | succ w =>
      simp only at e
      split at e
      · cases e
      · rename_i hne
        simp only [Option.some.injEq] at e
        exact .inr (.inr ⟨w, rfl, hne, e.symm⟩)
theorem Rch.can {bare blind : Bool} {p : Play} {s : Sta} (h : Rch bare blind p s) : Can p.deeds.length s := by
  induction h with
  | zero => exact fun _ _ => rfl
  | @step s t who h e ih =>
    obtain ⟨m, em, ⟨rfl, x, ed, rfl⟩ | ⟨rfl, ed, rfl⟩ | ⟨w, rfl, _, rfl⟩⟩ := step_ways e
    · obtain ⟨_, ho⟩ := h.ok.own m em
      have := ho.near
      have := lays_lt ed
      exact layM_box (t := x) (m := m) ih (by omega)
    · intro i hi
      show (takeM bare s m).1.box i = none
      rw [takeM_box]
      exact ih i hi
    · intro i hi
      show (attM blind s m).1.box i = none
      rw [(attM_box blind s m).1]
      exact ih i hi
/-! ### states as keys -/
def kOI : Option Int → NestedKey
  | none => .none
  | some t => .num t
def kW : What → NestedKey
  | .nil => .none
  | .got t => .num t
  | .lost => .text "lost"
def kMv (m : Mv) : NestedKey := .tup [.num m.n, .num m.ph, .num m.f, kOI m.x, .tup (m.told.map kW)]
def kS (L : Nat) (s : Sta) : NestedKey := .tup [.num s.near, .num s.far, .tup ((List.range L).map fun i => kOI (s.box i)), .tup (s.ms.map kMv)]
theorem kOI_inj {x y : Option Int} (h : kOI x = kOI y) : x = y := by
  cases x <;> cases y <;> simp [kOI] at h <;> simp [h]
theorem kW_inj {x y : What} (h : kW x = kW y) : x = y := by
  cases x <;> cases y <;> simp [kW] at h <;> simp [h]
theorem map_inj {α β : Type} {f : α → β} (hf : ∀ x y, f x = f y → x = y) : ∀ {xs ys : List α}, xs.map f = ys.map f → xs = ys
  | [], [], _ => rfl
  | [], _ :: _, h => by simp at h
  | _ :: _, [], h => by simp at h
  | x :: xs, y :: ys, h => by
    simp only [List.map_cons, List.cons.injEq] at h
    rw [hf _ _ h.1, map_inj hf h.2]
theorem kMv_inj {m k : Mv} (h : kMv m = kMv k) : m = k := by
  unfold kMv at h
  simp only [NestedKey.tup.injEq, List.cons.injEq, NestedKey.num.injEq, and_true] at h
  obtain ⟨h1, h2, h3, h4, h5⟩ := h
  obtain ⟨n, ph, f, x, told⟩ := m
  obtain ⟨n', ph', f', x', told'⟩ := k
  simp only at h1 h2 h3 h4 h5
  obtain rfl : n = n' := by omega
  obtain rfl : ph = ph' := by omega
  rw [h3, kOI_inj h4, map_inj (fun _ _ => kW_inj) h5]
theorem kS_inj {L : Nat} {s t : Sta} (hs : Can L s) (ht : Can L t) (h : kS L s = kS L t) : s = t := by
  unfold kS at h
  simp only [NestedKey.tup.injEq, List.cons.injEq, NestedKey.num.injEq, and_true] at h
  obtain ⟨h1, h2, h3, h4⟩ := h
  obtain ⟨near, far, box, ms⟩ := s
  obtain ⟨near', far', box', ms'⟩ := t
  simp only at h1 h2 h3 h4
  rw [h1, h2, map_inj (fun _ _ => kMv_inj) h4]
  congr 1
  funext i
  by_cases hi : i < L
  · have := congrArg (fun l => l[i]?) h3
    simp only [List.getElem?_map, List.getElem?_range hi, Option.map_some, Option.some.injEq] at this
    exact kOI_inj this
  · exact (show box i = none from hs i (by omega)).trans (show box' i = none from ht i (by omega)).symm
/-! ### an owner by itself, whatever it reads of far -/
structure OL where
  near : Int
  box : Nat → Option Int
  m : Mv
def st0 (n : Nat) (told : List What) : Mv := ⟨n, 0, 0, none, told⟩
def ownR (bare : Bool) (fs : List Int) : List Deed → Int → (Nat → Option Int) → Nat → List What → List OL
  | [], near, box, n, told => [⟨near, box, st0 n told⟩]
  | .lay t :: ds, near, box, n, told => ⟨near, box, st0 n told⟩ :: ⟨near, setB box near.toNat t, ⟨n, 1, 0, none, told⟩⟩ :: ownR bare fs ds (near + 1) (setB box near.toNat t) (n + 1) told
  | .take :: ds, near, box, n, told => ⟨near, box, st0 n told⟩ :: ⟨near - 1, box, ⟨n, 1, 0, none, told⟩⟩ :: fs.flatMap fun f => ⟨near - 1, box, ⟨n, 2, f, none, told⟩⟩ ::
      (if near - 1 < f then ownR bare fs ds f box (n + 1) (told ++ [.nil]) else if f < near - 1 then ownR bare fs ds (near - 1) box (n + 1) (told ++ [whatOf (box (near - 1).toNat)])
        else ⟨near - 1, box, ⟨n, 3, f, box (near - 1).toNat, told⟩⟩ :: ⟨near - 1, box, ⟨n, 4, f, box (near - 1).toNat, told⟩⟩ :: ⟨near - 1, box, ⟨n, 4, f, none, told⟩⟩ ::
          (ownR bare fs ds (f + 1) box (n + 1) (told ++ [whatOf (box (near - 1).toNat)]) ++ ownR bare fs ds (f + 1) box (n + 1) (told ++ [.nil])))
theorem own_head {bare : Bool} {fs : List Int} : ∀ (ds : List Deed) (near : Int) (box : Nat → Option Int) (n : Nat) (told : List What), (⟨near, box, st0 n told⟩ : OL) ∈ ownR bare fs ds near box n told
  | [], _, _, _, _ => by simp [ownR]
  | .lay _ :: _, _, _, _, _ => by simp [ownR]
  | .take :: _, _, _, _, _ => by simp [ownR]
theorem own_ge {bare : Bool} {fs : List Int} : ∀ (ds : List Deed) (near : Int) (box : Nat → Option Int) (n : Nat) (told : List What) (o : OL), o ∈ ownR bare fs ds near box n told → n ≤ o.m.n
  | [], near, box, n, told, o, h => by
    simp only [ownR, List.mem_singleton] at h
    subst h
    exact Nat.le_refl _
  | .lay t :: ds, near, box, n, told, o, h => by
    simp only [ownR, List.mem_cons] at h
    rcases h with rfl | rfl | h
    · exact Nat.le_refl _
    · exact Nat.le_refl _
    · have := own_ge ds _ _ _ _ o h
      omega
  | .take :: ds, near, box, n, told, o, h => by
    simp only [ownR, List.mem_cons, List.mem_flatMap] at h
    rcases h with rfl | rfl | ⟨f, _, rfl | h⟩
    · exact Nat.le_refl _
    · exact Nat.le_refl _
    · exact Nat.le_refl _
    · split at h
      · have := own_ge ds _ _ _ _ o h
        omega
      · split at h
        · have := own_ge ds _ _ _ _ o h
          omega
        · simp only [List.mem_cons, List.mem_append] at h
          rcases h with rfl | rfl | rfl | h | h
          · exact Nat.le_refl _
          · exact Nat.le_refl _
          · exact Nat.le_refl _
          · have := own_ge ds _ _ _ _ o h
            omega
          · have := own_ge ds _ _ _ _ o h
            omega
def OStep (bare : Bool) (fs : List Int) (all : List OL) (d : Option Deed) (o : OL) : Prop := ∀ far ∈ fs, ∀ ms, match d with
  | none => True
  | some (.lay t) => (⟨(layM t ⟨o.near, far, o.box, ms⟩ o.m).1.near, (layM t ⟨o.near, far, o.box, ms⟩ o.m).1.box, (layM t ⟨o.near, far, o.box, ms⟩ o.m).2⟩ : OL) ∈ all
  | some .take => (⟨(takeM bare ⟨o.near, far, o.box, ms⟩ o.m).1.near, (takeM bare ⟨o.near, far, o.box, ms⟩ o.m).1.box, (takeM bare ⟨o.near, far, o.box, ms⟩ o.m).2⟩ : OL) ∈ all
theorem OStep.imp {bare : Bool} {fs : List Int} {all all' : List OL} {d : Option Deed} {o : OL} (h : OStep bare fs all d o) (l : ∀ x ∈ all, x ∈ all') : OStep bare fs all' d o := fun far hf ms => by
  have := h far hf ms
  cases d with
  | none => trivial
  | some d => cases d with
    | lay t => exact l _ this
    | take => exact l _ this
theorem own_step {bare : Bool} {fs : List Int} : ∀ (ds : List Deed) (near : Int) (box : Nat → Option Int) (n : Nat) (told : List What) (o : OL), o ∈ ownR bare fs ds near box n told → OStep bare fs (ownR bare fs ds near box n told) ds[o.m.n - n]? o
  | [], near, box, n, told, o, h => fun far hf ms => by simp
  | .lay t :: ds, near, box, n, told, o, h => by
    have tail : ∀ x ∈ ownR bare fs ds (near + 1) (setB box near.toNat t) (n + 1) told, x ∈ ownR bare fs (.lay t :: ds) near box n told := fun x hx => by
      simp only [ownR, List.mem_cons]
      exact .inr (.inr hx)
    have h0 := h
    simp only [ownR, List.mem_cons] at h
    rcases h with rfl | rfl | h
    · intro far hf ms
      simp only [st0, Nat.sub_self, List.getElem?_cons_zero]
      unfold layM
      simp [ownR]
    · intro far hf ms
      simp only [Nat.sub_self, List.getElem?_cons_zero]
      refine tail _ ?_
      unfold layM
      exact own_head _ _ _ _ _
    · have hn := own_ge ds _ _ _ _ o h
      have ih := (own_step ds _ _ _ _ o h).imp tail
      rw [show o.m.n - n = (o.m.n - (n + 1)) + 1 by omega, List.getElem?_cons_succ]
      exact ih
  | .take :: ds, near, box, n, told, o, h => by
    have inF : ∀ f ∈ fs, ∀ x ∈ ((⟨near - 1, box, ⟨n, 2, f, none, told⟩⟩ : OL) ::
      (if near - 1 < f then ownR bare fs ds f box (n + 1) (told ++ [.nil]) else if f < near - 1 then ownR bare fs ds (near - 1) box (n + 1) (told ++ [whatOf (box (near - 1).toNat)])
        else ⟨near - 1, box, ⟨n, 3, f, box (near - 1).toNat, told⟩⟩ :: ⟨near - 1, box, ⟨n, 4, f, box (near - 1).toNat, told⟩⟩ :: ⟨near - 1, box, ⟨n, 4, f, none, told⟩⟩ ::
          (ownR bare fs ds (f + 1) box (n + 1) (told ++ [whatOf (box (near - 1).toNat)]) ++ ownR bare fs ds (f + 1) box (n + 1) (told ++ [.nil])))), x ∈ ownR bare fs (.take :: ds) near box n told := fun f hf x hx => by
      simp only [ownR, List.mem_cons]
      exact .inr (.inr (List.mem_flatMap.mpr ⟨f, hf, hx⟩))
    have far_case : ∀ f ∈ fs, ∀ (near' : Int) (box' : Nat → Option Int) (told' : List What), (∀ x ∈ ownR bare fs ds near' box' (n + 1) told', x ∈ ownR bare fs (.take :: ds) near box n told) → o ∈ ownR bare fs ds near' box' (n + 1) told' → OStep bare fs (ownR bare fs (.take :: ds) near box n told) (Deed.take :: ds)[o.m.n - n]? o := by
      intro f hf near' box' told' l h
      have hn := own_ge ds _ _ _ _ o h
      have ih := (own_step ds _ _ _ _ o h).imp l
      rw [show o.m.n - n = (o.m.n - (n + 1)) + 1 by omega, List.getElem?_cons_succ]
      exact ih
    simp only [ownR, List.mem_cons, List.mem_flatMap] at h
    rcases h with rfl | rfl | ⟨f, hf, rfl | h⟩
    · intro far hf ms
      simp only [st0, Nat.sub_self, List.getElem?_cons_zero]
      unfold takeM
      simp [ownR]
    · intro far hf ms
      simp only [Nat.sub_self, List.getElem?_cons_zero]
      refine inF far hf _ ?_
      unfold takeM
      simp
    · intro far hf2 ms
      simp only [Nat.sub_self, List.getElem?_cons_zero]
      refine inF f hf _ ?_
      unfold takeM
      simp only [show ¬ (2 = 0) by decide, show ¬ (2 = 1) by decide, if_false, if_true, List.mem_cons]
      refine .inr ?_
      split
      · exact own_head _ _ _ _ _
      · split
        · exact own_head _ _ _ _ _
        · cases bare <;> simp
    · have lf := fun x hx => inF f hf x (List.mem_cons_of_mem _ hx)
      split at h
      · rename_i c1
        exact far_case f hf _ _ _ (fun x hx => lf x (by rw [if_pos c1]; exact hx)) h
      · rename_i c1
        split at h
        · rename_i c2
          exact far_case f hf _ _ _ (fun x hx => lf x (by rw [if_neg c1, if_pos c2]; exact hx)) h
        · rename_i c2
          rw [if_neg c1, if_neg c2] at lf
          simp only [List.mem_cons, List.mem_append] at h
          rcases h with rfl | rfl | rfl | h | h
          · intro far hf2 ms
            simp only [Nat.sub_self, List.getElem?_cons_zero]
            refine lf _ ?_
            unfold takeM
            simp only [show ¬ (3 = 0) by decide, show ¬ (3 = 1) by decide, show ¬ (3 = 2) by decide, if_false, if_true]
            split <;> simp
          · intro far hf2 ms
            simp only [Nat.sub_self, List.getElem?_cons_zero]
            refine lf _ ?_
            unfold takeM
            simp only [show ¬ (4 = 0) by decide, show ¬ (4 = 1) by decide, show ¬ (4 = 2) by decide, show ¬ (4 = 3) by decide, if_false, List.mem_cons, List.mem_append]
            exact .inr (.inr (.inr (.inl (own_head _ _ _ _ _))))
          · intro far hf2 ms
            simp only [Nat.sub_self, List.getElem?_cons_zero]
            refine lf _ ?_
            unfold takeM
            simp only [show ¬ (4 = 0) by decide, show ¬ (4 = 1) by decide, show ¬ (4 = 2) by decide, show ¬ (4 = 3) by decide, if_false, List.mem_cons, List.mem_append]
            exact .inr (.inr (.inr (.inr (own_head _ _ _ _ _))))
          · exact far_case f hf _ _ _ (fun x hx => lf x (List.mem_cons_of_mem _ (List.mem_cons_of_mem _ (List.mem_cons_of_mem _ (List.mem_append_left _ hx))))) h
          · exact far_case f hf _ _ _ (fun x hx => lf x (List.mem_cons_of_mem _ (List.mem_cons_of_mem _ (List.mem_cons_of_mem _ (List.mem_append_right _ hx))))) h
def cO (F : Nat) : List Deed → Nat
  | [] => 1
  | .lay _ :: ds => 2 + cO F ds
  | .take :: ds => 2 + F * (4 + 2 * cO F ds)
theorem flat_len {α β : Type} {f : α → List β} {n : Nat} : ∀ {xs : List α}, (∀ x ∈ xs, (f x).length ≤ n) → (xs.flatMap f).length ≤ xs.length * n
  | [], _ => by simp
  | x :: xs, h => by
    have h1 := flat_len (f := f) (xs := xs) fun y hy => h y (by simp [hy])
    have h2 := h x (by simp)
    simp only [List.flatMap_cons, List.length_append, List.length_cons, Nat.succ_mul]
    omega
theorem own_len {bare : Bool} {fs : List Int} : ∀ (ds : List Deed) (near : Int) (box : Nat → Option Int) (n : Nat) (told : List What), (ownR bare fs ds near box n told).length ≤ cO fs.length ds
  | [], _, _, _, _ => by simp [ownR, cO]
  | .lay t :: ds, near, box, n, told => by
    have := own_len (bare := bare) (fs := fs) ds (near + 1) (setB box near.toNat t) (n + 1) told
    simp only [ownR, cO, List.length_cons]
    omega
  | .take :: ds, near, box, n, told => by
    simp only [ownR, cO, List.length_cons]
    have ih := fun near' box' told' => own_len (bare := bare) (fs := fs) ds near' box' (n + 1) told'
    generalize cO fs.length ds = c at ih
    have := flat_len (n := 4 + 2 * c) (xs := fs) (f := fun f => (⟨near - 1, box, ⟨n, 2, f, none, told⟩⟩ : OL) ::
      (if near - 1 < f then ownR bare fs ds f box (n + 1) (told ++ [.nil]) else if f < near - 1 then ownR bare fs ds (near - 1) box (n + 1) (told ++ [whatOf (box (near - 1).toNat)])
        else ⟨near - 1, box, ⟨n, 3, f, box (near - 1).toNat, told⟩⟩ :: ⟨near - 1, box, ⟨n, 4, f, box (near - 1).toNat, told⟩⟩ :: ⟨near - 1, box, ⟨n, 4, f, none, told⟩⟩ ::
          (ownR bare fs ds (f + 1) box (n + 1) (told ++ [whatOf (box (near - 1).toNat)]) ++ ownR bare fs ds (f + 1) box (n + 1) (told ++ [.nil])))) (fun f _ => by
      simp only [List.length_cons]
      split
      · have := ih f box (told ++ [.nil])
        omega
      · split
        · have := ih (near - 1) box (told ++ [whatOf (box (near - 1).toNat)])
          omega
        · have h1 := ih (f + 1) box (told ++ [whatOf (box (near - 1).toNat)])
          have h2 := ih (f + 1) box (told ++ [.nil])
          simp only [List.length_cons, List.length_append]
          omega)
    omega
/-! ### a thief by itself -/
def thR (fs : List Int) (xs : List (Option Int)) : Nat → Nat → List What → List Mv
  | 0, n, told => [st0 n told]
  | k + 1, n, told => st0 n told :: ((fs.flatMap fun f => (⟨n, 1, f, none, told⟩ : Mv) :: ⟨n, 2, f, none, told⟩ :: xs.map fun x => ⟨n, 3, f, x, told⟩) ++ (.lost :: xs.map whatOf).flatMap fun w => thR fs xs k (n + 1) (told ++ [w]))
theorem th_head {fs : List Int} {xs : List (Option Int)} (k n : Nat) (told : List What) : st0 n told ∈ thR fs xs k n told := by cases k <;> simp [thR]
theorem th_step {fs : List Int} {xs : List (Option Int)} {blind : Bool} (hx : none ∈ xs) {s : Sta} (hf : s.far ∈ fs) (hb : ∀ i, s.box i ∈ xs) : ∀ (k n : Nat) (told : List What) (m : Mv), m ∈ thR fs xs k n told → m.n < n + k → (attM blind s m).2 ∈ thR fs xs k n told
  | 0, n, told, m, h, hn => by
    simp only [thR, List.mem_singleton] at h
    subst h
    simp only [st0] at hn
    omega
  | k + 1, n, told, m, h, hn => by
    have tl : ∀ w ∈ (What.lost :: xs.map whatOf), ∀ x ∈ thR fs xs k (n + 1) (told ++ [w]), x ∈ thR fs xs (k + 1) n told := fun w hw x hm => by
      simp only [thR, List.mem_cons, List.mem_append]
      exact .inr (.inr (List.mem_flatMap.mpr ⟨w, hw, hm⟩))
    have md : ∀ f ∈ fs, ∀ x ∈ ((⟨n, 1, f, none, told⟩ : Mv) :: ⟨n, 2, f, none, told⟩ :: xs.map fun x => ⟨n, 3, f, x, told⟩), x ∈ thR fs xs (k + 1) n told := fun f hf x hm => by
      simp only [thR, List.mem_cons, List.mem_append]
      exact .inr (.inl (List.mem_flatMap.mpr ⟨f, hf, by simpa using hm⟩))
    simp only [thR, List.mem_cons, List.mem_append] at h
    rcases h with rfl | h | h
    · refine md _ hf _ ?_
      unfold attM st0
      simp
    · obtain ⟨f, hf2, h⟩ := List.mem_flatMap.mp h
      simp only [List.mem_cons, List.mem_map] at h
      rcases h with rfl | rfl | ⟨x, hxx, rfl⟩
      · unfold attM
        simp only [show ¬ (1 = 0) by decide, if_false, if_true]
        split
        · exact tl .nil (List.mem_cons_of_mem _ (List.mem_map.mpr ⟨none, hx, rfl⟩)) _ (th_head _ _ _)
        · exact md f hf2 _ (by simp)
      · unfold attM
        simp only [show ¬ (2 = 0) by decide, show ¬ (2 = 1) by decide, if_false, if_true]
        exact md f hf2 _ (by simp [hb])
      · unfold attM
        simp only [show ¬ (3 = 0) by decide, show ¬ (3 = 1) by decide, show ¬ (3 = 2) by decide, if_false]
        split
        · exact tl (whatOf x) (List.mem_cons_of_mem _ (List.mem_map.mpr ⟨x, hxx, rfl⟩)) _ (th_head _ _ _)
        · exact tl .lost (by simp) _ (th_head _ _ _)
    · obtain ⟨w, hw, h⟩ := List.mem_flatMap.mp h
      exact tl w hw _ (th_step hx hf hb k (n + 1) (told ++ [w]) m h (by omega))
def cT (F X : Nat) : Nat → Nat
  | 0 => 1
  | k + 1 => 1 + (F * (2 + X) + (1 + X) * cT F X k)
theorem th_len {fs : List Int} {xs : List (Option Int)} : ∀ (k n : Nat) (told : List What), (thR fs xs k n told).length ≤ cT fs.length xs.length k
  | 0, _, _ => by simp [thR, cT]
  | k + 1, n, told => by
    have h1 := flat_len (n := 2 + xs.length) (xs := fs) (f := fun f => (⟨n, 1, f, none, told⟩ : Mv) :: ⟨n, 2, f, none, told⟩ :: xs.map fun x => ⟨n, 3, f, x, told⟩) (fun f _ => by simp; omega)
    have h2 := flat_len (n := cT fs.length xs.length k) (xs := What.lost :: xs.map whatOf) (f := fun w => thR fs xs k (n + 1) (told ++ [w])) (fun w _ => th_len k _ _)
    simp only [List.length_cons, List.length_map] at h2
    simp only [thR, cT, List.length_cons, List.length_append]
    rw [Nat.add_comm xs.length 1] at h2
    omega
/-! ### all of them -/
def prodR (fs : List Int) (xs : List (Option Int)) : List Nat → List (List Mv)
  | [] => [[]]
  | k :: ks => (thR fs xs k 0 []).flatMap fun m => (prodR fs xs ks).map (m :: ·)
theorem prod_mem {fs : List Int} {xs : List (Option Int)} : ∀ {ks : List Nat} {ms : List Mv}, ms.length = ks.length → (∀ (i : Nat) m k, ms[i]? = some m → ks[i]? = some k → m ∈ thR fs xs k 0 []) → ms ∈ prodR fs xs ks
  | [], [], _, _ => by simp [prodR]
  | [], _ :: _, h, _ => by simp at h
  | _ :: _, [], h, _ => by simp at h
  | k :: ks, m :: ms, h, hm => by
    refine List.mem_flatMap.mpr ⟨m, hm 0 m k rfl rfl, List.mem_map.mpr ⟨ms, prod_mem (by simpa using h) (fun i m' k' h1 h2 => hm (i + 1) m' k' (by simpa using h1) (by simpa using h2)), rfl⟩⟩
def cP (F X : Nat) : List Nat → Nat
  | [] => 1
  | k :: ks => cT F X k * cP F X ks
theorem prod_len {fs : List Int} {xs : List (Option Int)} : ∀ ks : List Nat, (prodR fs xs ks).length ≤ cP fs.length xs.length ks
  | [] => by simp [prodR, cP]
  | k :: ks => by
    have h := flat_len (n := cP fs.length xs.length ks) (xs := thR fs xs k 0 []) (f := fun m => (prodR fs xs ks).map (m :: ·)) (fun m _ => by simpa using prod_len ks)
    exact Nat.le_trans h (Nat.mul_le_mul_right _ (th_len _ _ _))
def laidO (ds : List Deed) : List (Option Int) := ds.filterMap fun d => match d with | .lay t => some (some t) | .take => none
def fsOf (p : Play) : List Int := (List.range (lays p.deeds p.deeds.length + 1)).map fun n : Nat => (n : Int)
def xsOf (p : Play) : List (Option Int) := none :: laidO p.deeds
theorem laidO_len : ∀ ds : List Deed, (laidO ds).length = lays ds ds.length := by
  intro ds
  unfold laidO lays
  rw [List.take_length]
  induction ds with
  | nil => rfl
  | cons d ds ih =>
    cases d with
    | lay t => simpa using ih
    | take => simpa using ih
theorem laidO_mem {ds : List Deed} {t : Int} (h : Deed.lay t ∈ ds) : some t ∈ laidO ds := List.mem_filterMap.mpr ⟨_, h, rfl⟩
def allSt (bare : Bool) (p : Play) : List Sta := (fsOf p).flatMap fun far => (ownR bare (fsOf p) p.deeds 0 (fun _ => none) 0 []).flatMap fun o => (prodR (fsOf p) (xsOf p) p.tries).map fun t => ⟨o.near, far, o.box, o.m :: t⟩
structure RInv (bare : Bool) (p : Play) (s : Sta) : Prop where
  own : ∀ m, s.ms[0]? = some m → (⟨s.near, s.box, m⟩ : OL) ∈ ownR bare (fsOf p) p.deeds 0 (fun _ => none) 0 []
  thf : ∀ w m k, s.ms[w + 1]? = some m → p.tries[w]? = some k → m ∈ thR (fsOf p) (xsOf p) k 0 []
theorem far_fs {p : Play} {s : Sta} (h : SOk p s) : s.far ∈ fsOf p := by
  have hl : 0 < s.ms.length := by rw [h.len]; omega
  obtain ⟨h1, _⟩ := h.own _ (List.getElem?_eq_getElem hl)
  have h2 : (lays p.deeds s.ms[0].n : Nat) ≤ lays p.deeds p.deeds.length := by
    have hn := (h.own _ (List.getElem?_eq_getElem hl)).2.n
    unfold lays
    exact (List.Sublist.filter _ (List.take_sublist_take_left hn)).length_le
  have h0 := h.far0
  exact List.mem_map.mpr ⟨s.far.toNat, List.mem_range.mpr (by omega), by omega⟩
theorem box_xs {p : Play} {s : Sta} (h : SOk p s) (i : Nat) : s.box i ∈ xsOf p := by
  cases e : s.box i with
  | none => simp [xsOf]
  | some t => exact List.mem_cons_of_mem _ (laidO_mem (h.thg.box i t e))
theorem Rch.inv {bare blind : Bool} {p : Play} {s : Sta} (h : Rch bare blind p s) : RInv bare p s := by
  induction h with
  | zero =>
    have hm : ∀ m ∈ (sta0 p).ms, m = st0 0 [] := fun m h => List.eq_of_mem_replicate h
    refine ⟨fun m e => ?_, fun w m k e _ => ?_⟩
    · rw [hm m (List.mem_of_getElem? e)]
      exact own_head _ _ _ _ _
    · rw [hm m (List.mem_of_getElem? e)]
      exact th_head _ _ _
  | @step s t who h e ih =>
    have ok := h.ok
    obtain ⟨m, em, ⟨rfl, x, ed, rfl⟩ | ⟨rfl, ed, rfl⟩ | ⟨w, rfl, hne, rfl⟩⟩ := step_ways e
    · have hlt := (List.getElem?_eq_some_iff.mp em).1
      have st := own_step _ _ _ _ _ _ (ih.own m em) s.far (far_fs ok) s.ms
      simp only [Nat.sub_zero, ed] at st
      refine ⟨fun k ek => ?_, fun w k q e1 e2 => ?_⟩
      · have ek' : ((layM x s m).1.ms.set 0 (layM x s m).2)[0]? = some k := ek
        rw [(layM_ms x s m).1, List.getElem?_set_self hlt] at ek'
        cases ek'
        exact st
      · have e1' : ((layM x s m).1.ms.set 0 (layM x s m).2)[w + 1]? = some k := e1
        rw [(layM_ms x s m).1, List.getElem?_set_ne (by omega)] at e1'
        exact ih.thf w k q e1' e2
    · have hlt := (List.getElem?_eq_some_iff.mp em).1
      have st := own_step _ _ _ _ _ _ (ih.own m em) s.far (far_fs ok) s.ms
      simp only [Nat.sub_zero, ed] at st
      refine ⟨fun k ek => ?_, fun w k q e1 e2 => ?_⟩
      · have ek' : ((takeM bare s m).1.ms.set 0 (takeM bare s m).2)[0]? = some k := ek
        rw [takeM_ms, List.getElem?_set_self hlt] at ek'
        cases ek'
        exact st
      · have e1' : ((takeM bare s m).1.ms.set 0 (takeM bare s m).2)[w + 1]? = some k := e1
        rw [takeM_ms, List.getElem?_set_ne (by omega)] at e1'
        exact ih.thf w k q e1' e2
    · have hlt := (List.getElem?_eq_some_iff.mp em).1
      obtain ⟨b1, b2, b3⟩ := attM_box blind s m
      refine ⟨fun k ek => ?_, fun w' k q e1 e2 => ?_⟩
      · have ek' : ((attM blind s m).1.ms.set (w + 1) (attM blind s m).2)[0]? = some k := ek
        rw [b3, List.getElem?_set_ne (by omega)] at ek'
        show (⟨(attM blind s m).1.near, (attM blind s m).1.box, k⟩ : OL) ∈ _
        rw [b1, b2]
        exact ih.own k ek'
      · have e1' : ((attM blind s m).1.ms.set (w + 1) (attM blind s m).2)[w' + 1]? = some k := e1
        rw [b3] at e1'
        by_cases z : w = w'
        · subst z
          rw [List.getElem?_set_self hlt] at e1'
          cases e1'
          obtain ⟨m0, em0⟩ : ∃ m0, s.ms[0]? = some m0 := ⟨s.ms[0]'(by omega), List.getElem?_eq_getElem (by omega)⟩
          obtain ⟨most, eo, hT⟩ := ok.thf w m0 m em0 em
          rw [eo] at e2 hne
          cases e2
          have := hT.n
          exact th_step (by simp [xsOf]) (far_fs ok) (box_xs ok) _ _ _ _ (ih.thf w m _ em eo) (by
            have : m.n ≠ q := fun z => hne (by rw [z])
            omega)
        · rw [List.getElem?_set_ne (by omega)] at e1'
          exact ih.thf w' k q e1' e2
theorem Rch.all {bare blind : Bool} {p : Play} {s : Sta} (h : Rch bare blind p s) : s ∈ allSt bare p := by
  have ok := h.ok
  have iv := h.inv
  have hl := ok.len
  obtain ⟨near, far, box, ms⟩ := s
  cases ms with
  | nil =>
    simp at hl
    omega
  | cons m t =>
    refine List.mem_flatMap.mpr ⟨far, far_fs ok, List.mem_flatMap.mpr ⟨⟨near, box, m⟩, iv.own m rfl, List.mem_map.mpr ⟨t, prod_mem ?_ fun i m' k h1 h2 => iv.thf i m' k h1 h2, rfl⟩⟩⟩
    simp at hl
    omega
/-! ### of small plays -/
structure Sml (p : Play) : Prop where
  deeds : p.deeds.length ≤ 4
  tries : p.tries.length ≤ 2
  sum : p.tries.sum ≤ 3
theorem Sml.pl {p : Play} (h : Sml p) : PlOk p := ⟨by have := h.deeds; omega, by have := h.tries; omega, fun k hk => by
  have : k ≤ p.tries.sum := by
    have := h.sum
    generalize p.tries = ts at hk
    clear h this
    induction ts with
    | nil => cases hk
    | cons x ts ih =>
      simp only [List.sum_cons]
      rcases List.mem_cons.mp hk with rfl | hk
      · omega
      · have := ih hk
        omega
  have := h.sum
  omega⟩
def cOb (F : Nat) : List Bool → Nat
  | [] => 1
  | false :: ds => 2 + cOb F ds
  | true :: ds => 2 + F * (4 + 2 * cOb F ds)
def shp (ds : List Deed) : List Bool := ds.map fun d => match d with | .take => true | _ => false
theorem cO_shp (F : Nat) : ∀ ds : List Deed, cO F ds = cOb F (shp ds)
  | [] => rfl
  | .lay t :: ds => by
    show 2 + cO F ds = 2 + cOb F (shp ds)
    rw [cO_shp F ds]
  | .take :: ds => by
    show 2 + F * (4 + 2 * cO F ds) = 2 + F * (4 + 2 * cOb F (shp ds))
    rw [cO_shp F ds]
theorem lays_shp (ds : List Deed) : lays ds ds.length = ((shp ds).filter fun b => !b).length := by
  unfold lays shp
  rw [List.take_length]
  induction ds with
  | nil => rfl
  | cons d ds ih =>
    cases d with
    | lay t => simpa using ih
    | take => simpa using ih
def shapesN : Nat → List (List Bool)
  | 0 => [[]]
  | n + 1 => [] :: (shapesN n).flatMap fun l => [true :: l, false :: l]
def shapes : List (List Bool) := shapesN 4
theorem shapesN_mem : ∀ {n : Nat} {l : List Bool}, l.length ≤ n → l ∈ shapesN n
  | 0, [], _ => by simp [shapesN]
  | 0, _ :: _, h => by simp at h
  | n + 1, [], _ => by simp [shapesN]
  | n + 1, b :: l, h => by
    have := shapesN_mem (n := n) (l := l) (by simpa using h)
    refine List.mem_cons_of_mem _ (List.mem_flatMap.mpr ⟨l, this, ?_⟩)
    cases b <;> simp
theorem shapes_mem {l : List Bool} (h : l.length ≤ 4) : l ∈ shapes := shapesN_mem h
def trs : List (List Nat) := [[], [0], [1], [2], [3], [0, 0], [0, 1], [0, 2], [0, 3], [1, 0], [1, 1], [1, 2], [2, 0], [2, 1], [3, 0]]
theorem trs_mem : ∀ {l : List Nat}, l.length ≤ 2 → l.sum ≤ 3 → l ∈ trs
  | [], _, _ => by decide
  | [a], _, h => by
    have : a ≤ 3 := by simpa using h
    rcases (show a = 0 ∨ a = 1 ∨ a = 2 ∨ a = 3 by omega) with rfl | rfl | rfl | rfl <;> decide
  | [a, b], _, h => by
    have : a + b ≤ 3 := by simpa using h
    rcases (show (a = 0 ∧ b = 0) ∨ (a = 0 ∧ b = 1) ∨ (a = 0 ∧ b = 2) ∨ (a = 0 ∧ b = 3) ∨ (a = 1 ∧ b = 0) ∨ (a = 1 ∧ b = 1) ∨ (a = 1 ∧ b = 2) ∨ (a = 2 ∧ b = 0) ∨ (a = 2 ∧ b = 1) ∨ (a = 3 ∧ b = 0) by omega) with h | h | h | h | h | h | h | h | h | h <;> obtain ⟨rfl, rfl⟩ := h <;> decide
  | _ :: _ :: _ :: _, h, _ => by simp at h
def cAll (sh : List Bool) (ks : List Nat) : Nat := ((sh.filter fun b => !b).length + 1) * (cOb ((sh.filter fun b => !b).length + 1) sh * cP ((sh.filter fun b => !b).length + 1) ((sh.filter fun b => !b).length + 1) ks)
theorem cAll_le : (shapes.all fun sh => trs.all fun ks => Nat.ble (cAll sh ks) 16000000) = true := by decide +kernel
theorem allSt_len {bare : Bool} {p : Play} (h : Sml p) : (allSt bare p).length ≤ 16000000 := by
  have hf : (fsOf p).length = ((shp p.deeds).filter fun b => !b).length + 1 := by rw [← lays_shp]; simp [fsOf]
  have hx : (xsOf p).length = ((shp p.deeds).filter fun b => !b).length + 1 := by rw [← lays_shp, ← laidO_len]; rfl
  have h1 := own_len (bare := bare) (fs := fsOf p) p.deeds 0 (fun _ => none) 0 []
  have h2 := prod_len (fs := fsOf p) (xs := xsOf p) p.tries
  rw [hf, cO_shp] at h1
  rw [hf, hx] at h2
  have h3 := flat_len (n := (prodR (fsOf p) (xsOf p) p.tries).length) (xs := ownR bare (fsOf p) p.deeds 0 (fun _ => none) 0 []) (f := fun o => (prodR (fsOf p) (xsOf p) p.tries).map fun t => o.m :: t) (fun o _ => by simp)
  have h4 := flat_len (n := (ownR bare (fsOf p) p.deeds 0 (fun _ => none) 0 []).length * (prodR (fsOf p) (xsOf p) p.tries).length) (xs := fsOf p) (f := fun far => (ownR bare (fsOf p) p.deeds 0 (fun _ => none) 0 []).flatMap fun o => (prodR (fsOf p) (xsOf p) p.tries).map fun t => (⟨o.near, far, o.box, o.m :: t⟩ : Sta)) (fun far _ => flat_len (n := (prodR (fsOf p) (xsOf p) p.tries).length) (fun o _ => by simp))
  rw [hf] at h4
  refine Nat.le_trans h4 (Nat.le_trans (Nat.mul_le_mul_left _ (Nat.mul_le_mul h1 h2)) ?_)
  have hs := shapes_mem (l := shp p.deeds) (by simpa [shp] using h.deeds)
  have ht := trs_mem h.tries h.sum
  have := List.all_eq_true.mp (List.all_eq_true.mp cAll_le _ hs) _ ht
  exact Nat.le_of_ble_eq_true this
theorem nodup_leK {α : Type} [DecidableEq α] : ∀ {l m : List α}, l.Nodup → (∀ x ∈ l, x ∈ m) → l.length ≤ m.length
  | [], m, _, _ => Nat.zero_le _
  | x :: l, m, nd, h => by
    rw [List.nodup_cons] at nd
    have hx : x ∈ m := h x (by simp)
    have := nodup_leK (l := l) (m := m.erase x) nd.2 fun y hy => (List.mem_erase_of_ne (fun z => nd.1 (by rw [← z]; exact hy))).mpr (h y (by simp [hy]))
    rw [List.length_erase_of_mem hx] at this
    have := List.length_pos_of_mem hx
    simp only [List.length_cons]
    omega
theorem reach_le {bare blind : Bool} {p : Play} (h : Sml p) {L : Nat} (hL : p.deeds.length ≤ L) {l : List Sta} (hr : ∀ s ∈ l, Rch bare blind p s) (nd : l.Nodup) : l.length ≤ 16000000 := by
  have nk : (l.map (kS L)).Nodup := by
    unfold List.Nodup at nd ⊢
    rw [List.pairwise_map]
    refine nd.imp_of_mem fun {a b} ha hb hne e => hne (kS_inj (fun i hi => (hr a ha).can i (by omega)) (fun i hi => (hr b hb).can i (by omega)) e)
  have := nodup_leK nk (m := (allSt bare p).map (kS L)) fun k hk => by
    obtain ⟨s, hs, rfl⟩ := List.mem_map.mp hk
    exact List.mem_map.mpr ⟨s, (hr s hs).all, rfl⟩
  simp only [List.length_map] at this
  exact Nat.le_trans this (allSt_len h)

/-! ### small weavings seen as whole deeds: whole weavings -/
def SnS (p : Play) (s : Sta) (k : Nat) (bg : Bgs) (A B : List Ent) : Prop := ∃ m ths, s.ms = m :: ths ∧ Csv p.deeds s.near s.far s.box m ths ∧ Sn p.deeds s.near s.far s.box m ths k bg A B
def numS (s : Sta) (who : Nat) : Nat := ((s.ms[who]?).map Mv.n).getD 0
def evS (p : Play) (s : Sta) (bg : Bgs) (k who : Nat) : Option Int := match s.ms with
  | [] => none
  | m :: ths => match who with
    | 0 => evO p.deeds s.near s.far m bg k
    | w + 1 => (ths[w]?).bind fun q => evT p.deeds s.near s.far m q bg k
theorem csv_next {p : Play} {s s' : Sta} {who : Nat} {m m' : Mv} {ths ths' : List Mv} (ok : SOk p s) (em : s.ms = m :: ths) (c : Csv p.deeds s.near s.far s.box m ths) (e : stepM false false p s who = some s') (em' : s'.ms = m' :: ths') : Csv p.deeds s'.near s'.far s'.box m' ths' := by
  obtain ⟨m2, ths2, e2, c2⟩ := csv_step ok ⟨m, ths, em, c⟩ e
  rw [em'] at e2
  cases e2
  exact c2
theorem sn_step {p : Play} {s s' : Sta} {who k : Nat} {bg : Bgs} {A B : List Ent} (ok : SOk p s) (h : SnS p s k bg A B) (e : stepM false false p s who = some s') :
    ∃ A' B', SnS p s' (k + 1) (bgPut bg (who, numS s who) k) A' B' ∧ Em (who, numS s who) A B A' B' (evS p s bg k who) := by
  obtain ⟨m, ths, em, c, h⟩ := h
  have e0 : s.ms[0]? = some m := by rw [em]; rfl
  obtain ⟨hfar, ho⟩ := ok.own m e0
  have f0 := ok.far0
  obtain ⟨m1, em1, hw⟩ := step_ways e
  have hnum : numS s who = m1.n := by unfold numS; rw [em1]; rfl
  rw [hnum]
  rcases hw with ⟨rfl, x, ed, es⟩ | ⟨rfl, ed, es⟩ | ⟨w, rfl, hne, es⟩
  · rw [e0] at em1
    cases em1
    obtain ⟨l1, l2, l3⟩ := ho.lay x ed
    have ems : s'.ms = (layM x s m).2 :: ths := by
      rw [es]
      show (layM x s m).1.ms.set 0 _ = _
      rw [(layM_ms x s m).1, em]
      rfl
    have c' := csv_next ok em c e ems
    have hev : evS p s bg k 0 = if m.ph = 0 then none else some (2 * (k : Int)) := by
      unfold evS
      rw [em]
      show evO _ _ _ _ _ _ = _
      unfold evO
      rw [if_neg (by rw [ed]; simp)]
    rw [hev]
    have hfe := c.fe
    rw [eff_lay ed] at hfe
    subst es
    by_cases hp : m.ph = 0
    · rw [if_pos hp]
      have hl : layM x s m = ({ s with box := setB s.box s.near.toNat x }, ⟨m.n, 1, 0, none, m.told⟩) := by unfold layM; rw [if_pos hp]
      refine ⟨A, B, ⟨_, ths, ems, c', ?_⟩, rfl⟩
      show Sn _ (layM x s m).1.near (layM x s m).1.far (layM x s m).1.box _ _ _ _ _ _
      rw [hl]
      exact h.lay0 ed hp f0 l2
    · rw [if_neg hp]
      have hl : layM x s m = ({ s with near := s.near + 1 }, ⟨m.n + 1, 0, 0, none, m.told⟩) := by unfold layM; rw [if_neg hp]
      obtain ⟨A', B', h1, h2⟩ := h.lay1 ed (by omega) f0 hfe (c.l1 x ed hp)
      refine ⟨A', B', ⟨_, ths, ems, c', ?_⟩, h2⟩
      show Sn _ (layM x s m).1.near (layM x s m).1.far (layM x s m).1.box _ _ _ _ _ _
      rw [hl]
      exact h1
  · rw [e0] at em1
    cases em1
    obtain ⟨a1, a2, a3⟩ := ho.take ed
    have hph := ho.ph
    have ems : s'.ms = (takeM false s m).2 :: ths := by
      rw [es]
      show (takeM false s m).1.ms.set 0 _ = _
      rw [takeM_ms, em]
      rfl
    have c' := csv_next ok em c e ems
    have hev : evS p s bg k 0 = if m.ph = 1 then (if s.near < s.far then some (2 * (k : Int)) else none)
        else if m.ph = 2 then (if m.f < s.near then some (2 * (begO bg m k : Int)) else none)
        else if m.ph = 3 then some (if s.far = m.f then 2 * (begO bg m k : Int) else 2 * (k : Int))
        else none := by
      unfold evS
      rw [em]
      show evO _ _ _ _ _ _ = _
      unfold evO
      rw [if_pos ed]
    rw [hev]
    subst es
    have fin : ∀ {A' B'} {mo : Option Int} {t : Sta × Mv}, takeM false s m = t → Sn p.deeds t.1.near t.1.far t.1.box t.2 ths (k + 1) (bgPut bg (0, m.n) k) A' B' → Em (0, m.n) A B A' B' mo →
        ∃ A' B', SnS p (putM (takeM false s m) 0) (k + 1) (bgPut bg (0, m.n) k) A' B' ∧ Em (0, m.n) A B A' B' mo := fun {A' B' mo t} e1 h1 h2 => by
      refine ⟨A', B', ⟨_, ths, ems, c', ?_⟩, h2⟩
      show Sn _ (takeM false s m).1.near (takeM false s m).1.far (takeM false s m).1.box _ _ _ _ _ _
      rw [e1]
      exact h1
    rcases (show m.ph = 0 ∨ m.ph = 1 ∨ m.ph = 2 ∨ m.ph = 3 ∨ m.ph = 4 by omega) with z | z | z | z | z
    · rw [if_neg (by omega), if_neg (by omega), if_neg (by omega)]
      exact fin (by unfold takeM; rw [if_pos z]) (h.tk0 c ed z f0) rfl
    · rw [if_pos z]
      obtain ⟨A', B', h1, h2⟩ := h.tk1 c ed z
      exact fin (by unfold takeM; rw [if_neg (by omega), if_pos z]) h1 h2
    · rw [if_neg (by omega), if_pos z]
      rcases Int.lt_trichotomy s.near m.f with y | y | y
      · rw [if_neg (by omega)]
        exact fin (by unfold takeM; rw [if_neg (by omega), if_neg (by omega), if_pos z, if_pos y]) (h.tk2a c ed z (ho.x (by omega)) y) rfl
      · rw [if_neg (by omega)]
        exact fin (by unfold takeM; rw [if_neg (by omega), if_neg (by omega), if_pos z, if_neg (by omega), if_neg (by omega)]) (h.tk2c ed z y) rfl
      · rw [if_pos y]
        obtain ⟨A', B', h1, h2⟩ := h.tk2b c ed z y
        exact fin (by unfold takeM; rw [if_neg (by omega), if_neg (by omega), if_pos z, if_neg (by omega), if_pos y]) h1 h2
    · rw [if_neg (by omega), if_neg (by omega), if_pos z]
      have hn := (a3 (by omega)).1
      by_cases y : s.far = m.f
      · rw [if_pos y]
        obtain ⟨A', B', h1, h2⟩ := h.tk3a c ed z hn y
        exact fin (by unfold takeM; rw [if_neg (by omega), if_neg (by omega), if_neg (by omega), if_pos z, if_pos y]) h1 h2
      · rw [if_neg y]
        obtain ⟨A', B', h1, h2⟩ := h.tk3b c ed z hn y
        exact fin (by unfold takeM; rw [if_neg (by omega), if_neg (by omega), if_neg (by omega), if_pos z, if_neg y]) h1 h2
    · rw [if_neg (by omega), if_neg (by omega), if_neg (by omega)]
      exact fin (by unfold takeM; rw [if_neg (by omega), if_neg (by omega), if_neg (by omega), if_neg (by omega)]) (h.tk4 c ed (by omega) (a3 (by omega)).1) rfl
  · have eq : ths[w]? = some m1 := by rw [em, List.getElem?_cons_succ] at em1; exact em1
    obtain ⟨most, _, hT⟩ := ok.thf w m m1 e0 em1
    have hqm := List.mem_of_getElem? eq
    have hl := c.tlen m1 hqm
    have ems : s'.ms = m :: ths.set w (attM false s m1).2 := by
      rw [es]
      show (attM false s m1).1.ms.set (w + 1) _ = _
      rw [(attM_box false s m1).2.2, em]
      rfl
    have c' := csv_next ok em c e ems
    have hev : evS p s bg k (w + 1) = evT p.deeds s.near s.far m m1 bg k := by
      unfold evS
      rw [em]
      show (ths[w]?).bind _ = _
      rw [eq]
      rfl
    rw [hev]
    subst es
    have fin : ∀ {A' B'} {mo : Option Int} {t : Sta × Mv}, attM false s m1 = t → Sn p.deeds t.1.near t.1.far t.1.box m (ths.set w t.2) (k + 1) (bgPut bg (w + 1, m1.n) k) A' B' → Em (w + 1, m1.n) A B A' B' mo →
        ∃ A' B', SnS p (putM (attM false s m1) (w + 1)) (k + 1) (bgPut bg (w + 1, m1.n) k) A' B' ∧ Em (w + 1, m1.n) A B A' B' mo := fun {A' B' mo t} e1 h1 h2 => by
      refine ⟨A', B', ⟨_, _, ems, c', ?_⟩, h2⟩
      show Sn _ (attM false s m1).1.near (attM false s m1).1.far (attM false s m1).1.box _ (ths.set w (attM false s m1).2) _ _ _ _
      rw [e1]
      exact h1
    have hph := hT.ph
    unfold evT
    rcases (show m1.ph = 0 ∨ m1.ph = 1 ∨ m1.ph = 2 ∨ m1.ph = 3 by omega) with z | z | z | z
    · rw [if_neg (by omega), if_neg (by omega)]
      exact fin (by unfold attM; rw [if_pos z]) (h.thOn (q' := ⟨m1.n, 1, s.far, none, m1.told⟩) eq (.inl ⟨rfl, Nat.le_refl _⟩) (dueT_on eq rfl) (fun y => absurd y (by show ¬ 2 ≤ 1; omega))) rfl
    · rw [if_pos z]
      by_cases y : s.near ≤ m1.f
      · rw [if_pos y]
        obtain ⟨A', B', h1, h2⟩ := h.th1 c eq z y
        exact fin (by unfold attM; rw [if_neg (by omega), if_pos z, if_pos y]) h1 h2
      · rw [if_neg y]
        exact fin (by unfold attM; rw [if_neg (by omega), if_pos z, if_neg y]) (h.thOn (q' := ⟨m1.n, 2, m1.f, none, m1.told⟩) eq (.inl ⟨rfl, Nat.le_of_ble_eq_true rfl⟩) (dueT_on eq rfl) (fun _ y2 => absurd y2 y)) rfl
    · rw [if_neg (by omega), if_neg (by omega)]
      exact fin (by unfold attM; rw [if_neg (by omega), if_neg (by omega), if_pos z]) (h.thOn (q' := ⟨m1.n, 3, m1.f, s.box m1.f.toNat, m1.told⟩) eq (.inl ⟨rfl, Nat.le_of_ble_eq_true rfl⟩) (dueT_on eq rfl) (fun _ _ => ⟨by omega, rfl, rfl⟩)) rfl
    · rw [if_neg (by omega), if_pos z]
      by_cases y : s.far = m1.f
      · rw [if_pos y]
        obtain ⟨A', B', h1, h2⟩ := h.th3 c eq z y f0
        refine fin (t := ({ s with far := m1.f + 1 }, endM m1 (whatOf m1.x))) (by unfold attM; rw [if_neg (by omega), if_neg (by omega), if_neg (by omega), if_pos (.inl y)]) ?_ h2
        show Sn _ s.near (m1.f + 1) s.box _ _ _ _ _ _
        rw [← y]
        exact h1
      · rw [if_neg y]
        have hd : ∀ v i, dueT (ths.set w (endM m1 .lost)) v i = dueT ths v i := fun v i => by
          rw [dueT_add (x := .lost) eq hl rfl v i]
          split
          · rename_i e1
            have e2 : v = w := by simpa using congrArg Prod.fst e1
            have e3 : i = m1.n := by simpa using congrArg Prod.snd e1
            rw [e2, e3, dueT_none eq hl]
            rfl
          · rfl
        exact fin (by unfold attM; rw [if_neg (by omega), if_neg (by omega), if_neg (by omega), if_neg (by simpa using y)]) (h.thOn eq (.inr ⟨rfl, rfl⟩) hd (fun y => by simp [endM] at y)) rfl
/-! the beginning -/
theorem sn_0 (p : Play) : SnS p (sta0 p) 0 (fun _ => none) [] [] := by
  have hm : ∀ {w : Nat} {q : Mv}, (List.replicate p.tries.length (⟨0, 0, 0, none, []⟩ : Mv))[w]? = some q → q = ⟨0, 0, 0, none, []⟩ := fun h => List.eq_of_mem_replicate (List.mem_of_getElem? h)
  refine ⟨⟨0, 0, 0, none, []⟩, List.replicate p.tries.length ⟨0, 0, 0, none, []⟩, ?_, csv_0 p.deeds p.tries.length, ⟨⟨List.Pairwise.nil, fun e he => (by cases he), fun d b l e => (by cases e), fun d t => ?_, List.nodup_nil⟩, ⟨fun j => ?_, fun w q j e => ?_, fun w j _ => rfl⟩, fun _ => ⟨rfl, [], rfl, rfl⟩, fun _ e => (by simp at e), fun _ e => (by simp at e)⟩⟩
  · show List.replicate (1 + p.tries.length) _ = _
    rw [Nat.add_comm, List.replicate_succ]
  · constructor
    · rintro ⟨e, he, _⟩
      cases he
    · intro e
      obtain ⟨v, i⟩ := d
      cases v with
      | zero =>
        have e' : dueL p.deeds 0 (ownT p.deeds 0 ⟨0, 0, 0, none, []⟩) i = some t := e
        rw [ownM_no (by omega)] at e'
        unfold dueL at e'
        split at e'
        · simp at e'
        · simp at e'
        · cases e'
      | succ v =>
        have e' : dueT (List.replicate p.tries.length ⟨0, 0, 0, none, []⟩) v i = some t := e
        unfold dueT at e'
        cases eq : (List.replicate p.tries.length (⟨0, 0, 0, none, []⟩ : Mv))[v]? with
        | none => rw [eq] at e'; cases e'
        | some q =>
          rw [eq, hm eq] at e'
          simp at e'
  · exact ⟨fun _ => (by show 0 < j ∨ (j = 0 ∧ 0 = 0); omega), fun _ => rfl⟩
  · rw [hm e]
    exact ⟨fun _ => (by show 0 < j ∨ (j = 0 ∧ 0 = 0); omega), fun _ => rfl⟩
/-- spans of a weaving: the state behind, when each deed began and was last done -/
def spanR (p : Play) : Sta → Nat → Bgs → List Nat → Option (Sta × Bgs)
  | s, _, bg, [] => some (s, bg)
  | s, k, bg, w :: ws => (stepM false false p s w).bind fun s' => spanR p s' (k + 1) (bgPut bg (w, numS s w) k) ws
theorem sn_run {p : Play} : ∀ {ws : List Nat} {s s' : Sta} {k : Nat} {bg bg' : Bgs} {A B : List Ent}, SOk p s → SnS p s k bg A B → spanR p s k bg ws = some (s', bg') → SOk p s' ∧ ∃ A' B', SnS p s' (k + ws.length) bg' A' B'
  | [], s, s', k, bg, bg', A, B, ok, h, e => by cases e; exact ⟨ok, A, B, h⟩
  | w :: ws, s, s', k, bg, bg', A, B, ok, h, e => by
    unfold spanR at e
    cases es : stepM false false p s w with
    | none => rw [es] at e; cases e
    | some u =>
      rw [es] at e
      obtain ⟨A', B', h1, _⟩ := sn_step ok h es
      have := sn_run (step_ok ok es) h1 e
      rw [show k + (w :: ws).length = k + 1 + ws.length by rw [List.length_cons]; omega]
      exact this
/-- a good order: all deeds told, none behind one that had ended ahead of its beginning, telling what they told -/
structure Good (bg : Bgs) (du : Nat × Nat → Option Tl) (row : List Int) (left : List (Option Int)) (L : List (Nat × Nat)) : Prop where
  nod : L.Nodup
  all : ∀ d, d ∈ L ↔ du d ≠ none
  free : L.Pairwise fun a b => ∀ b1 l1 b2 l2, bg a = some (b1, l1) → bg b = some (b2, l2) → b1 ≤ l2
  rows : ∃ r, rowsB row (L.filterMap du) = some r ∧ r.map some = left
theorem sn_good {p : Play} {s : Sta} {k : Nat} {bg : Bgs} {A B : List Ent} {m : Mv} {ths : List Mv} (h : SnS p s k bg A B) (em : s.ms = m :: ths) (hp : m.ph = 0) : Good bg (due p.deeds s.near m ths) [] (inB s.far s.near s.box) (A.map Ent.d) := by
  obtain ⟨m', ths', em', c, h⟩ := h
  rw [em] at em'
  cases em'
  obtain ⟨hB, row, h1, h2⟩ := h.mi (fun z => by omega)
  subst hB
  have hk := h.bk
  rw [List.append_nil] at hk
  refine ⟨hk.nod, fun d => ?_, ?_, row, ?_, h2⟩
  · rw [List.mem_map]
    constructor
    · rintro ⟨e, he, e1⟩
      rw [(hk.key d e.t).mp ⟨e, he, e1, rfl⟩]
      simp
    · intro e
      cases hd : due p.deeds s.near m ths d with
      | none => exact absurd hd e
      | some t =>
        obtain ⟨e, he, e1, _⟩ := (hk.key d t).mpr hd
        exact ⟨e, he, e1⟩
  · rw [List.pairwise_map]
    refine hk.srt.imp_of_mem fun {a b} ha hb hab b1 l1 b2 l2 e1 e2 => ?_
    obtain ⟨x1, y1, f1, g1, _⟩ := hk.bnd a ha
    obtain ⟨x2, y2, f2, _, g2⟩ := hk.bnd b hb
    rw [f1] at e1
    rw [f2] at e2
    cases e1
    cases e2
    omega
  · have : (A.map Ent.d).filterMap (due p.deeds s.near m ths) = A.map Ent.t := by
      rw [List.filterMap_map]
      have : ∀ L : List Ent, (∀ e ∈ L, e ∈ A) → L.filterMap ((due p.deeds s.near m ths) ∘ Ent.d) = L.map Ent.t := by
        intro L
        induction L with
        | nil => intro _; rfl
        | cons e L ih =>
          intro hL
          have he := (hk.key e.d e.t).mp ⟨e, hL e (by simp), rfl, rfl⟩
          have he2 : ((due p.deeds s.near m ths) ∘ Ent.d) e = some e.t := he
          rw [List.filterMap_cons_some he2, ih fun e' h' => hL e' (by simp [h'])]
          rfl
      exact this A fun _ h => h
    rw [this]
    exact h1

/-! ### pairs of numbers as keys -/
def nkP (t : Nat × Nat) : NestedKey := .tup [.num t.1, .num t.2]
theorem nkP_of (t : Nat × Nat) : nkD (encNN t) = some (nkP t) := rfl
theorem nkP_inj {t u : Nat × Nat} (h : nkP t = nkP u) : t = u := by
  unfold nkP at h
  injection h with h
  injection h with h1 h2
  injection h2 with h2
  injection h1 with h1
  injection h2 with h2
  exact Prod.ext (by omega) (by omega)
theorem nkP_depth (t : Nat × Nat) : (nkP t).depth ≤ 8 := by simp [nkP, NestedKey.depth, NestedKey.depthAll]
theorem look_kvs {f : Nat × Nat → D} {t : Nat × Nat} : ∀ {ts : List (Nat × Nat)}, t ∈ ts → lookN (nkP t) (ts.map fun t => (encNN t, f t)) = some (f t)
  | u :: ts, h => by
    rw [List.map_cons]
    unfold lookN
    by_cases e : u = t
    · subst e
      rw [if_pos (nkP_of u)]
    · rw [if_neg fun z => e (nkP_inj (by rw [nkP_of] at z; exact Option.some.inj z))]
      exact look_kvs ((List.mem_cons.mp h).resolve_left fun z => e z.symm)
theorem look_out {f : Nat × Nat → D} {t : Nat × Nat} : ∀ {ts : List (Nat × Nat)}, t ∉ ts → lookN (nkP t) (ts.map fun t => (encNN t, f t)) = none
  | [], _ => rfl
  | u :: ts, h => by
    rw [List.map_cons]
    unfold lookN
    rw [if_neg fun z => h (by rw [nkP_of] at z; rw [nkP_inj (Option.some.inj z)]; simp)]
    exact look_out fun z => h (by simp [z])
theorem put_out {f : Nat × Nat → D} {t : Nat × Nat} : ∀ {ts : List (Nat × Nat)}, t ∉ ts → putN (nkP t) (encNN t) (f t) (ts.map fun t => (encNN t, f t)) = (ts ++ [t]).map fun t => (encNN t, f t)
  | [], _ => rfl
  | u :: ts, h => by
    rw [List.map_cons]
    unfold putN
    rw [if_neg fun z => h (by rw [nkP_of] at z; rw [nkP_inj (Option.some.inj z)]; simp), put_out fun z => h (by simp [z])]
    rfl
def C_is_whole : Ct := fun ds G Q _ => ∃ d t, ds = [d] ∧ tyN d G = some t ∧ Q (.bl (t == "int")) G
theorem len_is_whole (ds G Q E) (h : C_is_whole ds G Q E) : ds.length = 1 := by obtain ⟨_, _, rfl, _⟩ := h; rfl
abbrev N_is_whole : List Str := ["thing"]
def T_is_whole : DX → DS := fun E => (dRet (dAndV (dCB isinstD (dCons (dVar 0) (dCons (dC (.ty "int")) dNil))) (dNotV (dCB isinstD (dCons (dVar 0) (dCons (dC (.ty "bool")) dNil))))))
theorem tyN_mem {d : D} {G : DG} {t : String} (h : tyN d G = some t) : t ∈ tys := by
  unfold tyN at h
  split at h <;> first | (cases h; decide) | (split at h <;> first | (cases h; decide) | cases h) | cases h
theorem run_is_whole (ds G Q E) (h : C_is_whole ds G Q E) : T_is_whole E { nx := fun _ G' => DrK Q .non G', rt := DrK Q, bk := fun _ _ => False, ct := fun _ _ => False } (dstart N_is_whole ds) G := by
  obtain ⟨d, t, rfl, ht, q⟩ := h
  show T_is_whole E _ [some d] G
  have hm := tyN_mem ht
  unfold T_is_whole
  walk_at "run"
  refine s_isi ht (by decide) ?_
  walk_at "run"
  simp only [tys, List.mem_cons, List.not_mem_nil, or_false] at hm
  have fin : ∀ b, b = (t == "int") → DrK Q (.bl b) G := fun b e => by rw [e]; exact s_rt q
  rcases hm with rfl | rfl | rfl | rfl | rfl | rfl | rfl
  all_goals
    first
    | (refine br_ff (by decide) ?_
       exact fin _ (by decide))
    | (refine br_tt (by decide) ?_
       walk_at "run"
       refine s_isi ht (by decide) ?_
       walk_at "run"
       exact fin _ (by decide))
/-! ### when each deed began and ended: the dict -/
theorem put_upd {f : Nat × Nat → D} {t : Nat × Nat} {v : D} : ∀ {ts : List (Nat × Nat)}, ts.Nodup → putN (nkP t) (encNN t) v (ts.map fun t => (encNN t, f t)) = (if t ∈ ts then ts else ts ++ [t]).map fun u => (encNN u, if u = t then v else f u)
  | [], _ => by
    rw [if_neg (by simp)]
    show [(encNN t, v)] = [(encNN t, if t = t then v else f t)]
    rw [if_pos rfl]
  | u :: ts, h => by
    rw [List.map_cons]
    unfold putN
    have hn := List.nodup_cons.mp h
    by_cases e : u = t
    · subst e
      rw [if_pos (nkP_of u), if_pos (by simp), List.map_cons, if_pos rfl]
      congr 1
      refine List.map_congr_left fun w hw => ?_
      rw [if_neg fun z => hn.1 (by rw [← z]; exact hw)]
    · rw [if_neg fun z => e (nkP_inj (by rw [nkP_of] at z; exact Option.some.inj z)), put_upd hn.2]
      by_cases ht : t ∈ ts
      · rw [if_pos ht, if_pos (by simp [ht]), List.map_cons, if_neg e]
      · rw [if_neg ht, if_neg (by simp [ht]; exact fun z => e z.symm), List.cons_append, List.map_cons, if_neg e]
def addK (ts : List (Nat × Nat)) (t : Nat × Nat) : List (Nat × Nat) := if t ∈ ts then ts else ts ++ [t]
theorem addK_nd {ts : List (Nat × Nat)} {t : Nat × Nat} (h : ts.Nodup) : (addK ts t).Nodup := by
  unfold addK
  split
  · exact h
  · rename_i e
    rw [List.nodup_append]
    refine ⟨h, by simp, fun a ha b hb z => ?_⟩
    rw [List.mem_singleton.mp hb] at z
    exact e (by rw [← z]; exact ha)
theorem addK_mem {ts : List (Nat × Nat)} {t u : Nat × Nat} : u ∈ addK ts t ↔ u ∈ ts ∨ u = t := by
  unfold addK
  split
  · rename_i e
    constructor
    · exact .inl
    · rintro (z | z)
      · exact z
      · rw [z]; exact e
  · simp
theorem addK_len {ts : List (Nat × Nat)} {t : Nat × Nat} : (addK ts t).length ≤ ts.length + 1 := by
  unfold addK
  split
  · omega
  · simp
def encBL (x : Option (Nat × Nat)) : D := match x with
  | some (b, l) => .tup [.int b, .int l]
  | none => .non
/-- keys of the deeds begun so far -/
structure KBg (ks : List (Nat × Nat)) (bg : Bgs) : Prop where
  nd : ks.Nodup
  mem : ∀ d, d ∈ ks ↔ bg d ≠ none
theorem KBg.put {ks : List (Nat × Nat)} {bg : Bgs} (h : KBg ks bg) (d : Nat × Nat) (k : Nat) : KBg (addK ks d) (bgPut bg d k) := ⟨addK_nd h.nd, fun e => by
  rw [addK_mem]
  by_cases z : e = d
  · subst z
    rw [bgPut_self]
    simp
  · rw [bgPut_ne z, h.mem e]
    simp [z]⟩
def timesO (bg : Bgs) (ks : List (Nat × Nat)) : List (D × D) := ks.map fun t => (encNN t, encBL (bg t))
theorem times_put {bg : Bgs} {ks : List (Nat × Nat)} (h : KBg ks bg) (d : Nat × Nat) (k : Nat) : putN (nkP d) (encNN d) (.tup [.int ((bg d).elim k Prod.fst : Nat), .int k]) (timesO bg ks) = timesO (bgPut bg d k) (addK ks d) := by
  unfold timesO
  rw [put_upd h.nd]
  refine List.map_congr_left fun u _ => ?_
  by_cases z : u = d
  · subst z
    rw [if_pos rfl, bgPut_self]
    rfl
  · rw [if_neg z, bgPut_ne z]
theorem times_get {bg : Bgs} {ks : List (Nat × Nat)} (h : KBg ks bg) (d : Nat × Nat) (k : Nat) : (lookN (nkP d) (timesO bg ks)).getD (.tup [.int (k : Nat), .int (k : Nat)]) = .tup [.int ((bg d).elim k Prod.fst : Nat), .int (((bg d).elim (k, k) id).2 : Nat)] := by
  unfold timesO
  cases e : bg d with
  | none =>
    rw [look_out fun z => (h.mem d).mp z e]
    rfl
  | some q =>
    rw [look_kvs (f := fun t => encBL (bg t)) ((h.mem d).mpr (by rw [e]; simp))]
    show encBL (bg d) = _
    rw [e]
    rfl
theorem span_snoc {p : Play} : ∀ {ws : List Nat} {s t : Sta} {k w : Nat} {bg bg1 : Bgs}, spanR p s k bg ws = some (t, bg1) → spanR p s k bg (ws ++ [w]) = (stepM false false p t w).bind fun u => some (u, bgPut bg1 (w, numS t w) (k + ws.length))
  | [], s, t, k, w, bg, bg1, h => by
    cases h
    rfl
  | v :: ws, s, t, k, w, bg, bg1, h => by
    unfold spanR at h
    show (stepM false false p s v).bind _ = _
    cases es : stepM false false p s v with
    | none => rw [es] at h; cases h
    | some u =>
      rw [es] at h
      show spanR p u (k + 1) _ (ws ++ [w]) = _
      rw [span_snoc h, show k + 1 + ws.length = k + (v :: ws).length by rw [List.length_cons]; omega]
theorem span_take {p : Play} {s t : Sta} {k : Nat} {bg bg1 : Bgs} {ws : List Nat} (h : spanR p s k bg ws = some (t, bg1)) (i : Nat) : ∃ u bg2, spanR p s k bg (ws.take i) = some (u, bg2) := by
  induction ws generalizing s k bg i with
  | nil => exact ⟨t, bg1, by rw [List.take_nil]; exact h⟩
  | cons v ws ih =>
    cases i with
    | zero => exact ⟨s, bg, rfl⟩
    | succ i =>
      unfold spanR at h
      rw [List.take_succ_cons]
      cases es : stepM false false p s v with
      | none => rw [es] at h; cases h
      | some u =>
        rw [es] at h
        obtain ⟨u2, bg2, h2⟩ := ih h i
        exact ⟨u2, bg2, by unfold spanR; rw [es]; exact h2⟩
theorem span_ok {p : Play} : ∀ {ws : List Nat} {s t : Sta} {k : Nat} {bg bg1 : Bgs}, SOk p s → spanR p s k bg ws = some (t, bg1) → SOk p t
  | [], s, t, k, bg, bg1, ok, h => by cases h; exact ok
  | v :: ws, s, t, k, bg, bg1, ok, h => by
    unfold spanR at h
    cases es : stepM false false p s v with
    | none => rw [es] at h; cases h
    | some u =>
      rw [es] at h
      exact span_ok (step_ok ok es) h
theorem span_of {p : Play} : ∀ {ws : List Nat} {s t : Sta} (k : Nat) (bg : Bgs), runM p s ws = some t → ∃ bg1, spanR p s k bg ws = some (t, bg1)
  | [], s, t, k, bg, h => by cases h; exact ⟨bg, rfl⟩
  | v :: ws, s, t, k, bg, h => by
    unfold runM at h
    unfold spanR
    cases es : stepM false false p s v with
    | none => rw [es] at h; cases h
    | some u =>
      rw [es] at h
      exact span_of (k + 1) _ h
theorem ms_get {s : Sta} {who : Nat} (h : who < s.ms.length) : ∃ m, s.ms[who]? = some m ∧ numS s who = m.n ∧ (s.ms.map encMv)[who]? = some (.tup [.int m.n, .int m.ph, .int m.f, encOI m.x, .tup (m.told.map encWhat)]) := by
  refine ⟨s.ms[who], List.getElem?_eq_getElem h, ?_, ?_⟩
  · unfold numS
    rw [List.getElem?_eq_getElem h]
    rfl
  · rw [List.getElem?_map, List.getElem?_eq_getElem h]
    rfl
abbrev bg0 : Bgs := fun _ => none
def C_times_of : Ct := fun ds G Q _ => ∃ p ws s bg, ds = [encPlay p, .tup (ws.map encN)] ∧ PlOk p ∧ ws.length ≤ 2000 ∧ spanR p (sta0 p) 0 bg0 ws = some (s, bg) ∧ (∀ w, w ≤ p.tries.length → stepM false false p s w = none) ∧
  ∀ G' f ks, Le G G' → G f = none → G' f = some (.dic none (timesO bg ks)) → KBg ks bg → ks.length ≤ 2000 → Q (.tup [.ref f, encSt p.deeds.length s]) G'
theorem len_times_of (ds G Q E) (h : C_times_of ds G Q E) : ds.length = 2 := by obtain ⟨_, _, _, _, rfl, _⟩ := h; rfl
abbrev N_times_of : List Str := ["play", "weaving", "state", "found", "number", "who", "deed"]
def T_times_of : DX → DS := fun E => (dSeq (dAsg (dCall C_first_state E (dCons (dVar 0) dNil)) (dgName 2))
    (dSeq (dAsg dDicN (dgName 3))
    (dSeq (dFor (diRange (dCons (dCB lenD (dCons (dVar 1) dNil)) dNil)) (dgName 4) (dSeq (dAsg (dOp itemD (dVar 1) (dVar 4)) (dgName 5))
    (dSeq (dIf (dOr (dNot (dTru (dCall C_is_whole E (dCons (dVar 5) dNil)))) (dNot (dTest (dChain leD leD (dC (.int 0)) (dVar 5) (dCB lenD (dCons (dOp itemD (dVar 0) (dC (.int 1))) dNil)))))) dNever dNext)
    (dSeq (dAsg (dTup (dCons (dVar 5) (dCons (dOp itemD (dOp itemD (dOp itemD (dVar 2) (dC (.int 3))) (dVar 5)) (dC (.int 0))) dNil))) (dgName 6))
    (dSeq (dAsg (dCall C_moved E (dCons (dVar 0) (dCons (dC (.str "good")) (dCons (dVar 2) (dCons (dVar 5) dNil))))) (dgName 2))
    (dSeq (dIf (dTest (dOp (isD false) (dVar 2) (dC .non))) dNever dNext)
    (dDput (dVar 3) (dVar 6) (dTup (dCons (dOp itemD (dMx isDc getmD (dVar 3) (dCons (dVar 6) (dCons (dTup (dCons (dVar 4) (dCons (dVar 4) dNil))) dNil))) (dC (.int 0))) (dCons (dVar 4) dNil))))))))))
    (dSeq (dIf (dTest (dOp neD (dLc (diRange (dCons (dOp addD (dC (.int 1)) (dCB lenD (dCons (dOp itemD (dVar 0) (dC (.int 1))) dNil))) dNil)) (bdN 5) [5] (dTest (dOp (isD true) (dCall C_moved noX (dCons (dVar 0) (dCons (dC (.str "good")) (dCons (dVar 2) (dCons (dVar 5) dNil))))) (dC .non))) (dVar 5)) (dLst dNil))) dNever dNext)
    (dRet (dTup (dCons (dVar 3) (dCons (dVar 2) dNil))))))))
theorem run_times_of (ds G Q E) (h : C_times_of ds G Q E) : T_times_of E { nx := fun _ G' => DrK Q .non G', rt := DrK Q, bk := fun _ _ => False, ct := fun _ _ => False } (dstart N_times_of ds) G := by
  obtain ⟨p, ws, s, bg, rfl, hp, hwl, hr, he, q⟩ := h
  have ht := hp.tries
  show T_times_of E _ [some (.tup [.tup (p.deeds.map encDeed), .tup (p.tries.map encN)]), some (.tup (ws.map encN)), none, none, none, none, none] G
  unfold T_times_of
  walk_at "run"
  refine UpC.of ⟨p, rfl, hp, ?_⟩
  walk_at "run"
  intro f hf
  walk_at "run"
  refine loop_inv (fun i σ G' => ∃ s1 bg1 ks v4 v5 v6, spanR p (sta0 p) 0 bg0 (ws.take i) = some (s1, bg1) ∧ KBg ks bg1 ∧ ks.length ≤ i ∧ σ = [some (.tup [.tup (p.deeds.map encDeed), .tup (p.tries.map encN)]), some (.tup (ws.map encN)), some (encSt p.deeds.length s1), some (.ref f), v4, v5, v6] ∧ Le (up G f (.dic none (timesO bg1 ks))) G')
    ⟨sta0 p, bg0, [], none, none, none, rfl, ⟨List.nodup_nil, fun d => by simp⟩, Nat.le_refl _, rfl, .refl _⟩ (fun _ _ _ _ _ => trivial) (fun i d σ' G' N hd hi hP hN => ?_) (fun σ' G' hP => ?_)
  · obtain ⟨s1, bg1, ks, v4, v5, v6, hr1, hk, hkl, rfl, le⟩ := hP
    obtain ⟨rfl, hi2⟩ := rangeD_get0 hd
    rw [List.length_map] at hi2
    replace hi2 : i < ws.length := by omega
    have hok := span_ok (sta0_ok p) hr1
    obtain ⟨u, bg2, hu⟩ := span_take hr (i + 1)
    have hsn := span_snoc (w := ws[i]) hr1
    have htk : ws.take (i + 1) = ws.take i ++ [ws[i]] := by rw [List.take_add_one, List.getElem?_eq_getElem hi2]; rfl
    rw [← htk, hu] at hsn
    have hst : stepM false false p s1 ws[i] = some u ∧ bg2 = bgPut bg1 (ws[i], numS s1 ws[i]) i := by
      cases es : stepM false false p s1 ws[i] with
      | none => rw [es] at hsn; cases hsn
      | some u2 =>
        rw [es] at hsn
        simp only [Option.bind, Option.some.injEq, Prod.mk.injEq] at hsn
        refine ⟨by rw [hsn.1], ?_⟩
        rw [hsn.2, List.length_take, Nat.min_eq_left (by omega), Nat.zero_add]
    have hw := runM_who hok hst.1
    obtain ⟨m, em, hn, eM⟩ := ms_get (s := s1) (who := ws[i]) (by have := hok.len; omega)
    have hG := le _ _ up_same
    have hx : (ws.map encN)[i]? = some (.int (ws[i] : Nat)) := by rw [List.getElem?_map, List.getElem?_eq_getElem hi2]; rfl
    generalize ws[i] = who at *
    have et : decide ((0 : Int) ≤ (who : Int)) = true := by simp
    have et2 : decide ((who : Int) ≤ ((p.tries.map encN).length : Nat)) = true := by
      rw [List.length_map]
      simp
      omega
    walk_at "run"
    have eS : encSt p.deeds.length s1 = .tup [.int s1.near, .int s1.far, .tup (encBx p.deeds.length s1.box), .tup (s1.ms.map encMv)] := rfl
    have gW : atI (s1.ms.map encMv) (who : Int) = some (.tup [.int m.n, .int m.ph, .int m.f, encOI m.x, .tup (m.told.map encWhat)]) := by rw [atI_cast]; exact eM
    rw [eS]
    walk_at "run"
    refine UpC.of ⟨_, "int", rfl, rfl, ?_⟩
    walk_at "run"
    rw [et]
    walk_at "run"
    refine br_ff (by simpa using et2) ?_
    walk_at "run"
    rw [← eS]
    refine UpC.of ⟨p, _, s1, who, rfl, hp, hok, hw, ?_⟩
    rw [good_bare, good_blind, hst.1]
    have eu : encOS p.deeds.length (some u) = .tup [.int u.near, .int u.far, .tup (encBx p.deeds.length u.box), .tup (u.ms.map encMv)] := rfl
    rw [eu]
    walk_at "run"
    refine ⟨⟨f, _, rfl, hG⟩, ?_⟩
    walk_at "run"
    refine s_getm hG (.inl ⟨_, rfl⟩) (nkP_of (who, m.n)) (nkP_depth _) ?_
    rw [times_get hk]
    walk_at "run"
    refine s_dputN hG (.inl ⟨_, rfl⟩) (nkP_of (who, m.n)) (nkP_depth _) rfl (by rw [timesO, List.length_map]; omega) ?_
    have hp2 : putN (nkP (who, m.n)) (.tup [.int who, .int m.n]) (.tup [.int ((bg1 (who, m.n)).elim i Prod.fst : Nat), .int i]) (timesO bg1 ks) = timesO (bgPut bg1 (who, m.n) i) (addK ks (who, m.n)) := times_put hk (who, m.n) i
    rw [hp2]
    have hbg := hst.2
    rw [hn] at hbg
    rw [hbg] at hu
    exact hN _ _ _ (.refl _) ⟨u, _, _, _, _, _, hu, hk.put _ _, by have := @addK_len ks (who, m.n); omega, rfl, le_reput le⟩
  · obtain ⟨s1, bg1, ks, v4, v5, v6, hr1, hk, hkl, rfl, le⟩ := hP
    rw [rangeD_length, List.length_map, show (((ws.length : Nat) : Int) - 0).toNat = ws.length by omega, List.take_length, hr] at hr1
    cases hr1
    have hokS := span_ok (sta0_ok p) hr
    have hf0 : (List.range (1 + p.tries.length)).filter (fun k => (stepM false false p s k).isSome) = [] := List.filter_eq_nil_iff.mpr fun k hk => by
      simp at hk
      rw [he k (by omega)]
      simp
    walk_at "run"
    intro r hr2
    rw [List.length_map, show (1 : Int) + (p.tries.length : Nat) = ((1 + p.tries.length : Nat) : Int) by omega, rangeD0]
    refine comp_pure (List.range (1 + p.tries.length)) (fun k : Nat => D.int k) (fun k => (stepM false false p s k).isSome) encN (by simp; omega) hr2 (fun _ => trivial) (fun k hk o => ⟨_, rfl, fun QB h => ?_, fun _ QD h => ?_⟩) ?_
    · simp at hk
      walk_at "run"
      refine UpC.of ⟨p, _, s, k, rfl, hp, hokS, by omega, ?_⟩
      rw [good_bare, good_blind]
      cases e : stepM false false p s k with
      | none =>
        rw [e] at h
        walk_at "run"
        exact h
      | some t =>
        rw [e] at h
        walk_at "run"
        exact h
    · walk_at "run"
      exact h
    rw [hf0]
    walk_at "run"
    intro c hc
    refine s_neLE (ys := []) ok_N (by walk_at "look") up_same ?_
    walk_at "run"
    refine s_rt (q _ f ks ?_ hf ?_ hk (by rw [rangeD_length, List.length_map] at hkl; omega))
    · refine (le_new hf (.refl _)).trans (le.trans ?_)
      walk_at "le"
    · have := le _ _ up_same
      walk_at "look"

/-! ### what each deed told -/
def encTl : Tl → D
  | .lay t => .tup [.str "lay", .int t]
  | .take x => .tup [.str "take", encOI x]
  | .tr x => .tup [.str "try", encOI x]
theorem tkn_filter (ds : List Deed) (i : Nat) (h : i ≤ ds.length) : ((ds.take i).filter fun d => decide (d = .take)).length = tkn ds i := by
  unfold tkn lays
  have h1 : (ds.take i).length = i := by rw [List.length_take]; omega
  have h2 : ∀ l : List Deed, (l.filter fun d => decide (d = .take)).length + (l.filter fun d => decide (d ≠ .take)).length = l.length := by
    intro l
    induction l with
    | nil => rfl
    | cons x l ih => cases x <;> simp [List.filter_cons] at ih ⊢ <;> omega
  have := h2 (ds.take i)
  omega
def C_takes_ahead : Ct := fun ds G Q _ => ∃ (p : Play) (i : Nat), ds = [encPlay p, .int i] ∧ PlOk p ∧ i ≤ p.deeds.length ∧ Q (.int (tkn p.deeds i : Nat)) G
theorem len_takes_ahead (ds G Q E) (h : C_takes_ahead ds G Q E) : ds.length = 2 := by obtain ⟨_, _, rfl, _⟩ := h; rfl
abbrev N_takes_ahead : List Str := ["play", "number", "deed"]
def T_takes_ahead : DX → DS := fun E => (dRet (dCB lenD (dCons (dLc (diSeq (dSl (dOp itemD (dVar 0) (dC (.int 0))) dNoPart (dPart (dVar 1)))) (bdN 2) [2] (dTest (dOp eqD (dOp itemD (dVar 2) (dC (.int 0))) (dC (.str "take")))) (dVar 2)) dNil)))
theorem run_takes_ahead (ds G Q E) (h : C_takes_ahead ds G Q E) : T_takes_ahead E { nx := fun _ G' => DrK Q .non G', rt := DrK Q, bk := fun _ _ => False, ct := fun _ _ => False } (dstart N_takes_ahead ds) G := by
  obtain ⟨p, i, rfl, hp, hi, q⟩ := h
  show T_takes_ahead E _ [some (.tup [.tup (p.deeds.map encDeed), .tup (p.tries.map encN)]), some (.int i), none] G
  unfold T_takes_ahead
  walk_at "run"
  have hd := hp.deeds
  have ec : cutD (p.deeds.map encDeed) none (some (i : Int)) = (p.deeds.take i).map encDeed := by rw [cutD_upto, List.map_take]
  rw [ec]
  walk_at "run"
  intro r hr
  refine comp_pure (p.deeds.take i) encDeed (fun d => decide (d = .take)) encDeed (by simp; omega) hr (fun _ => trivial) (fun d hd o => ⟨_, rfl, fun QB h => ?_, fun _ QD h => ?_⟩) ?_
  · cases d with
    | lay t =>
      show dTest _ [_, _, some (.tup [.str "lay", .int t])] _ _
      walk_at "run"
      exact h
    | take =>
      show dTest _ [_, _, some (.tup [.str "take"])] _ _
      walk_at "run"
      exact h
  · walk_at "run"
    exact h
  walk_at "run"
  rw [List.length_map, tkn_filter _ _ hi]
  exact s_rtD (G0 := G) (le_new hr (.refl _)) q
/-! a deed done whole -/
theorem atI_lastI {α : Type} {xs : List α} {y : α} : atI (xs ++ [y]) (-1) = some y := by
  unfold atI ixN
  simp only [List.length_append, List.length_singleton]
  rw [if_neg (by omega), if_pos (by omega)]
  show (xs ++ [y])[(-1 + ((xs.length + 1 : Nat) : Int)).toNat]? = some y
  rw [show (-1 + ((xs.length + 1 : Nat) : Int)).toNat = xs.length from by omega]
  simp
theorem cut_iniI {xs : List D} {d : D} : cutD (xs ++ [d]) none (some (-1)) = xs := by
  unfold cutD
  simp only [HT.sIx, List.length_append, List.length_singleton]
  simp
  rw [show (-1 + ((xs.length : Int) + 1)).toNat = xs.length by omega]
  simp
theorem cut_tlI {x : D} {xs : List D} : cutD (x :: xs) (some 1) none = xs := by
  rw [show (1 : Int) = ((1 : Nat) : Int) from rfl, cutD_from]
  rfl
def wdTl : Tl → Str
  | .lay _ => "lay"
  | .take _ => "take"
  | .tr _ => "try"
def thTl : Tl → D
  | .lay t => .int t
  | .take x => encOI x
  | .tr x => encOI x
theorem encTl_eq (t : Tl) : encTl t = .tup [.str (wdTl t), thTl t] := by cases t <;> rfl
def C_done_whole : Ct := fun ds G Q _ => ∃ (a : Addr) (r : List Int) (t : Tl), ds = [.ref a, .str (wdTl t), thTl t] ∧ G a = some (.lst (r.map .int)) ∧ r.length ≤ 1000 ∧
  (rowB r t = none → ∀ G', Le G G' → Q .non G') ∧ ∀ r' G' b, rowB r t = some r' → Le G G' → G' b = some (.lst (r'.map .int)) → Q (.ref b) G'
theorem len_done_whole (ds G Q E) (h : C_done_whole ds G Q E) : ds.length = 3 := by obtain ⟨_, _, _, rfl, _⟩ := h; rfl
abbrev N_done_whole : List Str := ["row", "word", "thing"]
def T_done_whole : DX → DS := fun E => (dSeq (dIf (dTest (dOp eqD (dVar 1) (dC (.str "lay")))) (dRet (dOp addD (dVar 0) (dLst (dCons (dVar 2) dNil)))) dNext)
    (dSeq (dIf (dTest (dOp (isD false) (dVar 2) (dC .non))) (dRet (dIfE (dTest (dOp eqD (dVar 0) (dLst dNil))) (dVar 0) (dC .non))) dNext)
    (dSeq (dIf (dTest (dOp eqD (dVar 0) (dLst dNil))) (dRet (dC .non)) dNext)
    (dSeq (dIf (dTest (dOp eqD (dVar 1) (dC (.str "take")))) (dRet (dIfE (dTest (dOp eqD (dOp itemD (dVar 0) (dUn negD (dC (.int 1)))) (dVar 2))) (dSl (dVar 0) dNoPart (dPart (dUn negD (dC (.int 1))))) (dC .non))) dNext)
    (dRet (dIfE (dTest (dOp eqD (dOp itemD (dVar 0) (dC (.int 0))) (dVar 2))) (dSl (dVar 0) (dPart (dC (.int 1))) dNoPart) (dC .non)))))))
theorem run_done_whole (ds G Q E) (h : C_done_whole ds G Q E) : T_done_whole E { nx := fun _ G' => DrK Q .non G', rt := DrK Q, bk := fun _ _ => False, ct := fun _ _ => False } (dstart N_done_whole ds) G := by
  obtain ⟨a, r, t, rfl, ga, hl, q0, q1⟩ := h
  cases t with
  | lay t =>
    show T_done_whole E _ [some (.ref a), some (.str "lay"), some (.int t)] G
    unfold T_done_whole
    walk_at "run"
    intro c hc
    refine s_addL (up_nx (gne ga hc) ga) up_same (szL (by rw [List.length_map, List.length_singleton]; omega)) ?_
    intro n hn
    exact s_rt (q1 (r ++ [t]) _ n rfl ((le_new hc (.refl _)).trans (le_new hn (.refl _))) (by rw [List.map_append]; exact up_same))
  | take x =>
    cases x with
    | none =>
      show T_done_whole E _ [some (.ref a), some (.str "take"), some .non] G
      unfold T_done_whole
      walk_at "run"
      intro c hc
      refine s_eqLE (ys := []) ok_Z (by walk_at "look") up_same ?_
      walk_at "run"
      refine br_dec (fun h0 => ?_) (fun h0 => ?_)
      · walk_at "run"
        exact s_rt (q1 r _ a (by unfold rowB; rw [if_pos h0]) (le_new hc (.refl _)) (up_nx (gne ga hc) ga))
      · walk_at "run"
        exact s_rt (q0 (by unfold rowB; rw [if_neg h0]) _ (le_new hc (.refl _)))
    | some x =>
      show T_done_whole E _ [some (.ref a), some (.str "take"), some (.int x)] G
      unfold T_done_whole
      walk_at "run"
      intro c hc
      refine s_eqLE (ys := []) ok_Z (by walk_at "look") up_same ?_
      walk_at "run"
      refine br_dec (fun h0 => ?_) (fun h0 => ?_)
      · walk_at "run"
        exact s_rt (q0 (by subst h0; rfl) _ (le_new hc (.refl _)))
      rcases List.eq_nil_or_concat r with rfl | ⟨r, y, rfl⟩
      · exact absurd rfl h0
      rw [List.concat_eq_append] at *
      have ga' : up G c (.lst []) a = some (.lst (r.map D.int ++ [.int y])) := by rw [up_nx (gne ga hc) ga, List.map_append]; rfl
      have hm : atI (r.map D.int ++ [.int y]) (-1) = some (.int y) := atI_lastI
      walk_at "run"
      refine br_bool (fun h1 => ?_) (fun h1 => ?_)
      · have e1 : y = x := by simpa using h1
        subst e1
        walk_at "run"
        intro n hn
        rw [cut_iniI] at *
        refine s_rt (q1 r _ n ?_ ((le_new hc (.refl _)).trans (le_new hn (.refl _))) up_same)
        unfold rowB
        simp
      · have e1 : y ≠ x := by simpa using h1
        walk_at "run"
        refine s_rt (q0 ?_ _ (le_new hc (.refl _)))
        unfold rowB
        simp [e1]
  | tr x =>
    cases x with
    | none =>
      show T_done_whole E _ [some (.ref a), some (.str "try"), some .non] G
      unfold T_done_whole
      walk_at "run"
      intro c hc
      refine s_eqLE (ys := []) ok_Z (by walk_at "look") up_same ?_
      walk_at "run"
      refine br_dec (fun h0 => ?_) (fun h0 => ?_)
      · walk_at "run"
        exact s_rt (q1 r _ a (by unfold rowB; rw [if_pos h0]) (le_new hc (.refl _)) (up_nx (gne ga hc) ga))
      · walk_at "run"
        exact s_rt (q0 (by unfold rowB; rw [if_neg h0]) _ (le_new hc (.refl _)))
    | some x =>
      show T_done_whole E _ [some (.ref a), some (.str "try"), some (.int x)] G
      unfold T_done_whole
      walk_at "run"
      intro c hc
      refine s_eqLE (ys := []) ok_Z (by walk_at "look") up_same ?_
      walk_at "run"
      refine br_dec (fun h0 => ?_) (fun h0 => ?_)
      · walk_at "run"
        exact s_rt (q0 (by subst h0; rfl) _ (le_new hc (.refl _)))
      obtain ⟨y, r, rfl⟩ : ∃ y r', r = y :: r' := by
        cases r with
        | nil => exact absurd rfl h0
        | cons y r' => exact ⟨y, r', rfl⟩
      have ga' : up G c (.lst []) a = some (.lst (.int y :: r.map D.int)) := by rw [up_nx (gne ga hc) ga]; rfl
      have hm : atI (.int y :: r.map D.int) 0 = some (.int y) := atI_0
      walk_at "run"
      refine br_bool (fun h1 => ?_) (fun h1 => ?_)
      · have e1 : y = x := by simpa using h1
        subst e1
        walk_at "run"
        intro n hn
        rw [cut_tlI] at *
        refine s_rt (q1 r _ n ?_ ((le_new hc (.refl _)).trans (le_new hn (.refl _))) up_same)
        unfold rowB
        simp
      · have e1 : y ≠ x := by simpa using h1
        walk_at "run"
        refine s_rt (q0 ?_ _ (le_new hc (.refl _)))
        unfold rowB
        simp [e1]

def C_law_to_end : Ct := fun ds G Q _ => ∃ (p : Play) (b : Addr) (rs : List Nat), ds = [encPlay p, .ref b] ∧ PlOk p ∧ G b = some (.lst (rs.map encN)) ∧ 0 < rs.length ∧ rs.length ≤ 1000 ∧
  ∀ ws s, runM p (sta0 p) ws = some s → ws.length ≤ 2000 → (∀ w, w ≤ p.tries.length → stepM false false p s w = none) → Q (.tup (ws.map encN)) G
theorem len_law_to_end (ds G Q E) (h : C_law_to_end ds G Q E) : ds.length = 2 := by obtain ⟨_, _, _, rfl, _⟩ := h; rfl
abbrev N_law_to_end : List Str := ["play", "some", "state", "found", "k", "rest", "who", "one", "turn", "more"]
def T_law_to_end : DX → DS := fun E => (dSeq (dAsg (dCall C_law_first E (dCons (dVar 0) dNil)) (dgName 2))
    (dSeq (dAsg (dLst dNil) (dgName 3))
    (dSeq (dFor (diRange (dCons (dC (.int 60)) dNil)) (dgName 4) (dSeq (dAsg (dLc (diRange (dCons (dOp addD (dC (.int 1)) (dCB lenD (dCons (dOp itemD (dVar 0) (dC (.int 1))) dNil))) dNil)) (bdN 6) [6] (dTest (dOp (isD true) (dCall C_law_small_step noX (dCons (dVar 0) (dCons (dC (.str "good")) (dCons (dVar 2) (dCons (dVar 6) dNil))))) (dC .non))) (dVar 6)) (dgName 5))
    (dIf (dTest (dOp neD (dVar 5) (dLst dNil))) (dSeq (dAsg (dOp divD (dOp itemD (dVar 1) (dOp modD (dVar 4) (dCB lenD (dCons (dVar 1) dNil)))) (dOp addD (dC (.int 1)) (dOp divD (dVar 4) (dCB lenD (dCons (dVar 1) dNil))))) (dgName 7))
    (dSeq (dAsg (dOp itemD (dVar 5) (dOp modD (dVar 7) (dCB lenD (dCons (dVar 5) dNil)))) (dgName 6))
    (dFor (diRange (dCons (dOp itemD (dLst (dCons (dC (.int 1)) (dCons (dC (.int 1)) (dCons (dC (.int 2)) (dCons (dC (.int 3)) (dCons (dC (.int 9)) dNil)))))) (dOp modD (dOp divD (dVar 7) (dC (.int 6))) (dC (.int 5)))) dNil)) (dgName 8) (dSeq (dAsg (dCall C_law_small_step E (dCons (dVar 0) (dCons (dC (.str "good")) (dCons (dVar 2) (dCons (dVar 6) dNil))))) (dgName 9))
    (dIf (dTest (dOp (isD true) (dVar 9) (dC .non))) (dSeq (dAsg (dVar 9) (dgName 2))
    (dDrop (dMt appendD (dVar 3) (dCons (dVar 6) dNil)))) dNext))))) dNext)))
    (dSeq (dFor (diRange (dCons (dC (.int 60)) dNil)) (dgName 8) (dFor (diRange (dCons (dOp addD (dC (.int 1)) (dCB lenD (dCons (dOp itemD (dVar 0) (dC (.int 1))) dNil))) dNil)) (dgName 6) (dSeq (dAsg (dCall C_law_small_step E (dCons (dVar 0) (dCons (dC (.str "good")) (dCons (dVar 2) (dCons (dVar 6) dNil))))) (dgName 9))
    (dIf (dTest (dOp (isD true) (dVar 9) (dC .non))) (dSeq (dAsg (dVar 9) (dgName 2))
    (dDrop (dMt appendD (dVar 3) (dCons (dVar 6) dNil)))) dNext))))
    (dRet (dCB tupleD (dCons (dVar 3) dNil)))))))
theorem rem_le {p : Play} {s : Sta} (hp : PlOk p) (w : Nat) : rem p s w ≤ 60 := by
  unfold rem
  split
  · omega
  · have h1 := hp.deeds
    have h2 : lim p w ≤ 9 := by
      cases w with
      | zero => show p.deeds.length ≤ 9; omega
      | succ w =>
        show p.tries.getD w 0 ≤ 9
        rw [List.getD_eq_getElem?_getD]
        cases e : p.tries[w]? with
        | none => simp
        | some k => exact hp.most k (List.mem_of_getElem? e)
    omega
theorem run_law_to_end (ds G Q E) (h : C_law_to_end ds G Q E) : T_law_to_end E { nx := fun _ G' => DrK Q .non G', rt := DrK Q, bk := fun _ _ => False, ct := fun _ _ => False } (dstart N_law_to_end ds) G := by
  obtain ⟨p, b, rs, rfl, hp, hb, hr0, hr1, q⟩ := h
  have ht9 := hp.tries
  show T_law_to_end E _ [some (.tup [.tup (p.deeds.map encDeed), .tup (p.tries.map encN)]), some (.ref b), none, none, none, none, none, none, none, none] G
  unfold T_law_to_end
  walk_at "run"
  refine UpC.of ⟨p, rfl, hp, ?_⟩
  walk_at "run"
  intro f hf
  have bf : b ≠ f := gne hb hf
  walk_at "run"
  refine loop_inv (fun i σ G' => ∃ (ws : List Nat) (s : Sta) (v4 v5 v6 v7 v8 v9 : Option D), runM p (sta0 p) ws = some s ∧ ws.length ≤ 9 * i ∧ σ = [some (.tup [.tup (p.deeds.map encDeed), .tup (p.tries.map encN)]), some (.ref b), some (encSt 8 s), some (.ref f), v4, v5, v6, v7, v8, v9] ∧ Le (up G f (.lst (ws.map encN))) G') ⟨[], sta0 p, none, none, none, none, none, none, rfl, by simp, rfl, .refl _⟩ (fun _ _ _ _ _ => trivial) (fun i d σ' G' N hd hi hP hN => ?_) (fun σ' G' hP => ?_)
  · obtain ⟨ws, s, v4, v5, v6, v7, v8, v9, hr, hl, rfl, le⟩ := hP
    obtain ⟨rfl, hi2⟩ := rangeD_get0 hd
    have hok := runM_ok (sta0_ok p) hr
    have hGb : G' b = some (.lst (rs.map encN)) := le _ _ (up_nx bf hb)
    have hGf : G' f = some (.lst (ws.map encN)) := le _ _ up_same
    walk_at "run"
    intro r hr2
    rw [List.length_map, show (1 : Int) + (p.tries.length : Nat) = ((1 + p.tries.length : Nat) : Int) by omega, rangeD0]
    refine comp_pure (List.range (1 + p.tries.length)) (fun k : Nat => D.int k) (fun k => (stepM false false p s k).isSome) encN (by simp; omega) hr2 (fun _ => trivial) (fun k hk o => ⟨_, rfl, fun QB h => ?_, fun _ QD h => ?_⟩) ?_
    · simp at hk
      walk_at "run"
      refine u_small hp hok (by omega) ?_
      cases e : stepM false false p s k with
      | none =>
        rw [e] at h
        exact h
      | some t =>
        rw [e] at h
        exact h
    · walk_at "run"
      exact h
    generalize hR : (List.range (1 + p.tries.length)).filter (fun k => (stepM false false p s k).isSome) = rest
    have hrest : ∀ k ∈ rest, k ≤ p.tries.length := fun k hk => by
      rw [← hR] at hk
      have := (List.mem_filter.mp hk).1
      simp at this
      omega
    walk_at "run"
    intro c hc
    refine s_neLE (ys := []) ok_N (by walk_at "look") up_same ?_
    walk_at "run"
    refine br_bool (fun h0 => ?_) (fun h0 => ?_)
    · have hr3 : 0 < rest.length := List.length_pos_iff.mpr (by simpa using h0)
      have hml : (rs.map encN).length = rs.length := List.length_map ..
      have hmr : (rest.map encN).length = rest.length := List.length_map ..
      obtain ⟨od, go, mo⟩ := atI_mem (xs := rs.map encN) (i := (i : Int) % ((rs.map encN).length : Nat)) (Int.emod_nonneg _ (by omega)) (Int.emod_lt_of_pos _ (by omega))
      obtain ⟨o1, _, rfl⟩ := List.mem_map.mp mo
      have kd : 0 ≤ (i : Int) / ((rs.map encN).length : Nat) ∧ (i : Int) / ((rs.map encN).length : Nat) ≤ 1000 := by
        refine ⟨Int.ediv_nonneg (by omega) (by omega), ?_⟩
        have := Int.ediv_le_self ((rs.map encN).length : Nat) (show (0 : Int) ≤ i by omega)
        omega
      walk_at "run"
      have one0 : 0 ≤ (o1 : Int) / (1 + (i : Int) / ((rs.map encN).length : Nat)) := Int.ediv_nonneg (by omega) (by omega)
      generalize (o1 : Int) / (1 + (i : Int) / ((rs.map encN).length : Nat)) = one at one0
      obtain ⟨wd, gw, mw⟩ := atI_mem (xs := rest.map encN) (i := one % ((rest.map encN).length : Nat)) (Int.emod_nonneg _ (by omega)) (Int.emod_lt_of_pos _ (by omega))
      obtain ⟨who, hwr, rfl⟩ := List.mem_map.mp mw
      have hw := hrest who hwr
      walk_at "run"
      intro c2 hc2
      obtain ⟨md, gm, mm⟩ := atI_mem (xs := [D.int 1, .int 1, .int 2, .int 3, .int 9]) (i := one / 6 % 5) (by omega) (by simp; omega)
      obtain ⟨many, rfl, hmany⟩ : ∃ m : Nat, md = .int m ∧ m ≤ 9 := by
        simp only [List.mem_cons, List.not_mem_nil, or_false] at mm
        rcases mm with rfl | rfl | rfl | rfl | rfl
        · exact ⟨1, rfl, by decide⟩
        · exact ⟨1, rfl, by decide⟩
        · exact ⟨2, rfl, by decide⟩
        · exact ⟨3, rfl, by decide⟩
        · exact ⟨9, rfl, by decide⟩
      walk_at "run"
      refine loop_inv (fun j σ G' => ∃ (ws : List Nat) (s : Sta) (v4 v5 v7 v8 v9 : Option D), runM p (sta0 p) ws = some s ∧ ws.length ≤ 9 * i + j ∧ σ = [some (.tup [.tup (p.deeds.map encDeed), .tup (p.tries.map encN)]), some (.ref b), some (encSt 8 s), some (.ref f), v4, v5, some (.int who), v7, v8, v9] ∧ Le (up G f (.lst (ws.map encN))) G') ⟨ws, s, _, _, _, _, _, hr, by omega, rfl, ?_⟩ (fun _ _ _ _ _ => trivial) (fun j d σ' G' N2 hd2 hi' hP hN2 => ?_) (fun σ' G' hP => ?_)
      · exact le.trans (by walk_at "le")
      · clear hr hl hok hR hGb hGf le hc hc2 hr2
        obtain ⟨ws, s, v4, v5, v7, v8, v9, hr, hl, rfl, le⟩ := hP
        rw [rangeD_length] at hi'
        have hok := runM_ok (sta0_ok p) hr
        have hGf : G' f = some (.lst (ws.map encN)) := le _ _ up_same
        walk_at "run"
        refine u_small hp hok hw ?_
        cases e : stepM false false p s who with
        | none =>
          have e1 : encOS 8 none = .non := rfl
          rw [e1]
          walk_at "run"
          exact hN2 _ _ _ (.refl _) ⟨ws, s, _, _, _, _, _, hr, by omega, rfl, le⟩
        | some t =>
          have e1 : encOS 8 (some t) = .tup [.int t.near, .int t.far, .tup (encBx 8 t.box), .tup (t.ms.map encMv)] := rfl
          rw [e1]
          walk_at "run"
          refine hN2 _ _ _ (.refl _) ⟨ws ++ [who], t, _, _, _, _, _, ?_, by simp; omega, rfl, ?_⟩
          · rw [runM_snoc hr, e]
          · rw [List.map_append]
            exact le_reput le
      · clear hr hl hok hR hGb hGf le hc hc2 hr2
        obtain ⟨ws, s, v4, v5, v7, v8, v9, hr, hl, rfl, le⟩ := hP
        rw [rangeD_length] at hl
        exact hN _ _ _ (.refl _) ⟨ws, s, _, _, _, _, _, _, hr, by omega, rfl, le⟩
    · walk_at "run"
      exact hN _ _ _ (.refl _) ⟨ws, s, _, _, _, _, _, _, hr, by omega, rfl, le.trans (by walk_at "le")⟩
  · obtain ⟨ws, s, v4, v5, v6, v7, v8, v9, hr, hl, rfl, le⟩ := hP
    rw [rangeD_length] at hl
    walk_at "run"
    refine loop_inv (fun j σ G' => ∃ (ws : List Nat) (s : Sta) (v4 v5 v6 v7 v8 v9 : Option D), runM p (sta0 p) ws = some s ∧ ws.length ≤ 540 + 10 * j ∧ (∀ w, rem p s w ≤ 60 - j) ∧ σ = [some (.tup [.tup (p.deeds.map encDeed), .tup (p.tries.map encN)]), some (.ref b), some (encSt 8 s), some (.ref f), v4, v5, v6, v7, v8, v9] ∧ Le (up G f (.lst (ws.map encN))) G') ⟨ws, s, _, _, _, _, _, _, hr, by omega, fun w => rem_le hp w, rfl, le⟩ (fun _ _ _ _ _ => trivial) (fun j d σ' G' N hd hi hP hN => ?_) (fun σ' G' hP => ?_)
    · clear hr hl le
      obtain ⟨ws, s, v4, v5, v6, v7, v8, v9, hr, hl, hrem, rfl, le⟩ := hP
      obtain ⟨rfl, hj2⟩ := rangeD_get0 hd
      walk_at "run"
      refine loop_inv (fun u σ G' => ∃ (ws : List Nat) (s : Sta) (v4 v5 v6 v7 v8 v9 : Option D), runM p (sta0 p) ws = some s ∧ ws.length ≤ 540 + 10 * j + u ∧ (∀ w, rem p s w ≤ 60 - j) ∧ (∀ w, w < u → rem p s w ≤ 60 - (j + 1)) ∧ σ = [some (.tup [.tup (p.deeds.map encDeed), .tup (p.tries.map encN)]), some (.ref b), some (encSt 8 s), some (.ref f), v4, v5, v6, v7, v8, v9] ∧ Le (up G f (.lst (ws.map encN))) G') ⟨ws, s, _, _, _, _, _, _, hr, by omega, hrem, fun w hw => by omega, rfl, le⟩ (fun _ _ _ _ _ => trivial) (fun who d σ' G' N2 hd2 hi' hP hN2 => ?_) (fun σ' G' hP => ?_)
      · clear hr hl le hrem
        obtain ⟨ws, s, v4, v5, v6, v7, v8, v9, hr, hl, hrem, hrem2, rfl, le⟩ := hP
        obtain ⟨rfl, hw2⟩ := rangeD_get0 hd2
        have hok := runM_ok (sta0_ok p) hr
        have hGf : G' f = some (.lst (ws.map encN)) := le _ _ up_same
        rw [rangeD_length, List.length_map] at hi'
        walk_at "run"
        refine u_small hp hok (by omega) ?_
        cases e : stepM false false p s who with
        | none =>
          have e1 : encOS 8 none = .non := rfl
          obtain ⟨z, _⟩ := rem_none hok (by omega) (.inr e)
          rw [e1]
          walk_at "run"
          exact hN2 _ _ _ (.refl _) ⟨ws, s, _, _, _, _, _, _, hr, by omega, hrem, fun w hw => by
            by_cases ew : w = who
            · rw [ew, z]; omega
            · exact hrem2 w (by omega), rfl, le⟩
        | some t =>
          have e1 : encOS 8 (some t) = .tup [.int t.near, .int t.far, .tup (encBx 8 t.box), .tup (t.ms.map encMv)] := rfl
          obtain ⟨z1, z2⟩ := rem_step hok e
          rw [e1]
          walk_at "run"
          refine hN2 _ _ _ (.refl _) ⟨ws ++ [who], t, _, _, _, _, _, _, ?_, by simp; omega, fun w => ?_, fun w hw => ?_, rfl, ?_⟩
          · rw [runM_snoc hr, e]
          · have := hrem w
            by_cases ew : w = who
            · subst ew; omega
            · rw [z2 w ew]; omega
          · by_cases ew : w = who
            · subst ew
              have := hrem w
              omega
            · rw [z2 w ew]
              exact hrem2 w (by omega)
          · rw [List.map_append]
            exact le_reput le
      · clear hr hl le hrem
        obtain ⟨ws, s, v4, v5, v6, v7, v8, v9, hr, hl, hrem, hrem2, rfl, le⟩ := hP
        rw [rangeD_length, List.length_map] at hl hrem2
        refine hN _ _ _ (.refl _) ⟨ws, s, _, _, _, _, _, _, hr, by omega, fun w => ?_, rfl, le⟩
        by_cases hw : w ≤ p.tries.length
        · exact hrem2 w (by omega)
        · have hok := runM_ok (sta0_ok p) hr
          unfold rem
          rw [List.getElem?_eq_none (by have := hok.len; omega)]
          exact Nat.zero_le _
    · clear hr hl le
      obtain ⟨ws, s, v4, v5, v6, v7, v8, v9, hr, hl, hrem, rfl, le⟩ := hP
      rw [rangeD_length] at hl hrem
      have hok := runM_ok (sta0_ok p) hr
      have hGf : G' f = some (.lst (ws.map encN)) := le _ _ up_same
      walk_at "run"
      refine s_rtD (G0 := G) ((le_new hf (.refl _)).trans le) (q ws s hr (by omega) fun w hw => ?_)
      have := hrem w
      cases e : stepM false false p s w with
      | none => rfl
      | some t =>
        have := (rem_step hok e).1
        omega

/-! ### the end of a weaving -/
def Thn (p : Play) (s : Sta) : Prop := ∀ w k, s.ms[w + 1]? = some k → 1 ≤ k.ph → p.tries[w]? ≠ some k.n
theorem thn_0 (p : Play) : Thn p (sta0 p) := fun w k h hp => by
  have : k = ⟨0, 0, 0, none, []⟩ := List.eq_of_mem_replicate (List.mem_of_getElem? h)
  subst this
  simp at hp
theorem thn_step {p : Play} {s s' : Sta} {who : Nat} (ok : SOk p s) (h : Thn p s) (e : stepM false false p s who = some s') : Thn p s' := by
  obtain ⟨m, em, hw⟩ := step_ways e
  rcases hw with ⟨rfl, x, ed, es⟩ | ⟨rfl, ed, es⟩ | ⟨w, rfl, hne, es⟩
  · subst es
    intro v k hk
    have hk' : ((layM x s m).1.ms.set 0 (layM x s m).2)[v + 1]? = some k := hk
    rw [(layM_ms x s m).1, List.getElem?_set_ne (by omega)] at hk'
    exact h v k hk'
  · subst es
    intro v k hk
    have hk' : ((takeM false s m).1.ms.set 0 (takeM false s m).2)[v + 1]? = some k := hk
    rw [takeM_ms, List.getElem?_set_ne (by omega)] at hk'
    exact h v k hk'
  · subst es
    intro v k hk hp
    have hk' : ((attM false s m).1.ms.set (w + 1) (attM false s m).2)[v + 1]? = some k := hk
    rw [(attM_box false s m).2.2] at hk'
    by_cases e : v = w
    · subst e
      rw [List.getElem?_set_self (List.getElem?_eq_some_iff.mp em).1] at hk'
      cases hk'
      have hph : m.ph ≤ 3 := by
        have h0 : 0 < s.ms.length := by have := (List.getElem?_eq_some_iff.mp em).1; omega
        obtain ⟨_, _, hT⟩ := ok.thf v s.ms[0] m (List.getElem?_eq_getElem h0) em
        exact hT.ph
      rcases att_next false s m hph with ⟨a, _, _⟩ | ⟨_, b⟩
      · rw [a]; exact hne
      · omega
    · rw [List.getElem?_set_ne (by omega)] at hk'
      exact h v k hk' hp
theorem thn_span {p : Play} : ∀ {ws : List Nat} {s t : Sta} {k : Nat} {bg bg1 : Bgs}, SOk p s → Thn p s → spanR p s k bg ws = some (t, bg1) → Thn p t
  | [], s, t, k, bg, bg1, ok, hn, h => by cases h; exact hn
  | v :: ws, s, t, k, bg, bg1, ok, hn, h => by
    unfold spanR at h
    cases es : stepM false false p s v with
    | none => rw [es] at h; cases h
    | some u =>
      rw [es] at h
      exact thn_span (step_ok ok es) (thn_step ok hn es) h
def NoL (s : Sta) : Prop := ∀ m, s.ms[0]? = some m → What.lost ∉ m.told
theorem nol_0 (p : Play) : NoL (sta0 p) := fun k h => by
  have : k = ⟨0, 0, 0, none, []⟩ := List.eq_of_mem_replicate (List.mem_of_getElem? h)
  subst this
  simp
theorem whatOf_ne (x : Option Int) : What.lost ≠ whatOf x := by cases x <;> (intro e; cases e)
theorem nol_step {p : Play} {s s' : Sta} {who : Nat} (h : NoL s) (e : stepM false false p s who = some s') : NoL s' := by
  obtain ⟨m, em, hw⟩ := step_ways e
  have ap : ∀ x : Option Int, What.lost ∉ m.told → What.lost ∉ (endM m (whatOf x)).told := fun x h z => by
    rcases List.mem_append.mp z with z | z
    · exact h z
    · exact whatOf_ne x (List.mem_singleton.mp z)
  rcases hw with ⟨rfl, x, ed, es⟩ | ⟨rfl, ed, es⟩ | ⟨w, rfl, hne, es⟩
  · subst es
    intro k hk
    have hk' : ((layM x s m).1.ms.set 0 (layM x s m).2)[0]? = some k := hk
    rw [(layM_ms x s m).1, List.getElem?_set_self (List.getElem?_eq_some_iff.mp em).1] at hk'
    cases hk'
    unfold layM
    split <;> exact h m em
  · subst es
    intro k hk
    have hk' : ((takeM false s m).1.ms.set 0 (takeM false s m).2)[0]? = some k := hk
    rw [takeM_ms, List.getElem?_set_self (List.getElem?_eq_some_iff.mp em).1] at hk'
    cases hk'
    unfold takeM
    repeat' split
    all_goals first | exact h m em | exact ap _ (h m em) | exact ap none (h m em)
  · subst es
    intro k hk
    have hk' : ((attM false s m).1.ms.set (w + 1) (attM false s m).2)[0]? = some k := hk
    rw [(attM_box false s m).2.2, List.getElem?_set_ne (by omega)] at hk'
    exact h k hk'
theorem nol_span {p : Play} : ∀ {ws : List Nat} {s t : Sta} {k : Nat} {bg bg1 : Bgs}, NoL s → spanR p s k bg ws = some (t, bg1) → NoL t
  | [], s, t, k, bg, bg1, hn, h => by cases h; exact hn
  | v :: ws, s, t, k, bg, bg1, hn, h => by
    unfold spanR at h
    cases es : stepM false false p s v with
    | none => rw [es] at h; cases h
    | some u =>
      rw [es] at h
      exact nol_span (nol_step hn es) h
structure FinS (p : Play) (s : Sta) (bg : Bgs) (m : Mv) (ths : List Mv) : Prop where
  ms : s.ms = m :: ths
  ok : SOk p s
  csv : Csv p.deeds s.near s.far s.box m ths
  ph : m.ph = 0
  n : m.n = p.deeds.length
  good : ∃ A : List Ent, Good bg (due p.deeds s.near m ths) [] (inB s.far s.near s.box) (A.map Ent.d)
  bl : ∀ d b l, bg d = some (b, l) → b ≤ l ∧ l < 3000
  own : ∀ j, bg (0, j) ≠ none ↔ j < p.deeds.length
  thf : ∀ (w : Nat) (k : Mv) (j : Nat), ths[w]? = some k → (bg (w + 1, j) ≠ none ↔ j < k.told.length)
  out : ∀ w j, ths.length ≤ w → bg (w + 1, j) = none
  len : ∀ (w : Nat) (k : Mv), ths[w]? = some k → p.tries[w]? = some k.told.length
  nol : What.lost ∉ m.told
theorem fin_of {p : Play} {ws : List Nat} {s : Sta} {bg : Bgs} (h : spanR p (sta0 p) 0 bg0 ws = some (s, bg)) (he : ∀ w, w ≤ p.tries.length → stepM false false p s w = none) (hw : ws.length ≤ 2000) : ∃ m ths, FinS p s bg m ths := by
  obtain ⟨ok, A, B, hs⟩ := sn_run (sta0_ok p) (sn_0 p) h
  have hn := thn_span (sta0_ok p) (thn_0 p) h
  have hs2 := hs
  obtain ⟨m, ths, em, c, hS⟩ := hs2
  have e0 : s.ms[0]? = some m := by rw [em]; rfl
  obtain ⟨_, z2⟩ := rem_none ok (Nat.zero_le _) (.inr (he 0 (Nat.zero_le _)))
  obtain ⟨a1, a2⟩ := z2 m e0
  have hlen := ok.len
  have htl : ths.length = p.tries.length := by rw [em, List.length_cons] at hlen; omega
  have thw : ∀ (w : Nat) (k : Mv), ths[w]? = some k → p.tries[w]? = some k.n ∧ k.ph = 0 ∧ k.told.length = k.n := fun w k hk => by
    have hlt := (List.getElem?_eq_some_iff.mp hk).1
    have ek : s.ms[w + 1]? = some k := by rw [em, List.getElem?_cons_succ]; exact hk
    obtain ⟨_, z⟩ := rem_none ok (who := w + 1) (by omega) (.inr (he (w + 1) (by omega)))
    obtain ⟨b1, _⟩ := z k ek
    have hgd : p.tries[w]? = some k.n := by
      have : lim p (w + 1) = p.tries.getD w 0 := rfl
      rw [this, List.getD_eq_getElem?_getD, List.getElem?_eq_getElem (by omega)] at b1
      rw [List.getElem?_eq_getElem (by omega)]
      simpa using b1.symm
    refine ⟨hgd, ?_, c.tlen k (List.mem_of_getElem? hk)⟩
    apply Classical.byContradiction
    intro y
    exact hn w k ek (by omega) hgd
  refine ⟨m, ths, em, ok, c, a2 rfl, a1, ⟨A, sn_good hs em (a2 rfl)⟩, fun d b l e => ?_, fun j => ?_, fun w k j hk => ?_, fun w j e => hS.fr.z w j e, fun w k hk => ?_, nol_span (nol_0 p) h m e0⟩
  · have := hS.bk.lt d b l e
    omega
  · have := hS.fr.o j
    rw [Ne, this, a1, show lim p 0 = p.deeds.length from rfl]
    have := a2 rfl
    omega
  · obtain ⟨b1, b2, b3⟩ := thw w k hk
    rw [Ne, hS.fr.t w k j hk, b2]
    omega
  · obtain ⟨b1, b2, b3⟩ := thw w k hk
    rw [b3]; exact b1
/-! what each deed told -/
def tldS (p : Play) (s : Sta) (m : Mv) (ths : List Mv) (d : Nat × Nat) : D := match due p.deeds s.near m ths d with
  | some t => encTl t
  | none => .tup [.str "try", .str "lost"]
theorem oiOf_enc {w : What} {x : Option Int} (h : oiOf w = some x) : encWhat w = encOI x := by
  cases w <;> cases h <;> rfl
theorem FinS.told0 {p : Play} {s : Sta} {bg : Bgs} {m : Mv} {ths : List Mv} (h : FinS p s bg m ths) : ownT p.deeds s.near m = m.told := ownT_no fun z => by have := z.2; have := h.ph; omega
/-- the owner's answers are never lost -/
theorem FinS.nolost {p : Play} {s : Sta} {bg : Bgs} {m : Mv} {ths : List Mv} (h : FinS p s bg m ths) {i : Nat} (hd : p.deeds[i]? = some .take) : ∃ w x, m.told[tkn p.deeds i]? = some w ∧ oiOf w = some x ∧ due p.deeds s.near m ths (0, i) = some (.take x) := by
  have hlt := (List.getElem?_eq_some_iff.mp hd).1
  have l1 := tkn_lt hd hlt
  have l2 := tkn_len h.csv
  rw [h.n] at l2
  have hg : m.told[tkn p.deeds i]? = some (m.told[tkn p.deeds i]'(by omega)) := List.getElem?_eq_getElem (by omega)
  have hmem := List.mem_of_getElem? hg
  generalize m.told[tkn p.deeds i]'(by omega) = w at hg hmem
  cases e : oiOf w with
  | some x =>
    refine ⟨w, x, hg, e, ?_⟩
    show dueL p.deeds m.n (ownT p.deeds s.near m) i = _
    unfold dueL
    rw [hd, h.told0]
    simp only [hg, Option.bind, e, Option.map]
  | none =>
    cases w with
    | lost => exact absurd hmem h.nol
    | nil => cases e
    | got t => cases e
def C_told_of : Ct := fun ds G Q _ => ∃ (p : Play) (s : Sta) (bg : Bgs) (m : Mv) (ths : List Mv) (d : Nat × Nat), ds = [encPlay p, encSt p.deeds.length s, encNN d] ∧ PlOk p ∧ FinS p s bg m ths ∧ bg d ≠ none ∧ ∀ G', Le G G' → Q (tldS p s m ths d) G'
theorem len_told_of (ds G Q E) (h : C_told_of ds G Q E) : ds.length = 3 := by obtain ⟨_, _, _, _, _, _, rfl, _⟩ := h; rfl
abbrev N_told_of : List Str := ["play", "state", "deed", "who", "number"]
def T_told_of : DX → DS := fun E => (dSeq (dAsg (dVar 2) (dgTup 2 (dgCons (dgName 3) (dgCons (dgName 4) dgNil))))
    (dSeq (dIf (dTest (dOp gtD (dVar 3) (dC (.int 0)))) (dRet (dTup (dCons (dC (.str "try")) (dCons (dOp itemD (dOp itemD (dOp itemD (dOp itemD (dVar 1) (dC (.int 3))) (dVar 3)) (dC (.int 4))) (dVar 4)) dNil)))) dNext)
    (dSeq (dIf (dTest (dOp eqD (dOp itemD (dOp itemD (dOp itemD (dVar 0) (dC (.int 0))) (dVar 4)) (dC (.int 0))) (dC (.str "lay")))) (dRet (dOp itemD (dOp itemD (dVar 0) (dC (.int 0))) (dVar 4))) dNext)
    (dRet (dTup (dCons (dC (.str "take")) (dCons (dOp itemD (dOp itemD (dOp itemD (dOp itemD (dVar 1) (dC (.int 3))) (dC (.int 0))) (dC (.int 4))) (dCall C_takes_ahead E (dCons (dVar 0) (dCons (dVar 4) dNil)))) dNil)))))))
theorem run_told_of (ds G Q E) (h : C_told_of ds G Q E) : T_told_of E { nx := fun _ G' => DrK Q .non G', rt := DrK Q, bk := fun _ _ => False, ct := fun _ _ => False } (dstart N_told_of ds) G := by
  obtain ⟨p, s, bg, m, ths, ⟨who, i⟩, rfl, hp, hF, hb, q⟩ := h
  show T_told_of E _ [some (.tup [.tup (p.deeds.map encDeed), .tup (p.tries.map encN)]), some (.tup [.int s.near, .int s.far, .tup (encBx p.deeds.length s.box), .tup (s.ms.map encMv)]), some (.tup [.int who, .int i]), none, none] G
  unfold T_told_of
  walk_at "run"
  cases who with
  | zero =>
    have hi := (hF.own i).mp hb
    have hd := List.getElem?_eq_getElem hi
    have em : (s.ms.map encMv)[0]? = some (.tup [.int m.n, .int m.ph, .int m.f, encOI m.x, .tup (m.told.map encWhat)]) := by rw [hF.ms]; rfl
    have em0 : atI (s.ms.map encMv) 0 = some (.tup [.int m.n, .int m.ph, .int m.f, encOI m.x, .tup (m.told.map encWhat)]) := by rw [atI_0]; exact em
    generalize p.deeds[i] = dd at hd
    have eD : (p.deeds.map encDeed)[i]? = some (encDeed dd) := by rw [List.getElem?_map, hd]; rfl
    have gD : atI (p.deeds.map encDeed) (i : Int) = some (encDeed dd) := by rw [atI_cast]; exact eD
    cases dd with
    | lay t =>
      have eq : tldS p s m ths (0, i) = .tup [.str "lay", .int t] := by
        have : due p.deeds s.near m ths (0, i) = some (.lay t) := by
          show dueL p.deeds m.n _ i = _
          unfold dueL
          rw [hd]
          simp only []
          rw [if_pos (by rw [hF.n]; exact hi)]
        unfold tldS
        rw [this]
        rfl
      rw [eq] at q
      have gD' : atI (p.deeds.map encDeed) (i : Int) = some (.tup [.str "lay", .int t]) := gD
      walk_at "run"
      exact s_rt (q _ (.refl _))
    | take =>
      obtain ⟨x, y, h1, h2, h3⟩ := hF.nolost hd
      have eq : tldS p s m ths (0, i) = .tup [.str "take", encWhat x] := by
        unfold tldS
        rw [h3, oiOf_enc h2]
        rfl
      rw [eq] at q
      have gD' : atI (p.deeds.map encDeed) (i : Int) = some (.tup [.str "take"]) := gD
      have gT : atI (m.told.map encWhat) (tkn p.deeds i : Nat) = some (encWhat x) := by rw [atI_cast, List.getElem?_map, h1]; rfl
      walk_at "run"
      refine UpC.of ⟨p, i, rfl, hp, by omega, ?_⟩
      walk_at "run"
      exact s_rt (q _ (.refl _))
  | succ w =>
    have hw : w < ths.length := by
      apply Classical.byContradiction
      intro z
      exact hb (hF.out w i (by omega))
    have ek := List.getElem?_eq_getElem hw
    generalize ths[w] = k at ek
    have hi := (hF.thf w k i ek).mp hb
    have ex := List.getElem?_eq_getElem hi
    generalize k.told[i] = x at ex
    have eq : tldS p s m ths (w + 1, i) = .tup [.str "try", encWhat x] := by
      have : due p.deeds s.near m ths (w + 1, i) = (oiOf x).map Tl.tr := by
        show dueT ths w i = _
        unfold dueT
        rw [ek]
        show ((k.told[i]?).bind oiOf).map Tl.tr = _
        rw [ex]
        rfl
      unfold tldS
      rw [this]
      cases x <;> rfl
    rw [eq] at q
    have gk : atI (s.ms.map encMv) ((w + 1 : Nat) : Int) = some (.tup [.int k.n, .int k.ph, .int k.f, encOI k.x, .tup (k.told.map encWhat)]) := by
      rw [atI_cast, hF.ms, List.map_cons, List.getElem?_cons_succ, List.getElem?_map, ek]
      rfl
    have gx : atI (k.told.map encWhat) (i : Int) = some (encWhat x) := by rw [atI_cast, List.getElem?_map, ex]; rfl
    refine br_tt (by simp) ?_
    walk_at "run"
    exact s_rt (q _ (.refl _))

/-! ### Seen: the deeds of a small weaving -/
structure SeA where
  p : Addr
  t : Addr
  o : Addr
  l : Addr
def toldO (p : Play) (s : Sta) (m : Mv) (ths : List Mv) (ks : List (Nat × Nat)) : List (D × D) := (ks.filter fun d => (due p.deeds s.near m ths d).isSome).map fun d => (encNN d, tldS p s m ths d)
structure SeAt (G : DG) (A : SeA) (p : Play) (s : Sta) (bg : Bgs) (m : Mv) (ths : List Mv) (ks : List (Nat × Nat)) (left : List Int) : Prop where
  hp : G A.p = some (.ins "Seen" [("times", .ref A.t), ("told", .ref A.o), ("left", .ref A.l)])
  ht : G A.t = some (.dif none (timesO bg ks))
  ho : G A.o = some (.dic none (toldO p s m ths ks))
  hl : G A.l = some (.lst (left.map .int))
  kb : KBg ks bg
  le : left.map some = inB s.far s.near s.box
theorem SeAt.grow {G G' : DG} {A : SeA} {p : Play} {s : Sta} {bg : Bgs} {m : Mv} {ths : List Mv} {ks : List (Nat × Nat)} {left : List Int} (h : SeAt G A p s bg m ths ks left) (l : Le G G') : SeAt G' A p s bg m ths ks left :=
  ⟨l _ _ h.hp, l _ _ h.ht, l _ _ h.ho, l _ _ h.hl, h.kb, h.le⟩
theorem told_put {p : Play} {s : Sta} {m : Mv} {ths : List Mv} {ks : List (Nat × Nat)} (nd : ks.Nodup) {d : Nat × Nat} {i : Nat} (hd : ks[i]? = some d) (h : (due p.deeds s.near m ths d).isSome = true) : putN (nkP d) (encNN d) (tldS p s m ths d) (toldO p s m ths (ks.take i)) = toldO p s m ths (ks.take (i + 1)) := by
  unfold toldO
  have hi := (List.getElem?_eq_some_iff.mp hd)
  have hn : d ∉ (ks.take i).filter fun d => (due p.deeds s.near m ths d).isSome := fun z => by
    have := (List.mem_filter.mp z).1
    rw [← hi.2] at this
    obtain ⟨j, hj, e⟩ := List.mem_take_iff_getElem.mp this
    have := (List.getElem_inj nd).mp e
    omega
  rw [put_out hn, List.take_add_one, hd, List.filter_append]
  simp [List.filter_cons, h]
theorem told_skip {p : Play} {s : Sta} {m : Mv} {ths : List Mv} {ks : List (Nat × Nat)} {d : Nat × Nat} {i : Nat} (hd : ks[i]? = some d) (h : (due p.deeds s.near m ths d).isSome = false) : toldO p s m ths (ks.take (i + 1)) = toldO p s m ths (ks.take i) := by
  unfold toldO
  rw [List.take_add_one, hd, List.filter_append]
  simp [List.filter_cons, h]
theorem s_neNS {G : DG} {Q : DK} {z : Str} (hz : PyData.strOk z = true) (k : Q (.bl true) G) : neD .non (.str z) G Q := by
  unfold neD py2
  simp only [pyD, hz, if_true]
  exact k
theorem ne_lost {x : Option Int} {G : DG} {Q : DK} (k : Q (.bl true) G) : neD (encOI x) (.str "lost") G Q := by
  cases x with
  | none => exact s_neNS (by decide +kernel) k
  | some t => exact s_neIS (by decide +kernel) k
def C_Seen___init__ : Ct := fun ds G Q _ => ∃ (x : Addr) (p : Play) (ws : List Nat) (s : Sta) (bg : Bgs), ds = [.ref x, encPlay p, .tup (ws.map encN)] ∧ PlOk p ∧ ws.length ≤ 2000 ∧ spanR p (sta0 p) 0 bg0 ws = some (s, bg) ∧ (∀ w, w ≤ p.tries.length → stepM false false p s w = none) ∧ G x = some (.ins "Seen" []) ∧
  ∀ G' A m ths ks left, A.p = x → FinS p s bg m ths → SeAt G' A p s bg m ths ks left → LeX [x] G G' → Q .non G'
theorem len_Seen___init__ (ds G Q E) (h : C_Seen___init__ ds G Q E) : ds.length = 3 := by obtain ⟨_, _, _, _, _, rfl, _⟩ := h; rfl
abbrev N_Seen___init__ : List Str := ["self", "play", "weaving", "state", "deed", "told"]
def T_Seen___init__ : DX → DS := fun E => (dSeq (dAsg (dCall C_times_of E (dCons (dVar 1) (dCons (dVar 2) dNil))) (dgTup 2 (dgCons (dgFld "Seen" "times" (dVar 0)) (dgCons (dgName 3) dgNil))))
    (dSeq (dSetF "Seen" "told" (dVar 0) dDicN)
    (dSeq (dFor (diDic (dFld "Seen" "times" (dVar 0))) (dgName 4) (dSeq (dAsg (dCall C_told_of E (dCons (dVar 1) (dCons (dVar 3) (dCons (dVar 4) dNil)))) (dgName 5))
    (dIf (dTest (dOp neD (dOp itemD (dVar 5) (dC (.int 1))) (dC (.str "lost")))) (dDput (dFld "Seen" "told" (dVar 0)) (dVar 4) (dVar 5)) dNext)))
    (dSetF "Seen" "left" (dVar 0) (dOp itemD (dCall C_told_by E (dCons (dVar 3) dNil)) (dC (.int 1)))))))
theorem run_Seen___init__ (ds G Q E) (h : C_Seen___init__ ds G Q E) : T_Seen___init__ E { nx := fun _ G' => DrK Q .non G', rt := DrK Q, bk := fun _ _ => False, ct := fun _ _ => False } (dstart N_Seen___init__ ds) G := by
  obtain ⟨x, p, ws, s, bg, rfl, hp, hw, hr, he, hx, q⟩ := h
  obtain ⟨m, ths, hF⟩ := fin_of hr he hw
  show T_Seen___init__ E _ [some (.ref x), some (.tup [.tup (p.deeds.map encDeed), .tup (p.tries.map encN)]), some (.tup (ws.map encN)), none, none, none] G
  unfold T_Seen___init__
  walk_at "run"
  refine UpC.of ⟨p, ws, s, bg, rfl, hp, hw, hr, he, fun G1 f ks l1 hf gf kb hkl => ?_⟩
  have gx := l1 _ _ hx
  have xf : x ≠ f := gne hx hf
  walk_at "run"
  intro o ho
  walk_at "run"
  have xo : x ≠ o := gne up_same ho
  have fo : f ≠ o := gne (up_nx (Ne.symm xf) gf) ho
  have go1 : G1 o = none := up_free ho
  have go : G o = none := by
    cases e : G o with
    | none => rfl
    | some v => rw [l1 _ _ e] at go1; cases go1
  refine s_diN (up_nx (Ne.symm xf) (up_nx fo (up_nx (Ne.symm xf) gf))) ?_
  rw [show (timesO bg ks).map (·.1) = ks.map encNN by unfold timesO; rw [List.map_map]; rfl]
  have h3x : (up (up (up (up G1 x (.ins "Seen" [("times", .ref f)])) o (.dic none [])) x (.ins "Seen" [("times", .ref f), ("told", .ref o)])) f (.dif none (timesO bg ks))) x = some (.ins "Seen" [("times", .ref f), ("told", .ref o)]) := up_nx xf up_same
  have h3f : (up (up (up (up G1 x (.ins "Seen" [("times", .ref f)])) o (.dic none [])) x (.ins "Seen" [("times", .ref f), ("told", .ref o)])) f (.dif none (timesO bg ks))) f = some (.dif none (timesO bg ks)) := up_same
  have h3o : (up (up (up (up G1 x (.ins "Seen" [("times", .ref f)])) o (.dic none [])) x (.ins "Seen" [("times", .ref f), ("told", .ref o)])) f (.dif none (timesO bg ks))) o = some (.dic none []) := up_nx (Ne.symm fo) (up_nx (Ne.symm xo) up_same)
  have l3 : LeX [x, o] G (up (up (up (up G1 x (.ins "Seen" [("times", .ref f)])) o (.dic none [])) x (.ins "Seen" [("times", .ref f), ("told", .ref o)])) f (.dif none (timesO bg ks))) := fun b v hb e => by
    have b1 : b ≠ x := fun z => hb (by simp [z])
    have b2 : b ≠ o := fun z => hb (by simp [z])
    exact up_nx (gne e hf) (up_nx b1 (up_nx b2 (up_nx b1 (l1 _ _ e))))
  generalize (up (up (up (up G1 x (.ins "Seen" [("times", .ref f)])) o (.dic none [])) x (.ins "Seen" [("times", .ref f), ("told", .ref o)])) f (.dif none (timesO bg ks))) = G3 at *
  refine loop_inv (fun i σ G' => ∃ v4 v5, σ = [some (.ref x), some (.tup [.tup (p.deeds.map encDeed), .tup (p.tries.map encN)]), some (.tup (ws.map encN)), some (encSt p.deeds.length s), v4, v5] ∧ G' x = some (.ins "Seen" [("times", .ref f), ("told", .ref o)]) ∧ G' f = some (.dif none (timesO bg ks)) ∧ G' o = some (.dic none (toldO p s m ths (ks.take i))) ∧ LeX [x, o] G G')
    ⟨none, none, rfl, h3x, h3f, h3o, l3⟩ (fun _ _ _ _ _ => trivial) (fun i d σ' G' N hd hi hP hN => ?_) (fun σ' G' hP => ?_)
  · obtain ⟨v4, v5, rfl, k1, k2, k3, k4⟩ := hP
    walk_at "run"
    rw [List.length_map] at hi
    have hk := List.getElem?_eq_getElem hi
    have hmem := List.getElem_mem hi
    rw [List.getElem?_map, hk] at hd
    obtain rfl : encNN ks[i] = d := by simpa using hd
    generalize ks[i] = e at hk hmem
    refine UpC.of ⟨p, s, bg, m, ths, e, rfl, hp, hF, (kb.mem e).mp hmem, fun G4 l4 => ?_⟩
    have j1 := l4 _ _ k1
    have j2 := l4 _ _ k2
    have j3 := l4 _ _ k3
    have j4 : LeX [x, o] G G4 := fun b v hb z => l4 _ _ (k4 b v hb z)
    cases du : due p.deeds s.near m ths e with
    | none =>
      have et : tldS p s m ths e = .tup [.str "try", .str "lost"] := by unfold tldS; rw [du]
      rw [et]
      walk_at "run"
      refine hN _ _ _ (.refl _) ⟨_, _, rfl, j1, j2, ?_, j4⟩
      rw [told_skip hk (by rw [du]; rfl)]
      exact j3
    | some tl =>
      have et : tldS p s m ths e = encTl tl := by unfold tldS; rw [du]
      have hput := told_put (p := p) (s := s) (m := m) (ths := ths) kb.nd hk (by rw [du]; rfl)
      rw [et] at hput ⊢
      rw [encTl_eq] at hput ⊢
      have hlost : ∀ {G : DG} {Q : DK}, Q (.bl true) G → neD (thTl tl) (.str "lost") G Q := fun {G Q} k => by
        cases tl with
        | lay y => exact s_neIS (by decide +kernel) k
        | take y => exact ne_lost k
        | tr y => exact ne_lost k
      generalize wdTl tl = wd at *
      generalize thTl tl = th at *
      walk_at "run"
      refine hlost ?_
      walk_at "run"
      refine s_dputN j3 (.inl ⟨_, rfl⟩) (nkP_of e) (nkP_depth _) rfl (by unfold toldO; rw [List.length_map]; have := List.length_filter_le (fun d => (due p.deeds s.near m ths d).isSome) (ks.take i); have := List.length_take_le i ks; omega) ?_
      rw [show putN (nkP e) (.tup [.int e.1, .int e.2]) (.tup [.str wd, th]) (toldO p s m ths (ks.take i)) = toldO p s m ths (ks.take (i + 1)) from hput]
      exact hN _ _ _ (.refl _) ⟨_, _, rfl, up_nx xo j1, up_nx fo j2, up_same, lex_mem (by simp) j4⟩
  · obtain ⟨v4, v5, rfl, k1, k2, k3, k4⟩ := hP
    rw [List.length_map, List.take_length] at k3
    obtain ⟨b1, b2, b3⟩ := sok_left hF.ok
    have hdl := hp.deeds
    have hml := hF.ok.len
    have htl := hp.tries
    walk_at "run"
    refine UpC.of ⟨p.deeds.length, s, rfl, by omega, b1, b2, b3, by omega, fun G5 a b cs hT => ?_⟩
    have m1 := hT.l.le _ _ k1
    have m2 := hT.l.le _ _ k2
    have m3 := hT.l.le _ _ k3
    have m4 : LeX [x, o] G G5 := fun b v hb z => hT.l.le _ _ (k4 b v hb z)
    have xb : x ≠ b := gne k1 hT.fb
    have fb : f ≠ b := gne k2 hT.fb
    have ob : o ≠ b := gne k3 hT.fb
    obtain ⟨A, hG⟩ := hF.good
    obtain ⟨r, _, hrr⟩ := hG.rows
    have hB : G5 b = some (.lst (r.map .int)) := by
      rw [hT.hb, show leftOf s = r.map some from hrr.symm, List.map_map]
      rfl
    walk_at "run"
    refine s_rt (q _ ⟨x, f, o, b⟩ m ths ks r rfl hF ⟨up_same, up_nx (Ne.symm xf) m2, up_nx (Ne.symm xo) m3, up_nx (Ne.symm xb) hB, kb, hrr⟩ fun c v hc e => ?_)
    have c1 : c ≠ x := fun z => hc (by simp [z])
    have c2 : c ≠ o := gne e go
    exact up_nx c1 (m4 c v (by simp [c1, c2]) e)

/-! ### is_free -/
def bgF (bg : Bgs) (d : Nat × Nat) : Nat := (bg d).elim 0 Prod.fst
def bgL (bg : Bgs) (d : Nat × Nat) : Nat := (bg d).elim 0 Prod.snd
def freeB (bg : Bgs) (d : Nat × Nat) (rest : List (Nat × Nat)) : Bool := rest.all fun o => decide (bgF bg d ≤ bgL bg o)
theorem encBL_of {bg : Bgs} {d : Nat × Nat} (h : bg d ≠ none) : encBL (bg d) = .tup [.int (bgF bg d), .int (bgL bg d)] := by
  unfold bgF bgL
  cases e : bg d with
  | none => exact absurd e h
  | some q => rfl
def C_Seen_is_free : Ct := fun ds G Q _ => ∃ (A : SeA) (p : Play) (s : Sta) (bg : Bgs) (m : Mv) (ths : List Mv) (ks : List (Nat × Nat)) (left : List Int) (d : Nat × Nat) (b : Addr) (rest : List (Nat × Nat)), ds = [.ref A.p, encNN d, .ref b] ∧ SeAt G A p s bg m ths ks left ∧ G b = some (.lst (rest.map encNN)) ∧ d ∈ ks ∧ (∀ e ∈ rest, e ∈ ks) ∧ rest.length ≤ 2000 ∧
  ∀ G', Le G G' → Q (.bl (freeB bg d rest)) G'
theorem len_Seen_is_free (ds G Q E) (h : C_Seen_is_free ds G Q E) : ds.length = 3 := by obtain ⟨_, _, _, _, _, _, _, _, _, _, _, rfl, _⟩ := h; rfl
abbrev N_Seen_is_free : List Str := ["self", "deed", "rest", "other"]
def T_Seen_is_free : DX → DS := fun E => (dRet (dCB allD (dCons (dLc (diSeq (dVar 2)) (bdN 3) [3] dYes (dOp geD (dOp itemD (dOp getD (dFld "Seen" "times" (dVar 0)) (dVar 3)) (dC (.int 1))) (dOp itemD (dOp getD (dFld "Seen" "times" (dVar 0)) (dVar 1)) (dC (.int 0))))) dNil)))
theorem run_Seen_is_free (ds G Q E) (h : C_Seen_is_free ds G Q E) : T_Seen_is_free E { nx := fun _ G' => DrK Q .non G', rt := DrK Q, bk := fun _ _ => False, ct := fun _ _ => False } (dstart N_Seen_is_free ds) G := by
  obtain ⟨A, p, s, bg, m, ths, ks, left, d, b, rest, rfl, hA, gb, hd, hrest, hl, q⟩ := h
  show T_Seen_is_free E _ [some (.ref A.p), some (.tup [.int d.1, .int d.2]), some (.ref b), none] G
  unfold T_Seen_is_free
  have gp := hA.hp
  walk_at "run"
  intro r hr
  have hA' : ∀ o, SeAt (up G r o) A p s bg m ths ks left := fun o => hA.grow (le_new hr (.refl _))
  refine comp_pure rest encNN (fun _ => true) (fun e => .bl (decide (bgF bg d ≤ bgL bg e))) (by omega) hr (fun o => up_nx (gne gb hr) gb) (fun e he o => ⟨_, rfl, fun QB h => ?_, fun _ QD h => ?_⟩) ?_
  · walk_at "run"
    exact h
  · have hp' := (hA' o).hp
    have ht' := (hA' o).ht
    walk_at "run"
    refine s_getF ht' (.inl ⟨_, rfl⟩) (nkP_of e) (nkP_depth _) (look_kvs (f := fun t => encBL (bg t)) (hrest e he)) ?_
    rw [encBL_of ((hA.kb.mem e).mp (hrest e he))]
    walk_at "run"
    refine s_getF ht' (.inl ⟨_, rfl⟩) (nkP_of d) (nkP_depth _) (look_kvs (f := fun t => encBL (bg t)) hd) ?_
    rw [encBL_of ((hA.kb.mem d).mp hd)]
    walk_at "run"
    rw [show decide ((bgF bg d : Int) ≤ (bgL bg e : Int)) = decide (bgF bg d ≤ bgL bg e) by simp]
    exact h
  rw [List.filter_eq_self.mpr (fun _ _ => rfl)]
  walk_at "run"
  refine s_allL (bs := rest.map fun e => decide (bgF bg d ≤ bgL bg e)) (by rw [up_same, List.map_map]; rfl) ?_
  walk_at "run"
  rw [show (rest.map fun e => decide (bgF bg d ≤ bgL bg e)).all id = freeB bg d rest by rw [List.all_map]; rfl]
  exact s_rt (q _ (le_new hr (.refl _)))
/-! ### the search for an order -/
def ordS (bg : Bgs) (du : Nat × Nat → Option Tl) (left : List Int) (ks : List (Nat × Nat)) : Nat → List (Nat × Nat) → List Int → Option (List (Nat × Nat))
  | 0, _, _ => none
  | n + 1, done, row => if ks.filter (fun d => decide (d ∉ done)) = [] then (if row = left then some done else none)
    else (ks.filter fun d => decide (d ∉ done)).findSome? fun d => if freeB bg d (ks.filter fun d => decide (d ∉ done)) then ((du d).bind (rowB row)).bind fun more => ordS bg du left ks n (done ++ [d]) more else none

structure RestO (bg : Bgs) (du : Nat × Nat → Option Tl) (left : List Int) (ks done : List (Nat × Nat)) (row : List Int) (L : List (Nat × Nat)) : Prop where
  nod : L.Nodup
  all : ∀ d, d ∈ L ↔ d ∈ ks ∧ d ∉ done
  free : L.Pairwise fun a b => bgF bg a ≤ bgL bg b
  rows : rowsB row (L.filterMap du) = some left
theorem rest_mem {ks done : List (Nat × Nat)} {d : Nat × Nat} : d ∈ ks.filter (fun d => decide (d ∉ done)) ↔ d ∈ ks ∧ d ∉ done := by
  rw [List.mem_filter, decide_eq_true_iff]
theorem ordS_sound {bg : Bgs} {du : Nat × Nat → Option Tl} {left : List Int} {ks : List (Nat × Nat)} (hk : ∀ d ∈ ks, du d ≠ none) : ∀ {n : Nat} {done : List (Nat × Nat)} {row : List Int} {L : List (Nat × Nat)}, ordS bg du left ks n done row = some L → ∃ L2, L = done ++ L2 ∧ RestO bg du left ks done row L2
  | 0, done, row, L, h => by cases h
  | n + 1, done, row, L, h => by
    unfold ordS at h
    split at h
    · rename_i e0
      split at h
      · rename_i e1
        cases h
        refine ⟨[], by simp, List.nodup_nil, fun d => ?_, List.Pairwise.nil, by rw [e1]; rfl⟩
        have : d ∉ ks.filter fun d => decide (d ∉ done) := by rw [e0]; simp
        rw [rest_mem] at this
        simp only [List.not_mem_nil, false_iff]
        exact this
      · cases h
    · obtain ⟨d, hd, h1⟩ := List.exists_of_findSome?_eq_some h
      split at h1
      · rename_i hf
        cases e1 : (du d).bind (rowB row) with
        | none => rw [e1] at h1; cases h1
        | some more =>
          rw [e1] at h1
          obtain ⟨L2, rfl, hR⟩ := ordS_sound hk h1
          have hdm := rest_mem.mp hd
          refine ⟨d :: L2, by simp, List.nodup_cons.mpr ⟨fun z => ?_, hR.nod⟩, fun e => ?_, List.pairwise_cons.mpr ⟨fun e he => ?_, hR.free⟩, ?_⟩
          · exact ((hR.all d).mp z).2 (by simp)
          · rw [List.mem_cons, hR.all e]
            constructor
            · rintro (z | ⟨z1, z2⟩)
              · rw [z]; exact hdm
              · exact ⟨z1, fun y => z2 (by simp [y])⟩
            · rintro ⟨z1, z2⟩
              by_cases y : e = d
              · exact .inl y
              · exact .inr ⟨z1, by simp [z2, y]⟩
          · have he2 := (hR.all e).mp he
            have hm : e ∈ ks.filter fun d => decide (d ∉ done) := rest_mem.mpr ⟨he2.1, fun y => he2.2 (by simp [y])⟩
            have := List.all_eq_true.mp hf e hm
            simpa using this
          · cases ed : du d with
            | none => exact absurd ed (hk d hdm.1)
            | some t =>
              rw [ed] at e1
              rw [List.filterMap_cons_some ed]
              show (rowB row t).bind _ = _
              rw [show rowB row t = some more from e1]
              exact hR.rows
      · cases h1
theorem ordS_full {bg : Bgs} {du : Nat × Nat → Option Tl} {left : List Int} {ks : List (Nat × Nat)} (hk : ∀ d ∈ ks, du d ≠ none) (hb : ∀ d, bgF bg d ≤ bgL bg d) : ∀ {n : Nat} {done : List (Nat × Nat)} {row : List Int} {L : List (Nat × Nat)}, RestO bg du left ks done row L → L.length < n → ordS bg du left ks n done row ≠ none
  | 0, done, row, L, h, hn => by omega
  | n + 1, done, row, [], h, hn => by
    unfold ordS
    have e0 : ks.filter (fun d => decide (d ∉ done)) = [] := by
      rw [List.eq_nil_iff_forall_not_mem]
      intro d hd
      have := (h.all d).mpr (rest_mem.mp hd)
      cases this
    have e1 : row = left := by have := h.rows; injection this
    rw [if_pos e0, if_pos e1]
    simp
  | n + 1, done, row, d :: L, h, hn => by
    unfold ordS
    have hdm := (h.all d).mp (by simp)
    have hd : d ∈ ks.filter fun d => decide (d ∉ done) := rest_mem.mpr hdm
    rw [if_neg fun z => by rw [z] at hd; cases hd]
    intro hnone
    have h1 := List.findSome?_eq_none_iff.mp hnone d hd
    have hf : freeB bg d (ks.filter fun d => decide (d ∉ done)) = true := by
      refine List.all_eq_true.mpr fun e he => ?_
      have := (h.all e).mpr (rest_mem.mp he)
      rcases List.mem_cons.mp this with z | z
      · rw [z]; simpa using hb d
      · simpa using (List.pairwise_cons.mp h.free).1 e z
    rw [if_pos hf] at h1
    cases ed : du d with
    | none => exact hk d hdm.1 ed
    | some t =>
      have hr := h.rows
      rw [List.filterMap_cons_some ed] at hr
      have hr2 : (rowB row t).bind (fun r' => rowsB r' (L.filterMap du)) = some left := hr
      cases er : rowB row t with
      | none => rw [er] at hr2; cases hr2
      | some more =>
        rw [er] at hr2
        rw [ed] at h1
        have h2 : ordS bg du left ks n (done ++ [d]) more = none := by
          have : (rowB row t).bind (fun more => ordS bg du left ks n (done ++ [d]) more) = none := h1
          rw [er] at this
          exact this
        have hnd := List.nodup_cons.mp h.nod
        refine ordS_full hk hb (L := L) ⟨hnd.2, fun e => ?_, (List.pairwise_cons.mp h.free).2, hr2⟩ (by simp at hn; omega) h2
        constructor
        · intro he
          have := (h.all e).mp (by simp [he])
          exact ⟨this.1, by simp [this.2]; intro z; rw [z] at he; exact hnd.1 he⟩
        · rintro ⟨z1, z2⟩
          have z3 : e ∉ done ∧ e ≠ d := by simpa using z2
          rcases List.mem_cons.mp ((h.all e).mpr ⟨z1, z3.1⟩) with y | y
          · exact absurd y z3.2
          · exact y

/-! ### pairs sorted -/
def leNN (a b : Nat × Nat) : Bool := decide (a.1 < b.1 ∨ (a.1 = b.1 ∧ a.2 ≤ b.2))
def srt (l : List (Nat × Nat)) : List (Nat × Nat) := l.mergeSort leNN
theorem srt_perm (l : List (Nat × Nat)) : (srt l).Perm l := List.mergeSort_perm l leNN
theorem leNN_trans (a b c : Nat × Nat) (h1 : leNN a b = true) (h2 : leNN b c = true) : leNN a c = true := by
  simp only [leNN, decide_eq_true_eq] at *
  omega
theorem leNN_total (a b : Nat × Nat) : (leNN a b || leNN b a) = true := by
  simp only [leNN, Bool.or_eq_true, decide_eq_true_eq]
  omega
theorem srt_pw (l : List (Nat × Nat)) : (srt l).Pairwise (fun a b => leNN a b = true) := List.pairwise_mergeSort leNN_trans leNN_total l
abbrev cI (p : Nat × Nat) : Int × Int := ((p.1 : Int), (p.2 : Int))
theorem leNN_lex {a b : Nat × Nat} : leNN a b = true ↔ lexLe (cI a) (cI b) := by
  simp only [leNN, decide_eq_true_eq, lexLe]
  omega
theorem lex_uniq {xs ys : List (Int × Int)} (h : xs.Perm ys) (h1 : xs.Pairwise lexLe) (h2 : ys.Pairwise lexLe) : xs = ys := h.eq_of_pairwise (fun a b _ _ x y => by
  unfold lexLe at x y
  refine Prod.ext ?_ ?_ <;> omega) h1 h2
theorem s_sortNN {G : DG} {Q : DK} {p : Addr} {l : List (Nat × Nat)} (e : G p = some (.lst (l.map encNN))) (k : ∀ q, G q = none → Q (.ref q) (up G q (.lst ((srt l).map encNN)))) : sortedPD [.ref p] G Q := by
  have em : ∀ l : List (Nat × Nat), l.map encNN = (l.map cI).map encPI := fun l => by rw [List.map_map]; rfl
  refine ⟨p, l.map cI, rfl, by rw [← em]; exact e, fun qs q hp hs hq => ?_⟩
  have : qs = (srt l).map cI := lex_uniq (hp.trans ((srt_perm l).map cI).symm) hs (by
    rw [List.pairwise_map]
    exact (srt_pw l).imp fun h => leNN_lex.mp h)
  rw [this, ← em]
  exact k q hq

/-! ### Seen.order_of -/
theorem meth_none {P : Program} {w : World} {K : PySem.W.Frag} {mg : Str → Option Value} {base : Heap} {n m q : Str} {st : Stmt} {ps : List Str} {k : Nat} {C : Ct} (D0 : MethAt K n m q st ps) (h : ∀ ds G Q E, ¬ C ds G Q E) : MethOk P w K mg base k n m C := by
  obtain ⟨Ca, f, fd, hC, c, hm, F, hb⟩ := D0
  exact ⟨Ca, f, fd, ps, hC, c, hm, hb, fun vs H Q E ⟨ds, G, Q0, E0, _, _, c, _⟩ => absurd c (h _ _ _ _), fun A outer s H args us vs Q E hr hg e0 hb hv ⟨ds, G, Q0, E0, _, _, c, _⟩ => absurd c (h _ _ _ _)⟩
theorem s_sortDicSn {G : DG} {Q : DK} {p : Addr} {l : List (Nat × Nat)} {f : Nat × Nat → D} (e : G p = some (.dic none (l.map fun s => (encNN s, f s)))) (k : ∀ q, G q = none → Q (.ref q) (up G q (.lst ((srt l).map encNN)))) : sortedDicD [.ref p] G Q := by
  have em : ∀ l : List (Nat × Nat), l.map encNN = (l.map cI).map encPI := fun l => by rw [List.map_map]; rfl
  refine ⟨p, _, l.map cI, rfl, e, by rw [← em, List.map_map]; rfl, fun qs q hp hs hq => ?_⟩
  have : qs = (srt l).map cI := lex_uniq (hp.trans ((srt_perm l).map cI).symm) hs (by
    rw [List.pairwise_map]
    exact (srt_pw l).imp fun h => leNN_lex.mp h)
  rw [this, ← em]
  exact k q hq
theorem le_freeS {G G' : DG} (l : Le G G') {c : Addr} (h : G' c = none) : G c = none := by
  cases e : G c with
  | none => rfl
  | some o => rw [l _ _ e] at h; cases h
theorem rowB_len {r r' : List Int} {t : Tl} (h : rowB r t = some r') : r'.length ≤ r.length + 1 := by
  unfold rowB at h
  split at h
  · cases h; simp
  · split at h
    · cases h; omega
    · cases h
  · split at h
    · cases h; omega
    · cases h
  · split at h
    · cases h; simp; omega
    · cases h
  · split at h
    · cases h; simp; omega
    · cases h
def toldK (p : Play) (s : Sta) (m : Mv) (ths : List Mv) (ks : List (Nat × Nat)) : List (Nat × Nat) := srt (ks.filter fun d => (due p.deeds s.near m ths d).isSome)
def C_Seen_order_of (n : Nat) : Ct := fun ds G Q _ => ∃ (A : SeA) (p : Play) (s : Sta) (bg : Bgs) (m : Mv) (ths : List Mv) (ks : List (Nat × Nat)) (left : List Int) (a b : Addr) (done : List (Nat × Nat)) (row : List Int), ds = [.ref A.p, .ref a, .ref b] ∧ SeAt G A p s bg m ths ks left ∧ ks.length ≤ 2000 ∧ G a = some (.lst (done.map encNN)) ∧ G b = some (.lst (row.map .int)) ∧ row.length + n ≤ 500 ∧ done.length + n ≤ 500 ∧ ((toldK p s m ths ks).filter fun d => decide (d ∉ done)).length < n ∧
  (ordS bg (due p.deeds s.near m ths) left (toldK p s m ths ks) n done row = none → ∀ G', Le G G' → Q .non G') ∧
  ∀ L G' c, ordS bg (due p.deeds s.near m ths) left (toldK p s m ths ks) n done row = some L → Le G G' → G' c = some (.lst (L.map encNN)) → (c = a ∨ G c = none) → Q (.ref c) G'
theorem len_Seen_order_of (n ds G Q E) (h : C_Seen_order_of n ds G Q E) : ds.length = 3 := by obtain ⟨_, _, _, _, _, _, _, _, _, _, _, _, rfl, _⟩ := h; rfl
theorem none_Seen_order_of (ds G Q E) : ¬ C_Seen_order_of 0 ds G Q E := fun ⟨_, _, _, _, _, _, _, _, _, _, _, _, _, _, _, _, _, _, _, h, _⟩ => by omega
abbrev N_Seen_order_of : List Str := ["self", "done", "row", "rest", "deed", "more", "found"]
def T_Seen_order_of (n : Nat) : DX → DS := fun E => (dSeq (dAsg (dLc (diSeq (dCB sortedDicD (dCons (dFld "Seen" "told" (dVar 0)) dNil))) (bdN 4) [4] (dTest (dOp (inD true) (dVar 4) (dVar 1))) (dVar 4)) (dgName 3))
    (dSeq (dIf (dTest (dOp eqD (dVar 3) (dLst dNil))) (dRet (dIfE (dTest (dOp eqD (dVar 2) (dFld "Seen" "left" (dVar 0)))) (dVar 1) (dC .non))) dNext)
    (dSeq (dFor (diSeq (dVar 3)) (dgName 4) (dSeq (dAsg (dIfE (dTru (dMeth "Seen" "is_free" C_Seen_is_free E (dVar 0) (dCons (dVar 4) (dCons (dVar 3) dNil)))) (dCall C_done_whole E (dCons (dVar 2) (dCons (dOp itemD (dOp getD (dFld "Seen" "told" (dVar 0)) (dVar 4)) (dC (.int 0))) (dCons (dOp itemD (dOp getD (dFld "Seen" "told" (dVar 0)) (dVar 4)) (dC (.int 1))) dNil)))) (dC .non)) (dgName 5))
    (dSeq (dAsg (dIfE (dTest (dOp (isD true) (dVar 5) (dC .non))) (dMeth "Seen" "order_of" (C_Seen_order_of n) E (dVar 0) (dCons (dOp addD (dVar 1) (dLst (dCons (dVar 4) dNil))) (dCons (dVar 5) dNil))) (dC .non)) (dgName 6))
    (dIf (dTest (dOp (isD true) (dVar 6) (dC .non))) (dRet (dVar 6)) dNext))))
    (dRet (dC .non)))))
theorem run_Seen_order_of (n ds G Q E) (h : C_Seen_order_of (n + 1) ds G Q E) : T_Seen_order_of n E { nx := fun _ G' => DrK Q .non G', rt := DrK Q, bk := fun _ _ => False, ct := fun _ _ => False } (dstart N_Seen_order_of ds) G := by
  obtain ⟨A, p, s, bg, m, ths, ks, left, a, b, done, row, rfl, hA, hkl, ga, gb, hl1, hl2, hn, q0, q1⟩ := h
  show T_Seen_order_of n E _ [some (.ref A.p), some (.ref a), some (.ref b), none, none, none, none] G
  unfold T_Seen_order_of
  have gp := hA.hp
  have go := hA.ho
  unfold toldO at go
  walk_at "run"
  refine s_sortDicSn go fun c hc => ?_
  generalize hK : toldK p s m ths ks = kk at *
  have hK' : srt (ks.filter fun d => (due p.deeds s.near m ths d).isSome) = kk := hK
  rw [hK']
  walk_at "run"
  intro r hr
  have gc := new_g (rfl : up G c (.lst (kk.map encNN)) = _)
  refine comp_pure kk encNN (fun d => decide (d ∉ done)) encNN ?_ hr (fun o => up_nx (gne up_same hr) up_same) (fun d hd o => ⟨_, rfl, fun QB h => ?_, fun _ QD h => ?_⟩) ?_
  · have := (srt_perm (ks.filter fun d => (due p.deeds s.near m ths d).isSome)).length_eq
    rw [hK'] at this
    have := List.length_filter_le (fun d => (due p.deeds s.near m ths d).isSome) ks
    omega
  · walk_at "run"
    refine s_ninE (xs := done) ok_NN (up_nx (gne (up_nx (gne ga hc) ga) hr) (up_nx (gne ga hc) ga)) ?_
    walk_at "run"
    exact Eq.mp (congrArg (fun z => QB z _) (Bool.eq_iff_iff.mpr (by simp))) h
  · walk_at "run"
    exact h
  have lG : Le G (up (up G c (.lst (kk.map encNN))) r (.lst ((kk.filter fun d => decide (d ∉ done)).map encNN))) := (le_new hc (.refl _)).trans (le_new hr (.refl _))
  have gr : (up (up G c (.lst (kk.map encNN))) r (.lst ((kk.filter fun d => decide (d ∉ done)).map encNN))) r = some (.lst ((kk.filter fun d => decide (d ∉ done)).map encNN)) := up_same
  unfold ordS at q0 q1
  have hrest : ∀ d, d ∈ kk.filter (fun d => decide (d ∉ done)) → d ∈ kk := fun d hd => (List.mem_filter.mp hd).1
  have hkkl : kk.length ≤ 2000 := by
    have := (srt_perm (ks.filter fun d => (due p.deeds s.near m ths d).isSome)).length_eq
    rw [hK'] at this
    have := List.length_filter_le (fun d => (due p.deeds s.near m ths d).isSome) ks
    omega
  generalize hR : kk.filter (fun d => decide (d ∉ done)) = rest at *
  have hrlen : rest.length ≤ 2000 := by
    rw [← hR]
    exact Nat.le_trans (List.length_filter_le _ _) hkkl
  have hlt0 : ∀ d ∈ rest, (kk.filter fun e => decide (e ∉ done ++ [d])).length < rest.length := fun d hd => by
    have e1 : (kk.filter fun e => decide (e ∉ done ++ [d])) = rest.filter fun e => decide (e ≠ d) := by
      rw [← hR, List.filter_filter]
      refine List.filter_congr fun e _ => ?_
      by_cases z1 : e = d <;> by_cases z2 : e ∈ done <;> simp [z1, z2]
    rw [e1]
    exact List.length_filter_lt_length_iff_exists.mpr ⟨d, hd, by simp⟩
  generalize up (up G c (.lst (kk.map encNN))) r (.lst (rest.map encNN)) = G1 at *
  walk_at "run"
  intro e he
  have hA1 := hA.grow lG
  have ga1 := lG _ _ ga
  have gb1 := lG _ _ gb
  refine s_eqLE (ys := []) ok_NN (up_nx (gne gr he) gr) up_same ?_
  walk_at "run"
  refine br_bool (fun h0 => ?_) (fun h0 => ?_)
  · have h0' : rest = [] := by simpa using h0
    rw [if_pos h0'] at q0 q1
    have hl' := up_nx (o := .lst []) (gne hA1.hl he) hA1.hl
    have hp' := up_nx (o := .lst []) (gne hA1.hp he) hA1.hp
    have gb' := up_nx (o := .lst []) (gne gb1 he) gb1
    walk_at "run"
    refine s_eqLE ok_Z gb' hl' ?_
    walk_at "run"
    refine br_bool (fun h1 => ?_) (fun h1 => ?_)
    · have h1' : row = left := by simpa using h1
      walk_at "run"
      exact s_rt (q1 done _ a (by rw [if_pos h1']) (lG.trans (le_new he (.refl _))) (up_nx (gne ga1 he) ga1) (.inl rfl))
    · have h1' : row ≠ left := by simpa using h1
      walk_at "run"
      exact s_rt (q0 (by rw [if_neg h1']) _ (lG.trans (le_new he (.refl _))))
  · have h0' : rest ≠ [] := by simpa using h0
    rw [if_neg h0'] at q0 q1
    have hkk : ∀ d ∈ rest, d ∈ ks ∧ (due p.deeds s.near m ths d).isSome = true := fun d hd => by
      have := hrest d hd
      rw [← hK'] at this
      have := (srt_perm _).mem_iff.mp this
      exact List.mem_filter.mp this
    walk_at "run"
    refine loop_inv (fun i σ G' => ∃ v4 v5 v6, σ = [some (.ref A.p), some (.ref a), some (.ref b), some (.ref r), v4, v5, v6] ∧ Le G1 G' ∧ (rest.take i).findSome? (fun d => if freeB bg d rest then ((due p.deeds s.near m ths d).bind (rowB row)).bind fun more => ordS bg (due p.deeds s.near m ths) left kk n (done ++ [d]) more else none) = none)
      ⟨none, none, none, rfl, le_new he (.refl _), by simp⟩ (fun _ _ _ _ hP => by obtain ⟨_, _, _, _, l, _⟩ := hP; exact l _ _ gr) (fun i d σ' G' N hd hi hP hN => ?_) (fun σ' G' hP => ?_)
    · obtain ⟨v4, v5, v6, rfl, l, hfs⟩ := hP
      rw [List.length_map] at hi
      have hdi := List.getElem?_eq_getElem hi
      have hmem := List.getElem_mem hi
      rw [List.getElem?_map, hdi] at hd
      obtain rfl : encNN rest[i] = d := by simpa using hd
      have hstep : (rest.take (i + 1)).findSome? (fun d => if freeB bg d rest then ((due p.deeds s.near m ths d).bind (rowB row)).bind fun more => ordS bg (due p.deeds s.near m ths) left kk n (done ++ [d]) more else none) = (if freeB bg rest[i] rest then ((due p.deeds s.near m ths rest[i]).bind (rowB row)).bind fun more => ordS bg (due p.deeds s.near m ths) left kk n (done ++ [rest[i]]) more else none) := by
        rw [List.take_add_one, hdi, List.findSome?_append, hfs]
        simp
      generalize rest[i] = d at *
      have hA2 := hA1.grow l
      have hp2 := hA2.hp
      walk_at "run"
      refine UpC.of ⟨A, p, s, bg, m, ths, ks, left, d, r, rest, rfl, hA2, l _ _ gr, (hkk d hmem).1, fun e he => (hkk e he).1, ?_, fun G2 l2 => ?_⟩
      · exact hrlen
      walk_at "run"
      have hA3 := hA2.grow l2
      have l12 := l.trans l2
      refine br_bool (fun hf => ?_) (fun hf => ?_)
      · rw [if_pos hf] at hstep
        have ho3 := hA3.ho
        have hp3 := hA3.hp
        obtain ⟨tl, htl⟩ := Option.isSome_iff_exists.mp (hkk d hmem).2
        have htd : lookN (nkP d) (toldO p s m ths ks) = some (encTl tl) := by
          unfold toldO
          rw [look_kvs (f := tldS p s m ths) (List.mem_filter.mpr (hkk d hmem))]
          unfold tldS
          rw [htl]
        rw [htl] at hstep
        rw [encTl_eq] at htd
        walk_at "run"
        refine s_getN ho3 (.inl ⟨_, rfl⟩) (nkP_of d) (nkP_depth _) htd ?_
        walk_at "run"
        refine s_getN ho3 (.inl ⟨_, rfl⟩) (nkP_of d) (nkP_depth _) htd ?_
        walk_at "run"
        refine UpC.of ⟨b, row, tl, rfl, l12 _ _ gb1, by omega, fun hnone G3 l3 => ?_, fun r' G3 b' hs l3 g3 => ?_⟩
        · walk_at "run"
          refine hN _ _ _ (.refl _) ⟨_, _, _, rfl, l12.trans l3, ?_⟩
          rw [hstep]
          show (rowB row tl).bind _ = none
          rw [hnone]
          rfl
        · have hA4 := hA3.grow l3
          have hp4 := hA4.hp
          have ga4 := l3 _ _ (l12 _ _ ga1)
          have hstep' : (rest.take (i + 1)).findSome? (fun d => if freeB bg d rest then ((due p.deeds s.near m ths d).bind (rowB row)).bind fun more => ordS bg (due p.deeds s.near m ths) left kk n (done ++ [d]) more else none) = ordS bg (due p.deeds s.near m ths) left kk n (done ++ [d]) r' := by
            rw [hstep]
            show (rowB row tl).bind _ = _
            rw [hs]
            rfl
          walk_at "run"
          intro c1 hc1
          refine s_addL (xs := done.map encNN) (ys := [encNN d]) (up_nx (gne ga4 hc1) ga4) up_same (szL (by rw [List.length_map, List.length_singleton]; omega)) ?_
          intro c2 hc2
          walk_at "run"
          have l5 : Le G3 (up (up G3 c1 (.lst [encNN d])) c2 (.lst (done.map encNN ++ [encNN d]))) := (le_new hc1 (.refl _)).trans (le_new hc2 (.refl _))
          have hrl : r'.length ≤ row.length + 1 := rowB_len hs
          have hlt : (kk.filter fun e => decide (e ∉ done ++ [d])).length < n := by have := hlt0 d hmem; omega
          refine UpC.of ⟨A, p, s, bg, m, ths, ks, left, c2, b', done ++ [d], r', rfl, hA4.grow l5, hkl, by rw [List.map_append]; exact up_same, l5 _ _ g3, by omega, by rw [List.length_append, List.length_singleton]; omega, by rw [hK]; exact hlt, fun hnone G6 l6 => ?_, fun L G6 c6 hsome l6 g6 hc6 => ?_⟩
          · rw [hK] at hnone
            walk_at "run"
            exact hN _ _ _ (.refl _) ⟨_, _, _, rfl, l12.trans (l3.trans (l5.trans l6)), hstep'.trans hnone⟩
          · rw [hK] at hsome
            walk_at "run"
            have lG3 := lG.trans (l12.trans l3)
            have hfr : G c6 = none := by
              rcases hc6 with z | z
              · rw [z]
                exact le_freeS lG3 (up_free hc2)
              · exact le_freeS (lG3.trans l5) z
            refine s_rt (q1 L _ c6 ?_ (lG.trans (l12.trans (l3.trans (l5.trans l6)))) g6 (.inr hfr))
            have e5 : rest = rest.take (i + 1) ++ rest.drop (i + 1) := (List.take_append_drop _ _).symm
            have e6 := hstep'.trans hsome
            rw [e5, List.findSome?_append]
            rw [← e5, e6]
            rfl
      · rw [if_neg (by rw [hf]; decide)] at hstep
        walk_at "run"
        exact hN _ _ _ (.refl _) ⟨_, _, _, rfl, l12, hstep⟩
    · obtain ⟨v4, v5, v6, rfl, l, hfs⟩ := hP
      rw [List.length_map, List.take_length] at hfs
      walk_at "run"
      exact s_rt (q0 hfs _ (lG.trans l))

/-! ### all states gone through -/
section
def nextsOf (bare blind : Bool) (p : Play) (s : Sta) : List (Nat × Sta) := (List.range (1 + p.tries.length)).filterMap fun w => (stepM bare blind p s w).map fun t => (w, t)
theorem nexts_mem {bare blind : Bool} {p : Play} {s t : Sta} {w : Nat} : (w, t) ∈ nextsOf bare blind p s ↔ w ≤ p.tries.length ∧ stepM bare blind p s w = some t := by
  unfold nextsOf
  rw [List.mem_filterMap]
  constructor
  · rintro ⟨v, h1, h2⟩
    obtain ⟨u, h3, h4⟩ := Option.map_eq_some_iff.mp h2
    cases h4
    exact ⟨by have := List.mem_range.mp h1; omega, h3⟩
  · rintro ⟨h1, h2⟩
    exact ⟨w, List.mem_range.mpr (by omega), by rw [h2]; rfl⟩
theorem step_who {bare blind : Bool} {p : Play} {s t : Sta} {w : Nat} (h : SOk p s) (e : stepM bare blind p s w = some t) : w ≤ p.tries.length := by
  unfold stepM at e
  cases em : s.ms[w]? with
  | none => rw [em] at e; cases e
  | some m =>
    have := (List.getElem?_eq_some_iff.mp em).1
    have := h.len
    omega
theorem nexts_nil {bare blind : Bool} {p : Play} {s : Sta} (ok : SOk p s) : nextsOf bare blind p s = [] ↔ ∀ w, stepM bare blind p s w = none := by
  constructor
  · intro h w
    cases e : stepM bare blind p s w with
    | none => rfl
    | some t =>
      have := nexts_mem.mpr ⟨step_who ok e, e⟩
      rw [h] at this
      cases this
  · intro h
    refine List.eq_nil_iff_forall_not_mem.mpr fun x hx => ?_
    have := (nexts_mem.mp (show (x.1, x.2) ∈ _ from hx)).2
    rw [h x.1] at this
    cases this
end
/-! ### a dict of states -/
/-! ### going through, in plain -/
structure GT (bare blind : Bool) (p : Play) (kv : List (Sta × Option (Sta × Nat))) (ex wt la : List Sta) : Prop where
  nd : (kv.map (·.1)).Nodup
  rch : ∀ s ∈ kv.map (·.1), Rch bare blind p s
  val : ∀ x ∈ kv, ∀ s w, x.2 = some (s, w) → s ∈ kv.map (·.1) ∧ w ≤ p.tries.length ∧ stepM bare blind p s w = some x.1
  root : ∀ x ∈ kv, x.2 = none → x.1 = sta0 p
  has0 : sta0 p ∈ kv.map (·.1)
  sub : ∀ s ∈ wt, s ∈ kv.map (·.1)
  wnd : wt.Nodup
  clo : ∀ s ∈ kv.map (·.1), s ∉ ex → s ∉ wt → ∀ who t, stepM bare blind p s who = some t → t ∈ kv.map (·.1)
  lnd : la.Nodup
  last : ∀ s, s ∈ la ↔ s ∈ kv.map (·.1) ∧ s ∉ wt ∧ nextsOf bare blind p s = []
theorem GT.len {bare blind : Bool} {p : Play} {kv : List (Sta × Option (Sta × Nat))} {ex wt la : List Sta} (h : GT bare blind p kv ex wt la) (hp : Sml p) : kv.length ≤ 16000000 := by
  have := reach_le hp (Nat.le_refl _) h.rch h.nd
  simpa using this
theorem GT.zero (bare blind : Bool) (p : Play) : GT bare blind p [(sta0 p, none)] [] [sta0 p] [] := by
  refine ⟨by simp, fun s hs => ?_, fun x hx s w e => ?_, fun x hx e => ?_, by simp, by simp, by simp, fun s hs _ h => ?_, by simp, fun s => ?_⟩
  · simp at hs
    subst hs
    exact .zero
  · simp at hx
    subst hx
    cases e
  · simp at hx
    subst hx
    rfl
  · simp at hs h
    exact absurd hs h
  · simp
    intro a b
    exact absurd a b
/-- a new one -/
theorem GT.put {bare blind : Bool} {p : Play} {kv : List (Sta × Option (Sta × Nat))} {ex wt la : List Sta} {s t : Sta} {w : Nat} (h : GT bare blind p kv ex wt la) (hs : s ∈ kv.map (·.1)) (hw : w ≤ p.tries.length) (e : stepM bare blind p s w = some t) (hn : t ∉ kv.map (·.1)) :
    GT bare blind p (kv ++ [(t, some (s, w))]) ex (wt ++ [t]) la := by
  have hmem : ∀ u, u ∈ (kv ++ [(t, some (s, w))]).map (·.1) ↔ u ∈ kv.map (·.1) ∨ u = t := fun u => by simp
  have hwt : t ∉ wt := fun z => hn (h.sub t z)
  refine ⟨?_, fun u hu => ?_, fun x hx u v eu => ?_, fun x hx eu => ?_, (hmem _).mpr (.inl h.has0), fun u hu => ?_, ?_, fun u hu h1 h2 who v ev => ?_, h.lnd, fun u => ?_⟩
  · rw [List.map_append, List.nodup_append]
    exact ⟨h.nd, by simp, fun a ha b hb => by simp at hb; subst hb; exact fun z => hn (z ▸ ha)⟩
  · rcases (hmem u).mp hu with hu | rfl
    · exact h.rch u hu
    · exact (h.rch s hs).step e
  · rcases List.mem_append.mp hx with hx | hx
    · obtain ⟨a, b, c⟩ := h.val x hx u v eu
      exact ⟨(hmem _).mpr (.inl a), b, c⟩
    · simp at hx
      subst hx
      cases eu
      exact ⟨(hmem _).mpr (.inl hs), hw, e⟩
  · rcases List.mem_append.mp hx with hx | hx
    · exact h.root x hx eu
    · simp at hx
      subst hx
      cases eu
  · rcases List.mem_append.mp hu with hu | hu
    · exact (hmem _).mpr (.inl (h.sub u hu))
    · simp at hu
      exact (hmem _).mpr (.inr hu)
  · rw [List.nodup_append]
    exact ⟨h.wnd, by simp, fun a ha b hb => by simp at hb; subst hb; exact fun z => hwt (z ▸ ha)⟩
  · rcases (hmem u).mp hu with hu | rfl
    · exact (hmem _).mpr (.inl (h.clo u hu h1 (fun z => h2 (by simp [z])) who v ev))
    · exact absurd (by simp) h2
  · rw [h.last u, hmem]
    constructor
    · rintro ⟨a, b, c⟩
      refine ⟨.inl a, ?_, c⟩
      simp
      exact ⟨b, fun z => hn (z ▸ a)⟩
    · rintro ⟨a, b, c⟩
      simp at b
      exact ⟨a.resolve_right b.2, b.1, c⟩
/-- the one taken out is closed -/
theorem GT.done {bare blind : Bool} {p : Play} {kv : List (Sta × Option (Sta × Nat))} {wt la : List Sta} {s : Sta} (h : GT bare blind p kv [s] wt la) (hs : ∀ x ∈ nextsOf bare blind p s, x.2 ∈ kv.map (·.1)) : GT bare blind p kv [] wt la := by
  refine ⟨h.nd, h.rch, h.val, h.root, h.has0, h.sub, h.wnd, fun u hu _ h2 who v ev => ?_, h.lnd, h.last⟩
  by_cases e : u = s
  · subst e
    exact hs (who, v) (nexts_mem.mpr ⟨step_who (h.rch u hu).ok ev, ev⟩)
  · exact h.clo u hu (by simp [e]) h2 who v ev
/-- all reached are met at the end -/
theorem GT.all {bare blind : Bool} {p : Play} {kv : List (Sta × Option (Sta × Nat))} {la : List Sta} (h : GT bare blind p kv [] [] la) {s : Sta} (r : Rch bare blind p s) : s ∈ kv.map (·.1) := by
  induction r with
  | zero => exact h.has0
  | step _ e ih => exact h.clo _ ih (by simp) (by simp) _ _ e
theorem GT.ends {bare blind : Bool} {p : Play} {kv : List (Sta × Option (Sta × Nat))} {la : List Sta} (h : GT bare blind p kv [] [] la) (s : Sta) : s ∈ la ↔ Rch bare blind p s ∧ ∀ w, stepM bare blind p s w = none := by
  rw [h.last s]
  constructor
  · rintro ⟨a, _, c⟩
    exact ⟨h.rch s a, (nexts_nil (h.rch s a).ok).mp c⟩
  · rintro ⟨a, c⟩
    exact ⟨h.all a, by simp, (nexts_nil a.ok).mpr c⟩

/-! ### the walks -/
def SzE (p : Play) (G : DG) (E : DX) : Prop := p.deeds.length ≤ 4 ∧ p.tries.sum ≤ 3
theorem SzE.small {p : Play} {G : DG} {E : DX} (h1 : p.deeds.length ≤ 4) (h2 : p.tries.sum ≤ 3) : SzE p G E := by
  unfold SzE
  first | exact ⟨h1, h2⟩ | exact fun h => absurd ⟨h1, h2⟩ h
def C_need_size : Ct := fun ds G Q E => ∃ p : Play, ds = [encPlay p] ∧ PlOk p ∧ SzE p G E ∧ (p.deeds.length ≤ 4 → p.tries.sum ≤ 3 → Q .non G)
theorem len_need_size (ds G Q E) (h : C_need_size ds G Q E) : ds.length = 1 := by obtain ⟨_, rfl, _⟩ := h; rfl
abbrev N_need_size : List Str := ["play"]
def T_need_size : DX → DS := fun E => (dIf (dOr (dTest (dOp gtD (dCB lenD (dCons (dOp itemD (dVar 0) (dC (.int 0))) dNil)) (dC (.int 4)))) (dTest (dOp gtD (dCB sumTD (dCons (dOp itemD (dVar 0) (dC (.int 1))) dNil)) (dC (.int 3))))) dNever dNext)
theorem sum_nat : ∀ ts : List Nat, (ts.map fun n : Nat => (n : Int)).sum = (ts.sum : Nat)
  | [] => rfl
  | t :: ts => by
    simp only [List.map_cons, List.sum_cons, sum_nat ts]
    omega
theorem run_need_size (ds G Q E) (h : C_need_size ds G Q E) : T_need_size E { nx := fun _ G' => DrK Q .non G', rt := DrK Q, bk := fun _ _ => False, ct := fun _ _ => False } (dstart N_need_size ds) G := by
  obtain ⟨p, rfl, hp, sz, q⟩ := h
  show T_need_size E _ [some (.tup [.tup (p.deeds.map encDeed), .tup (p.tries.map encN)])] G
  unfold T_need_size
  walk_at "run"
  have es := sum_nat p.tries
  obtain ⟨q1, q2⟩ := sz
  refine br_neg (by rw [List.length_map]; omega) ?_
  walk_at "run"
  rw [encN_int]
  refine s_sumT ?_
  rw [es]
  walk_at "run"
  refine br_neg (by omega) ?_
  walk_at "run"
  exact s_rt (q q1 q2)
/-! ### seen_as -/
theorem rng_getD : ∀ ts : List Nat, ((List.range ts.length).map fun w => ts.getD w 0) = ts := fun ts => by
  apply List.ext_getElem
  · simp
  · intro i h1 h2
    simp [List.getD_eq_getElem?_getD, List.getElem?_eq_getElem h2]
def allK (p : Play) : List (Nat × Nat) := (List.range p.deeds.length).map (fun i => (0, i)) ++ (List.range p.tries.length).flatMap fun w => (List.range (p.tries.getD w 0)).map fun i => (w + 1, i)
theorem allK_len (p : Play) : (allK p).length = p.deeds.length + p.tries.sum := by
  unfold allK
  rw [List.length_append, List.length_map, List.length_range, List.length_flatMap]
  have : (fun w => ((List.range (p.tries.getD w 0)).map fun i => (w + 1, i)).length) = fun w => p.tries.getD w 0 := by
    funext w
    rw [List.length_map, List.length_range]
  rw [this, rng_getD]
theorem FinS.mem_allK {p : Play} {s : Sta} {bg : Bgs} {m : Mv} {ths : List Mv} (h : FinS p s bg m ths) {d : Nat × Nat} (hd : bg d ≠ none) : d ∈ allK p := by
  obtain ⟨who, i⟩ := d
  unfold allK
  rw [List.mem_append]
  cases who with
  | zero =>
    refine .inl (List.mem_map.mpr ⟨i, List.mem_range.mpr ((h.own i).mp hd), rfl⟩)
  | succ w =>
    have hw : w < ths.length := by
      apply Classical.byContradiction
      intro z
      exact hd (h.out w i (by omega))
    have ek := List.getElem?_eq_getElem hw
    have hi := (h.thf w _ i ek).mp hd
    have hl := h.len w _ ek
    refine .inr (List.mem_flatMap.mpr ⟨w, List.mem_range.mpr (List.getElem?_eq_some_iff.mp hl).1, List.mem_map.mpr ⟨i, List.mem_range.mpr ?_, rfl⟩⟩)
    rw [List.getD_eq_getElem?_getD, hl]
    exact hi
theorem FinS.due_bg {p : Play} {s : Sta} {bg : Bgs} {m : Mv} {ths : List Mv} (h : FinS p s bg m ths) {d : Nat × Nat} (e : due p.deeds s.near m ths d ≠ none) : bg d ≠ none := by
  obtain ⟨who, i⟩ := d
  cases who with
  | zero =>
    refine (h.own i).mpr ?_
    apply Classical.byContradiction
    intro z
    apply e
    show dueL p.deeds m.n _ i = none
    unfold dueL
    rw [List.getElem?_eq_none (by omega)]
  | succ w =>
    have e' : dueT ths w i ≠ none := e
    unfold dueT at e'
    cases ek : ths[w]? with
    | none => rw [ek] at e'; exact absurd rfl e'
    | some k =>
      refine (h.thf w k i ek).mpr ?_
      apply Classical.byContradiction
      intro z
      rw [ek] at e'
      apply e'
      show ((k.told[i]?).bind oiOf).map Tl.tr = none
      rw [List.getElem?_eq_none (by omega)]
      rfl
theorem FinS.bgle {p : Play} {s : Sta} {bg : Bgs} {m : Mv} {ths : List Mv} (h : FinS p s bg m ths) (d : Nat × Nat) : bgF bg d ≤ bgL bg d := by
  unfold bgF bgL
  cases e : bg d with
  | none => exact Nat.le_refl _
  | some q => exact (h.bl d q.1 q.2 e).1
theorem mem_toldK {p : Play} {s : Sta} {bg : Bgs} {m : Mv} {ths : List Mv} {ks : List (Nat × Nat)} (hk : KBg ks bg) (h : FinS p s bg m ths) {d : Nat × Nat} : d ∈ toldK p s m ths ks ↔ due p.deeds s.near m ths d ≠ none := by
  unfold toldK
  rw [(srt_perm _).mem_iff, List.mem_filter]
  constructor
  · rintro ⟨_, z⟩ y
    rw [y] at z
    cases z
  · intro z
    exact ⟨(hk.mem d).mpr (h.due_bg z), by cases e : due p.deeds s.near m ths d with | none => exact absurd e z | some t => rfl⟩
theorem KBg.le {p : Play} {s : Sta} {bg : Bgs} {m : Mv} {ths : List Mv} {ks : List (Nat × Nat)} (hk : KBg ks bg) (h : FinS p s bg m ths) : ks.length ≤ p.deeds.length + p.tries.sum := by
  rw [← allK_len]
  exact nodup_leK hk.nd fun d hd => h.mem_allK ((hk.mem d).mp hd)
theorem toldK_le {p : Play} {s : Sta} {bg : Bgs} {m : Mv} {ths : List Mv} {ks : List (Nat × Nat)} (hk : KBg ks bg) (h : FinS p s bg m ths) : (toldK p s m ths ks).length ≤ p.deeds.length + p.tries.sum := by
  unfold toldK
  rw [(srt_perm _).length_eq]
  exact Nat.le_trans (List.length_filter_le _ _) (hk.le h)
theorem some_inj : ∀ {a b : List Int}, a.map some = b.map some → a = b
  | [], [], _ => rfl
  | [], _ :: _, h => by cases h
  | _ :: _, [], h => by cases h
  | x :: a, y :: b, h => by
    simp only [List.map_cons, List.cons.injEq, Option.some.injEq] at h
    rw [h.1, some_inj h.2]
theorem rest_of_good {p : Play} {s : Sta} {bg : Bgs} {m : Mv} {ths : List Mv} {ks : List (Nat × Nat)} {left : List Int} {L : List (Nat × Nat)} (hk : KBg ks bg) (h : FinS p s bg m ths) (hl : left.map some = inB s.far s.near s.box) (g : Good bg (due p.deeds s.near m ths) [] (inB s.far s.near s.box) L) : RestO bg (due p.deeds s.near m ths) left (toldK p s m ths ks) [] [] L := by
  refine ⟨g.nod, fun d => ?_, ?_, ?_⟩
  · rw [g.all d, mem_toldK hk h]
    simp
  · refine g.free.imp_of_mem fun {a b} ha hb hab => ?_
    unfold bgF bgL
    cases e1 : bg a with
    | none => exact Nat.zero_le _
    | some q1 =>
      cases e2 : bg b with
      | none => exact absurd e2 (h.due_bg ((g.all b).mp hb))
      | some q2 => exact hab q1.1 q1.2 q2.1 q2.2 e1 e2
  · obtain ⟨r, h1, h2⟩ := g.rows
    rw [h1, some_inj (h2.trans hl.symm)]
theorem good_of_rest {p : Play} {s : Sta} {bg : Bgs} {m : Mv} {ths : List Mv} {ks : List (Nat × Nat)} {left : List Int} {L : List (Nat × Nat)} (hk : KBg ks bg) (h : FinS p s bg m ths) (hl : left.map some = inB s.far s.near s.box) (g : RestO bg (due p.deeds s.near m ths) left (toldK p s m ths ks) [] [] L) : Good bg (due p.deeds s.near m ths) [] (inB s.far s.near s.box) L := by
  refine ⟨g.nod, fun d => ?_, ?_, left, g.rows, hl⟩
  · rw [g.all d, mem_toldK hk h]
    simp
  · refine g.free.imp fun {a b} hab b1 l1 b2 l2 e1 e2 => ?_
    unfold bgF bgL at hab
    rw [e1, e2] at hab
    exact hab
theorem Good.len {p : Play} {s : Sta} {bg : Bgs} {m : Mv} {ths : List Mv} {L : List (Nat × Nat)} (h : FinS p s bg m ths) (g : Good bg (due p.deeds s.near m ths) [] (inB s.far s.near s.box) L) : L.length ≤ p.deeds.length + p.tries.sum := by
  rw [← allK_len]
  exact nodup_leK g.nod fun d hd => h.mem_allK (h.due_bg ((g.all d).mp hd))
def C_seen_as : Ct := fun ds G Q E => ∃ (p : Play) (ws : List Nat) (s : Sta) (bg : Bgs), ds = [encPlay p, .tup (ws.map encN)] ∧ PlOk p ∧ p.deeds.length ≤ 4 ∧ p.tries.sum ≤ 3 ∧ ws.length ≤ 2000 ∧ spanR p (sta0 p) 0 bg0 ws = some (s, bg) ∧ (∀ w, w ≤ p.tries.length → stepM false false p s w = none) ∧
  ∀ G' c m ths L, Le G G' → G c = none → G' c = some (.lst (L.map encNN)) → FinS p s bg m ths → Good bg (due p.deeds s.near m ths) [] (inB s.far s.near s.box) L → Q (.ref c) G'
theorem len_seen_as (ds G Q E) (h : C_seen_as ds G Q E) : ds.length = 2 := by obtain ⟨_, _, _, _, rfl, _⟩ := h; rfl
abbrev N_seen_as : List Str := ["play", "weaving"]
def T_seen_as : DX → DS := fun E => (dSeq (dDrop (dCall C_need_size E (dCons (dVar 0) dNil)))
    (dRet (dMeth "Seen" "order_of" (C_Seen_order_of 9) E (dMake "Seen" C_Seen___init__ E (dCons (dVar 0) (dCons (dVar 1) dNil))) (dCons (dLst dNil) (dCons (dLst dNil) dNil)))))
theorem run_seen_as (ds G Q E) (h : C_seen_as ds G Q E) : T_seen_as E { nx := fun _ G' => DrK Q .non G', rt := DrK Q, bk := fun _ _ => False, ct := fun _ _ => False } (dstart N_seen_as ds) G := by
  obtain ⟨p, ws, s, bg, rfl, hp, h4, h3, hw, hr, he, q⟩ := h
  show T_seen_as E _ [some (.tup [.tup (p.deeds.map encDeed), .tup (p.tries.map encN)]), some (.tup (ws.map encN))] G
  unfold T_seen_as
  walk_at "run"
  refine UpC.of ⟨p, rfl, hp, SzE.small h4 h3, fun _ _ => ?_⟩
  walk_at "run"
  intro x hx
  refine UpC.of ⟨x, p, ws, s, bg, rfl, hp, hw, hr, he, up_same, fun G1 A m ths ks left hAx hF hS hL => ?_⟩
  have l1 : Le G G1 := fun b v e => hL b v (by simp; exact gne e hx) (up_nx (gne e hx) e)
  refine ⟨rfl, ?_⟩
  have hp1 := hS.hp
  rw [hAx] at hp1
  walk_at "run"
  intro a ha
  walk_at "run"
  intro b hb
  walk_at "run"
  have lab : Le G1 (up (up G1 a (.lst [])) b (.lst [])) := (le_new ha (.refl _)).trans (le_new hb (.refl _))
  have hk := hS.kb
  obtain ⟨La, hG⟩ := hF.good
  have hlen := Good.len hF hG
  have hR := rest_of_good hk hF hS.le hG
  have hfull : ordS bg (due p.deeds s.near m ths) left (toldK p s m ths ks) 9 [] [] ≠ none := ordS_full (fun d hd => (mem_toldK hk hF).mp hd) hF.bgle hR (by omega)
  have hkl := toldK_le hk hF
  rw [← hAx]
  refine UpC.of ⟨A, p, s, bg, m, ths, ks, left, a, b, [], [], rfl, hS.grow lab, by have := hk.le hF; omega, up_nx (gne up_same hb) up_same, up_same, by decide, by decide, ?_, fun hn => absurd hn hfull, fun L G2 c hs l2 gc hc => ?_⟩
  · exact Nat.lt_of_le_of_lt (List.length_filter_le _ _) (by omega)
  · obtain ⟨L2, e2, hR2⟩ := ordS_sound (fun d hd => (mem_toldK hk hF).mp hd) hs
    rw [List.nil_append] at e2
    subst e2
    have l02 := l1.trans (lab.trans l2)
    walk_at "run"
    refine s_rt (q _ c m ths L l02 ?_ gc hF (good_of_rest hk hF hS.le hR2))
    rcases hc with z | z
    · rw [z]
      exact le_freeS l1 ha
    · exact le_freeS (l1.trans lab) z

/-! ### the law's own spans, tellings and rows -/
def C_law_row_behind : Ct := fun ds G Q _ => ∃ (a : Addr) (r : List Int) (t : Tl), ds = [.ref a, encTl t] ∧ G a = some (.lst (r.map .int)) ∧ r.length ≤ 1000 ∧
  (rowB r t = none → ∀ G', Le G G' → Q .non G') ∧ ∀ r' G' b, rowB r t = some r' → Le G G' → G' b = some (.lst (r'.map .int)) → Q (.ref b) G'
theorem len_law_row_behind (ds G Q E) (h : C_law_row_behind ds G Q E) : ds.length = 2 := by obtain ⟨_, _, _, rfl, _⟩ := h; rfl
abbrev N_law_row_behind : List Str := ["row", "telling", "word", "thing", "at"]
def T_law_row_behind : DX → DS := fun E => (dSeq (dAsg (dVar 1) (dgTup 2 (dgCons (dgName 2) (dgCons (dgName 3) dgNil))))
    (dSeq (dIf (dTest (dOp eqD (dVar 2) (dC (.str "lay")))) (dRet (dOp addD (dVar 0) (dLst (dCons (dVar 3) dNil)))) dNext)
    (dSeq (dIf (dTest (dOp (isD false) (dVar 3) (dC .non))) (dRet (dOp itemD (dLst (dCons (dC .non) (dCons (dVar 0) dNil))) (dCB intOfD (dCons (dOp eqD (dVar 0) (dLst dNil)) dNil)))) dNext)
    (dSeq (dAsg (dOp itemD (dLst (dCons (dUn negD (dC (.int 1))) (dCons (dC (.int 0)) dNil))) (dCB intOfD (dCons (dOp eqD (dVar 2) (dC (.str "try"))) dNil))) (dgName 4))
    (dSeq (dIf (dOr (dTest (dOp eqD (dVar 0) (dLst dNil))) (dTest (dOp neD (dOp itemD (dVar 0) (dVar 4)) (dVar 3)))) (dRet (dC .non)) dNext)
    (dRet (dOp itemD (dLst (dCons (dSl (dVar 0) dNoPart (dPart (dUn negD (dC (.int 1))))) (dCons (dSl (dVar 0) (dPart (dC (.int 1))) dNoPart) dNil))) (dCB intOfD (dCons (dOp eqD (dVar 2) (dC (.str "try"))) dNil)))))))))
theorem run_law_row_behind (ds G Q E) (h : C_law_row_behind ds G Q E) : T_law_row_behind E { nx := fun _ G' => DrK Q .non G', rt := DrK Q, bk := fun _ _ => False, ct := fun _ _ => False } (dstart N_law_row_behind ds) G := by
  obtain ⟨a, r, t, rfl, ga, hl, q0, q1⟩ := h
  cases t with
  | lay t =>
    show T_law_row_behind E _ [some (.ref a), some (.tup [.str "lay", .int t]), none, none, none] G
    unfold T_law_row_behind
    walk_at "run"
    intro c hc
    refine s_addL (up_nx (gne ga hc) ga) up_same (szL (by rw [List.length_map, List.length_singleton]; omega)) ?_
    intro n hn
    exact s_rt (q1 (r ++ [t]) _ n rfl ((le_new hc (.refl _)).trans (le_new hn (.refl _))) (by rw [List.map_append]; exact up_same))
  | take x =>
    cases x with
    | none =>
      show T_law_row_behind E _ [some (.ref a), some (.tup [.str "take", .non]), none, none, none] G
      unfold T_law_row_behind
      walk_at "run"
      intro c hc
      walk_at "run"
      intro e he
      refine s_eqLE (ys := []) ok_Z (by walk_at "look") up_same ?_
      walk_at "run"
      by_cases h0 : r = []
      · simp only [h0, decide_true]
        walk_at "run"
        exact s_rt (q1 r _ a (by unfold rowB; rw [if_pos h0]) (by walk_at "le") (by walk_at "look"))
      · simp only [h0, decide_false]
        walk_at "run"
        exact s_rt (q0 (by unfold rowB; rw [if_neg h0]) _ (by walk_at "le"))
    | some x =>
      show T_law_row_behind E _ [some (.ref a), some (.tup [.str "take", .int x]), none, none, none] G
      unfold T_law_row_behind
      walk_at "run"
      intro c1 hc1
      have nc1ga := gne ga hc1
      generalize eG1 : up _ c1 _ = G1
      have lG1 := new_l eG1 hc1
      have g1 := new_g eG1
      clear eG1
      replace ga := lG1 _ _ ga
      walk_at "run"
      intro c2 hc2
      have nc2ga := gne ga hc2
      generalize eG2 : up _ c2 _ = G2
      have lG2 := new_l eG2 hc2
      have g2 := new_g eG2
      clear eG2
      replace ga := lG2 _ _ ga
      refine s_eqLE (ys := []) ok_Z ga g2 ?_
      walk_at "run"
      have lG : Le G G2 := lG1.trans lG2
      refine br_dec (fun h0 => ?_) (fun h0 => ?_)
      · walk_at "run"
        exact s_rt (q0 (by subst h0; rfl) _ lG)
      rcases List.eq_nil_or_concat r with rfl | ⟨r, y, rfl⟩
      · exact absurd rfl h0
      rw [List.concat_eq_append] at *
      have ga' : G2 a = some (.lst (r.map D.int ++ [.int y])) := by rw [ga, List.map_append]; rfl
      have hm : atI (r.map D.int ++ [.int y]) (-1) = some (.int y) := atI_lastI
      walk_at "run"
      refine br_bool (fun h1 => ?_) (fun h1 => ?_)
      · have e1 : y ≠ x := by simpa using h1
        walk_at "run"
        refine s_rt (q0 ?_ _ lG)
        unfold rowB
        simp [e1]
      · have e1 : y = x := by simpa using h1
        subst e1
        walk_at "run"
        intro c3 hc3
        have nc3ga' := gne ga' hc3
        generalize eG3 : up _ c3 _ = G3
        have lG3 := new_l eG3 hc3
        have g3 := new_g eG3
        clear eG3
        replace ga' := lG3 _ _ ga'
        walk_at "run"
        intro c4 hc4
        have nc4ga' := gne ga' hc4
        have nc4g3 := gne g3 hc4
        generalize eG4 : up _ c4 _ = G4
        have lG4 := new_l eG4 hc4
        have g4 := new_g eG4
        clear eG4
        replace ga' := lG4 _ _ ga'
        replace g3 := lG4 _ _ g3
        walk_at "run"
        intro c5 hc5
        have nc5ga' := gne ga' hc5
        have nc5g3 := gne g3 hc5
        have nc5g4 := gne g4 hc5
        generalize eG5 : up _ c5 _ = G5
        have lG5 := new_l eG5 hc5
        have g5 := new_g eG5
        clear eG5
        replace ga' := lG5 _ _ ga'
        replace g3 := lG5 _ _ g3
        replace g4 := lG5 _ _ g4
        walk_at "run"
        rw [cut_iniI] at g3
        refine s_rt (q1 r _ c3 ?_ (lG.trans (lG3.trans (lG4.trans lG5))) g3)
        unfold rowB
        simp
  | tr x =>
    cases x with
    | none =>
      show T_law_row_behind E _ [some (.ref a), some (.tup [.str "try", .non]), none, none, none] G
      unfold T_law_row_behind
      walk_at "run"
      intro c hc
      walk_at "run"
      intro e he
      refine s_eqLE (ys := []) ok_Z (by walk_at "look") up_same ?_
      walk_at "run"
      by_cases h0 : r = []
      · simp only [h0, decide_true]
        walk_at "run"
        exact s_rt (q1 r _ a (by unfold rowB; rw [if_pos h0]) (by walk_at "le") (by walk_at "look"))
      · simp only [h0, decide_false]
        walk_at "run"
        exact s_rt (q0 (by unfold rowB; rw [if_neg h0]) _ (by walk_at "le"))
    | some x =>
      show T_law_row_behind E _ [some (.ref a), some (.tup [.str "try", .int x]), none, none, none] G
      unfold T_law_row_behind
      walk_at "run"
      intro c1 hc1
      have nc1ga := gne ga hc1
      generalize eG1 : up _ c1 _ = G1
      have lG1 := new_l eG1 hc1
      have g1 := new_g eG1
      clear eG1
      replace ga := lG1 _ _ ga
      walk_at "run"
      intro c2 hc2
      have nc2ga := gne ga hc2
      generalize eG2 : up _ c2 _ = G2
      have lG2 := new_l eG2 hc2
      have g2 := new_g eG2
      clear eG2
      replace ga := lG2 _ _ ga
      refine s_eqLE (ys := []) ok_Z ga g2 ?_
      walk_at "run"
      have lG : Le G G2 := lG1.trans lG2
      refine br_dec (fun h0 => ?_) (fun h0 => ?_)
      · walk_at "run"
        exact s_rt (q0 (by subst h0; rfl) _ lG)
      obtain ⟨y, r, rfl⟩ : ∃ y r', r = y :: r' := by
        cases r with
        | nil => exact absurd rfl h0
        | cons y r' => exact ⟨y, r', rfl⟩
      have ga' : G2 a = some (.lst (.int y :: r.map D.int)) := ga
      have hm : atI (.int y :: r.map D.int) 0 = some (.int y) := atI_0
      walk_at "run"
      refine br_bool (fun h1 => ?_) (fun h1 => ?_)
      · have e1 : y ≠ x := by simpa using h1
        walk_at "run"
        refine s_rt (q0 ?_ _ lG)
        unfold rowB
        simp [e1]
      · have e1 : y = x := by simpa using h1
        subst e1
        walk_at "run"
        intro c3 hc3
        have nc3ga' := gne ga' hc3
        generalize eG3 : up _ c3 _ = G3
        have lG3 := new_l eG3 hc3
        have g3 := new_g eG3
        clear eG3
        replace ga' := lG3 _ _ ga'
        walk_at "run"
        intro c4 hc4
        have nc4ga' := gne ga' hc4
        have nc4g3 := gne g3 hc4
        generalize eG4 : up _ c4 _ = G4
        have lG4 := new_l eG4 hc4
        have g4 := new_g eG4
        clear eG4
        replace ga' := lG4 _ _ ga'
        replace g3 := lG4 _ _ g3
        walk_at "run"
        intro c5 hc5
        have nc5ga' := gne ga' hc5
        have nc5g3 := gne g3 hc5
        have nc5g4 := gne g4 hc5
        generalize eG5 : up _ c5 _ = G5
        have lG5 := new_l eG5 hc5
        have g5 := new_g eG5
        clear eG5
        replace ga' := lG5 _ _ ga'
        replace g3 := lG5 _ _ g3
        replace g4 := lG5 _ _ g4
        walk_at "run"
        rw [cut_tlI] at g4
        refine s_rt (q1 r _ c4 ?_ (lG.trans (lG3.trans (lG4.trans lG5))) g4)
        unfold rowB
        simp
/-! spans -/
structure SpAt (G : DG) (f : Addr) (ks : List (Nat × Nat)) (bg : Bgs) (ad : Nat × Nat → Addr) : Prop where
  hf : G f = some (.dic none (ks.map fun d => (encNN d, .ref (ad d))))
  ha : ∀ d ∈ ks, G (ad d) = some (.lst [.int (bgF bg d), .int (bgL bg d)])
theorem SpAt.grow {G G' : DG} {f : Addr} {ks : List (Nat × Nat)} {bg : Bgs} {ad : Nat × Nat → Addr} (h : SpAt G f ks bg ad) (l : Le G G') : SpAt G' f ks bg ad := ⟨l _ _ h.hf, fun d hd => l _ _ (h.ha d hd)⟩
theorem SpAt.put {G G' : DG} {f c : Addr} {ks : List (Nat × Nat)} {bg : Bgs} {ad : Nat × Nat → Addr} (h : SpAt G f ks bg ad) (hk : KBg ks bg) {d : Nat × Nat} {k : Nat} (l : Le G G') (gc : G' c = some (.lst [.int ((bg d).elim k Prod.fst : Nat), .int k])) :
    SpAt (up G' f (.dic none (putN (nkP d) (encNN d) (.ref c) (ks.map fun d => (encNN d, .ref (ad d)))))) f (addK ks d) (bgPut bg d k) (fun u => if u = d then c else ad u) := by
  have gf := l _ _ h.hf
  have cf : c ≠ f := fun z => by rw [z, gf] at gc; cases gc
  refine ⟨?_, fun u hu => ?_⟩
  · rw [put_upd hk.nd, up_same]
    unfold addK
    congr 3
    funext u
    split <;> rfl
  · by_cases z : u = d
    · subst z
      rw [if_pos rfl, up_nx cf gc]
      unfold bgF bgL
      rw [bgPut_self]
      rfl
    · rw [if_neg z]
      have hm := (addK_mem.mp hu).resolve_right z
      have ga := l _ _ (h.ha u hm)
      have af : ad u ≠ f := fun y => by rw [y, gf] at ga; cases ga
      rw [up_nx af ga]
      unfold bgF bgL
      rw [bgPut_ne z]
def C_law_spans : Ct := fun ds G Q _ => ∃ p ws s bg, ds = [encPlay p, .tup (ws.map encN)] ∧ PlOk p ∧ ws.length ≤ 2000 ∧ spanR p (sta0 p) 0 bg0 ws = some (s, bg) ∧
  ∀ G' f ks ad, Le G G' → G f = none → SpAt G' f ks bg ad → KBg ks bg → Q (.tup [.ref f, encSt 8 s]) G'
theorem len_law_spans (ds G Q E) (h : C_law_spans ds G Q E) : ds.length = 2 := by obtain ⟨_, _, _, _, rfl, _⟩ := h; rfl
abbrev N_law_spans : List Str := ["play", "weaving", "state", "spans", "k", "who", "deed"]
def T_law_spans : DX → DS := fun E => (dSeq (dAsg (dCall C_law_first E (dCons (dVar 0) dNil)) (dgName 2))
    (dSeq (dAsg dDicN (dgName 3))
    (dSeq (dFor (diEnumerate (dCons (dVar 1) dNil)) (dgTup 2 (dgCons (dgName 4) (dgCons (dgName 5) dgNil))) (dSeq (dAsg (dTup (dCons (dVar 5) (dCons (dOp itemD (dOp itemD (dOp itemD (dVar 2) (dC (.int 3))) (dVar 5)) (dC (.int 0))) dNil))) (dgName 6))
    (dSeq (dDput (dVar 3) (dVar 6) (dLst (dCons (dOp itemD (dMx isDc getmD (dVar 3) (dCons (dVar 6) (dCons (dLst (dCons (dVar 4) dNil)) dNil))) (dC (.int 0))) (dCons (dVar 4) dNil))))
    (dAsg (dCall C_law_small_step E (dCons (dVar 0) (dCons (dC (.str "good")) (dCons (dVar 2) (dCons (dVar 5) dNil))))) (dgName 2)))))
    (dRet (dTup (dCons (dVar 3) (dCons (dVar 2) dNil)))))))
theorem run_law_spans (ds G Q E) (h : C_law_spans ds G Q E) : T_law_spans E { nx := fun _ G' => DrK Q .non G', rt := DrK Q, bk := fun _ _ => False, ct := fun _ _ => False } (dstart N_law_spans ds) G := by
  obtain ⟨p, ws, s, bg, rfl, hp, hwl, hr, q⟩ := h
  have ht := hp.tries
  show T_law_spans E _ [some (.tup [.tup (p.deeds.map encDeed), .tup (p.tries.map encN)]), some (.tup (ws.map encN)), none, none, none, none, none] G
  unfold T_law_spans
  walk_at "run"
  refine UpC.of ⟨p, rfl, hp, ?_⟩
  walk_at "run"
  intro f hf
  walk_at "run"
  refine loop_inv (fun i σ G' => ∃ s1 bg1 ks ad v4 v5 v6, spanR p (sta0 p) 0 bg0 (ws.take i) = some (s1, bg1) ∧ KBg ks bg1 ∧ ks.length ≤ i ∧ SpAt G' f ks bg1 ad ∧ σ = [some (.tup [.tup (p.deeds.map encDeed), .tup (p.tries.map encN)]), some (.tup (ws.map encN)), some (encSt 8 s1), some (.ref f), v4, v5, v6] ∧ LeX [f] (up G f (.dic none [])) G')
    ⟨sta0 p, bg0, [], fun _ => f, none, none, none, rfl, ⟨List.nodup_nil, fun d => by simp⟩, Nat.le_refl _, ⟨up_same, fun d hd => by cases hd⟩, rfl, fun b v _ e => e⟩ (fun _ _ _ _ _ => trivial) (fun i d σ' G' N hd hi hP hN => ?_) (fun σ' G' hP => ?_)
  · obtain ⟨s1, bg1, ks, ad, v4, v5, v6, hr1, hk, hkl, sp, rfl, le⟩ := hP
    rw [enumD_length, List.length_map] at hi
    obtain ⟨z, hz, rfl⟩ := enumD_get hd
    rw [List.getElem?_map, List.getElem?_eq_getElem hi] at hz
    cases hz
    have hok := span_ok (sta0_ok p) hr1
    obtain ⟨u, bg2, hu⟩ := span_take hr (i + 1)
    have hsn := span_snoc (w := ws[i]) hr1
    have htk : ws.take (i + 1) = ws.take i ++ [ws[i]] := by rw [List.take_add_one, List.getElem?_eq_getElem hi]; rfl
    rw [← htk, hu] at hsn
    have hst : stepM false false p s1 ws[i] = some u ∧ bg2 = bgPut bg1 (ws[i], numS s1 ws[i]) i := by
      cases es : stepM false false p s1 ws[i] with
      | none => rw [es] at hsn; cases hsn
      | some u2 =>
        rw [es] at hsn
        simp only [Option.bind, Option.some.injEq, Prod.mk.injEq] at hsn
        refine ⟨by rw [hsn.1], ?_⟩
        rw [hsn.2, List.length_take, Nat.min_eq_left (by omega), Nat.zero_add]
    have hw := runM_who hok hst.1
    obtain ⟨m, em, hn, eM⟩ := ms_get (s := s1) (who := ws[i]) (by have := hok.len; omega)
    generalize ws[i] = who at *
    have eS : encSt 8 s1 = .tup [.int s1.near, .int s1.far, .tup (encBx 8 s1.box), .tup (s1.ms.map encMv)] := rfl
    have gW : atI (s1.ms.map encMv) (who : Int) = some (.tup [.int m.n, .int m.ph, .int m.f, encOI m.x, .tup (m.told.map encWhat)]) := by rw [atI_cast]; exact eM
    rw [eS]
    walk_at "run"
    refine ⟨⟨f, _, rfl, sp.hf⟩, ?_⟩
    walk_at "run"
    intro c hc
    have spc := sp.grow (le_new (o := .lst [.int i]) hc (.refl _))
    have gcc : up G' c (.lst [.int i]) c = some (.lst [.int i]) := up_same
    have lc : Le G' (up G' c (.lst [.int i])) := le_new hc (.refl _)
    generalize up G' c (.lst [.int i]) = G1 at spc gcc lc
    walk_at "run"
    refine s_getm spc.hf (.inl ⟨_, rfl⟩) (nkP_of (who, m.n)) (nkP_depth _) ?_
    obtain ⟨y, l, hy, gy⟩ : ∃ y l, (lookN (nkP (who, m.n)) (ks.map fun d => (encNN d, D.ref (ad d)))).getD (.ref c) = .ref y ∧ G1 y = some (.lst (.int ((bg1 (who, m.n)).elim i Prod.fst : Nat) :: l)) := by
      cases e : bg1 (who, m.n) with
      | none =>
        rw [look_out fun z => (hk.mem _).mp z e]
        exact ⟨c, [], rfl, gcc⟩
      | some v =>
        have hm := (hk.mem (who, m.n)).mpr (by rw [e]; simp)
        rw [look_kvs (f := fun d => D.ref (ad d)) hm]
        refine ⟨ad (who, m.n), [.int (bgL bg1 (who, m.n) : Nat)], rfl, ?_⟩
        rw [spc.ha _ hm]
        show some (O.lst [.int ((bg1 (who, m.n)).elim 0 Prod.fst : Nat), _]) = _
        rw [e]
        rfl
    rw [hy]
    have hm0 : atI (D.int ((bg1 (who, m.n)).elim i Prod.fst : Nat) :: l) 0 = some (.int ((bg1 (who, m.n)).elim i Prod.fst : Nat)) := atI_0
    walk_at "run"
    intro c2 hc2
    have gc2 : up G1 c2 (.lst [.int ((bg1 (who, m.n)).elim i Prod.fst : Nat), .int i]) c2 = some (.lst [.int ((bg1 (who, m.n)).elim i Prod.fst : Nat), .int i]) := up_same
    have lc2 : Le G1 (up G1 c2 (.lst [.int ((bg1 (who, m.n)).elim i Prod.fst : Nat), .int i])) := le_new hc2 (.refl _)
    generalize up G1 c2 (.lst [.int ((bg1 (who, m.n)).elim i Prod.fst : Nat), .int i]) = G2 at gc2 lc2
    have sp2 := sp.put hk (d := (who, m.n)) (lc.trans lc2) gc2
    have gf2 := lc2 _ _ spc.hf
    walk_at "run"
    refine s_dputN gf2 (.inl ⟨_, rfl⟩) (nkP_of (who, m.n)) (nkP_depth _) rfl (by rw [List.length_map]; omega) ?_
    walk_at "run"
    rw [← eS]
    refine u_small hp hok hw ?_
    rw [hst.1]
    have hbg := hst.2
    rw [hn] at hbg
    rw [hbg] at hu
    walk_at "run"
    refine hN _ _ _ (.refl _) ⟨u, _, _, _, _, _, _, hu, hk.put _ _, by have := @addK_len ks (who, m.n); omega, sp2, rfl, fun b v hb e => ?_⟩
    have b1 : b ≠ f := fun z => hb (by simp [z])
    exact up_nx b1 (lc2 _ _ (lc _ _ (le b v hb e)))
  · obtain ⟨s1, bg1, ks, ad, v4, v5, v6, hr1, hk, hkl, sp, rfl, le⟩ := hP
    rw [enumD_length, List.length_map, List.take_length, hr] at hr1
    cases hr1
    walk_at "run"
    refine s_rt (q _ f ks ad (fun b v e => ?_) hf sp hk)
    have b1 : b ≠ f := gne e hf
    exact le b v (by simp [b1]) (up_nx b1 e)
/-! tellings -/
theorem FinS.lay_due {p : Play} {s : Sta} {bg : Bgs} {m : Mv} {ths : List Mv} (h : FinS p s bg m ths) {i : Nat} {t : Int} (hd : p.deeds[i]? = some (.lay t)) : due p.deeds s.near m ths (0, i) = some (.lay t) := by
  show dueL p.deeds m.n _ i = _
  unfold dueL
  rw [hd]
  simp only []
  rw [if_pos (by rw [h.n]; exact (List.getElem?_eq_some_iff.mp hd).1)]
theorem due_try {p : Play} {s : Sta} {m : Mv} {ths : List Mv} {w i : Nat} {k : Mv} {x : What} (ek : ths[w]? = some k) (ex : k.told[i]? = some x) : due p.deeds s.near m ths (w + 1, i) = (oiOf x).map Tl.tr := by
  show dueT ths w i = _
  unfold dueT
  rw [ek]
  show ((k.told[i]?).bind oiOf).map Tl.tr = _
  rw [ex]
  rfl
def tellO (p : Play) (s : Sta) (m : Mv) (ths : List Mv) (ks : List (Nat × Nat)) : List (D × D) := ks.map fun d => (encNN d, tldS p s m ths d)
structure KDu (p : Play) (s : Sta) (m : Mv) (ths : List Mv) (ks : List (Nat × Nat)) : Prop where
  nd : ks.Nodup
  mem : ∀ d, d ∈ ks ↔ due p.deeds s.near m ths d ≠ none
def C_law_tellings : Ct := fun ds G Q _ => ∃ (p : Play) (s : Sta) (bg : Bgs) (m : Mv) (ths : List Mv), ds = [encPlay p, encSt 8 s] ∧ PlOk p ∧ p.deeds.length ≤ 4 ∧ p.tries.sum ≤ 3 ∧ FinS p s bg m ths ∧
  ∀ G' f ks, Le G G' → G f = none → G' f = some (.dic none (tellO p s m ths ks)) → KDu p s m ths ks → Q (.ref f) G'
theorem len_law_tellings (ds G Q E) (h : C_law_tellings ds G Q E) : ds.length = 2 := by obtain ⟨_, _, _, _, _, rfl, _⟩ := h; rfl
abbrev N_law_tellings : List Str := ["play", "state", "found", "takes", "number", "deed", "who", "what"]
def T_law_tellings : DX → DS := fun E => (dSeq (dAsg dDicN (dgName 2))
    (dSeq (dAsg (dC (.int 0)) (dgName 3))
    (dSeq (dFor (diEnumerate (dCons (dOp itemD (dVar 0) (dC (.int 0))) dNil)) (dgTup 2 (dgCons (dgName 4) (dgCons (dgName 5) dgNil))) (dSeq (dDput (dVar 2) (dTup (dCons (dC (.int 0)) (dCons (dVar 4) dNil))) (dVar 5))
    (dIf (dTest (dOp eqD (dOp itemD (dVar 5) (dC (.int 0))) (dC (.str "take")))) (dSeq (dDput (dVar 2) (dTup (dCons (dC (.int 0)) (dCons (dVar 4) dNil))) (dTup (dCons (dC (.str "take")) (dCons (dOp itemD (dOp itemD (dOp itemD (dOp itemD (dVar 1) (dC (.int 3))) (dC (.int 0))) (dC (.int 4))) (dVar 3)) dNil))))
    (dAsg (dOp addD (dVar 3) (dC (.int 1))) (dgName 3))) dNext)))
    (dSeq (dFor (diRange (dCons (dC (.int 1)) (dCons (dCB lenD (dCons (dOp itemD (dVar 1) (dC (.int 3))) dNil)) dNil))) (dgName 6) (dFor (diEnumerate (dCons (dOp itemD (dOp itemD (dOp itemD (dVar 1) (dC (.int 3))) (dVar 6)) (dC (.int 4))) dNil)) (dgTup 2 (dgCons (dgName 4) (dgCons (dgName 7) dgNil))) (dIf (dTest (dOp neD (dVar 7) (dC (.str "lost")))) (dDput (dVar 2) (dTup (dCons (dVar 6) (dCons (dVar 4) dNil))) (dTup (dCons (dC (.str "try")) (dCons (dVar 7) dNil)))) dNext)))
    (dRet (dVar 2))))))
theorem tell_put {p : Play} {s : Sta} {m : Mv} {ths : List Mv} {ks : List (Nat × Nat)} {d : Nat × Nat} (h : d ∉ ks) : putN (nkP d) (encNN d) (tldS p s m ths d) (tellO p s m ths ks) = tellO p s m ths (ks ++ [d]) := put_out h
theorem tell_put2 {p : Play} {s : Sta} {m : Mv} {ths : List Mv} {ks : List (Nat × Nat)} {d : Nat × Nat} {v : D} (hn : ks.Nodup) (h : d ∉ ks) : putN (nkP d) (encNN d) (tldS p s m ths d) (putN (nkP d) (encNN d) v (tellO p s m ths ks)) = tellO p s m ths (ks ++ [d]) := by
  unfold tellO
  rw [put_upd hn, if_neg h, put_upd (f := fun u => if u = d then v else tldS p s m ths u) (ts := ks ++ [d]) (by
    rw [List.nodup_append]
    exact ⟨hn, by simp, fun a ha b hb z => h (by rw [← List.mem_singleton.mp hb, ← z]; exact ha)⟩), if_pos (by simp)]
  refine List.map_congr_left fun u _ => ?_
  by_cases z : u = d
  · subst z
    rw [if_pos rfl]
  · rw [if_neg z, if_neg z]
theorem nod_snoc {ks : List (Nat × Nat)} {d : Nat × Nat} (hn : ks.Nodup) (h : d ∉ ks) : (ks ++ [d]).Nodup := by
  rw [List.nodup_append]
  exact ⟨hn, by simp, fun a ha b hb z => h (by rw [← List.mem_singleton.mp hb, ← z]; exact ha)⟩
theorem run_law_tellings (ds G Q E) (h : C_law_tellings ds G Q E) : T_law_tellings E { nx := fun _ G' => DrK Q .non G', rt := DrK Q, bk := fun _ _ => False, ct := fun _ _ => False } (dstart N_law_tellings ds) G := by
  obtain ⟨p, s, bg, m, ths, rfl, hp, h4, h3, hF, q⟩ := h
  show T_law_tellings E _ [some (.tup [.tup (p.deeds.map encDeed), .tup (p.tries.map encN)]), some (.tup [.int s.near, .int s.far, .tup (encBx 8 s.box), .tup (s.ms.map encMv)]), none, none, none, none, none, none] G
  unfold T_law_tellings
  have hsmall : ∀ ks : List (Nat × Nat), ks.Nodup → (∀ d ∈ ks, due p.deeds s.near m ths d ≠ none) → ks.length ≤ 7 := fun ks hn hd => by
    have := nodup_leK hn fun d h => hF.mem_allK (hF.due_bg (hd d h))
    rw [allK_len] at this
    omega
  have em0 : atI (s.ms.map encMv) 0 = some (.tup [.int m.n, .int m.ph, .int m.f, encOI m.x, .tup (m.told.map encWhat)]) := by rw [atI_0, hF.ms]; rfl
  have d0 : ∀ j, due p.deeds s.near m ths (0, j) ≠ none ↔ j < p.deeds.length := fun j => by
    constructor
    · intro z
      exact (hF.own j).mp (hF.due_bg z)
    · intro z
      have hd := List.getElem?_eq_getElem z
      generalize p.deeds[j] = dd at hd
      cases dd with
      | lay t => rw [hF.lay_due hd]; simp
      | take =>
        obtain ⟨_, _, _, _, h⟩ := hF.nolost hd
        rw [h]
        simp
  walk_at "run"
  intro f hf
  walk_at "run"
  refine loop_inv (fun i σ G' => ∃ ks v4 v5, ks.Nodup ∧ (∀ d : Nat × Nat, d ∈ ks ↔ d.1 = 0 ∧ d.2 < i) ∧ i ≤ p.deeds.length ∧ σ = [some (.tup [.tup (p.deeds.map encDeed), .tup (p.tries.map encN)]), some (.tup [.int s.near, .int s.far, .tup (encBx 8 s.box), .tup (s.ms.map encMv)]), some (.ref f), some (.int (tkn p.deeds i : Nat)), v4, v5, none, none] ∧ G' = up G f (.dic none (tellO p s m ths ks)))
    ⟨[], none, none, List.nodup_nil, fun d => by simp, Nat.zero_le _, rfl, rfl⟩ (fun _ _ _ _ _ => trivial) (fun i d σ' G' N hd hi hP hN => ?_) (fun σ' G' hP => ?_)
  · obtain ⟨ks, v4, v5, hn, hm, _, rfl, rfl⟩ := hP
    rw [enumD_length, List.length_map] at hi
    obtain ⟨z, hz, rfl⟩ := enumD_get hd
    rw [List.getElem?_map, List.getElem?_eq_getElem hi] at hz
    cases hz
    have hdd := List.getElem?_eq_getElem hi
    have hle : ks.length ≤ 7 := hsmall ks hn fun d h => by
      obtain ⟨v, j⟩ := d
      obtain ⟨rfl, hj⟩ := (hm _).mp h
      exact (d0 j).mpr (Nat.lt_trans hj hi)
    have hnot : (0, i) ∉ ks := fun z => by have := ((hm _).mp z).2; omega
    have hm' : ∀ d : Nat × Nat, d ∈ ks ++ [(0, i)] ↔ d.1 = 0 ∧ d.2 < i + 1 := fun d => by
      rw [List.mem_append, hm d, List.mem_singleton]
      obtain ⟨v, j⟩ := d
      simp only [Prod.mk.injEq]
      omega
    have htk := tkn_succ hdd
    generalize p.deeds[i] = dd at *
    cases dd with
    | lay t =>
      have eq : tldS p s m ths (0, i) = .tup [.str "lay", .int t] := by unfold tldS; rw [hF.lay_due hdd]; rfl
      rw [if_neg (by simp), Nat.add_zero] at htk
      have hput := tell_put (p := p) (s := s) (m := m) (ths := ths) hnot
      rw [eq] at hput
      rw [show encDeed (.lay t) = .tup [.str "lay", .int t] from rfl]
      walk_at "run"
      refine s_dputN (kvs := tellO p s m ths ks) up_same (.inl ⟨_, rfl⟩) (nkP_of (0, i)) (nkP_depth _) rfl (by unfold tellO; rw [List.length_map]; omega) ?_
      rw [up_up]
      walk_at "run"
      refine hN _ _ _ (.refl _) ⟨ks ++ [(0, i)], _, _, nod_snoc hn hnot, hm', hi, by rw [htk]; rfl, ?_⟩
      rw [← hput]
      rfl
    | take =>
      obtain ⟨x, y, h1, h2, h5⟩ := hF.nolost hdd
      have eq : tldS p s m ths (0, i) = .tup [.str "take", encWhat x] := by
        unfold tldS
        rw [h5, oiOf_enc h2]
        rfl
      rw [if_pos rfl] at htk
      have hput := tell_put2 (p := p) (s := s) (m := m) (ths := ths) (v := .tup [.str "take"]) hn hnot
      rw [eq] at hput
      have gT : atI (m.told.map encWhat) (tkn p.deeds i : Nat) = some (encWhat x) := by rw [atI_cast, List.getElem?_map, h1]; rfl
      rw [show encDeed .take = .tup [.str "take"] from rfl]
      have hlp : (putN (nkP (0, i)) (encNN (0, i)) (.tup [.str "take"]) (tellO p s m ths ks)).length < 100000 := by
        unfold tellO
        rw [put_upd hn, List.length_map]
        split
        · omega
        · rw [List.length_append, List.length_singleton]
          omega
      walk_at "run"
      refine s_dputN (kvs := tellO p s m ths ks) up_same (.inl ⟨_, rfl⟩) (nkP_of (0, i)) (nkP_depth _) rfl (by unfold tellO; rw [List.length_map]; omega) ?_
      rw [up_up]
      walk_at "run"
      refine s_dputN (kvs := putN (nkP (0, i)) (encNN (0, i)) (.tup [.str "take"]) (tellO p s m ths ks)) up_same (.inl ⟨_, rfl⟩) (nkP_of (0, i)) (nkP_depth _) rfl hlp ?_
      rw [up_up]
      walk_at "run"
      refine hN _ _ _ (.refl _) ⟨ks ++ [(0, i)], _, _, nod_snoc hn hnot, hm', hi, by rw [htk]; rfl, ?_⟩
      rw [← hput]
      rfl
  · obtain ⟨ks, v4, v5, hn, hm, _, rfl, rfl⟩ := hP
    rw [enumD_length, List.length_map] at hm
    have hml : s.ms.length = ths.length + 1 := by rw [hF.ms]; rfl
    have hml2 := hF.ok.len
    have hml3 := hp.tries
    walk_at "run"
    refine loop_inv (fun i σ G' => ∃ ks v3 v4 v5 v6 v7, ks.Nodup ∧ (∀ d : Nat × Nat, d ∈ ks ↔ d.1 ≤ i ∧ due p.deeds s.near m ths d ≠ none) ∧ σ = [some (.tup [.tup (p.deeds.map encDeed), .tup (p.tries.map encN)]), some (.tup [.int s.near, .int s.far, .tup (encBx 8 s.box), .tup (s.ms.map encMv)]), some (.ref f), v3, v4, v5, v6, v7] ∧ G' = up G f (.dic none (tellO p s m ths ks)))
      ⟨ks, _, _, _, _, _, hn, fun d => ?_, rfl, rfl⟩ (fun _ _ _ _ _ => trivial) (fun i d σ' G' N hd hi hP hN => ?_) (fun σ' G' hP => ?_)
    · rw [hm]
      obtain ⟨v, j⟩ := d
      simp only
      constructor
      · rintro ⟨rfl, z⟩
        exact ⟨Nat.le_refl _, (d0 j).mpr z⟩
      · rintro ⟨z1, z2⟩
        obtain rfl : v = 0 := by omega
        exact ⟨rfl, (d0 j).mp z2⟩
    · clear hm hn
      obtain ⟨ks, v3, v4, v5, v6, v7, hn, hm, rfl, rfl⟩ := hP
      rw [rangeD_length, List.length_map, hml] at hi
      obtain ⟨rfl, hi2⟩ := rangeD_get hd
      have hi3 : i < ths.length := by omega
      have ek := List.getElem?_eq_getElem hi3
      generalize ths[i] = k at ek
      rw [show (1 : Int) + (i : Int) = ((i + 1 : Nat) : Int) by omega]
      have gk : atI (s.ms.map encMv) ((i + 1 : Nat) : Int) = some (.tup [.int k.n, .int k.ph, .int k.f, encOI k.x, .tup (k.told.map encWhat)]) := by
        rw [atI_cast, hF.ms, List.map_cons, List.getElem?_cons_succ, List.getElem?_map, ek]
        rfl
      walk_at "run"
      refine loop_inv (fun j σ G' => ∃ ks v4 v7, ks.Nodup ∧ (∀ d : Nat × Nat, d ∈ ks ↔ (d.1 ≤ i ∨ (d.1 = i + 1 ∧ d.2 < j)) ∧ due p.deeds s.near m ths d ≠ none) ∧ σ = [some (.tup [.tup (p.deeds.map encDeed), .tup (p.tries.map encN)]), some (.tup [.int s.near, .int s.far, .tup (encBx 8 s.box), .tup (s.ms.map encMv)]), some (.ref f), v3, v4, v5, some (.int ((i + 1 : Nat) : Int)), v7] ∧ G' = up G f (.dic none (tellO p s m ths ks)))
        ⟨ks, _, _, hn, fun d => ?_, rfl, rfl⟩ (fun _ _ _ _ _ => trivial) (fun j d σ' G' N2 hd2 hj hP2 hN2 => ?_) (fun σ' G' hP2 => ?_)
      · rw [hm]
        simp
      · clear hm hn
        obtain ⟨ks, v4, v7, hn, hm, rfl, rfl⟩ := hP2
        rw [enumD_length, List.length_map] at hj
        obtain ⟨z, hz, rfl⟩ := enumD_get hd2
        rw [List.getElem?_map, List.getElem?_eq_getElem hj] at hz
        cases hz
        have ex := List.getElem?_eq_getElem hj
        generalize k.told[j] = x at *
        have hdue := due_try (p := p) (s := s) (m := m) ek ex
        have hle : ks.length ≤ 7 := hsmall ks hn fun d h => ((hm _).mp h).2
        have hnot : (i + 1, j) ∉ ks := fun z => by
          have := ((hm _).mp z).1
          simp only at this
          omega
        cases x with
        | lost =>
          rw [show encWhat .lost = .str "lost" from rfl]
          walk_at "run"
          refine hN2 _ _ _ (.refl _) ⟨ks, _, _, hn, fun d => ?_, rfl, rfl⟩
          rw [hm d]
          obtain ⟨v, u⟩ := d
          simp only
          constructor
          · rintro ⟨z1, z2⟩
            exact ⟨by omega, z2⟩
          · rintro ⟨z1, z2⟩
            refine ⟨?_, z2⟩
            by_cases y : v = i + 1 ∧ u = j
            · rw [y.1, y.2, hdue] at z2
              exact absurd rfl z2
            · omega
        | nil =>
          have eq : tldS p s m ths (i + 1, j) = .tup [.str "try", .non] := by unfold tldS; rw [hdue]; rfl
          have hput := tell_put (p := p) (s := s) (m := m) (ths := ths) hnot
          rw [eq] at hput
          rw [show encWhat .nil = .non from rfl]
          walk_at "run"
          refine s_neNS (by decide +kernel) ?_
          walk_at "run"
          refine s_dputN (kvs := tellO p s m ths ks) (y := encNN (i + 1, j)) up_same (.inl ⟨_, rfl⟩) (nkP_of (i + 1, j)) (nkP_depth _) rfl (by unfold tellO; rw [List.length_map]; omega) ?_
          rw [up_up]
          rw [hput]
          walk_at "run"
          refine hN2 _ _ _ (.refl _) ⟨ks ++ [(i + 1, j)], _, _, nod_snoc hn hnot, fun d => ?_, rfl, rfl⟩
          rw [List.mem_append, hm d, List.mem_singleton]
          obtain ⟨v, u⟩ := d
          simp only [Prod.mk.injEq]
          constructor
          · rintro (⟨z1, z2⟩ | ⟨rfl, rfl⟩)
            · exact ⟨by omega, z2⟩
            · exact ⟨by omega, by rw [hdue]; simp [oiOf]⟩
          · rintro ⟨z1, z2⟩
            by_cases y : v = i + 1 ∧ u = j
            · exact .inr y
            · exact .inl ⟨by omega, z2⟩
        | got t =>
          have eq : tldS p s m ths (i + 1, j) = .tup [.str "try", .int t] := by unfold tldS; rw [hdue]; rfl
          have hput := tell_put (p := p) (s := s) (m := m) (ths := ths) hnot
          rw [eq] at hput
          rw [show encWhat (.got t) = .int t from rfl]
          walk_at "run"
          refine s_neIS (by decide +kernel) ?_
          walk_at "run"
          refine s_dputN (kvs := tellO p s m ths ks) (y := encNN (i + 1, j)) up_same (.inl ⟨_, rfl⟩) (nkP_of (i + 1, j)) (nkP_depth _) rfl (by unfold tellO; rw [List.length_map]; omega) ?_
          rw [up_up]
          rw [hput]
          walk_at "run"
          refine hN2 _ _ _ (.refl _) ⟨ks ++ [(i + 1, j)], _, _, nod_snoc hn hnot, fun d => ?_, rfl, rfl⟩
          rw [List.mem_append, hm d, List.mem_singleton]
          obtain ⟨v, u⟩ := d
          simp only [Prod.mk.injEq]
          constructor
          · rintro (⟨z1, z2⟩ | ⟨rfl, rfl⟩)
            · exact ⟨by omega, z2⟩
            · exact ⟨by omega, by rw [hdue]; simp [oiOf]⟩
          · rintro ⟨z1, z2⟩
            by_cases y : v = i + 1 ∧ u = j
            · exact .inr y
            · exact .inl ⟨by omega, z2⟩
      · obtain ⟨ks, v4, v7, hn, hm, rfl, rfl⟩ := hP2
        rw [enumD_length, List.length_map] at hm
        refine hN _ _ _ (.refl _) ⟨ks, _, _, _, _, _, hn, fun d => ?_, rfl, rfl⟩
        rw [hm d]
        obtain ⟨v, u⟩ := d
        simp only
        constructor
        · rintro ⟨z1, z2⟩
          exact ⟨by omega, z2⟩
        · rintro ⟨z1, z2⟩
          refine ⟨?_, z2⟩
          by_cases y : v = i + 1
          · refine .inr ⟨y, ?_⟩
            subst y
            exact (hF.thf i k u ek).mp (hF.due_bg z2)
          · omega
    · clear hm hn
      obtain ⟨ks, v3, v4, v5, v6, v7, hn, hm, rfl, rfl⟩ := hP
      rw [rangeD_length, List.length_map, hml] at hm
      walk_at "run"
      refine s_rt (q _ f ks (le_new hf (.refl _)) hf up_same ⟨hn, fun d => ?_⟩)
      rw [hm d]
      constructor
      · exact fun z => z.2
      · intro z
        refine ⟨?_, z⟩
        obtain ⟨v, u⟩ := d
        cases v with
        | zero => exact Nat.zero_le _
        | succ w =>
          have hb := hF.due_bg z
          have hw : w < ths.length := by
            apply Classical.byContradiction
            intro y
            exact hb (hF.out w u (by omega))
          show w + 1 ≤ _
          omega

/-! ### small plays, drawn -/
/-! ### drawn plays -/
def C_law_great_play : Ct := fun ds G Q _ => ∃ (b : Addr) (rs : List Nat), ds = [.ref b] ∧ G b = some (.lst (rs.map encN)) ∧ 13 ≤ rs.length ∧ rs.length ≤ 1000 ∧ (∀ r ∈ rs, r < 1000000000) ∧
  ∀ p : Play, Sml p → (∀ t, .lay t ∈ p.deeds → ThOk t) → ∀ G', Le G G' → Q (encPlay p) G'
theorem len_law_great_play (ds G Q E) (h : C_law_great_play ds G Q E) : ds.length = 1 := by obtain ⟨_, _, rfl, _⟩ := h; rfl
abbrev N_law_great_play : List Str := ["some", "tries", "play"]
def T_law_great_play : DX → DS := fun E => (dSeq (dAsg (dLst (dCons (dTup (dCons (dC (.int 3)) dNil)) (dCons (dTup (dCons (dC (.int 2)) dNil)) (dCons (dTup (dCons (dC (.int 1)) (dCons (dC (.int 1)) dNil))) (dCons (dTup (dCons (dC (.int 2)) (dCons (dC (.int 1)) dNil))) (dCons (dTup (dCons (dC (.int 1)) (dCons (dC (.int 2)) dNil))) (dCons (dTup (dCons (dC (.int 0)) (dCons (dC (.int 3)) dNil))) (dCons (dTup (dCons (dC (.int 3)) (dCons (dC (.int 0)) dNil))) (dCons (dTup (dCons (dC (.int 2)) (dCons (dC (.int 1)) dNil))) (dCons (dTup (dCons (dC (.int 1)) (dCons (dC (.int 2)) dNil))) (dCons (dTup (dCons (dC (.int 1)) dNil)) (dCons (dTup (dCons (dC (.int 0)) (dCons (dC (.int 1)) dNil))) (dCons (dTup dNil) (dCons (dTup (dCons (dC (.int 2)) (dCons (dC (.int 1)) dNil))) (dCons (dTup (dCons (dC (.int 1)) (dCons (dC (.int 2)) dNil))) (dCons (dTup (dCons (dC (.int 3)) dNil)) dNil)))))))))))))))) (dgName 1))
    (dSeq (dAsg (dOp addD (dVar 1) (dLst (dCons (dTup (dCons (dC (.int 0)) dNil)) (dCons (dTup (dCons (dC (.int 0)) (dCons (dC (.int 0)) dNil))) (dCons (dTup (dCons (dC (.int 1)) (dCons (dC (.int 0)) dNil))) (dCons (dTup (dCons (dC (.int 2)) (dCons (dC (.int 0)) dNil))) (dCons (dTup (dCons (dC (.int 0)) (dCons (dC (.int 2)) dNil))) dNil))))))) (dgName 1))
    (dSeq (dAsg (dCall C_law_play E (dCons (dVar 0) (dCons (dC (.int 4)) (dCons (dOp itemD (dVar 1) (dOp modD (dOp itemD (dVar 0) (dC (.int 12))) (dC (.int 20)))) dNil)))) (dgName 2))
    (dSeq (dIf (dAnd (dTest (dOp ltD (dCB lenD (dCons (dOp itemD (dVar 2) (dC (.int 0))) dNil)) (dC (.int 4)))) (dTest (dOp gtD (dOp modD (dOp itemD (dVar 0) (dC (.int 10))) (dC (.int 3))) (dC (.int 0))))) (dAsg (dTup (dCons (dOp addD (dTup (dCons (dTup (dCons (dC (.str "lay")) (dCons (dOp modD (dOp itemD (dVar 0) (dC (.int 11))) (dC (.int 3))) dNil))) dNil)) (dOp itemD (dVar 2) (dC (.int 0)))) (dCons (dOp itemD (dVar 2) (dC (.int 1))) dNil))) (dgName 2)) dNext)
    (dRet (dVar 2))))))
theorem run_law_great_play (ds G Q E) (h : C_law_great_play ds G Q E) : T_law_great_play E { nx := fun _ G' => DrK Q .non G', rt := DrK Q, bk := fun _ _ => False, ct := fun _ _ => False } (dstart N_law_great_play ds) G := by
  obtain ⟨b, rs, rfl, gb, rl, rl2, rb, q⟩ := h
  show T_law_great_play E _ [some (.ref b), none, none] G
  have getI : ∀ (k : Nat) (z : Int), z = (k : Int) → k < 13 → ∃ r : Nat, atI (rs.map encN) z = some (.int r) := fun k z ez hk => by
    subst ez
    refine ⟨rs[k]'(by omega), ?_⟩
    rw [atI_cast, List.getElem?_map, List.getElem?_eq_getElem (by omega)]
    rfl
  obtain ⟨r10, g10⟩ := getI 10 10 rfl (by decide)
  obtain ⟨r11, g11⟩ := getI 11 11 rfl (by decide)
  obtain ⟨r12, g12⟩ := getI 12 12 rfl (by decide)
  unfold T_law_great_play
  walk_at "run"
  intro c1 hc1
  have nc1gb := gne gb hc1
  generalize eG1 : up _ c1 _ = G1
  have lG1 := new_l eG1 hc1
  have g1 := new_g eG1
  clear eG1
  replace gb := lG1 _ _ gb
  walk_at "run"
  intro c2 hc2
  have nc2gb := gne gb hc2
  have nc2g1 := gne g1 hc2
  generalize eG2 : up _ c2 _ = G2
  have lG2 := new_l eG2 hc2
  have g2 := new_g eG2
  clear eG2
  replace gb := lG2 _ _ gb
  replace g1 := lG2 _ _ g1
  walk_at "run"
  intro c3 hc3
  have nc3gb := gne gb hc3
  generalize eG3 : up _ c3 _ = G3
  have lG3 := new_l eG3 hc3
  have g3 := new_g eG3
  clear eG3
  replace gb := lG3 _ _ gb
  obtain ⟨td, gt, mt⟩ := atI_mem (xs := [D.tup [.int 3], .tup [.int 2], .tup [.int 1, .int 1], .tup [.int 2, .int 1], .tup [.int 1, .int 2], .tup [.int 0, .int 3], .tup [.int 3, .int 0], .tup [.int 2, .int 1], .tup [.int 1, .int 2], .tup [.int 1], .tup [.int 0, .int 1], .tup [], .tup [.int 2, .int 1], .tup [.int 1, .int 2], .tup [.int 3]] ++ [D.tup [.int 0], .tup [.int 0, .int 0], .tup [.int 1, .int 0], .tup [.int 2, .int 0], .tup [.int 0, .int 2]]) (i := (r12 : Int) % 20) (by omega) (by simp; omega)
  obtain ⟨ts, rfl, tl, tm, tz⟩ : ∃ ts : List Nat, td = .tup (ts.map encN) ∧ ts.length ≤ 2 ∧ (∀ k ∈ ts, k ≤ 9) ∧ ts.sum ≤ 3 := by
    simp only [List.cons_append, List.nil_append, List.mem_cons, List.not_mem_nil, or_false] at mt
    have key : ∀ ts : List Nat, ts.length ≤ 2 → ts.sum ≤ 3 → (∀ k ∈ ts, k ≤ 9) → ∃ us : List Nat, D.tup (ts.map encN) = .tup (us.map encN) ∧ us.length ≤ 2 ∧ (∀ k ∈ us, k ≤ 9) ∧ us.sum ≤ 3 := fun ts h1 h2 h3 => ⟨ts, rfl, h1, h3, h2⟩
    rcases mt with rfl | rfl | rfl | rfl | rfl | rfl | rfl | rfl | rfl | rfl | rfl | rfl | rfl | rfl | rfl | rfl | rfl | rfl | rfl | rfl
    · exact key [3] (by simp) (by simp) (by simp)
    · exact key [2] (by simp) (by simp) (by simp)
    · exact key [1, 1] (by simp) (by simp) (by simp)
    · exact key [2, 1] (by simp) (by simp) (by simp)
    · exact key [1, 2] (by simp) (by simp) (by simp)
    · exact key [0, 3] (by simp) (by simp) (by simp)
    · exact key [3, 0] (by simp) (by simp) (by simp)
    · exact key [2, 1] (by simp) (by simp) (by simp)
    · exact key [1, 2] (by simp) (by simp) (by simp)
    · exact key [1] (by simp) (by simp) (by simp)
    · exact key [0, 1] (by simp) (by simp) (by simp)
    · exact key [] (by simp) (by simp) (by simp)
    · exact key [2, 1] (by simp) (by simp) (by simp)
    · exact key [1, 2] (by simp) (by simp) (by simp)
    · exact key [3] (by simp) (by simp) (by simp)
    · exact key [0] (by simp) (by simp) (by simp)
    · exact key [0, 0] (by simp) (by simp) (by simp)
    · exact key [1, 0] (by simp) (by simp) (by simp)
    · exact key [2, 0] (by simp) (by simp) (by simp)
    · exact key [0, 2] (by simp) (by simp) (by simp)
  walk_at "run"
  have lG : Le G G3 := lG1.trans (lG2.trans lG3)
  refine UpC.of ⟨b, rs, 4, ts, rfl, gb, by omega, rb, by decide, fun deeds dl dt _ => ?_⟩
  have eP : encPlay ⟨deeds, ts⟩ = .tup [.tup (deeds.map encDeed), .tup (ts.map encN)] := rfl
  rw [eP]
  walk_at "run"
  generalize hT : Go (dRet _) _ = N1
  have fin : ∀ p : Play, Sml p → (∀ t, .lay t ∈ p.deeds → ThOk t) → N1 [some (.ref b), some (.ref c3), some (.tup [.tup (p.deeds.map encDeed), .tup (p.tries.map encN)])] G3 := fun p h1 h2 => by
    rw [← hT]
    refine s_go ?_
    walk_at "run"
    exact s_rt (q p h1 h2 _ lG)
  have s1 : Sml ⟨deeds, ts⟩ := ⟨dl, tl, tz⟩
  refine br_dec (fun h1 => ?_) (fun h1 => ?_)
  · rw [List.length_map] at h1
    walk_at "run"
    refine br_dec (fun h2 => ?_) (fun h2 => ?_)
    · walk_at "run"
      refine fin ⟨.lay ((r11 : Int) % 3) :: deeds, ts⟩ ⟨by simp; omega, tl, tz⟩ fun t ht => ?_
      rcases List.mem_cons.mp ht with h | h
      · cases h
        unfold ThOk
        omega
      · exact dt t h
    · walk_at "run"
      exact fin ⟨deeds, ts⟩ s1 dt
  · walk_at "run"
    exact fin ⟨deeds, ts⟩ s1 dt
/-! ### the law's own look at a good order -/
theorem ok_Bs : EncOk D.bl PyData.bool := ⟨fun n G x => pyD_bl, fun x y => by cases x <;> cases y <;> rfl⟩
def C_law_seen_due : Ct := fun ds G Q _ => ∃ (p : Play) (ws : List Nat) (s : Sta) (bg : Bgs) (m : Mv) (ths : List Mv) (a : Addr) (L : List (Nat × Nat)), ds = [encPlay p, .tup (ws.map encN), .ref a] ∧ PlOk p ∧ p.deeds.length ≤ 4 ∧ p.tries.sum ≤ 3 ∧ ws.length ≤ 2000 ∧ spanR p (sta0 p) 0 bg0 ws = some (s, bg) ∧ FinS p s bg m ths ∧
  G a = some (.lst (L.map encNN)) ∧ Good bg (due p.deeds s.near m ths) [] (inB s.far s.near s.box) L ∧ ∀ G', Le G G' → Q (.bl true) G'
theorem len_law_seen_due (ds G Q E) (h : C_law_seen_due ds G Q E) : ds.length = 3 := by obtain ⟨_, _, _, _, _, _, _, _, rfl, _⟩ := h; rfl
abbrev N_law_seen_due : List Str := ["play", "weaving", "thing", "spans", "state", "tellings", "one", "part", "row", "k", "ahead", "other"]
def T_law_seen_due : DX → DS := fun E => (dSeq (dAsg (dCall C_law_spans E (dCons (dVar 0) (dCons (dVar 1) dNil))) (dgTup 2 (dgCons (dgName 3) (dgCons (dgName 4) dgNil))))
    (dSeq (dAsg (dCall C_law_tellings E (dCons (dVar 0) (dCons (dVar 4) dNil))) (dgName 5))
    (dSeq (dIf (dNot (dTru (dCB isinstD (dCons (dVar 2) (dCons (dC (.ty "list")) dNil))))) (dRet (dC (.bl false))) dNext)
    (dSeq (dFor (diSeq (dVar 2)) (dgName 6) (dSeq (dIf (dOr (dNot (dTru (dCB isinstD (dCons (dVar 6) (dCons (dC (.ty "tuple")) dNil))))) (dTest (dOp neD (dCB lenD (dCons (dVar 6) dNil)) (dC (.int 2))))) (dRet (dC (.bl false))) dNext)
    (dIf (dTest (dOp (inD false) (dC (.bl true)) (dLc (diSeq (dVar 6)) (bdN 7) [7] dYes (dOrV (dCB isinstD (dCons (dVar 7) (dCons (dC (.ty "bool")) dNil))) (dNotV (dCB isinstD (dCons (dVar 7) (dCons (dC (.ty "int")) dNil)))))))) (dRet (dC (.bl false))) dNext)))
    (dSeq (dIf (dTest (dOp neD (dCB sortedPD (dCons (dVar 2) dNil)) (dCB sortedDicD (dCons (dVar 5) dNil)))) (dRet (dC (.bl false))) dNext)
    (dSeq (dAsg (dLst dNil) (dgName 8))
    (dSeq (dFor (diEnumerate (dCons (dVar 2) dNil)) (dgTup 2 (dgCons (dgName 9) (dgCons (dgName 6) dgNil))) (dSeq (dAsg (dLc (diSeq (dSl (dVar 2) (dPart (dOp addD (dVar 9) (dC (.int 1)))) dNoPart)) (bdN 11) [11] (dTest (dOp ltD (dOp itemD (dOp getD (dVar 3) (dVar 11)) (dC (.int 1))) (dOp itemD (dOp getD (dVar 3) (dVar 6)) (dC (.int 0))))) (dVar 11)) (dgName 10))
    (dSeq (dIf (dTest (dOp neD (dVar 10) (dLst dNil))) (dRet (dC (.bl false))) dNext)
    (dSeq (dAsg (dCall C_law_row_behind E (dCons (dVar 8) (dCons (dOp getD (dVar 5) (dVar 6)) dNil))) (dgName 8))
    (dIf (dTest (dOp (isD false) (dVar 8) (dC .non))) (dRet (dC (.bl false))) dNext)))))
    (dRet (dOp eqD (dVar 8) (dOp itemD (dCall C_law_told_by E (dCons (dVar 4) dNil)) (dC (.int 1))))))))))))
theorem rowsB_take {du : Nat × Nat → Option Tl} {L : List (Nat × Nat)} {r : List Int} (h : rowsB [] (L.filterMap du) = some r) (i : Nat) : ∃ r1, rowsB [] ((L.take i).filterMap du) = some r1 := by
  have e : L = L.take i ++ L.drop i := (List.take_append_drop i L).symm
  rw [e, List.filterMap_append, rowsB_app] at h
  cases e1 : rowsB [] ((L.take i).filterMap du) with
  | none => rw [e1] at h; cases h
  | some r1 => exact ⟨r1, rfl⟩
theorem rowsB_len : ∀ {ts : List Tl} {r r' : List Int}, rowsB r ts = some r' → r'.length ≤ r.length + ts.length
  | [], r, r', h => by cases h; simp
  | t :: ts, r, r', h => by
    have h' : (rowB r t).bind (fun r1 => rowsB r1 ts) = some r' := h
    cases e : rowB r t with
    | none => rw [e] at h'; cases h'
    | some r1 =>
      rw [e] at h'
      have := rowsB_len (r := r1) h'
      have := rowB_len e
      simp
      omega
theorem run_law_seen_due (ds G Q E) (h : C_law_seen_due ds G Q E) : T_law_seen_due E { nx := fun _ G' => DrK Q .non G', rt := DrK Q, bk := fun _ _ => False, ct := fun _ _ => False } (dstart N_law_seen_due ds) G := by
  obtain ⟨p, ws, s, bg, m, ths, a, L, rfl, hp, h4, h3, hw, hr, hF, ga, hG, q⟩ := h
  show T_law_seen_due E _ [some (.tup [.tup (p.deeds.map encDeed), .tup (p.tries.map encN)]), some (.tup (ws.map encN)), some (.ref a), none, none, none, none, none, none, none, none, none] G
  unfold T_law_seen_due
  have hlen : L.length ≤ 7 := by have := Good.len hF hG; omega
  walk_at "run"
  refine UpC.of ⟨p, ws, s, bg, rfl, hp, hw, hr, fun G1 f ks ad l1 hf sp hk => ?_⟩
  replace ga := l1 _ _ ga
  walk_at "run"
  refine UpC.of ⟨p, s, bg, m, ths, rfl, hp, h4, h3, hF, fun G2 t kt l2 ht gt hd => ?_⟩
  replace ga := l2 _ _ ga
  replace sp := sp.grow l2
  walk_at "run"
  have l02 := l1.trans l2
  refine loop_inv (fun i σ G' => ∃ v6 v7, σ = [some (.tup [.tup (p.deeds.map encDeed), .tup (p.tries.map encN)]), some (.tup (ws.map encN)), some (.ref a), some (.ref f), some (encSt 8 s), some (.ref t), v6, v7, none, none, none, none] ∧ Le G2 G')
    ⟨none, none, rfl, .refl _⟩ (fun _ _ _ _ hP => by obtain ⟨_, _, _, l⟩ := hP; exact l _ _ ga) (fun i d σ' G' N hd2 hi hP hN => ?_) (fun σ' G' hP => ?_)
  · obtain ⟨v6, v7, rfl, l⟩ := hP
    rw [List.length_map] at hi
    rw [List.getElem?_map, List.getElem?_eq_getElem hi] at hd2
    obtain rfl : encNN L[i] = d := by simpa using hd2
    generalize L[i] = e
    walk_at "run"
    refine br_ff (by simp) ?_
    walk_at "run"
    intro c hc
    refine comp_pure [(e.1 : Int), (e.2 : Int)] (fun z => D.int z) (fun _ => true) (fun _ => .bl false) (Nat.le_of_ble_eq_true rfl) hc (fun _ => trivial) (fun x hx o => ⟨_, rfl, fun QB h => ?_, fun _ QD h => ?_⟩) ?_
    · walk_at "run"
      exact h
    · walk_at "run"
      exact h
    walk_at "run"
    refine s_inE (xs := [false, false]) (x := true) ok_Bs up_same ?_
    walk_at "run"
    exact hN _ _ _ (.refl _) ⟨_, _, rfl, l.trans (le_new hc (.refl _))⟩
  · obtain ⟨v6, v7, rfl, l⟩ := hP
    replace ga := l _ _ ga
    replace sp := sp.grow l
    replace gt := l _ _ gt
    have l03 := l02.trans l
    clear l1 l2 l02 l
    unfold tellO at gt
    walk_at "run"
    refine s_sortNN ga fun c hc => ?_
    have ac : a ≠ c := gne ga hc
    walk_at "run"
    refine s_sortDicSn (up_nx (gne gt hc) gt) fun c2 hc2 => ?_
    have hsrt : srt L = srt kt := by
      have hpm : L.Perm kt := (List.perm_ext_iff_of_nodup hG.nod hd.nd).mpr fun d => by rw [hG.all d, hd.mem d]
      have hl : ∀ l : List (Nat × Nat), ((srt l).map cI).Pairwise lexLe := fun l => by
        rw [List.pairwise_map]
        exact (srt_pw l).imp fun h => leNN_lex.mp h
      have := lex_uniq (xs := (srt L).map cI) (ys := (srt kt).map cI) (((srt_perm L).trans (hpm.trans (srt_perm kt).symm)).map cI) (hl L) (hl kt)
      exact List.map_inj_right (fun x y z => by
        have z1 := congrArg Prod.fst z
        have z2 := congrArg Prod.snd z
        simp only [cI] at z1 z2
        exact Prod.ext (by omega) (by omega)) |>.mp this
    have lc : Le G' (up (up G' c (.lst ((srt L).map encNN))) c2 (.lst ((srt kt).map encNN))) := (le_new hc (.refl _)).trans (le_new hc2 (.refl _))
    refine s_neLE ok_NN (up_nx (gne up_same hc2) up_same) up_same ?_
    rw [hsrt, decide_eq_true rfl]
    walk_at "run"
    rw [← hsrt] at *
    replace ga := lc _ _ ga
    replace sp := sp.grow lc
    replace gt := lc _ _ gt
    generalize up (up G' c (.lst ((srt L).map encNN))) c2 (.lst ((srt L).map encNN)) = G3 at *
    have l04 := l03.trans lc
    clear l03 lc hc hc2 ac
    intro c3 hc3
    have lc3 : Le G3 (up G3 c3 (.lst [])) := le_new hc3 (.refl _)
    have gc3 : up G3 c3 (.lst []) c3 = some (.lst []) := up_same
    replace ga := lc3 _ _ ga
    replace sp := sp.grow lc3
    replace gt := lc3 _ _ gt
    generalize up G3 c3 (.lst []) = G4 at *
    have l05 := l04.trans lc3
    clear l04 lc3 hc3
    walk_at "run"
    refine loop_inv (fun i σ G' => ∃ v6 v7 v9 v10 v11 b r, rowsB [] ((L.take i).filterMap (due p.deeds s.near m ths)) = some r ∧ G' b = some (.lst (r.map .int)) ∧ σ = [some (.tup [.tup (p.deeds.map encDeed), .tup (p.tries.map encN)]), some (.tup (ws.map encN)), some (.ref a), some (.ref f), some (encSt 8 s), some (.ref t), v6, v7, some (.ref b), v9, v10, v11] ∧ Le G4 G')
      ⟨_, _, _, _, _, c3, [], rfl, gc3, rfl, .refl _⟩ (fun _ _ _ _ hP => by obtain ⟨_, _, _, _, _, _, _, _, _, _, l⟩ := hP; exact l _ _ ga) (fun i d σ' G' N hd2 hi hP hN => ?_) (fun σ' G' hP => ?_)
    · obtain ⟨v6, v7, v9, v10, v11, b, r, hrow, gb, rfl, l⟩ := hP
      rw [enumD_length, List.length_map] at hi
      obtain ⟨z, hz, rfl⟩ := enumD_get hd2
      rw [List.getElem?_map, List.getElem?_eq_getElem hi] at hz
      cases hz
      have hLi := List.getElem?_eq_getElem hi
      have hmem := List.getElem_mem hi
      have hfree : ∀ o ∈ L.drop (i + 1), bgF bg L[i] ≤ bgL bg o := fun o ho => by
        have e : L = L.take i ++ L[i] :: L.drop (i + 1) := by rw [← List.drop_eq_getElem_cons hi, List.take_append_drop]
        have hpw := hG.free
        rw [e, List.pairwise_append] at hpw
        have := (List.pairwise_cons.mp hpw.2.1).1 o ho
        have hb2 := hF.due_bg ((hG.all o).mp (List.mem_of_mem_drop ho))
        unfold bgF bgL
        cases e1 : bg L[i] with
        | none => exact Nat.zero_le _
        | some q1 =>
          cases e2 : bg o with
          | none => exact absurd e2 hb2
          | some q2 => exact this q1.1 q1.2 q2.1 q2.2 e1 e2
      have htake : L.take (i + 1) = L.take i ++ [L[i]] := by rw [List.take_add_one, hLi]; rfl
      generalize L[i] = e at *
      have heD := (hG.all e).mp hmem
      have heK : e ∈ ks := (hk.mem e).mpr (hF.due_bg heD)
      have ga' := l _ _ ga
      have sp' := sp.grow l
      have gt' := l _ _ gt
      have gf' := sp'.hf
      walk_at "run"
      intro c5 hc5
      rw [show (i : Int) + 1 = ((i + 1 : Nat) : Int) by omega, cutD_from, ← List.map_drop]
      have gc5 : up G' c5 (.lst ((L.drop (i + 1)).map encNN)) c5 = some (.lst ((L.drop (i + 1)).map encNN)) := up_same
      have lc5 : Le G' (up G' c5 (.lst ((L.drop (i + 1)).map encNN))) := le_new hc5 (.refl _)
      generalize up G' c5 (.lst ((L.drop (i + 1)).map encNN)) = G5 at *
      have sp5 := sp'.grow lc5
      have gb5 := lc5 _ _ gb
      have gt5 := lc5 _ _ gt'
      walk_at "run"
      intro c6 hc6
      have sp6 : ∀ o, SpAt (up G5 c6 o) f ks bg ad := fun o => sp5.grow (le_new hc6 (.refl _))
      refine comp_pure (L.drop (i + 1)) encNN (fun o => decide (bgL bg o < bgF bg e)) encNN (by rw [List.length_drop]; omega) hc6 (fun o => up_nx (gne gc5 hc6) gc5) (fun o ho z => ⟨_, rfl, fun QB h => ?_, fun _ QD h => ?_⟩) ?_
      · have hoK : o ∈ ks := (hk.mem o).mpr (hF.due_bg ((hG.all o).mp (List.mem_of_mem_drop ho)))
        have s6 := sp6 z
        have h1 := s6.ha o hoK
        have h2 := s6.ha e heK
        have hf6 := s6.hf
        walk_at "run"
        refine s_getN hf6 (.inl ⟨_, rfl⟩) (nkP_of o) (nkP_depth _) (look_kvs (f := fun d => D.ref (ad d)) hoK) ?_
        walk_at "run"
        refine s_getN hf6 (.inl ⟨_, rfl⟩) (nkP_of e) (nkP_depth _) (look_kvs (f := fun d => D.ref (ad d)) heK) ?_
        walk_at "run"
        rw [show decide ((bgL bg o : Int) < (bgF bg e : Int)) = decide (bgL bg o < bgF bg e) by simp]
        exact h
      · walk_at "run"
        exact h
      rw [List.filter_eq_nil_iff.mpr fun o ho => by have := hfree o ho; simp; omega]
      have lc6 : Le G5 (up G5 c6 (.lst [])) := le_new hc6 (.refl _)
      have gc6 : up G5 c6 (.lst []) c6 = some (.lst (([] : List (Nat × Nat)).map encNN)) := up_same
      replace gb5 := lc6 _ _ gb5
      replace gt5 := lc6 _ _ gt5
      have l06 := l.trans (lc5.trans lc6)
      show Go _ _ _ (up G5 c6 (.lst []))
      generalize up G5 c6 (.lst []) = G6 at *
      walk_at "run"
      intro c7 hc7
      refine s_neLE (ys := []) ok_NN (up_nx (gne gc6 hc7) gc6) up_same ?_
      walk_at "run"
      have lc7 : Le G6 (up G6 c7 (.lst [])) := le_new hc7 (.refl _)
      replace gb5 := lc7 _ _ gb5
      replace gt5 := lc7 _ _ gt5
      replace l06 := l06.trans lc7
      generalize up G6 c7 (.lst []) = G7 at *
      obtain ⟨tl, htl⟩ : ∃ tl, due p.deeds s.near m ths e = some tl := by
        cases z : due p.deeds s.near m ths e with
        | none => exact absurd z heD
        | some tl => exact ⟨tl, rfl⟩
      obtain ⟨rT, hrT, hrl⟩ := hG.rows
      obtain ⟨r1, hr1⟩ := rowsB_take hrT (i + 1)
      rw [htake, List.filterMap_append, rowsB_app, hrow] at hr1
      have hr2 : rowsB [] ((L.take (i + 1)).filterMap (due p.deeds s.near m ths)) = some r1 := by
        rw [htake, List.filterMap_append, rowsB_app, hrow]
        exact hr1
      rw [List.filterMap_cons_some htl] at hr1
      have hr3 : rowB r tl = some r1 := by
        have h' : (rowB r tl).bind (fun r' => rowsB r' []) = some r1 := hr1
        cases z : rowB r tl with
        | none => rw [z] at h'; cases h'
        | some r4 => rw [z] at h'; cases h'; rfl
      have htd : tldS p s m ths e = encTl tl := by unfold tldS; rw [htl]
      have hrl2 := rowsB_len hrow
      have hll : ((L.take i).filterMap (due p.deeds s.near m ths)).length ≤ 7 := Nat.le_trans (List.length_filterMap_le _ _) (by rw [List.length_take]; omega)
      refine s_getN gt5 (.inl ⟨_, rfl⟩) (nkP_of e) (nkP_depth _) (look_kvs (f := fun d => tldS p s m ths d) ((hd.mem e).mpr heD)) ?_
      rw [htd]
      walk_at "run"
      refine UpC.of ⟨b, _, tl, rfl, gb5, by simp at hrl2; omega, fun z => absurd (z.symm.trans hr3) (by simp), fun r' G8 b' z l8 g8 => ?_⟩
      cases z.symm.trans hr3
      walk_at "run"
      exact hN _ _ _ (.refl _) ⟨_, _, _, _, _, b', r1, hr2, g8, rfl, l06.trans l8⟩
    · obtain ⟨v6, v7, v9, v10, v11, b, r, hrow, gb, rfl, l⟩ := hP
      rw [enumD_length, List.length_map, List.take_length] at hrow
      obtain ⟨b1, b2, b3⟩ := sok_left hF.ok
      have hml := hF.ok.len
      have htl := hp.tries
      obtain ⟨r2, hr2, hl2⟩ := hG.rows
      cases hr2.symm.trans hrow
      walk_at "run"
      refine UpC.of ⟨8, s, rfl, by decide, b1, by omega, by omega, by omega, fun G5 x y cs hT => ?_⟩
      have hB : G5 y = some (.lst (r.map .int)) := by
        rw [hT.hb, show leftOf s = r.map some from hl2.symm, List.map_map]
        rfl
      have gb5 := hT.l.le _ _ gb
      walk_at "run"
      refine s_eqLE ok_Z gb5 hB ?_
      walk_at "run"
      rw [decide_eq_true rfl]
      exact s_rt (q _ (l05.trans (l.trans hT.l.le)))

def C_law : Ct := spLaw 63
theorem len_law (ds G Q E) (h : C_law ds G Q E) : ds.length = 1 := by obtain ⟨_, rfl, _⟩ := h; rfl
abbrev N_law : List Str := ["script", "k", "some", "play", "weaving", "turn", "found"]
def T_law : DX → DS := fun E => (dSeq (dFor (diRange (dCons (dC (.int 8)) dNil)) (dgName 1) (dSeq (dAsg (dCall C_law_digits E (dCons (dCall C_law_at E (dCons (dVar 0) (dCons (dVar 1) dNil))) (dCons (dC (.int 60)) dNil))) (dgName 2))
    (dSeq (dAsg (dCall C_law_great_play E (dCons (dVar 2) dNil)) (dgName 3))
    (dSeq (dAsg (dCall C_law_to_end E (dCons (dVar 3) (dCons (dSl (dVar 2) (dPart (dC (.int 15))) dNoPart) dNil))) (dgName 4))
    (dFor (diRange (dCons (dC (.int 2)) dNil)) (dgName 5) (dSeq (dAsg (dCall C_seen_as E (dCons (dVar 3) (dCons (dVar 4) dNil))) (dgName 6))
    (dSeq (dIf (dNot (dTru (dCall C_law_seen_due E (dCons (dVar 3) (dCons (dVar 4) (dCons (dVar 6) dNil)))))) (dRet (dC (.bl false))) dNext)
    (dSeq (dDrop (dMt appendD (dVar 6) (dCons (dTup (dCons (dC (.int 0)) (dCons (dC (.int 0)) dNil))) dNil)))
    (dDrop (dMt reverseD (dVar 6) dNil))))))))))
    (dRet (dOp eqD (dCall C_seen_as E (dCons (dTup (dCons (dTup dNil) (dCons (dTup dNil) dNil))) (dCons (dTup dNil) dNil))) (dLst dNil))))
theorem run_law (ds G Q E) (h : C_law ds G Q E) : T_law E { nx := fun _ G' => DrK Q .non G', rt := DrK Q, bk := fun _ _ => False, ct := fun _ _ => False } (dstart N_law ds) G := by
  obtain ⟨ns, rfl, hl, q⟩ := h
  show T_law E _ [some (.lis (ns.map .int)), none, none, none, none, none, none] G
  unfold T_law
  walk_at "run"
  refine loop_inv (fun i σ G' => ∃ v1 v2 v3 v4 v5 v6, σ = [some (.lis (ns.map .int)), v1, v2, v3, v4, v5, v6]) ⟨none, none, none, none, none, none, rfl⟩ (fun _ _ _ _ _ => trivial) (fun i d σ' G' N hd hi hP hN => ?_) (fun σ' G' hP => ?_)
  · obtain ⟨v1, v2, v3, v4, v5, v6, rfl⟩ := hP
    obtain ⟨rfl, hi2⟩ := rangeD_get0 hd
    walk_at "run"
    refine UpC.of ⟨ns, i, rfl, by omega, by omega, fun cell => ?_⟩
    walk_at "run"
    refine UpC.of ⟨cell, 60, rfl, by decide, fun rs b rl rb hb => ?_⟩
    have gb : up G' b (.lst (rs.map encN)) b = some (.lst (rs.map encN)) := up_same
    generalize up G' b (.lst (rs.map encN)) = G0 at gb
    walk_at "run"
    refine UpC.of ⟨b, rs, rfl, gb, by omega, by omega, rb, fun p hp hth G1 l1 => ?_⟩
    replace gb := l1 _ _ gb
    have eP : encPlay p = .tup [.tup (p.deeds.map encDeed), .tup (p.tries.map encN)] := rfl
    rw [eP]
    have hP := hp.pl
    walk_at "run"
    intro c1 hc1
    rw [show (15 : Int) = ((15 : Nat) : Int) from rfl, cutD_from, ← List.map_drop]
    have gc1 : up G1 c1 (.lst ((rs.drop 15).map encN)) c1 = some (.lst ((rs.drop 15).map encN)) := up_same
    generalize up G1 c1 (.lst ((rs.drop 15).map encN)) = G2 at gc1
    walk_at "run"
    refine UpC.of ⟨p, c1, rs.drop 15, rfl, hP, gc1, by rw [List.length_drop]; omega, by rw [List.length_drop]; omega, fun ws s hrun hwl hend => ?_⟩
    obtain ⟨bg, hsp⟩ := span_of 0 bg0 hrun
    walk_at "run"
    refine loop_inv (fun j σ G' => ∃ v5 v6, σ = [some (.lis (ns.map .int)), some (.int i), some (.ref b), some (.tup [.tup (p.deeds.map encDeed), .tup (p.tries.map encN)]), some (.tup (ws.map encN)), v5, v6]) ⟨_, _, rfl⟩ (fun _ _ _ _ _ => trivial) (fun j d σ' G3 N2 hd2 hj hP2 hN2 => ?_) (fun σ' G3 hP2 => ?_)
    · obtain ⟨v5, v6, rfl⟩ := hP2
      walk_at "run"
      refine UpC.of ⟨p, ws, s, bg, rfl, hP, hp.deeds, hp.sum, hwl, hsp, hend, fun G4 c m ths L l4 _ gc hF hG => ?_⟩
      walk_at "run"
      refine UpC.of ⟨p, ws, s, bg, m, ths, c, L, rfl, hP, hp.deeds, hp.sum, hwl, hsp, hF, gc, hG, fun G5 l5 => ?_⟩
      replace gc := l5 _ _ gc
      have hlen := Good.len hF hG
      have h4 := hp.deeds
      have h3 := hp.sum
      walk_at "run"
      refine s_reverse up_same ?_
      walk_at "run"
      exact hN2 _ _ _ (.refl _) ⟨_, _, rfl⟩
    · obtain ⟨v5, v6, rfl⟩ := hP2
      exact hN _ _ _ (.refl _) ⟨_, _, _, _, _, _, rfl⟩
  · obtain ⟨v1, v2, v3, v4, v5, v6, rfl⟩ := hP
    walk_at "run"
    refine UpC.of ⟨⟨[], []⟩, [], sta0 ⟨[], []⟩, bg0, rfl, ⟨by decide, by decide, by simp⟩, by decide, by decide, by decide, rfl, fun w hw => ?_, fun G4 c m ths L l4 _ gc hF hG => ?_⟩
    · obtain rfl : w = 0 := Nat.le_zero.mp hw
      rfl
    have hlen := Good.len hF hG
    obtain rfl : L = [] := List.length_eq_zero_iff.mp (Nat.le_zero.mp hlen)
    walk_at "run"
    intro e he
    refine s_eqLE (ys := []) ok_NN (up_nx (gne gc he) gc) up_same ?_
    walk_at "run"
    exact s_rt (q _)

def top (i : Nat) : Stmt := PySem.Challenge.pw_farend_k58_weavings_seen_whole.main.body.getD i (.Pass ⟨0, 0, 0, 0⟩)
structure Nb (mg : Str → Option Value) : Prop where
  n_abs : mg "abs" = none
  n_all : mg "all" = none
  n_bool : mg "bool" = none
  n_enumerate : mg "enumerate" = none
  n_int : mg "int" = none
  n_isinstance : mg "isinstance" = none
  n_len : mg "len" = none
  n_list : mg "list" = none
  n_max : mg "max" = none
  n_range : mg "range" = none
  n_sorted : mg "sorted" = none
  n_sum : mg "sum" = none
  n_tuple : mg "tuple" = none
structure Nc (mg : Str → Option Value) : Prop where
  c_MOST_DEEDS : ∃ t, mg "MOST_DEEDS" = some (.int 4 t)
  c_MOST_TRIES : ∃ t, mg "MOST_TRIES" = some (.int 3 t)
structure Fd (K : PySem.W.Frag) : Prop where
  f_Seen_left : FldOk K "Seen" "left"
  f_Seen_times : FldOk K "Seen" "times"
  f_Seen_told : FldOk K "Seen" "told"
abbrev s_law_mix : Stmt := top 27
theorem sc_law_mix : FnScope N_law_mix ["cell", "k"] (defScope s_law_mix) := ⟨rfl, rfl, rfl, by decide +kernel, rfl, by decide +kernel, by decide +kernel⟩
theorem ok_law_mix {P : Program} {w : World} {K : PySem.W.Frag} {mg : Str → Option Value} {base : Heap} (nb : Nb mg) (nc : Nc mg) (fd : Fd K)  (D0 : DefAt K mg "_law_mix" s_law_mix ["cell", "k"]) : CallOk P w K mg base 1 "_law_mix" C_law_mix := by
  have nd : N_law_mix.Nodup := sc_law_mix.nd
  refine call_ok (T := T_law_mix) D0 sc_law_mix len_law_mix (fun f cdv A outer s H EL E hr hgd hp hE => ?_) run_law_mix
  exact (dss_cons (ds_set 2 nd (de_ix (de_lst (da_cons de_int (da_cons de_int (da_cons de_int (da_cons de_int (da_cons de_int (da_cons de_int (da_cons de_int da_nil)))))))) (de_mod (de_var 1) de_int)))
    (dss_cons (ds_set 3 nd (de_mod (de_mul (de_add (de_mod (de_var 0) de_int) (de_mul de_int (de_add (de_var 1) de_int))) (de_add (de_add (de_mul (de_var 1) (de_var 1)) (de_mul de_int (de_var 1))) de_int)) (de_var 2)))
    (dss_cons (ds_set 3 nd (de_mod (de_pow (de_var 3) de_int) de_int))
    (dss_cons (ds_set 3 nd (de_mod (de_add (de_add (de_mul (de_var 3) de_int) (de_mul de_int (de_var 1))) de_int) (de_var 2)))
    (dss_one (ds_ret (de_div (de_mod (de_pow (de_var 3) de_int) de_int) de_int)))))))
abbrev s_law_digits : Stmt := top 28
theorem sc_law_digits : FnScope N_law_digits ["cell", "many"] (defScope s_law_digits) := ⟨rfl, rfl, rfl, by decide +kernel, rfl, by decide +kernel, by decide +kernel⟩
theorem ok_law_digits {P : Program} {w : World} {K : PySem.W.Frag} {mg : Str → Option Value} {base : Heap} (nb : Nb mg) (nc : Nc mg) (fd : Fd K) (h_law_mix : CallOk P w K mg base 1 "_law_mix" C_law_mix) (D0 : DefAt K mg "_law_digits" s_law_digits ["cell", "many"]) : CallOk P w K mg base 2 "_law_digits" C_law_digits := by
  have nd : N_law_digits.Nodup := sc_law_digits.nd
  refine call_ok (T := T_law_digits) D0 sc_law_digits len_law_digits (fun f cdv A outer s H EL E hr hgd hp hE => ?_) run_law_digits
  exact (dss_cons (ds_set 2 nd (de_lst da_nil))
    (dss_cons (ds_set 3 nd (de_abs rfl nb.n_abs (da_cons (de_var 0) da_nil)))
    (dss_cons (ds_set 4 nd (de_ge (de_var 3) (de_pow de_int de_int)))
    (dss_cons (ds_for hp rfl (di_range1 rfl nb.n_range (de_var 1)) (dg_name 5 nd) (dss_one (ds_if (DPW.dt (dw_and (dt_tru (de_var 4)) (dw_and1 (dt_gt (de_var 3) de_int)))) (dss_cons (ds_expr (de_append (de_var 2) (da_cons (de_mod (de_var 3) de_int) da_nil)))
    (dss_one (ds_set 3 nd (de_div (de_var 3) de_int)))) (dss_one (ds_expr (de_append (de_var 2) (da_cons (de_fn h_law_mix (hr.mono (by first | decide | omega)) hgd hE (da_cons (de_var 0) (da_cons (de_var 5) da_nil))) da_nil)))))))
    (dss_one (ds_ret (de_var 2)))))))
abbrev s_law_at : Stmt := top 29
theorem sc_law_at : FnScope N_law_at ["script", "k"] (defScope s_law_at) := ⟨rfl, rfl, rfl, by decide +kernel, rfl, by decide +kernel, by decide +kernel⟩
theorem ok_law_at {P : Program} {w : World} {K : PySem.W.Frag} {mg : Str → Option Value} {base : Heap} (nb : Nb mg) (nc : Nc mg) (fd : Fd K)  (D0 : DefAt K mg "_law_at" s_law_at ["script", "k"]) : CallOk P w K mg base 1 "_law_at" C_law_at := by
  have nd : N_law_at.Nodup := sc_law_at.nd
  refine call_ok (T := T_law_at) D0 sc_law_at len_law_at (fun f cdv A outer s H EL E hr hgd hp hE => ?_) run_law_at
  exact (dss_cons (ds_if (dt_lt (de_var 1) (de_len rfl nb.n_len (da_cons (de_var 0) da_nil))) (dss_one (ds_ret (de_ix (de_var 0) (de_var 1)))) dss_nil)
    (dss_one (ds_ret (de_add (de_add (de_mul de_int (de_var 1)) de_int) (de_len rfl nb.n_len (da_cons (de_var 0) da_nil))))))
abbrev s_law_play : Stmt := top 35
theorem sc_law_play : FnScope N_law_play ["some", "most", "tries"] (defScope s_law_play) := ⟨rfl, rfl, rfl, by decide +kernel, rfl, by decide +kernel, by decide +kernel⟩
theorem ok_law_play {P : Program} {w : World} {K : PySem.W.Frag} {mg : Str → Option Value} {base : Heap} (nb : Nb mg) (nc : Nc mg) (fd : Fd K)  (D0 : DefAt K mg "_law_play" s_law_play ["some", "most", "tries"]) : CallOk P w K mg base 1 "_law_play" C_law_play := by
  have nd : N_law_play.Nodup := sc_law_play.nd
  refine call_ok (T := T_law_play) D0 sc_law_play len_law_play (fun f cdv A outer s H EL E hr hgd hp hE => ?_) run_law_play
  exact (dss_cons (ds_set 3 nd (de_lst da_nil))
    (dss_cons (ds_for hp rfl (di_range1 rfl nb.n_range (de_mod (de_ix (de_var 0) de_int) (de_add (de_var 1) de_int))) (dg_name 4 nd) (dss_cons (ds_set 5 nd (de_ix (de_var 0) (de_add de_int (de_var 4))))
    (dss_cons (ds_set 6 nd (de_ix (de_lst (da_cons de_int (da_cons de_int (da_cons de_int (da_cons de_int (da_cons (de_neg de_int) (da_cons (de_neg de_int) (da_cons (de_pow de_int de_int) (da_cons (de_sub (de_pow de_int de_int) de_int) (da_cons de_int (da_cons de_int (da_cons de_int (da_cons (de_neg de_int) da_nil))))))))))))) (de_mod (de_div (de_var 5) de_int) de_int)))
    (dss_cons (ds_set 7 nd (de_ix (de_lst (da_cons (de_mod (de_ix (de_var 0) de_int) de_int) (da_cons (de_mod (de_div (de_var 5) de_int) de_int) da_nil))) (de_intOf rfl nb.n_int (da_cons (de_gt (de_mod (de_ix (de_var 0) de_int) de_int) de_int) da_nil))))
    (dss_cons (ds_set 8 nd (de_ix (de_lst (da_cons (de_var 4) (da_cons (de_mod (de_div (de_var 5) de_int) de_int) (da_cons (de_sub (de_neg de_int) (de_mod (de_div (de_var 5) de_int) de_int)) (da_cons (de_sub (de_pow de_int de_int) (de_var 5)) (da_cons (de_var 6) da_nil)))))) (de_var 7)))
    (dss_one (ds_expr (de_append (de_var 3) (da_cons (de_ix (de_lst (da_cons (de_tup (da_cons de_str (da_cons (de_var 8) da_nil))) (da_cons (de_tup (da_cons de_str da_nil)) (da_cons (de_tup (da_cons de_str (da_cons (de_var 8) da_nil))) da_nil)))) (de_mod (de_add (de_var 5) (de_div (de_var 4) de_int)) de_int)) da_nil)))))))))
    (dss_one (ds_ret (de_tup (da_cons (de_tuple rfl nb.n_tuple (da_cons (de_var 3) da_nil)) (da_cons (de_var 2) da_nil)))))))
abbrev s_law_great_play : Stmt := top 41
theorem sc_law_great_play : FnScope N_law_great_play ["some"] (defScope s_law_great_play) := ⟨rfl, rfl, rfl, by decide +kernel, rfl, by decide +kernel, by decide +kernel⟩
theorem ok_law_great_play {P : Program} {w : World} {K : PySem.W.Frag} {mg : Str → Option Value} {base : Heap} (nb : Nb mg) (nc : Nc mg) (fd : Fd K) (h_law_play : CallOk P w K mg base 1 "_law_play" C_law_play) (D0 : DefAt K mg "_law_great_play" s_law_great_play ["some"]) : CallOk P w K mg base 2 "_law_great_play" C_law_great_play := by
  have nd : N_law_great_play.Nodup := sc_law_great_play.nd
  refine call_ok (T := T_law_great_play) D0 sc_law_great_play len_law_great_play (fun f cdv A outer s H EL E hr hgd hp hE => ?_) run_law_great_play
  exact (dss_cons (ds_set 1 nd (de_lst (da_cons (de_tup (da_cons de_int da_nil)) (da_cons (de_tup (da_cons de_int da_nil)) (da_cons (de_tup (da_cons de_int (da_cons de_int da_nil))) (da_cons (de_tup (da_cons de_int (da_cons de_int da_nil))) (da_cons (de_tup (da_cons de_int (da_cons de_int da_nil))) (da_cons (de_tup (da_cons de_int (da_cons de_int da_nil))) (da_cons (de_tup (da_cons de_int (da_cons de_int da_nil))) (da_cons (de_tup (da_cons de_int (da_cons de_int da_nil))) (da_cons (de_tup (da_cons de_int (da_cons de_int da_nil))) (da_cons (de_tup (da_cons de_int da_nil)) (da_cons (de_tup (da_cons de_int (da_cons de_int da_nil))) (da_cons (de_tup da_nil) (da_cons (de_tup (da_cons de_int (da_cons de_int da_nil))) (da_cons (de_tup (da_cons de_int (da_cons de_int da_nil))) (da_cons (de_tup (da_cons de_int da_nil)) da_nil)))))))))))))))))
    (dss_cons (ds_set 1 nd (de_add (de_var 1) (de_lst (da_cons (de_tup (da_cons de_int da_nil)) (da_cons (de_tup (da_cons de_int (da_cons de_int da_nil))) (da_cons (de_tup (da_cons de_int (da_cons de_int da_nil))) (da_cons (de_tup (da_cons de_int (da_cons de_int da_nil))) (da_cons (de_tup (da_cons de_int (da_cons de_int da_nil))) da_nil))))))))
    (dss_cons (ds_set 2 nd (de_fn h_law_play (hr.mono (by first | decide | omega)) hgd hE (da_cons (de_var 0) (da_cons de_int (da_cons (de_ix (de_var 1) (de_mod (de_ix (de_var 0) de_int) de_int)) da_nil)))))
    (dss_cons (ds_if (DPW.dt (dw_and (dt_lt (de_len rfl nb.n_len (da_cons (de_ix (de_var 2) de_int) da_nil)) de_int) (dw_and1 (dt_gt (de_mod (de_ix (de_var 0) de_int) de_int) de_int)))) (dss_one (ds_set 2 nd (de_tup (da_cons (de_add (de_tup (da_cons (de_tup (da_cons de_str (da_cons (de_mod (de_ix (de_var 0) de_int) de_int) da_nil))) da_nil)) (de_ix (de_var 2) de_int)) (da_cons (de_ix (de_var 2) de_int) da_nil))))) dss_nil)
    (dss_one (ds_ret (de_var 2)))))))
abbrev s_law_first : Stmt := top 30
theorem sc_law_first : FnScope N_law_first ["play"] (defScope s_law_first) := ⟨rfl, rfl, rfl, by decide +kernel, rfl, by decide +kernel, by decide +kernel⟩
theorem ok_law_first {P : Program} {w : World} {K : PySem.W.Frag} {mg : Str → Option Value} {base : Heap} (nb : Nb mg) (nc : Nc mg) (fd : Fd K)  (D0 : DefAt K mg "_law_first" s_law_first ["play"]) : CallOk P w K mg base 1 "_law_first" C_law_first := by
  have nd : N_law_first.Nodup := sc_law_first.nd
  refine call_ok (T := T_law_first) D0 sc_law_first len_law_first (fun f cdv A outer s H EL E hr hgd hp hE => ?_) run_law_first
  exact (dss_one (ds_ret (de_tup (da_cons de_int (da_cons de_int (da_cons (de_mul (de_tup (da_cons de_non da_nil)) de_int) (da_cons (de_mul (de_tup (da_cons (de_tup (da_cons de_int (da_cons de_int (da_cons de_int (da_cons de_non (da_cons (de_tup da_nil) da_nil)))))) da_nil)) (de_add de_int (de_len rfl nb.n_len (da_cons (de_ix (de_var 0) de_int) da_nil)))) da_nil)))))))
abbrev s_law_try_part : Stmt := top 32
theorem sc_law_try_part : FnScope N_law_try_part ["rules", "near", "far", "box", "part"] (defScope s_law_try_part) := ⟨rfl, rfl, rfl, by decide +kernel, rfl, by decide +kernel, by decide +kernel⟩
theorem ok_law_try_part {P : Program} {w : World} {K : PySem.W.Frag} {mg : Str → Option Value} {base : Heap} (nb : Nb mg) (nc : Nc mg) (fd : Fd K)  (D0 : DefAt K mg "_law_try_part" s_law_try_part ["rules", "near", "far", "box", "part"]) : CallOk P w K mg base 1 "_law_try_part" C_law_try_part := by
  have nd : N_law_try_part.Nodup := sc_law_try_part.nd
  refine call_ok (T := T_law_try_part) D0 sc_law_try_part len_law_try_part (fun f cdv A outer s H EL E hr hgd hp hE => ?_) run_law_try_part
  exact (dss_cons (ds_asg (de_var 4) (dg_tup rfl (dgs_cons (dg_name 5 nd) (dgs_cons (dg_name 6 nd) (dgs_cons (dg_name 7 nd) (dgs_cons (dg_name 8 nd) (dgs_cons (dg_name 9 nd) dgs_nil)))))))
    (dss_cons (ds_if (dt_eq (u64 hr) (de_var 6) de_int) (dss_one (ds_ret (de_tup (da_cons (de_var 2) (da_cons (de_tup (da_cons (de_var 5) (da_cons de_int (da_cons (de_var 2) (da_cons (de_var 8) (da_cons (de_var 9) da_nil)))))) (da_cons de_non da_nil)))))) dss_nil)
    (dss_cons (ds_if (dt_eq (u64 hr) (de_var 6) de_int) (dss_cons (ds_if (dt_le (de_var 1) (de_var 7)) (dss_one (ds_ret (de_tup (da_cons (de_var 2) (da_cons (de_var 4) (da_cons (de_tup (da_cons de_non da_nil)) da_nil)))))) dss_nil)
    (dss_one (ds_ret (de_tup (da_cons (de_var 2) (da_cons (de_tup (da_cons (de_var 5) (da_cons de_int (da_cons (de_var 7) (da_cons (de_var 8) (da_cons (de_var 9) da_nil)))))) (da_cons de_non da_nil))))))) dss_nil)
    (dss_cons (ds_if (dt_eq (u64 hr) (de_var 6) de_int) (dss_one (ds_ret (de_tup (da_cons (de_var 2) (da_cons (de_tup (da_cons (de_var 5) (da_cons de_int (da_cons (de_var 7) (da_cons (de_ix (de_var 3) (de_var 7)) (da_cons (de_var 9) da_nil)))))) (da_cons de_non da_nil)))))) dss_nil)
    (dss_cons (ds_if (DPW.dt (dw_or (dt_eq (u64 hr) (de_var 2) (de_var 7)) (dw_or1 (dt_eq (u64 hr) (de_var 0) de_str)))) (dss_one (ds_ret (de_tup (da_cons (de_add (de_var 7) de_int) (da_cons (de_var 4) (da_cons (de_tup (da_cons (de_var 8) da_nil)) da_nil)))))) dss_nil)
    (dss_one (ds_ret (de_tup (da_cons (de_var 2) (da_cons (de_var 4) (da_cons (de_tup (da_cons de_str da_nil)) da_nil)))))))))))
abbrev s_law_take_part : Stmt := top 31
theorem sc_law_take_part : FnScope N_law_take_part ["rules", "near", "far", "box", "part"] (defScope s_law_take_part) := ⟨rfl, rfl, rfl, by decide +kernel, rfl, by decide +kernel, by decide +kernel⟩
theorem ok_law_take_part {P : Program} {w : World} {K : PySem.W.Frag} {mg : Str → Option Value} {base : Heap} (nb : Nb mg) (nc : Nc mg) (fd : Fd K)  (D0 : DefAt K mg "_law_take_part" s_law_take_part ["rules", "near", "far", "box", "part"]) : CallOk P w K mg base 1 "_law_take_part" C_law_take_part := by
  have nd : N_law_take_part.Nodup := sc_law_take_part.nd
  refine call_ok (T := T_law_take_part) D0 sc_law_take_part len_law_take_part (fun f cdv A outer s H EL E hr hgd hp hE => ?_) run_law_take_part
  exact (dss_cons (ds_asg (de_var 4) (dg_tup rfl (dgs_cons (dg_name 5 nd) (dgs_cons (dg_name 6 nd) (dgs_cons (dg_name 7 nd) (dgs_cons (dg_name 8 nd) (dgs_cons (dg_name 9 nd) dgs_nil)))))))
    (dss_cons (ds_if (dt_eq (u64 hr) (de_var 6) de_int) (dss_one (ds_ret (de_tup (da_cons (de_sub (de_var 1) de_int) (da_cons (de_var 2) (da_cons (de_tup (da_cons (de_var 5) (da_cons de_int (da_cons (de_var 7) (da_cons (de_var 8) (da_cons (de_var 9) da_nil)))))) (da_cons de_non da_nil))))))) dss_nil)
    (dss_cons (ds_if (dt_eq (u64 hr) (de_var 6) de_int) (dss_one (ds_ret (de_tup (da_cons (de_var 1) (da_cons (de_var 2) (da_cons (de_tup (da_cons (de_var 5) (da_cons de_int (da_cons (de_var 2) (da_cons (de_var 8) (da_cons (de_var 9) da_nil)))))) (da_cons de_non da_nil))))))) dss_nil)
    (dss_cons (ds_if (dt_eq (u64 hr) (de_var 6) de_int) (dss_cons (ds_if (dt_eq (u64 hr) (de_var 1) (de_var 7)) (dss_one (ds_ret (de_tup (da_cons (de_var 1) (da_cons (de_var 2) (da_cons (de_tup (da_cons (de_var 5) (da_cons (de_add de_int (de_intOf rfl nb.n_int (da_cons (de_eq (u64 hr) (de_var 0) de_str) da_nil))) (da_cons (de_var 7) (da_cons (de_ix (de_var 3) (de_var 1)) (da_cons (de_var 9) da_nil)))))) (da_cons de_non da_nil))))))) dss_nil)
    (dss_one (ds_ret (de_tup (da_cons (de_max rfl rfl nb.n_max (da_cons (de_var 1) (da_cons (de_var 7) da_nil))) (da_cons (de_var 2) (da_cons (de_var 4) (da_cons (de_tup (da_cons (de_ix (de_lst (da_cons de_non (da_cons (de_ix (de_var 3) (de_var 1)) da_nil))) (de_intOf rfl nb.n_int (da_cons (de_gt (de_var 1) (de_var 7)) da_nil))) da_nil)) da_nil)))))))) dss_nil)
    (dss_cons (ds_if (dt_eq (u64 hr) (de_var 6) de_int) (dss_cons (ds_set 10 nd (de_var 8))
    (dss_cons (ds_if (dt_ne (u64 hr) (de_var 2) (de_var 7)) (dss_one (ds_set 10 nd de_non)) dss_nil)
    (dss_one (ds_ret (de_tup (da_cons (de_var 1) (da_cons (de_add (de_var 2) (de_intOf rfl nb.n_int (da_cons (de_eq (u64 hr) (de_var 2) (de_var 7)) da_nil))) (da_cons (de_tup (da_cons (de_var 5) (da_cons de_int (da_cons (de_var 7) (da_cons (de_var 10) (da_cons (de_var 9) da_nil)))))) (da_cons de_non da_nil))))))))) dss_nil)
    (dss_one (ds_ret (de_tup (da_cons (de_add (de_var 7) de_int) (da_cons (de_var 2) (da_cons (de_var 4) (da_cons (de_tup (da_cons (de_var 8) da_nil)) da_nil))))))))))))
abbrev s_law_small_step : Stmt := top 33
theorem sc_law_small_step : FnScope N_law_small_step ["play", "rules", "state", "who"] (defScope s_law_small_step) := ⟨rfl, rfl, rfl, by decide +kernel, rfl, by decide +kernel, by decide +kernel⟩
theorem ok_law_small_step {P : Program} {w : World} {K : PySem.W.Frag} {mg : Str → Option Value} {base : Heap} (nb : Nb mg) (nc : Nc mg) (fd : Fd K) (h_law_try_part : CallOk P w K mg base 1 "_law_try_part" C_law_try_part) (h_law_take_part : CallOk P w K mg base 1 "_law_take_part" C_law_take_part) (D0 : DefAt K mg "_law_small_step" s_law_small_step ["play", "rules", "state", "who"]) : CallOk P w K mg base 2 "_law_small_step" C_law_small_step := by
  have nd : N_law_small_step.Nodup := sc_law_small_step.nd
  refine call_ok (T := T_law_small_step) D0 sc_law_small_step len_law_small_step (fun f cdv A outer s H EL E hr hgd hp hE => ?_) run_law_small_step
  exact (dss_cons (ds_asg (de_var 2) (dg_tup rfl (dgs_cons (dg_name 4 nd) (dgs_cons (dg_name 5 nd) (dgs_cons (dg_name 6 nd) (dgs_cons (dg_name 7 nd) dgs_nil))))))
    (dss_cons (ds_set 8 nd (de_ix (de_var 7) (de_var 3)))
    (dss_cons (ds_set 9 nd (de_ix (de_add (de_tup (da_cons (de_len rfl nb.n_len (da_cons (de_ix (de_var 0) de_int) da_nil)) da_nil)) (de_ix (de_var 0) de_int)) (de_var 3)))
    (dss_cons (ds_if (dt_eq (u64 hr) (de_ix (de_var 8) de_int) (de_var 9)) (dss_one (ds_ret de_non)) dss_nil)
    (dss_cons (ds_if (dt_gt (de_var 3) de_int) (dss_one (ds_asg (de_fn h_law_try_part (hr.mono (by first | decide | omega)) hgd hE (da_cons (de_var 1) (da_cons (de_var 4) (da_cons (de_var 5) (da_cons (de_var 6) (da_cons (de_var 8) da_nil)))))) (dg_tup rfl (dgs_cons (dg_name 5 nd) (dgs_cons (dg_name 8 nd) (dgs_cons (dg_name 10 nd) dgs_nil)))))) (dss_one (ds_if (dt_eq (u64 hr) (de_ix (de_ix (de_ix (de_var 0) de_int) (de_ix (de_var 8) de_int)) de_int) de_str) (dss_one (ds_asg (de_fn h_law_take_part (hr.mono (by first | decide | omega)) hgd hE (da_cons (de_var 1) (da_cons (de_var 4) (da_cons (de_var 5) (da_cons (de_var 6) (da_cons (de_var 8) da_nil)))))) (dg_tup rfl (dgs_cons (dg_name 4 nd) (dgs_cons (dg_name 5 nd) (dgs_cons (dg_name 8 nd) (dgs_cons (dg_name 10 nd) dgs_nil))))))) (dss_cons (ds_set 10 nd de_non)
    (dss_one (ds_if (dt_eq (u64 hr) (de_ix (de_var 8) de_int) de_int) (dss_cons (ds_set 6 nd (de_add (de_add (de_slice (de_var 6) do_none (do_some (de_var 4))) (de_tup (da_cons (de_ix (de_ix (de_ix (de_var 0) de_int) (de_ix (de_var 8) de_int)) de_int) da_nil))) (de_slice (de_var 6) (do_some (de_add (de_var 4) de_int)) do_none)))
    (dss_one (ds_set 8 nd (de_add (de_tup (da_cons (de_ix (de_var 8) de_int) (da_cons de_int da_nil))) (de_slice (de_var 8) (do_some de_int) do_none))))) (dss_cons (ds_set 4 nd (de_add (de_var 4) de_int))
    (dss_one (ds_set 10 nd (de_tup da_nil))))))))))
    (dss_cons (ds_if (dt_isnot (de_var 10) de_non) (dss_one (ds_set 8 nd (de_tup (da_cons (de_add (de_ix (de_var 8) de_int) de_int) (da_cons de_int (da_cons de_int (da_cons de_non (da_cons (de_add (de_ix (de_var 8) de_int) (de_var 10)) da_nil)))))))) dss_nil)
    (dss_one (ds_ret (de_tup (da_cons (de_var 4) (da_cons (de_var 5) (da_cons (de_var 6) (da_cons (de_add (de_add (de_slice (de_var 7) do_none (do_some (de_var 3))) (de_tup (da_cons (de_var 8) da_nil))) (de_slice (de_var 7) (do_some (de_add (de_var 3) de_int)) do_none)) da_nil)))))))))))))
abbrev s_law_to_end : Stmt := top 40
theorem sc_law_to_end : FnScope N_law_to_end ["play", "some"] (defScope s_law_to_end) := ⟨rfl, rfl, rfl, by decide +kernel, rfl, by decide +kernel, by decide +kernel⟩
theorem ok_law_to_end {P : Program} {w : World} {K : PySem.W.Frag} {mg : Str → Option Value} {base : Heap} (nb : Nb mg) (nc : Nc mg) (fd : Fd K) (h_law_first : CallOk P w K mg base 1 "_law_first" C_law_first) (h_law_small_step : CallOk P w K mg base 2 "_law_small_step" C_law_small_step) (D0 : DefAt K mg "_law_to_end" s_law_to_end ["play", "some"]) : CallOk P w K mg base 3 "_law_to_end" C_law_to_end := by
  have nd : N_law_to_end.Nodup := sc_law_to_end.nd
  refine call_ok (T := T_law_to_end) D0 sc_law_to_end len_law_to_end (fun f cdv A outer s H EL E hr hgd hp hE => ?_) run_law_to_end
  exact (dss_cons (ds_set 2 nd (de_fn h_law_first (hr.mono (by first | decide | omega)) hgd hE (da_cons (de_var 0) da_nil)))
    (dss_cons (ds_set 3 nd (de_lst da_nil))
    (dss_cons (ds_for hp rfl (di_range1 rfl nb.n_range de_int) (dg_name 4 nd) (dss_cons (ds_setLcN 5 [("who", 6)] (bd_name 6) rfl nd (sw_true rfl rfl rfl (by decide +kernel)) (di_range1 rfl nb.n_range (de_add de_int (de_len rfl nb.n_len (da_cons (de_ix (de_var 0) de_int) da_nil)))) (blkOk_by (by show blkC N_law_to_end (defScope s_law_to_end) _ _ = true; decide +kernel)) (fun _ _ _ _ _ => pgN 6 nd) (fun _ _ _ _ _ => (dts_one (dt_isnot (de_fn h_law_small_step (hr.mono (by first | decide | omega)) hgd passD_no (da_cons (de_var 0) (da_cons de_str (da_cons (de_var 2) (da_cons (de_var 6) da_nil))))) de_non))) (fun _ _ _ _ _ => (de_var 6)))
    (dss_one (ds_if (dt_ne (u64 hr) (de_var 5) (de_lst da_nil)) (dss_cons (ds_set 7 nd (de_div (de_ix (de_var 1) (de_mod (de_var 4) (de_len rfl nb.n_len (da_cons (de_var 1) da_nil)))) (de_add de_int (de_div (de_var 4) (de_len rfl nb.n_len (da_cons (de_var 1) da_nil))))))
    (dss_cons (ds_set 6 nd (de_ix (de_var 5) (de_mod (de_var 7) (de_len rfl nb.n_len (da_cons (de_var 5) da_nil)))))
    (dss_one (ds_for hp rfl (di_range1 rfl nb.n_range (de_ix (de_lst (da_cons de_int (da_cons de_int (da_cons de_int (da_cons de_int (da_cons de_int da_nil)))))) (de_mod (de_div (de_var 7) de_int) de_int))) (dg_name 8 nd) (dss_cons (ds_set 9 nd (de_fn h_law_small_step (hr.mono (by first | decide | omega)) hgd hE (da_cons (de_var 0) (da_cons de_str (da_cons (de_var 2) (da_cons (de_var 6) da_nil))))))
    (dss_one (ds_if (dt_isnot (de_var 9) de_non) (dss_cons (ds_set 2 nd (de_var 9))
    (dss_one (ds_expr (de_append (de_var 3) (da_cons (de_var 6) da_nil))))) dss_nil))))))) dss_nil))))
    (dss_cons (ds_for hp rfl (di_range1 rfl nb.n_range de_int) (dg_name 8 nd) (dss_one (ds_for hp rfl (di_range1 rfl nb.n_range (de_add de_int (de_len rfl nb.n_len (da_cons (de_ix (de_var 0) de_int) da_nil)))) (dg_name 6 nd) (dss_cons (ds_set 9 nd (de_fn h_law_small_step (hr.mono (by first | decide | omega)) hgd hE (da_cons (de_var 0) (da_cons de_str (da_cons (de_var 2) (da_cons (de_var 6) da_nil))))))
    (dss_one (ds_if (dt_isnot (de_var 9) de_non) (dss_cons (ds_set 2 nd (de_var 9))
    (dss_one (ds_expr (de_append (de_var 3) (da_cons (de_var 6) da_nil))))) dss_nil))))))
    (dss_one (ds_ret (de_tuple rfl nb.n_tuple (da_cons (de_var 3) da_nil))))))))
abbrev s_need_size : Stmt := top 16
theorem sc_need_size : FnScope N_need_size ["play"] (defScope s_need_size) := ⟨rfl, rfl, rfl, by decide +kernel, rfl, by decide +kernel, by decide +kernel⟩
theorem ok_need_size {P : Program} {w : World} {K : PySem.W.Frag} {mg : Str → Option Value} {base : Heap} (nb : Nb mg) (nc : Nc mg) (fd : Fd K)  (D0 : DefAt K mg "need_size" s_need_size ["play"]) : CallOk P w K mg base 1 "need_size" C_need_size := by
  have nd : N_need_size.Nodup := sc_need_size.nd
  refine call_ok (T := T_need_size) D0 sc_need_size len_need_size (fun f cdv A outer s H EL E hr hgd hp hE => ?_) run_need_size
  exact (dss_one (ds_if (DPW.dt (dw_or (dt_gt (de_len rfl nb.n_len (da_cons (de_ix (de_var 0) de_int) da_nil)) (de_globI nc.c_MOST_DEEDS)) (dw_or1 (dt_gt (de_sumT rfl rfl nb.n_sum (da_cons (de_ix (de_var 0) de_int) da_nil)) (de_globI nc.c_MOST_TRIES))))) (dss_one ds_never) dss_nil))
abbrev s_first_state : Stmt := top 6
theorem sc_first_state : FnScope N_first_state ["play"] (defScope s_first_state) := ⟨rfl, rfl, rfl, by decide +kernel, rfl, by decide +kernel, by decide +kernel⟩
theorem ok_first_state {P : Program} {w : World} {K : PySem.W.Frag} {mg : Str → Option Value} {base : Heap} (nb : Nb mg) (nc : Nc mg) (fd : Fd K)  (D0 : DefAt K mg "first_state" s_first_state ["play"]) : CallOk P w K mg base 1 "first_state" C_first_state := by
  have nd : N_first_state.Nodup := sc_first_state.nd
  refine call_ok (T := T_first_state) D0 sc_first_state len_first_state (fun f cdv A outer s H EL E hr hgd hp hE => ?_) run_first_state
  exact (dss_cons (ds_asg (de_var 0) (dg_tup rfl (dgs_cons (dg_name 1 nd) (dgs_cons (dg_name 2 nd) dgs_nil))))
    (dss_cons (ds_set 3 nd (de_mul (de_tup (da_cons (de_tup (da_cons de_int (da_cons de_int (da_cons de_int (da_cons de_non (da_cons (de_tup da_nil) da_nil)))))) da_nil)) (de_add de_int (de_len rfl nb.n_len (da_cons (de_var 2) da_nil)))))
    (dss_one (ds_ret (de_tup (da_cons de_int (da_cons de_int (da_cons (de_mul (de_tup (da_cons de_non da_nil)) (de_len rfl nb.n_len (da_cons (de_var 1) da_nil))) (da_cons (de_var 3) da_nil)))))))))
abbrev s_is_whole : Stmt := top 18
theorem sc_is_whole : FnScope N_is_whole ["thing"] (defScope s_is_whole) := ⟨rfl, rfl, rfl, by decide +kernel, rfl, by decide +kernel, by decide +kernel⟩
theorem ok_is_whole {P : Program} {w : World} {K : PySem.W.Frag} {mg : Str → Option Value} {base : Heap} (nb : Nb mg) (nc : Nc mg) (fd : Fd K)  (D0 : DefAt K mg "is_whole" s_is_whole ["thing"]) : CallOk P w K mg base 1 "is_whole" C_is_whole := by
  have nd : N_is_whole.Nodup := sc_is_whole.nd
  refine call_ok (T := T_is_whole) D0 sc_is_whole len_is_whole (fun f cdv A outer s H EL E hr hgd hp hE => ?_) run_is_whole
  exact (dss_one (ds_ret (de_and (de_isinst rfl nb.n_isinstance (da_cons (de_var 0) (da_cons (de_bltn (by rfl) nb.n_int (by decide +kernel)) da_nil))) (de_one (de_not (de_isinst rfl nb.n_isinstance (da_cons (de_var 0) (da_cons (de_bltn (by rfl) nb.n_bool (by decide +kernel)) da_nil))))))))
abbrev s_ended : Stmt := top 7
theorem sc_ended : FnScope N_ended ["mover", "what"] (defScope s_ended) := ⟨rfl, rfl, rfl, by decide +kernel, rfl, by decide +kernel, by decide +kernel⟩
theorem ok_ended {P : Program} {w : World} {K : PySem.W.Frag} {mg : Str → Option Value} {base : Heap} (nb : Nb mg) (nc : Nc mg) (fd : Fd K)  (D0 : DefAt K mg "ended" s_ended ["mover", "what"]) : CallOk P w K mg base 1 "ended" C_ended := by
  have nd : N_ended.Nodup := sc_ended.nd
  refine call_ok (T := T_ended) D0 sc_ended len_ended (fun f cdv A outer s H EL E hr hgd hp hE => ?_) run_ended
  exact (dss_one (ds_ret (de_tup (da_cons (de_add (de_ix (de_var 0) de_int) de_int) (da_cons de_int (da_cons de_int (da_cons de_non (da_cons (de_add (de_ix (de_var 0) de_int) (de_tup (da_cons (de_var 1) da_nil))) da_nil))))))))
abbrev s_attempt : Stmt := top 10
theorem sc_attempt : FnScope N_attempt ["rules", "state", "mover"] (defScope s_attempt) := ⟨rfl, rfl, rfl, by decide +kernel, rfl, by decide +kernel, by decide +kernel⟩
theorem ok_attempt {P : Program} {w : World} {K : PySem.W.Frag} {mg : Str → Option Value} {base : Heap} (nb : Nb mg) (nc : Nc mg) (fd : Fd K) (h_ended : CallOk P w K mg base 1 "ended" C_ended) (D0 : DefAt K mg "attempt" s_attempt ["rules", "state", "mover"]) : CallOk P w K mg base 2 "attempt" C_attempt := by
  have nd : N_attempt.Nodup := sc_attempt.nd
  refine call_ok (T := T_attempt) D0 sc_attempt len_attempt (fun f cdv A outer s H EL E hr hgd hp hE => ?_) run_attempt
  exact (dss_cons (ds_asg (de_var 1) (dg_tup rfl (dgs_cons (dg_name 3 nd) (dgs_cons (dg_name 4 nd) (dgs_cons (dg_name 5 nd) (dgs_cons (dg_name 6 nd) dgs_nil))))))
    (dss_cons (ds_asg (de_var 2) (dg_tup rfl (dgs_cons (dg_name 7 nd) (dgs_cons (dg_name 8 nd) (dgs_cons (dg_name 9 nd) (dgs_cons (dg_name 10 nd) (dgs_cons (dg_name 11 nd) dgs_nil)))))))
    (dss_cons (ds_if (dt_eq (u64 hr) (de_var 8) de_int) (dss_one (ds_ret (de_tup (da_cons (de_var 1) (da_cons (de_tup (da_cons (de_var 7) (da_cons de_int (da_cons (de_var 4) (da_cons de_non (da_cons (de_var 11) da_nil)))))) da_nil))))) dss_nil)
    (dss_cons (ds_if (DPW.dt (dw_and (dt_eq (u64 hr) (de_var 8) de_int) (dw_and1 (dt_le (de_var 3) (de_var 9))))) (dss_one (ds_ret (de_tup (da_cons (de_var 1) (da_cons (de_fn h_ended (hr.mono (by first | decide | omega)) hgd hE (da_cons (de_var 2) (da_cons de_non da_nil))) da_nil))))) dss_nil)
    (dss_cons (ds_if (dt_eq (u64 hr) (de_var 8) de_int) (dss_one (ds_ret (de_tup (da_cons (de_var 1) (da_cons (de_tup (da_cons (de_var 7) (da_cons de_int (da_cons (de_var 9) (da_cons de_non (da_cons (de_var 11) da_nil)))))) da_nil))))) dss_nil)
    (dss_cons (ds_if (dt_eq (u64 hr) (de_var 8) de_int) (dss_one (ds_ret (de_tup (da_cons (de_var 1) (da_cons (de_tup (da_cons (de_var 7) (da_cons de_int (da_cons (de_var 9) (da_cons (de_ix (de_var 5) (de_var 9)) (da_cons (de_var 11) da_nil)))))) da_nil))))) dss_nil)
    (dss_cons (ds_if (DPW.dt (dw_or (dt_eq (u64 hr) (de_var 4) (de_var 9)) (dw_or1 (dt_eq (u64 hr) (de_var 0) de_str)))) (dss_one (ds_ret (de_tup (da_cons (de_tup (da_cons (de_var 3) (da_cons (de_add (de_var 9) de_int) (da_cons (de_var 5) (da_cons (de_var 6) da_nil))))) (da_cons (de_fn h_ended (hr.mono (by first | decide | omega)) hgd hE (da_cons (de_var 2) (da_cons (de_var 10) da_nil))) da_nil))))) dss_nil)
    (dss_one (ds_ret (de_tup (da_cons (de_var 1) (da_cons (de_fn h_ended (hr.mono (by first | decide | omega)) hgd hE (da_cons (de_var 2) (da_cons de_str da_nil))) da_nil))))))))))))
abbrev s_lay : Stmt := top 8
theorem sc_lay : FnScope N_lay ["state", "mover", "thing"] (defScope s_lay) := ⟨rfl, rfl, rfl, by decide +kernel, rfl, by decide +kernel, by decide +kernel⟩
theorem ok_lay {P : Program} {w : World} {K : PySem.W.Frag} {mg : Str → Option Value} {base : Heap} (nb : Nb mg) (nc : Nc mg) (fd : Fd K)  (D0 : DefAt K mg "lay" s_lay ["state", "mover", "thing"]) : CallOk P w K mg base 1 "lay" C_lay := by
  have nd : N_lay.Nodup := sc_lay.nd
  refine call_ok (T := T_lay) D0 sc_lay len_lay (fun f cdv A outer s H EL E hr hgd hp hE => ?_) run_lay
  exact (dss_cons (ds_asg (de_var 0) (dg_tup rfl (dgs_cons (dg_name 3 nd) (dgs_cons (dg_name 4 nd) (dgs_cons (dg_name 5 nd) (dgs_cons (dg_name 6 nd) dgs_nil))))))
    (dss_cons (ds_if (dt_eq (u64 hr) (de_ix (de_var 1) de_int) de_int) (dss_one (ds_ret (de_tup (da_cons (de_tup (da_cons (de_var 3) (da_cons (de_var 4) (da_cons (de_add (de_add (de_slice (de_var 5) do_none (do_some (de_var 3))) (de_tup (da_cons (de_var 2) da_nil))) (de_slice (de_var 5) (do_some (de_add (de_var 3) de_int)) do_none)) (da_cons (de_var 6) da_nil))))) (da_cons (de_tup (da_cons (de_ix (de_var 1) de_int) (da_cons de_int (da_cons de_int (da_cons de_non (da_cons (de_ix (de_var 1) de_int) da_nil)))))) da_nil))))) dss_nil)
    (dss_one (ds_ret (de_tup (da_cons (de_tup (da_cons (de_add (de_var 3) de_int) (da_cons (de_var 4) (da_cons (de_var 5) (da_cons (de_var 6) da_nil))))) (da_cons (de_tup (da_cons (de_add (de_ix (de_var 1) de_int) de_int) (da_cons de_int (da_cons de_int (da_cons de_non (da_cons (de_ix (de_var 1) de_int) da_nil)))))) da_nil)))))))
abbrev s_take : Stmt := top 9
theorem sc_take : FnScope N_take ["rules", "state", "mover"] (defScope s_take) := ⟨rfl, rfl, rfl, by decide +kernel, rfl, by decide +kernel, by decide +kernel⟩
theorem ok_take {P : Program} {w : World} {K : PySem.W.Frag} {mg : Str → Option Value} {base : Heap} (nb : Nb mg) (nc : Nc mg) (fd : Fd K) (h_ended : CallOk P w K mg base 1 "ended" C_ended) (D0 : DefAt K mg "take" s_take ["rules", "state", "mover"]) : CallOk P w K mg base 2 "take" C_take := by
  have nd : N_take.Nodup := sc_take.nd
  refine call_ok (T := T_take) D0 sc_take len_take (fun f cdv A outer s H EL E hr hgd hp hE => ?_) run_take
  exact (dss_cons (ds_asg (de_var 1) (dg_tup rfl (dgs_cons (dg_name 3 nd) (dgs_cons (dg_name 4 nd) (dgs_cons (dg_name 5 nd) (dgs_cons (dg_name 6 nd) dgs_nil))))))
    (dss_cons (ds_asg (de_var 2) (dg_tup rfl (dgs_cons (dg_name 7 nd) (dgs_cons (dg_name 8 nd) (dgs_cons (dg_name 9 nd) (dgs_cons (dg_name 10 nd) (dgs_cons (dg_name 11 nd) dgs_nil)))))))
    (dss_cons (ds_if (dt_eq (u64 hr) (de_var 8) de_int) (dss_one (ds_ret (de_tup (da_cons (de_tup (da_cons (de_sub (de_var 3) de_int) (da_cons (de_var 4) (da_cons (de_var 5) (da_cons (de_var 6) da_nil))))) (da_cons (de_tup (da_cons (de_var 7) (da_cons de_int (da_cons de_int (da_cons de_non (da_cons (de_var 11) da_nil)))))) da_nil))))) dss_nil)
    (dss_cons (ds_if (dt_eq (u64 hr) (de_var 8) de_int) (dss_one (ds_ret (de_tup (da_cons (de_var 1) (da_cons (de_tup (da_cons (de_var 7) (da_cons de_int (da_cons (de_var 4) (da_cons de_non (da_cons (de_var 11) da_nil)))))) da_nil))))) dss_nil)
    (dss_cons (ds_if (DPW.dt (dw_and (dt_eq (u64 hr) (de_var 8) de_int) (dw_and1 (dt_lt (de_var 3) (de_var 9))))) (dss_one (ds_ret (de_tup (da_cons (de_tup (da_cons (de_var 9) (da_cons (de_var 4) (da_cons (de_var 5) (da_cons (de_var 6) da_nil))))) (da_cons (de_fn h_ended (hr.mono (by first | decide | omega)) hgd hE (da_cons (de_var 2) (da_cons de_non da_nil))) da_nil))))) dss_nil)
    (dss_cons (ds_if (DPW.dt (dw_and (dt_eq (u64 hr) (de_var 8) de_int) (dw_and1 (dt_gt (de_var 3) (de_var 9))))) (dss_one (ds_ret (de_tup (da_cons (de_var 1) (da_cons (de_fn h_ended (hr.mono (by first | decide | omega)) hgd hE (da_cons (de_var 2) (da_cons (de_ix (de_var 5) (de_var 3)) da_nil))) da_nil))))) dss_nil)
    (dss_cons (ds_if (dt_eq (u64 hr) (de_var 8) de_int) (dss_one (ds_ret (de_tup (da_cons (de_var 1) (da_cons (de_tup (da_cons (de_var 7) (da_cons (de_if (dt_eq (u64 hr) (de_var 0) de_str) de_int de_int) (da_cons (de_var 9) (da_cons (de_ix (de_var 5) (de_var 3)) (da_cons (de_var 11) da_nil)))))) da_nil))))) dss_nil)
    (dss_cons (ds_if (DPW.dt (dw_and (dt_eq (u64 hr) (de_var 8) de_int) (dw_and1 (dt_eq (u64 hr) (de_var 4) (de_var 9))))) (dss_one (ds_ret (de_tup (da_cons (de_tup (da_cons (de_var 3) (da_cons (de_add (de_var 4) de_int) (da_cons (de_var 5) (da_cons (de_var 6) da_nil))))) (da_cons (de_tup (da_cons (de_var 7) (da_cons de_int (da_cons (de_var 9) (da_cons (de_var 10) (da_cons (de_var 11) da_nil)))))) da_nil))))) dss_nil)
    (dss_cons (ds_if (dt_eq (u64 hr) (de_var 8) de_int) (dss_one (ds_ret (de_tup (da_cons (de_var 1) (da_cons (de_tup (da_cons (de_var 7) (da_cons de_int (da_cons (de_var 9) (da_cons de_non (da_cons (de_var 11) da_nil)))))) da_nil))))) dss_nil)
    (dss_one (ds_ret (de_tup (da_cons (de_tup (da_cons (de_add (de_var 9) de_int) (da_cons (de_var 4) (da_cons (de_var 5) (da_cons (de_var 6) da_nil))))) (da_cons (de_fn h_ended (hr.mono (by first | decide | omega)) hgd hE (da_cons (de_var 2) (da_cons (de_var 10) da_nil))) da_nil))))))))))))))
abbrev s_moved : Stmt := top 11
theorem sc_moved : FnScope N_moved ["play", "rules", "state", "who"] (defScope s_moved) := ⟨rfl, rfl, rfl, by decide +kernel, rfl, by decide +kernel, by decide +kernel⟩
theorem ok_moved {P : Program} {w : World} {K : PySem.W.Frag} {mg : Str → Option Value} {base : Heap} (nb : Nb mg) (nc : Nc mg) (fd : Fd K) (h_attempt : CallOk P w K mg base 2 "attempt" C_attempt) (h_lay : CallOk P w K mg base 1 "lay" C_lay) (h_take : CallOk P w K mg base 2 "take" C_take) (D0 : DefAt K mg "moved" s_moved ["play", "rules", "state", "who"]) : CallOk P w K mg base 3 "moved" C_moved := by
  have nd : N_moved.Nodup := sc_moved.nd
  refine call_ok (T := T_moved) D0 sc_moved len_moved (fun f cdv A outer s H EL E hr hgd hp hE => ?_) run_moved
  exact (dss_cons (ds_asg (de_var 0) (dg_tup rfl (dgs_cons (dg_name 4 nd) (dgs_cons (dg_name 5 nd) dgs_nil))))
    (dss_cons (ds_set 6 nd (de_ix (de_ix (de_var 2) de_int) (de_var 3)))
    (dss_cons (ds_if (dt_gt (de_var 3) de_int) (dss_cons (ds_if (dt_eq (u64 hr) (de_ix (de_var 6) de_int) (de_ix (de_var 5) (de_sub (de_var 3) de_int))) (dss_one (ds_ret de_non)) dss_nil)
    (dss_one (ds_asg (de_fn h_attempt (hr.mono (by first | decide | omega)) hgd hE (da_cons (de_var 1) (da_cons (de_var 2) (da_cons (de_var 6) da_nil)))) (dg_tup rfl (dgs_cons (dg_name 7 nd) (dgs_cons (dg_name 6 nd) dgs_nil)))))) (dss_one (ds_if (dt_eq (u64 hr) (de_ix (de_var 6) de_int) (de_len rfl nb.n_len (da_cons (de_var 4) da_nil))) (dss_one (ds_ret de_non)) (dss_one (ds_if (dt_eq (u64 hr) (de_ix (de_ix (de_var 4) (de_ix (de_var 6) de_int)) de_int) de_str) (dss_one (ds_asg (de_fn h_lay (hr.mono (by first | decide | omega)) hgd hE (da_cons (de_var 2) (da_cons (de_var 6) (da_cons (de_ix (de_ix (de_var 4) (de_ix (de_var 6) de_int)) de_int) da_nil)))) (dg_tup rfl (dgs_cons (dg_name 7 nd) (dgs_cons (dg_name 6 nd) dgs_nil))))) (dss_one (ds_asg (de_fn h_take (hr.mono (by first | decide | omega)) hgd hE (da_cons (de_var 1) (da_cons (de_var 2) (da_cons (de_var 6) da_nil)))) (dg_tup rfl (dgs_cons (dg_name 7 nd) (dgs_cons (dg_name 6 nd) dgs_nil))))))))))
    (dss_cons (ds_set 8 nd (de_ix (de_var 7) de_int))
    (dss_one (ds_ret (de_add (de_slice (de_var 7) do_none (do_some de_int)) (de_tup (da_cons (de_add (de_add (de_slice (de_var 8) do_none (do_some (de_var 3))) (de_tup (da_cons (de_var 6) da_nil))) (de_slice (de_var 8) (do_some (de_add (de_var 3) de_int)) do_none)) da_nil)))))))))
abbrev s_times_of : Stmt := top 20
theorem sc_times_of : FnScope N_times_of ["play", "weaving"] (defScope s_times_of) := ⟨rfl, rfl, rfl, by decide +kernel, rfl, by decide +kernel, by decide +kernel⟩
theorem ok_times_of {P : Program} {w : World} {K : PySem.W.Frag} {mg : Str → Option Value} {base : Heap} (nb : Nb mg) (nc : Nc mg) (fd : Fd K) (h_first_state : CallOk P w K mg base 1 "first_state" C_first_state) (h_is_whole : CallOk P w K mg base 1 "is_whole" C_is_whole) (h_moved : CallOk P w K mg base 3 "moved" C_moved) (D0 : DefAt K mg "times_of" s_times_of ["play", "weaving"]) : CallOk P w K mg base 4 "times_of" C_times_of := by
  have nd : N_times_of.Nodup := sc_times_of.nd
  refine call_ok (T := T_times_of) D0 sc_times_of len_times_of (fun f cdv A outer s H EL E hr hgd hp hE => ?_) run_times_of
  exact (dss_cons (ds_set 2 nd (de_fn h_first_state (hr.mono (by first | decide | omega)) hgd hE (da_cons (de_var 0) da_nil)))
    (dss_cons (ds_set 3 nd de_dicN)
    (dss_cons (ds_for hp rfl (di_range1 rfl nb.n_range (de_len rfl nb.n_len (da_cons (de_var 1) da_nil))) (dg_name 4 nd) (dss_cons (ds_set 5 nd (de_ix (de_var 1) (de_var 4)))
    (dss_cons (ds_if (DPW.dt (dw_or (dt_not (dt_tru (de_fn h_is_whole (hr.mono (by first | decide | omega)) hgd hE (da_cons (de_var 5) da_nil)))) (dw_or1 (dt_not (dt_lele de_int (de_var 5) (de_len rfl nb.n_len (da_cons (de_ix (de_var 0) de_int) da_nil))))))) (dss_one ds_never) dss_nil)
    (dss_cons (ds_set 6 nd (de_tup (da_cons (de_var 5) (da_cons (de_ix (de_ix (de_ix (de_var 2) de_int) (de_var 5)) de_int) da_nil))))
    (dss_cons (ds_set 2 nd (de_fn h_moved (hr.mono (by first | decide | omega)) hgd hE (da_cons (de_var 0) (da_cons de_str (da_cons (de_var 2) (da_cons (de_var 5) da_nil))))))
    (dss_cons (ds_if (dt_is (de_var 2) de_non) (dss_one ds_never) dss_nil)
    (dss_one (ds_dput (u64 hr) (de_var 3) (de_var 6) (de_tup (da_cons (de_ix (de_getm (u64 hr) (de_var 3) (da_cons (de_var 6) (da_cons (de_tup (da_cons (de_var 4) (da_cons (de_var 4) da_nil))) da_nil))) de_int) (da_cons (de_var 4) da_nil)))))))))))
    (dss_cons (ds_if (dt_ne (u64 hr) (de_lcN [("who", 5)] (bd_name 5) rfl nd (di_range1 rfl nb.n_range (de_add de_int (de_len rfl nb.n_len (da_cons (de_ix (de_var 0) de_int) da_nil)))) (blkOk_by (by show blkC N_times_of (defScope s_times_of) _ _ = true; decide +kernel)) (fun _ _ _ _ _ => pgN 5 nd) (fun _ _ _ _ _ => (dts_one (dt_isnot (de_fn h_moved (hr.mono (by first | decide | omega)) hgd passD_no (da_cons (de_var 0) (da_cons de_str (da_cons (de_var 2) (da_cons (de_var 5) da_nil))))) de_non))) (fun _ _ _ _ _ => (de_var 5))) (de_lst da_nil)) (dss_one ds_never) dss_nil)
    (dss_one (ds_ret (de_tup (da_cons (de_var 3) (da_cons (de_var 2) da_nil)))))))))
abbrev s_takes_ahead : Stmt := top 21
theorem sc_takes_ahead : FnScope N_takes_ahead ["play", "number"] (defScope s_takes_ahead) := ⟨rfl, rfl, rfl, by decide +kernel, rfl, by decide +kernel, by decide +kernel⟩
theorem ok_takes_ahead {P : Program} {w : World} {K : PySem.W.Frag} {mg : Str → Option Value} {base : Heap} (nb : Nb mg) (nc : Nc mg) (fd : Fd K)  (D0 : DefAt K mg "takes_ahead" s_takes_ahead ["play", "number"]) : CallOk P w K mg base 1 "takes_ahead" C_takes_ahead := by
  have nd : N_takes_ahead.Nodup := sc_takes_ahead.nd
  refine call_ok (T := T_takes_ahead) D0 sc_takes_ahead len_takes_ahead (fun f cdv A outer s H EL E hr hgd hp hE => ?_) run_takes_ahead
  exact (dss_one (ds_ret (de_len rfl nb.n_len (da_cons (de_lcN [("deed", 2)] (bd_name 2) rfl nd (di_seq (de_slice (de_ix (de_var 0) de_int) do_none (do_some (de_var 1)))) (blkOk_by (by show blkC N_takes_ahead (defScope s_takes_ahead) _ _ = true; decide +kernel)) (fun _ _ _ _ _ => pgN 2 nd) (fun _ _ _ _ _ => (dts_one (dt_eq (u64 hr) (de_ix (de_var 2) de_int) de_str))) (fun _ _ _ _ _ => (de_var 2))) da_nil))))
abbrev s_told_of : Stmt := top 22
theorem sc_told_of : FnScope N_told_of ["play", "state", "deed"] (defScope s_told_of) := ⟨rfl, rfl, rfl, by decide +kernel, rfl, by decide +kernel, by decide +kernel⟩
theorem ok_told_of {P : Program} {w : World} {K : PySem.W.Frag} {mg : Str → Option Value} {base : Heap} (nb : Nb mg) (nc : Nc mg) (fd : Fd K) (h_takes_ahead : CallOk P w K mg base 1 "takes_ahead" C_takes_ahead) (D0 : DefAt K mg "told_of" s_told_of ["play", "state", "deed"]) : CallOk P w K mg base 2 "told_of" C_told_of := by
  have nd : N_told_of.Nodup := sc_told_of.nd
  refine call_ok (T := T_told_of) D0 sc_told_of len_told_of (fun f cdv A outer s H EL E hr hgd hp hE => ?_) run_told_of
  exact (dss_cons (ds_asg (de_var 2) (dg_tup rfl (dgs_cons (dg_name 3 nd) (dgs_cons (dg_name 4 nd) dgs_nil))))
    (dss_cons (ds_if (dt_gt (de_var 3) de_int) (dss_one (ds_ret (de_tup (da_cons de_str (da_cons (de_ix (de_ix (de_ix (de_ix (de_var 1) de_int) (de_var 3)) de_int) (de_var 4)) da_nil))))) dss_nil)
    (dss_cons (ds_if (dt_eq (u64 hr) (de_ix (de_ix (de_ix (de_var 0) de_int) (de_var 4)) de_int) de_str) (dss_one (ds_ret (de_ix (de_ix (de_var 0) de_int) (de_var 4)))) dss_nil)
    (dss_one (ds_ret (de_tup (da_cons de_str (da_cons (de_ix (de_ix (de_ix (de_ix (de_var 1) de_int) de_int) de_int) (de_fn h_takes_ahead (hr.mono (by first | decide | omega)) hgd hE (da_cons (de_var 0) (da_cons (de_var 4) da_nil)))) da_nil))))))))
abbrev s_told_by : Stmt := top 12
theorem sc_told_by : FnScope N_told_by ["state"] (defScope s_told_by) := ⟨rfl, rfl, rfl, by decide +kernel, rfl, by decide +kernel, by decide +kernel⟩
theorem ok_told_by {P : Program} {w : World} {K : PySem.W.Frag} {mg : Str → Option Value} {base : Heap} (nb : Nb mg) (nc : Nc mg) (fd : Fd K)  (D0 : DefAt K mg "told_by" s_told_by ["state"]) : CallOk P w K mg base 1 "told_by" C_told_by := by
  have nd : N_told_by.Nodup := sc_told_by.nd
  refine call_ok (T := T_told_by) D0 sc_told_by len_told_by (fun f cdv A outer s H EL E hr hgd hp hE => ?_) run_told_by
  exact (dss_cons (ds_asg (de_var 0) (dg_tup rfl (dgs_cons (dg_name 1 nd) (dgs_cons (dg_name 2 nd) (dgs_cons (dg_name 3 nd) (dgs_cons (dg_name 4 nd) dgs_nil))))))
    (dss_one (ds_ret (de_tup (da_cons (de_lcN [("mover", 5)] (bd_name 5) rfl nd (di_seq (de_var 4)) (blkOk_by (by show blkC N_told_by (defScope s_told_by) _ _ = true; decide +kernel)) (fun _ _ _ _ _ => pgN 5 nd) (fun _ _ _ _ _ => dts_nil) (fun _ _ _ _ _ => (de_list rfl nb.n_list (da_cons (de_ix (de_var 5) de_int) da_nil)))) (da_cons (de_list rfl nb.n_list (da_cons (de_slice (de_var 3) (do_some (de_var 2)) (do_some (de_max rfl rfl nb.n_max (da_cons (de_var 2) (da_cons (de_var 1) da_nil))))) da_nil)) da_nil))))))
abbrev s_Seen___init__ : Stmt := inClass (top 24) 0
theorem sc_Seen___init__ : FnScope N_Seen___init__ ["self", "play", "weaving"] (defScope s_Seen___init__) := ⟨rfl, rfl, rfl, by decide +kernel, rfl, by decide +kernel, by decide +kernel⟩
theorem ok_Seen___init__ {P : Program} {w : World} {K : PySem.W.Frag} {mg : Str → Option Value} {base : Heap} (nb : Nb mg) (nc : Nc mg) (fd : Fd K) (h_times_of : CallOk P w K mg base 4 "times_of" C_times_of) (h_told_of : CallOk P w K mg base 2 "told_of" C_told_of) (h_told_by : CallOk P w K mg base 1 "told_by" C_told_by) (D0 : MakeAt K mg "Seen" "Seen.__init__" s_Seen___init__ ["self", "play", "weaving"]) : MakeOk P w K mg base 5 "Seen" C_Seen___init__ := by
  have nd : N_Seen___init__.Nodup := sc_Seen___init__.nd
  refine make_ok (T := T_Seen___init__) D0 sc_Seen___init__ len_Seen___init__ (fun f cdv A outer s H EL E hr hgd hp hE => ?_) run_Seen___init__
  exact (dss_cons (ds_asg (de_fn h_times_of (hr.mono (by first | decide | omega)) hgd hE (da_cons (de_var 1) (da_cons (de_var 2) da_nil))) (dg_tup rfl (dgs_cons (dg_fld fd.f_Seen_times (de_var 0)) (dgs_cons (dg_name 3 nd) dgs_nil))))
    (dss_cons (ds_fld fd.f_Seen_told (de_var 0) de_dicN)
    (dss_cons (ds_for hp rfl (di_dic (de_fld fd.f_Seen_times (de_var 0))) (dg_name 4 nd) (dss_cons (ds_set 5 nd (de_fn h_told_of (hr.mono (by first | decide | omega)) hgd hE (da_cons (de_var 1) (da_cons (de_var 3) (da_cons (de_var 4) da_nil)))))
    (dss_one (ds_if (dt_ne (u64 hr) (de_ix (de_var 5) de_int) de_str) (dss_one (ds_dput (u64 hr) (de_fld fd.f_Seen_told (de_var 0)) (de_var 4) (de_var 5))) dss_nil))))
    (dss_one (ds_fld fd.f_Seen_left (de_var 0) (de_ix (de_fn h_told_by (hr.mono (by first | decide | omega)) hgd hE (da_cons (de_var 3) da_nil)) de_int))))))
abbrev s_Seen_is_free : Stmt := inClass (top 24) 1
theorem sc_Seen_is_free : FnScope N_Seen_is_free ["self", "deed", "rest"] (defScope s_Seen_is_free) := ⟨rfl, rfl, rfl, by decide +kernel, rfl, by decide +kernel, by decide +kernel⟩
theorem ok_Seen_is_free {P : Program} {w : World} {K : PySem.W.Frag} {mg : Str → Option Value} {base : Heap} (nb : Nb mg) (nc : Nc mg) (fd : Fd K)  (D0 : MethAt K "Seen" "is_free" "Seen.is_free" s_Seen_is_free ["self", "deed", "rest"]) : MethOk P w K mg base 1 "Seen" "is_free" C_Seen_is_free := by
  have nd : N_Seen_is_free.Nodup := sc_Seen_is_free.nd
  refine meth_ok (T := T_Seen_is_free) D0 sc_Seen_is_free len_Seen_is_free (fun f cdv A outer s H EL E hr hgd hp hE => ?_) run_Seen_is_free
  exact (dss_one (ds_ret (de_all rfl rfl nb.n_all (da_cons (de_lcN [("other", 3)] (bd_name 3) rfl nd (di_seq (de_var 2)) (blkOk_by (by show blkC N_Seen_is_free (defScope s_Seen_is_free) _ _ = true; decide +kernel)) (fun _ _ _ _ _ => pgN 3 nd) (fun _ _ _ _ _ => dts_nil) (fun _ _ _ _ _ => (de_ge (de_ix (de_dget (u64 hr) (de_fld fd.f_Seen_times (de_var 0)) (de_var 3)) de_int) (de_ix (de_dget (u64 hr) (de_fld fd.f_Seen_times (de_var 0)) (de_var 1)) de_int)))) da_nil))))
abbrev s_done_whole : Stmt := top 23
theorem sc_done_whole : FnScope N_done_whole ["row", "word", "thing"] (defScope s_done_whole) := ⟨rfl, rfl, rfl, by decide +kernel, rfl, by decide +kernel, by decide +kernel⟩
theorem ok_done_whole {P : Program} {w : World} {K : PySem.W.Frag} {mg : Str → Option Value} {base : Heap} (nb : Nb mg) (nc : Nc mg) (fd : Fd K)  (D0 : DefAt K mg "done_whole" s_done_whole ["row", "word", "thing"]) : CallOk P w K mg base 1 "done_whole" C_done_whole := by
  have nd : N_done_whole.Nodup := sc_done_whole.nd
  refine call_ok (T := T_done_whole) D0 sc_done_whole len_done_whole (fun f cdv A outer s H EL E hr hgd hp hE => ?_) run_done_whole
  exact (dss_cons (ds_if (dt_eq (u64 hr) (de_var 1) de_str) (dss_one (ds_ret (de_add (de_var 0) (de_lst (da_cons (de_var 2) da_nil))))) dss_nil)
    (dss_cons (ds_if (dt_is (de_var 2) de_non) (dss_one (ds_ret (de_if (dt_eq (u64 hr) (de_var 0) (de_lst da_nil)) (de_var 0) de_non))) dss_nil)
    (dss_cons (ds_if (dt_eq (u64 hr) (de_var 0) (de_lst da_nil)) (dss_one (ds_ret de_non)) dss_nil)
    (dss_cons (ds_if (dt_eq (u64 hr) (de_var 1) de_str) (dss_one (ds_ret (de_if (dt_eq (u64 hr) (de_ix (de_var 0) (de_neg de_int)) (de_var 2)) (de_slice (de_var 0) do_none (do_some (de_neg de_int))) de_non))) dss_nil)
    (dss_one (ds_ret (de_if (dt_eq (u64 hr) (de_ix (de_var 0) de_int) (de_var 2)) (de_slice (de_var 0) (do_some de_int) do_none) de_non)))))))
abbrev s_Seen_order_of : Stmt := inClass (top 24) 2
theorem sc_Seen_order_of : FnScope N_Seen_order_of ["self", "done", "row"] (defScope s_Seen_order_of) := ⟨rfl, rfl, rfl, by decide +kernel, rfl, by decide +kernel, by decide +kernel⟩
theorem ok_Seen_order_of {P : Program} {w : World} {K : PySem.W.Frag} {mg : Str → Option Value} {base : Heap} (nb : Nb mg) (nc : Nc mg) (fd : Fd K) (h_Seen_is_free : MethOk P w K mg base 1 "Seen" "is_free" C_Seen_is_free) (h_done_whole : CallOk P w K mg base 1 "done_whole" C_done_whole) (D0 : MethAt K "Seen" "order_of" "Seen.order_of" s_Seen_order_of ["self", "done", "row"]) : ∀ n : Nat, MethOk P w K mg base (2 + n) "Seen" "order_of" (C_Seen_order_of n) := by
  have nd : N_Seen_order_of.Nodup := sc_Seen_order_of.nd
  intro n
  induction n with
  | zero => exact meth_none D0 none_Seen_order_of
  | succ n h_Seen_order_of =>
    refine meth_ok (k := 2 + n) (T := T_Seen_order_of n) D0 sc_Seen_order_of (len_Seen_order_of (n + 1)) (fun f cdv A outer s H EL E hr hgd hp hE => ?_) (run_Seen_order_of n)
    exact (dss_cons (ds_setLcN 3 [("deed", 4)] (bd_name 4) rfl nd (sw_true rfl rfl rfl (by decide +kernel)) (di_seq (de_sortedDic rfl rfl nb.n_sorted (da_cons (de_fld fd.f_Seen_told (de_var 0)) da_nil))) (blkOk_by (by show blkC N_Seen_order_of (defScope s_Seen_order_of) _ _ = true; decide +kernel)) (fun _ _ _ _ _ => pgN 4 nd) (fun _ _ _ _ _ => (dts_one (dt_notin (u65 hr) (de_var 4) (de_var 1)))) (fun _ _ _ _ _ => (de_var 4)))
    (dss_cons (ds_if (dt_eq (u64 hr) (de_var 3) (de_lst da_nil)) (dss_one (ds_ret (de_if (dt_eq (u64 hr) (de_var 2) (de_fld fd.f_Seen_left (de_var 0))) (de_var 1) de_non))) dss_nil)
    (dss_cons (ds_for hp rfl (di_seq (de_var 3)) (dg_name 4 nd) (dss_cons (ds_set 5 nd (de_if (dt_tru (de_meth h_Seen_is_free (hr.mono (by first | decide | omega)) hgd hE (de_var 0) (da_cons (de_var 4) (da_cons (de_var 3) da_nil)))) (de_fn h_done_whole (hr.mono (by first | decide | omega)) hgd hE (da_cons (de_var 2) (da_cons (de_ix (de_dget (u64 hr) (de_fld fd.f_Seen_told (de_var 0)) (de_var 4)) de_int) (da_cons (de_ix (de_dget (u64 hr) (de_fld fd.f_Seen_told (de_var 0)) (de_var 4)) de_int) da_nil)))) de_non))
    (dss_cons (ds_set 6 nd (de_if (dt_isnot (de_var 5) de_non) (de_meth h_Seen_order_of (hr.mono (by first | decide | omega)) hgd hE (de_var 0) (da_cons (de_add (de_var 1) (de_lst (da_cons (de_var 4) da_nil))) (da_cons (de_var 5) da_nil))) de_non))
    (dss_one (ds_if (dt_isnot (de_var 6) de_non) (dss_one (ds_ret (de_var 6))) dss_nil)))))
    (dss_one (ds_ret de_non)))))
abbrev s_seen_as : Stmt := top 25
theorem sc_seen_as : FnScope N_seen_as ["play", "weaving"] (defScope s_seen_as) := ⟨rfl, rfl, rfl, by decide +kernel, rfl, by decide +kernel, by decide +kernel⟩
theorem ok_seen_as {P : Program} {w : World} {K : PySem.W.Frag} {mg : Str → Option Value} {base : Heap} (nb : Nb mg) (nc : Nc mg) (fd : Fd K) (h_need_size : CallOk P w K mg base 1 "need_size" C_need_size) (h_Seen___init__ : MakeOk P w K mg base 5 "Seen" C_Seen___init__) (h_Seen_order_of : MethOk P w K mg base 11 "Seen" "order_of" (C_Seen_order_of 9)) (D0 : DefAt K mg "seen_as" s_seen_as ["play", "weaving"]) : CallOk P w K mg base 12 "seen_as" C_seen_as := by
  have nd : N_seen_as.Nodup := sc_seen_as.nd
  refine call_ok (T := T_seen_as) D0 sc_seen_as len_seen_as (fun f cdv A outer s H EL E hr hgd hp hE => ?_) run_seen_as
  exact (dss_cons (ds_expr (de_fn h_need_size (hr.mono (by first | decide | omega)) hgd hE (da_cons (de_var 0) da_nil)))
    (dss_one (ds_ret (de_meth h_Seen_order_of (hr.mono (by first | decide | omega)) hgd hE (de_make h_Seen___init__ (hr.mono (by first | decide | omega)) hgd hE (da_cons (de_var 0) (da_cons (de_var 1) da_nil))) (da_cons (de_lst da_nil) (da_cons (de_lst da_nil) da_nil))))))
abbrev s_law_spans : Stmt := top 36
theorem sc_law_spans : FnScope N_law_spans ["play", "weaving"] (defScope s_law_spans) := ⟨rfl, rfl, rfl, by decide +kernel, rfl, by decide +kernel, by decide +kernel⟩
theorem ok_law_spans {P : Program} {w : World} {K : PySem.W.Frag} {mg : Str → Option Value} {base : Heap} (nb : Nb mg) (nc : Nc mg) (fd : Fd K) (h_law_first : CallOk P w K mg base 1 "_law_first" C_law_first) (h_law_small_step : CallOk P w K mg base 2 "_law_small_step" C_law_small_step) (D0 : DefAt K mg "_law_spans" s_law_spans ["play", "weaving"]) : CallOk P w K mg base 3 "_law_spans" C_law_spans := by
  have nd : N_law_spans.Nodup := sc_law_spans.nd
  refine call_ok (T := T_law_spans) D0 sc_law_spans len_law_spans (fun f cdv A outer s H EL E hr hgd hp hE => ?_) run_law_spans
  exact (dss_cons (ds_set 2 nd (de_fn h_law_first (hr.mono (by first | decide | omega)) hgd hE (da_cons (de_var 0) da_nil)))
    (dss_cons (ds_set 3 nd de_dicN)
    (dss_cons (ds_for hp rfl (di_enumerate rfl nb.n_enumerate (da_cons (de_var 1) da_nil)) (dg_tup rfl (dgs_cons (dg_name 4 nd) (dgs_cons (dg_name 5 nd) dgs_nil))) (dss_cons (ds_set 6 nd (de_tup (da_cons (de_var 5) (da_cons (de_ix (de_ix (de_ix (de_var 2) de_int) (de_var 5)) de_int) da_nil))))
    (dss_cons (ds_dput (u64 hr) (de_var 3) (de_var 6) (de_lst (da_cons (de_ix (de_getm (u64 hr) (de_var 3) (da_cons (de_var 6) (da_cons (de_lst (da_cons (de_var 4) da_nil)) da_nil))) de_int) (da_cons (de_var 4) da_nil))))
    (dss_one (ds_set 2 nd (de_fn h_law_small_step (hr.mono (by first | decide | omega)) hgd hE (da_cons (de_var 0) (da_cons de_str (da_cons (de_var 2) (da_cons (de_var 5) da_nil))))))))))
    (dss_one (ds_ret (de_tup (da_cons (de_var 3) (da_cons (de_var 2) da_nil))))))))
abbrev s_law_tellings : Stmt := top 37
theorem sc_law_tellings : FnScope N_law_tellings ["play", "state"] (defScope s_law_tellings) := ⟨rfl, rfl, rfl, by decide +kernel, rfl, by decide +kernel, by decide +kernel⟩
theorem ok_law_tellings {P : Program} {w : World} {K : PySem.W.Frag} {mg : Str → Option Value} {base : Heap} (nb : Nb mg) (nc : Nc mg) (fd : Fd K)  (D0 : DefAt K mg "_law_tellings" s_law_tellings ["play", "state"]) : CallOk P w K mg base 1 "_law_tellings" C_law_tellings := by
  have nd : N_law_tellings.Nodup := sc_law_tellings.nd
  refine call_ok (T := T_law_tellings) D0 sc_law_tellings len_law_tellings (fun f cdv A outer s H EL E hr hgd hp hE => ?_) run_law_tellings
  exact (dss_cons (ds_set 2 nd de_dicN)
    (dss_cons (ds_set 3 nd de_int)
    (dss_cons (ds_for hp rfl (di_enumerate rfl nb.n_enumerate (da_cons (de_ix (de_var 0) de_int) da_nil)) (dg_tup rfl (dgs_cons (dg_name 4 nd) (dgs_cons (dg_name 5 nd) dgs_nil))) (dss_cons (ds_dput (u64 hr) (de_var 2) (de_tup (da_cons de_int (da_cons (de_var 4) da_nil))) (de_var 5))
    (dss_one (ds_if (dt_eq (u64 hr) (de_ix (de_var 5) de_int) de_str) (dss_cons (ds_dput (u64 hr) (de_var 2) (de_tup (da_cons de_int (da_cons (de_var 4) da_nil))) (de_tup (da_cons de_str (da_cons (de_ix (de_ix (de_ix (de_ix (de_var 1) de_int) de_int) de_int) (de_var 3)) da_nil))))
    (dss_one (ds_set 3 nd (de_add (de_var 3) de_int)))) dss_nil))))
    (dss_cons (ds_for hp rfl (di_range2 rfl nb.n_range de_int (de_len rfl nb.n_len (da_cons (de_ix (de_var 1) de_int) da_nil))) (dg_name 6 nd) (dss_one (ds_for hp rfl (di_enumerate rfl nb.n_enumerate (da_cons (de_ix (de_ix (de_ix (de_var 1) de_int) (de_var 6)) de_int) da_nil)) (dg_tup rfl (dgs_cons (dg_name 4 nd) (dgs_cons (dg_name 7 nd) dgs_nil))) (dss_one (ds_if (dt_ne (u64 hr) (de_var 7) de_str) (dss_one (ds_dput (u64 hr) (de_var 2) (de_tup (da_cons (de_var 6) (da_cons (de_var 4) da_nil))) (de_tup (da_cons de_str (da_cons (de_var 7) da_nil))))) dss_nil)))))
    (dss_one (ds_ret (de_var 2)))))))
abbrev s_law_row_behind : Stmt := top 38
theorem sc_law_row_behind : FnScope N_law_row_behind ["row", "telling"] (defScope s_law_row_behind) := ⟨rfl, rfl, rfl, by decide +kernel, rfl, by decide +kernel, by decide +kernel⟩
theorem ok_law_row_behind {P : Program} {w : World} {K : PySem.W.Frag} {mg : Str → Option Value} {base : Heap} (nb : Nb mg) (nc : Nc mg) (fd : Fd K)  (D0 : DefAt K mg "_law_row_behind" s_law_row_behind ["row", "telling"]) : CallOk P w K mg base 1 "_law_row_behind" C_law_row_behind := by
  have nd : N_law_row_behind.Nodup := sc_law_row_behind.nd
  refine call_ok (T := T_law_row_behind) D0 sc_law_row_behind len_law_row_behind (fun f cdv A outer s H EL E hr hgd hp hE => ?_) run_law_row_behind
  exact (dss_cons (ds_asg (de_var 1) (dg_tup rfl (dgs_cons (dg_name 2 nd) (dgs_cons (dg_name 3 nd) dgs_nil))))
    (dss_cons (ds_if (dt_eq (u64 hr) (de_var 2) de_str) (dss_one (ds_ret (de_add (de_var 0) (de_lst (da_cons (de_var 3) da_nil))))) dss_nil)
    (dss_cons (ds_if (dt_is (de_var 3) de_non) (dss_one (ds_ret (de_ix (de_lst (da_cons de_non (da_cons (de_var 0) da_nil))) (de_intOf rfl nb.n_int (da_cons (de_eq (u64 hr) (de_var 0) (de_lst da_nil)) da_nil))))) dss_nil)
    (dss_cons (ds_set 4 nd (de_ix (de_lst (da_cons (de_neg de_int) (da_cons de_int da_nil))) (de_intOf rfl nb.n_int (da_cons (de_eq (u64 hr) (de_var 2) de_str) da_nil))))
    (dss_cons (ds_if (DPW.dt (dw_or (dt_eq (u64 hr) (de_var 0) (de_lst da_nil)) (dw_or1 (dt_ne (u64 hr) (de_ix (de_var 0) (de_var 4)) (de_var 3))))) (dss_one (ds_ret de_non)) dss_nil)
    (dss_one (ds_ret (de_ix (de_lst (da_cons (de_slice (de_var 0) do_none (do_some (de_neg de_int))) (da_cons (de_slice (de_var 0) (do_some de_int) do_none) da_nil))) (de_intOf rfl nb.n_int (da_cons (de_eq (u64 hr) (de_var 2) de_str) da_nil))))))))))
abbrev s_law_told_by : Stmt := top 34
theorem sc_law_told_by : FnScope N_law_told_by ["state"] (defScope s_law_told_by) := ⟨rfl, rfl, rfl, by decide +kernel, rfl, by decide +kernel, by decide +kernel⟩
theorem ok_law_told_by {P : Program} {w : World} {K : PySem.W.Frag} {mg : Str → Option Value} {base : Heap} (nb : Nb mg) (nc : Nc mg) (fd : Fd K)  (D0 : DefAt K mg "_law_told_by" s_law_told_by ["state"]) : CallOk P w K mg base 1 "_law_told_by" C_law_told_by := by
  have nd : N_law_told_by.Nodup := sc_law_told_by.nd
  refine call_ok (T := T_law_told_by) D0 sc_law_told_by len_law_told_by (fun f cdv A outer s H EL E hr hgd hp hE => ?_) run_law_told_by
  exact (dss_cons (ds_asg (de_var 0) (dg_tup rfl (dgs_cons (dg_name 1 nd) (dgs_cons (dg_name 2 nd) (dgs_cons (dg_name 3 nd) (dgs_cons (dg_name 4 nd) dgs_nil))))))
    (dss_one (ds_ret (de_tup (da_cons (de_lcN [("part", 5)] (bd_name 5) rfl nd (di_seq (de_var 4)) (blkOk_by (by show blkC N_law_told_by (defScope s_law_told_by) _ _ = true; decide +kernel)) (fun _ _ _ _ _ => pgN 5 nd) (fun _ _ _ _ _ => dts_nil) (fun _ _ _ _ _ => (de_list rfl nb.n_list (da_cons (de_ix (de_var 5) de_int) da_nil)))) (da_cons (de_list rfl nb.n_list (da_cons (de_slice (de_var 3) (do_some (de_var 2)) (do_some (de_max rfl rfl nb.n_max (da_cons (de_var 1) (da_cons (de_var 2) da_nil))))) da_nil)) da_nil))))))
abbrev s_law_seen_due : Stmt := top 39
theorem sc_law_seen_due : FnScope N_law_seen_due ["play", "weaving", "thing"] (defScope s_law_seen_due) := ⟨rfl, rfl, rfl, by decide +kernel, rfl, by decide +kernel, by decide +kernel⟩
theorem ok_law_seen_due {P : Program} {w : World} {K : PySem.W.Frag} {mg : Str → Option Value} {base : Heap} (nb : Nb mg) (nc : Nc mg) (fd : Fd K) (h_law_spans : CallOk P w K mg base 3 "_law_spans" C_law_spans) (h_law_tellings : CallOk P w K mg base 1 "_law_tellings" C_law_tellings) (h_law_row_behind : CallOk P w K mg base 1 "_law_row_behind" C_law_row_behind) (h_law_told_by : CallOk P w K mg base 1 "_law_told_by" C_law_told_by) (D0 : DefAt K mg "_law_seen_due" s_law_seen_due ["play", "weaving", "thing"]) : CallOk P w K mg base 4 "_law_seen_due" C_law_seen_due := by
  have nd : N_law_seen_due.Nodup := sc_law_seen_due.nd
  refine call_ok (T := T_law_seen_due) D0 sc_law_seen_due len_law_seen_due (fun f cdv A outer s H EL E hr hgd hp hE => ?_) run_law_seen_due
  exact (dss_cons (ds_asg (de_fn h_law_spans (hr.mono (by first | decide | omega)) hgd hE (da_cons (de_var 0) (da_cons (de_var 1) da_nil))) (dg_tup rfl (dgs_cons (dg_name 3 nd) (dgs_cons (dg_name 4 nd) dgs_nil))))
    (dss_cons (ds_set 5 nd (de_fn h_law_tellings (hr.mono (by first | decide | omega)) hgd hE (da_cons (de_var 0) (da_cons (de_var 4) da_nil))))
    (dss_cons (ds_if (dt_not (dt_tru (de_isinst rfl nb.n_isinstance (da_cons (de_var 2) (da_cons (de_bltn (by rfl) nb.n_list (by decide +kernel)) da_nil))))) (dss_one (ds_ret de_bl)) dss_nil)
    (dss_cons (ds_for hp rfl (di_seq (de_var 2)) (dg_name 6 nd) (dss_cons (ds_if (DPW.dt (dw_or (dt_not (dt_tru (de_isinst rfl nb.n_isinstance (da_cons (de_var 6) (da_cons (de_bltn (by rfl) nb.n_tuple (by decide +kernel)) da_nil))))) (dw_or1 (dt_ne (u64 hr) (de_len rfl nb.n_len (da_cons (de_var 6) da_nil)) de_int)))) (dss_one (ds_ret de_bl)) dss_nil)
    (dss_one (ds_if (dt_in (u65 hr) de_bl (de_lcN [("part", 7)] (bd_name 7) rfl nd (di_seq (de_var 6)) (blkOk_by (by show blkC N_law_seen_due (defScope s_law_seen_due) _ _ = true; decide +kernel)) (fun _ _ _ _ _ => pgN 7 nd) (fun _ _ _ _ _ => dts_nil) (fun _ _ _ _ _ => (de_or (de_isinst rfl nb.n_isinstance (da_cons (de_var 7) (da_cons (de_bltn (by rfl) nb.n_bool (by decide +kernel)) da_nil))) (de_one (de_not (de_isinst rfl nb.n_isinstance (da_cons (de_var 7) (da_cons (de_bltn (by rfl) nb.n_int (by decide +kernel)) da_nil))))))))) (dss_one (ds_ret de_bl)) dss_nil))))
    (dss_cons (ds_if (dt_ne (u64 hr) (de_sortedP rfl nb.n_sorted (da_cons (de_var 2) da_nil)) (de_sortedDic rfl rfl nb.n_sorted (da_cons (de_var 5) da_nil))) (dss_one (ds_ret de_bl)) dss_nil)
    (dss_cons (ds_set 8 nd (de_lst da_nil))
    (dss_cons (ds_for hp rfl (di_enumerate rfl nb.n_enumerate (da_cons (de_var 2) da_nil)) (dg_tup rfl (dgs_cons (dg_name 9 nd) (dgs_cons (dg_name 6 nd) dgs_nil))) (dss_cons (ds_setLcN 10 [("other", 11)] (bd_name 11) rfl nd (sw_true rfl rfl rfl (by decide +kernel)) (di_seq (de_slice (de_var 2) (do_some (de_add (de_var 9) de_int)) do_none)) (blkOk_by (by show blkC N_law_seen_due (defScope s_law_seen_due) _ _ = true; decide +kernel)) (fun _ _ _ _ _ => pgN 11 nd) (fun _ _ _ _ _ => (dts_one (dt_lt (de_ix (de_dget (u64 hr) (de_var 3) (de_var 11)) de_int) (de_ix (de_dget (u64 hr) (de_var 3) (de_var 6)) de_int)))) (fun _ _ _ _ _ => (de_var 11)))
    (dss_cons (ds_if (dt_ne (u64 hr) (de_var 10) (de_lst da_nil)) (dss_one (ds_ret de_bl)) dss_nil)
    (dss_cons (ds_set 8 nd (de_fn h_law_row_behind (hr.mono (by first | decide | omega)) hgd hE (da_cons (de_var 8) (da_cons (de_dget (u64 hr) (de_var 5) (de_var 6)) da_nil))))
    (dss_one (ds_if (dt_is (de_var 8) de_non) (dss_one (ds_ret de_bl)) dss_nil))))))
    (dss_one (ds_ret (de_eq (u64 hr) (de_var 8) (de_ix (de_fn h_law_told_by (hr.mono (by first | decide | omega)) hgd hE (da_cons (de_var 4) da_nil)) de_int)))))))))))
abbrev s_law : Stmt := top 42
theorem sc_law : FnScope N_law ["script"] (defScope s_law) := ⟨rfl, rfl, rfl, by decide +kernel, rfl, by decide +kernel, by decide +kernel⟩
theorem all_mk {l : PySem.W.OpenLaw} {w : World} {K : PySem.W.Frag} {h : Heap} {mg : Str → Option Value} {fa : Addr} {f1 f2 f3 f4 f5 f6 f7 f8 f9 f10 f11 f12 f13 f14 f15 f16 f17 f18 f19 f20 f21 f22 f23 f24 f25 f26 f27 f28 f29 f30 f31 f32 f33 C_Seen : Addr} (X : K.In h) (G : h.Ns mainGlobals mg) (hfa : mg "law" = some (.ref fa))
    (A_Seen : PySem.W.nsIn K mainGlobals "Seen" = some (some (.ref C_Seen))) (pg_Seen : PySem.W.plainGet K C_Seen Str.empty = true) (hd_Seen : PySem.W.hasDictIn K C_Seen = true) (po_Seen : PySem.W.plainOver K C_Seen = true) (sa_Seen : PySem.W.findIn K (.ref C_Seen) "__setattr__" = some (some (.builtin "object.__setattr__"))) (mk_Seen : PySem.W.makesIn K C_Seen = true) (kc_Seen : PySem.W.keepIn K (.ref C_Seen) = true)
    (nF_Seen_left : PySem.W.findIn K (.ref C_Seen) "left" = some none)
    (nF_Seen_times : PySem.W.findIn K (.ref C_Seen) "times" = some none)
    (nF_Seen_told : PySem.W.findIn K (.ref C_Seen) "told" = some none)
    {od1 an1 : Option Addr} {sl1 : Array (Option Value)} {oc1 kV1 dc1 pm1 cd1 ct1 : Value}
    (a1 : PySem.W.nsIn K mainGlobals "_law_mix" = some (some (.ref f1)))
    (l1 : K.lookup f1 = some ⟨oc1, od1, .func (PySem.W.fnOf "_law_mix" "_law_mix" (defArgs s_law_mix) (defBody s_law_mix) (defScope s_law_mix) .none kV1 dc1 pm1 an1 cd1 ct1), sl1⟩) (c1 : PySem.W.codeIn K cd1 "_law_mix" = true) (k1 : PySem.W.keepIn K (.ref f1) = true)
    {od2 an2 : Option Addr} {sl2 : Array (Option Value)} {oc2 kV2 dc2 pm2 cd2 ct2 : Value}
    (a2 : PySem.W.nsIn K mainGlobals "_law_digits" = some (some (.ref f2)))
    (l2 : K.lookup f2 = some ⟨oc2, od2, .func (PySem.W.fnOf "_law_digits" "_law_digits" (defArgs s_law_digits) (defBody s_law_digits) (defScope s_law_digits) .none kV2 dc2 pm2 an2 cd2 ct2), sl2⟩) (c2 : PySem.W.codeIn K cd2 "_law_digits" = true) (k2 : PySem.W.keepIn K (.ref f2) = true)
    {od3 an3 : Option Addr} {sl3 : Array (Option Value)} {oc3 kV3 dc3 pm3 cd3 ct3 : Value}
    (a3 : PySem.W.nsIn K mainGlobals "_law_at" = some (some (.ref f3)))
    (l3 : K.lookup f3 = some ⟨oc3, od3, .func (PySem.W.fnOf "_law_at" "_law_at" (defArgs s_law_at) (defBody s_law_at) (defScope s_law_at) .none kV3 dc3 pm3 an3 cd3 ct3), sl3⟩) (c3 : PySem.W.codeIn K cd3 "_law_at" = true) (k3 : PySem.W.keepIn K (.ref f3) = true)
    {od4 an4 : Option Addr} {sl4 : Array (Option Value)} {oc4 kV4 dc4 pm4 cd4 ct4 : Value}
    (a4 : PySem.W.nsIn K mainGlobals "_law_play" = some (some (.ref f4)))
    (l4 : K.lookup f4 = some ⟨oc4, od4, .func (PySem.W.fnOf "_law_play" "_law_play" (defArgs s_law_play) (defBody s_law_play) (defScope s_law_play) .none kV4 dc4 pm4 an4 cd4 ct4), sl4⟩) (c4 : PySem.W.codeIn K cd4 "_law_play" = true) (k4 : PySem.W.keepIn K (.ref f4) = true)
    {od5 an5 : Option Addr} {sl5 : Array (Option Value)} {oc5 kV5 dc5 pm5 cd5 ct5 : Value}
    (a5 : PySem.W.nsIn K mainGlobals "_law_great_play" = some (some (.ref f5)))
    (l5 : K.lookup f5 = some ⟨oc5, od5, .func (PySem.W.fnOf "_law_great_play" "_law_great_play" (defArgs s_law_great_play) (defBody s_law_great_play) (defScope s_law_great_play) .none kV5 dc5 pm5 an5 cd5 ct5), sl5⟩) (c5 : PySem.W.codeIn K cd5 "_law_great_play" = true) (k5 : PySem.W.keepIn K (.ref f5) = true)
    {od6 an6 : Option Addr} {sl6 : Array (Option Value)} {oc6 kV6 dc6 pm6 cd6 ct6 : Value}
    (a6 : PySem.W.nsIn K mainGlobals "_law_first" = some (some (.ref f6)))
    (l6 : K.lookup f6 = some ⟨oc6, od6, .func (PySem.W.fnOf "_law_first" "_law_first" (defArgs s_law_first) (defBody s_law_first) (defScope s_law_first) .none kV6 dc6 pm6 an6 cd6 ct6), sl6⟩) (c6 : PySem.W.codeIn K cd6 "_law_first" = true) (k6 : PySem.W.keepIn K (.ref f6) = true)
    {od7 an7 : Option Addr} {sl7 : Array (Option Value)} {oc7 kV7 dc7 pm7 cd7 ct7 : Value}
    (a7 : PySem.W.nsIn K mainGlobals "_law_try_part" = some (some (.ref f7)))
    (l7 : K.lookup f7 = some ⟨oc7, od7, .func (PySem.W.fnOf "_law_try_part" "_law_try_part" (defArgs s_law_try_part) (defBody s_law_try_part) (defScope s_law_try_part) .none kV7 dc7 pm7 an7 cd7 ct7), sl7⟩) (c7 : PySem.W.codeIn K cd7 "_law_try_part" = true) (k7 : PySem.W.keepIn K (.ref f7) = true)
    {od8 an8 : Option Addr} {sl8 : Array (Option Value)} {oc8 kV8 dc8 pm8 cd8 ct8 : Value}
    (a8 : PySem.W.nsIn K mainGlobals "_law_take_part" = some (some (.ref f8)))
    (l8 : K.lookup f8 = some ⟨oc8, od8, .func (PySem.W.fnOf "_law_take_part" "_law_take_part" (defArgs s_law_take_part) (defBody s_law_take_part) (defScope s_law_take_part) .none kV8 dc8 pm8 an8 cd8 ct8), sl8⟩) (c8 : PySem.W.codeIn K cd8 "_law_take_part" = true) (k8 : PySem.W.keepIn K (.ref f8) = true)
    {od9 an9 : Option Addr} {sl9 : Array (Option Value)} {oc9 kV9 dc9 pm9 cd9 ct9 : Value}
    (a9 : PySem.W.nsIn K mainGlobals "_law_small_step" = some (some (.ref f9)))
    (l9 : K.lookup f9 = some ⟨oc9, od9, .func (PySem.W.fnOf "_law_small_step" "_law_small_step" (defArgs s_law_small_step) (defBody s_law_small_step) (defScope s_law_small_step) .none kV9 dc9 pm9 an9 cd9 ct9), sl9⟩) (c9 : PySem.W.codeIn K cd9 "_law_small_step" = true) (k9 : PySem.W.keepIn K (.ref f9) = true)
    {od10 an10 : Option Addr} {sl10 : Array (Option Value)} {oc10 kV10 dc10 pm10 cd10 ct10 : Value}
    (a10 : PySem.W.nsIn K mainGlobals "_law_to_end" = some (some (.ref f10)))
    (l10 : K.lookup f10 = some ⟨oc10, od10, .func (PySem.W.fnOf "_law_to_end" "_law_to_end" (defArgs s_law_to_end) (defBody s_law_to_end) (defScope s_law_to_end) .none kV10 dc10 pm10 an10 cd10 ct10), sl10⟩) (c10 : PySem.W.codeIn K cd10 "_law_to_end" = true) (k10 : PySem.W.keepIn K (.ref f10) = true)
    {od11 an11 : Option Addr} {sl11 : Array (Option Value)} {oc11 kV11 dc11 pm11 cd11 ct11 : Value}
    (a11 : PySem.W.nsIn K mainGlobals "need_size" = some (some (.ref f11)))
    (l11 : K.lookup f11 = some ⟨oc11, od11, .func (PySem.W.fnOf "need_size" "need_size" (defArgs s_need_size) (defBody s_need_size) (defScope s_need_size) .none kV11 dc11 pm11 an11 cd11 ct11), sl11⟩) (c11 : PySem.W.codeIn K cd11 "need_size" = true) (k11 : PySem.W.keepIn K (.ref f11) = true)
    {od12 an12 : Option Addr} {sl12 : Array (Option Value)} {oc12 kV12 dc12 pm12 cd12 ct12 : Value}
    (a12 : PySem.W.nsIn K mainGlobals "first_state" = some (some (.ref f12)))
    (l12 : K.lookup f12 = some ⟨oc12, od12, .func (PySem.W.fnOf "first_state" "first_state" (defArgs s_first_state) (defBody s_first_state) (defScope s_first_state) .none kV12 dc12 pm12 an12 cd12 ct12), sl12⟩) (c12 : PySem.W.codeIn K cd12 "first_state" = true) (k12 : PySem.W.keepIn K (.ref f12) = true)
    {od13 an13 : Option Addr} {sl13 : Array (Option Value)} {oc13 kV13 dc13 pm13 cd13 ct13 : Value}
    (a13 : PySem.W.nsIn K mainGlobals "is_whole" = some (some (.ref f13)))
    (l13 : K.lookup f13 = some ⟨oc13, od13, .func (PySem.W.fnOf "is_whole" "is_whole" (defArgs s_is_whole) (defBody s_is_whole) (defScope s_is_whole) .none kV13 dc13 pm13 an13 cd13 ct13), sl13⟩) (c13 : PySem.W.codeIn K cd13 "is_whole" = true) (k13 : PySem.W.keepIn K (.ref f13) = true)
    {od14 an14 : Option Addr} {sl14 : Array (Option Value)} {oc14 kV14 dc14 pm14 cd14 ct14 : Value}
    (a14 : PySem.W.nsIn K mainGlobals "ended" = some (some (.ref f14)))
    (l14 : K.lookup f14 = some ⟨oc14, od14, .func (PySem.W.fnOf "ended" "ended" (defArgs s_ended) (defBody s_ended) (defScope s_ended) .none kV14 dc14 pm14 an14 cd14 ct14), sl14⟩) (c14 : PySem.W.codeIn K cd14 "ended" = true) (k14 : PySem.W.keepIn K (.ref f14) = true)
    {od15 an15 : Option Addr} {sl15 : Array (Option Value)} {oc15 kV15 dc15 pm15 cd15 ct15 : Value}
    (a15 : PySem.W.nsIn K mainGlobals "attempt" = some (some (.ref f15)))
    (l15 : K.lookup f15 = some ⟨oc15, od15, .func (PySem.W.fnOf "attempt" "attempt" (defArgs s_attempt) (defBody s_attempt) (defScope s_attempt) .none kV15 dc15 pm15 an15 cd15 ct15), sl15⟩) (c15 : PySem.W.codeIn K cd15 "attempt" = true) (k15 : PySem.W.keepIn K (.ref f15) = true)
    {od16 an16 : Option Addr} {sl16 : Array (Option Value)} {oc16 kV16 dc16 pm16 cd16 ct16 : Value}
    (a16 : PySem.W.nsIn K mainGlobals "lay" = some (some (.ref f16)))
    (l16 : K.lookup f16 = some ⟨oc16, od16, .func (PySem.W.fnOf "lay" "lay" (defArgs s_lay) (defBody s_lay) (defScope s_lay) .none kV16 dc16 pm16 an16 cd16 ct16), sl16⟩) (c16 : PySem.W.codeIn K cd16 "lay" = true) (k16 : PySem.W.keepIn K (.ref f16) = true)
    {od17 an17 : Option Addr} {sl17 : Array (Option Value)} {oc17 kV17 dc17 pm17 cd17 ct17 : Value}
    (a17 : PySem.W.nsIn K mainGlobals "take" = some (some (.ref f17)))
    (l17 : K.lookup f17 = some ⟨oc17, od17, .func (PySem.W.fnOf "take" "take" (defArgs s_take) (defBody s_take) (defScope s_take) .none kV17 dc17 pm17 an17 cd17 ct17), sl17⟩) (c17 : PySem.W.codeIn K cd17 "take" = true) (k17 : PySem.W.keepIn K (.ref f17) = true)
    {od18 an18 : Option Addr} {sl18 : Array (Option Value)} {oc18 kV18 dc18 pm18 cd18 ct18 : Value}
    (a18 : PySem.W.nsIn K mainGlobals "moved" = some (some (.ref f18)))
    (l18 : K.lookup f18 = some ⟨oc18, od18, .func (PySem.W.fnOf "moved" "moved" (defArgs s_moved) (defBody s_moved) (defScope s_moved) .none kV18 dc18 pm18 an18 cd18 ct18), sl18⟩) (c18 : PySem.W.codeIn K cd18 "moved" = true) (k18 : PySem.W.keepIn K (.ref f18) = true)
    {od19 an19 : Option Addr} {sl19 : Array (Option Value)} {oc19 kV19 dc19 pm19 cd19 ct19 : Value}
    (a19 : PySem.W.nsIn K mainGlobals "times_of" = some (some (.ref f19)))
    (l19 : K.lookup f19 = some ⟨oc19, od19, .func (PySem.W.fnOf "times_of" "times_of" (defArgs s_times_of) (defBody s_times_of) (defScope s_times_of) .none kV19 dc19 pm19 an19 cd19 ct19), sl19⟩) (c19 : PySem.W.codeIn K cd19 "times_of" = true) (k19 : PySem.W.keepIn K (.ref f19) = true)
    {od20 an20 : Option Addr} {sl20 : Array (Option Value)} {oc20 kV20 dc20 pm20 cd20 ct20 : Value}
    (a20 : PySem.W.nsIn K mainGlobals "takes_ahead" = some (some (.ref f20)))
    (l20 : K.lookup f20 = some ⟨oc20, od20, .func (PySem.W.fnOf "takes_ahead" "takes_ahead" (defArgs s_takes_ahead) (defBody s_takes_ahead) (defScope s_takes_ahead) .none kV20 dc20 pm20 an20 cd20 ct20), sl20⟩) (c20 : PySem.W.codeIn K cd20 "takes_ahead" = true) (k20 : PySem.W.keepIn K (.ref f20) = true)
    {od21 an21 : Option Addr} {sl21 : Array (Option Value)} {oc21 kV21 dc21 pm21 cd21 ct21 : Value}
    (a21 : PySem.W.nsIn K mainGlobals "told_of" = some (some (.ref f21)))
    (l21 : K.lookup f21 = some ⟨oc21, od21, .func (PySem.W.fnOf "told_of" "told_of" (defArgs s_told_of) (defBody s_told_of) (defScope s_told_of) .none kV21 dc21 pm21 an21 cd21 ct21), sl21⟩) (c21 : PySem.W.codeIn K cd21 "told_of" = true) (k21 : PySem.W.keepIn K (.ref f21) = true)
    {od22 an22 : Option Addr} {sl22 : Array (Option Value)} {oc22 kV22 dc22 pm22 cd22 ct22 : Value}
    (a22 : PySem.W.nsIn K mainGlobals "told_by" = some (some (.ref f22)))
    (l22 : K.lookup f22 = some ⟨oc22, od22, .func (PySem.W.fnOf "told_by" "told_by" (defArgs s_told_by) (defBody s_told_by) (defScope s_told_by) .none kV22 dc22 pm22 an22 cd22 ct22), sl22⟩) (c22 : PySem.W.codeIn K cd22 "told_by" = true) (k22 : PySem.W.keepIn K (.ref f22) = true)
    {od23 an23 : Option Addr} {sl23 : Array (Option Value)} {oc23 kV23 dc23 pm23 cd23 ct23 : Value}
    (a23 : PySem.W.findIn K (.ref C_Seen) "__init__" = some (some (.ref f23))) (i23 : PySem.W.isFn K (.ref f23) = true)
    (l23 : K.lookup f23 = some ⟨oc23, od23, .func (PySem.W.fnOf "__init__" "Seen.__init__" (defArgs s_Seen___init__) (defBody s_Seen___init__) (defScope s_Seen___init__) .none kV23 dc23 pm23 an23 cd23 ct23), sl23⟩) (c23 : PySem.W.codeIn K cd23 "Seen.__init__" = true) (k23 : PySem.W.keepIn K (.ref f23) = true)
    {od24 an24 : Option Addr} {sl24 : Array (Option Value)} {oc24 kV24 dc24 pm24 cd24 ct24 : Value}
    (a24 : PySem.W.findIn K (.ref C_Seen) "is_free" = some (some (.ref f24))) (i24 : PySem.W.isFn K (.ref f24) = true)
    (l24 : K.lookup f24 = some ⟨oc24, od24, .func (PySem.W.fnOf "is_free" "Seen.is_free" (defArgs s_Seen_is_free) (defBody s_Seen_is_free) (defScope s_Seen_is_free) .none kV24 dc24 pm24 an24 cd24 ct24), sl24⟩) (c24 : PySem.W.codeIn K cd24 "Seen.is_free" = true) (k24 : PySem.W.keepIn K (.ref f24) = true)
    {od25 an25 : Option Addr} {sl25 : Array (Option Value)} {oc25 kV25 dc25 pm25 cd25 ct25 : Value}
    (a25 : PySem.W.nsIn K mainGlobals "done_whole" = some (some (.ref f25)))
    (l25 : K.lookup f25 = some ⟨oc25, od25, .func (PySem.W.fnOf "done_whole" "done_whole" (defArgs s_done_whole) (defBody s_done_whole) (defScope s_done_whole) .none kV25 dc25 pm25 an25 cd25 ct25), sl25⟩) (c25 : PySem.W.codeIn K cd25 "done_whole" = true) (k25 : PySem.W.keepIn K (.ref f25) = true)
    {od26 an26 : Option Addr} {sl26 : Array (Option Value)} {oc26 kV26 dc26 pm26 cd26 ct26 : Value}
    (a26 : PySem.W.findIn K (.ref C_Seen) "order_of" = some (some (.ref f26))) (i26 : PySem.W.isFn K (.ref f26) = true)
    (l26 : K.lookup f26 = some ⟨oc26, od26, .func (PySem.W.fnOf "order_of" "Seen.order_of" (defArgs s_Seen_order_of) (defBody s_Seen_order_of) (defScope s_Seen_order_of) .none kV26 dc26 pm26 an26 cd26 ct26), sl26⟩) (c26 : PySem.W.codeIn K cd26 "Seen.order_of" = true) (k26 : PySem.W.keepIn K (.ref f26) = true)
    {od27 an27 : Option Addr} {sl27 : Array (Option Value)} {oc27 kV27 dc27 pm27 cd27 ct27 : Value}
    (a27 : PySem.W.nsIn K mainGlobals "seen_as" = some (some (.ref f27)))
    (l27 : K.lookup f27 = some ⟨oc27, od27, .func (PySem.W.fnOf "seen_as" "seen_as" (defArgs s_seen_as) (defBody s_seen_as) (defScope s_seen_as) .none kV27 dc27 pm27 an27 cd27 ct27), sl27⟩) (c27 : PySem.W.codeIn K cd27 "seen_as" = true) (k27 : PySem.W.keepIn K (.ref f27) = true)
    {od28 an28 : Option Addr} {sl28 : Array (Option Value)} {oc28 kV28 dc28 pm28 cd28 ct28 : Value}
    (a28 : PySem.W.nsIn K mainGlobals "_law_spans" = some (some (.ref f28)))
    (l28 : K.lookup f28 = some ⟨oc28, od28, .func (PySem.W.fnOf "_law_spans" "_law_spans" (defArgs s_law_spans) (defBody s_law_spans) (defScope s_law_spans) .none kV28 dc28 pm28 an28 cd28 ct28), sl28⟩) (c28 : PySem.W.codeIn K cd28 "_law_spans" = true) (k28 : PySem.W.keepIn K (.ref f28) = true)
    {od29 an29 : Option Addr} {sl29 : Array (Option Value)} {oc29 kV29 dc29 pm29 cd29 ct29 : Value}
    (a29 : PySem.W.nsIn K mainGlobals "_law_tellings" = some (some (.ref f29)))
    (l29 : K.lookup f29 = some ⟨oc29, od29, .func (PySem.W.fnOf "_law_tellings" "_law_tellings" (defArgs s_law_tellings) (defBody s_law_tellings) (defScope s_law_tellings) .none kV29 dc29 pm29 an29 cd29 ct29), sl29⟩) (c29 : PySem.W.codeIn K cd29 "_law_tellings" = true) (k29 : PySem.W.keepIn K (.ref f29) = true)
    {od30 an30 : Option Addr} {sl30 : Array (Option Value)} {oc30 kV30 dc30 pm30 cd30 ct30 : Value}
    (a30 : PySem.W.nsIn K mainGlobals "_law_row_behind" = some (some (.ref f30)))
    (l30 : K.lookup f30 = some ⟨oc30, od30, .func (PySem.W.fnOf "_law_row_behind" "_law_row_behind" (defArgs s_law_row_behind) (defBody s_law_row_behind) (defScope s_law_row_behind) .none kV30 dc30 pm30 an30 cd30 ct30), sl30⟩) (c30 : PySem.W.codeIn K cd30 "_law_row_behind" = true) (k30 : PySem.W.keepIn K (.ref f30) = true)
    {od31 an31 : Option Addr} {sl31 : Array (Option Value)} {oc31 kV31 dc31 pm31 cd31 ct31 : Value}
    (a31 : PySem.W.nsIn K mainGlobals "_law_told_by" = some (some (.ref f31)))
    (l31 : K.lookup f31 = some ⟨oc31, od31, .func (PySem.W.fnOf "_law_told_by" "_law_told_by" (defArgs s_law_told_by) (defBody s_law_told_by) (defScope s_law_told_by) .none kV31 dc31 pm31 an31 cd31 ct31), sl31⟩) (c31 : PySem.W.codeIn K cd31 "_law_told_by" = true) (k31 : PySem.W.keepIn K (.ref f31) = true)
    {od32 an32 : Option Addr} {sl32 : Array (Option Value)} {oc32 kV32 dc32 pm32 cd32 ct32 : Value}
    (a32 : PySem.W.nsIn K mainGlobals "_law_seen_due" = some (some (.ref f32)))
    (l32 : K.lookup f32 = some ⟨oc32, od32, .func (PySem.W.fnOf "_law_seen_due" "_law_seen_due" (defArgs s_law_seen_due) (defBody s_law_seen_due) (defScope s_law_seen_due) .none kV32 dc32 pm32 an32 cd32 ct32), sl32⟩) (c32 : PySem.W.codeIn K cd32 "_law_seen_due" = true) (k32 : PySem.W.keepIn K (.ref f32) = true)
    {od33 an33 : Option Addr} {sl33 : Array (Option Value)} {oc33 kV33 dc33 pm33 cd33 ct33 : Value}
    (a33 : PySem.W.nsIn K mainGlobals "law" = some (some (.ref f33)))
    (l33 : K.lookup f33 = some ⟨oc33, od33, .func (PySem.W.fnOf "law" "law" (defArgs s_law) (defBody s_law) (defScope s_law) .none kV33 dc33 pm33 an33 cd33 ct33), sl33⟩) (c33 : PySem.W.codeIn K cd33 "law" = true) (k33 : PySem.W.keepIn K (.ref f33) = true)
    (z_abs : PySem.W.nsIn K mainGlobals "abs" = some none)
    (z_all : PySem.W.nsIn K mainGlobals "all" = some none)
    (z_bool : PySem.W.nsIn K mainGlobals "bool" = some none)
    (z_enumerate : PySem.W.nsIn K mainGlobals "enumerate" = some none)
    (z_int : PySem.W.nsIn K mainGlobals "int" = some none)
    (z_isinstance : PySem.W.nsIn K mainGlobals "isinstance" = some none)
    (z_len : PySem.W.nsIn K mainGlobals "len" = some none)
    (z_list : PySem.W.nsIn K mainGlobals "list" = some none)
    (z_max : PySem.W.nsIn K mainGlobals "max" = some none)
    (z_range : PySem.W.nsIn K mainGlobals "range" = some none)
    (z_sorted : PySem.W.nsIn K mainGlobals "sorted" = some none)
    (z_sum : PySem.W.nsIn K mainGlobals "sum" = some none)
    (z_tuple : PySem.W.nsIn K mainGlobals "tuple" = some none)
    {t_MOST_DEEDS : Tok} (zc_MOST_DEEDS : PySem.W.nsIn K mainGlobals "MOST_DEEDS" = some (some (.int 4 t_MOST_DEEDS)))
    {t_MOST_TRIES : Tok} (zc_MOST_TRIES : PySem.W.nsIn K mainGlobals "MOST_TRIES" = some (some (.int 3 t_MOST_TRIES))) :
    ∃ fd : FuncData, (∀ (s : Shared) (v : Value), BindsTo s fd ⟨[v], []⟩ [("script", v)]) ∧ ∀ base : Heap, K.In base → base.Ns mainGlobals mg → FK l.prog w K mg base 13 fa fd ["script"] (spOf K (spLaw 63)) := by
  have nb : Nb mg := ⟨PySem.W.mg_none_of X G z_abs, PySem.W.mg_none_of X G z_all, PySem.W.mg_none_of X G z_bool, PySem.W.mg_none_of X G z_enumerate, PySem.W.mg_none_of X G z_int, PySem.W.mg_none_of X G z_isinstance, PySem.W.mg_none_of X G z_len, PySem.W.mg_none_of X G z_list, PySem.W.mg_none_of X G z_max, PySem.W.mg_none_of X G z_range, PySem.W.mg_none_of X G z_sorted, PySem.W.mg_none_of X G z_sum, PySem.W.mg_none_of X G z_tuple⟩
  have nc : Nc mg := ⟨⟨_, PySem.W.mg_of X G zc_MOST_DEEDS⟩, ⟨_, PySem.W.mg_of X G zc_MOST_TRIES⟩⟩
  have T_Seen : Cls K C_Seen := ⟨pg_Seen, hd_Seen, po_Seen, sa_Seen⟩
  have fd : Fd K := ⟨⟨_, A_Seen, T_Seen, nF_Seen_left⟩, ⟨_, A_Seen, T_Seen, nF_Seen_times⟩, ⟨_, A_Seen, T_Seen, nF_Seen_told⟩⟩
  have F1 : Fun K "_law_mix" "_law_mix" s_law_mix f1 _ := fun_mk (st := s_law_mix) l1 c1 k1
  have b1 := F1.binds (ps := ["cell", "k"]) fun _ _ _ _ _ _ us hl => match us, hl with | [_, _], _ => rfl
  have D1 : DefAt K mg "_law_mix" s_law_mix ["cell", "k"] := ⟨_, _, F1, PySem.W.mg_of X G a1, b1⟩
  have F2 : Fun K "_law_digits" "_law_digits" s_law_digits f2 _ := fun_mk (st := s_law_digits) l2 c2 k2
  have b2 := F2.binds (ps := ["cell", "many"]) fun _ _ _ _ _ _ us hl => match us, hl with | [_, _], _ => rfl
  have D2 : DefAt K mg "_law_digits" s_law_digits ["cell", "many"] := ⟨_, _, F2, PySem.W.mg_of X G a2, b2⟩
  have F3 : Fun K "_law_at" "_law_at" s_law_at f3 _ := fun_mk (st := s_law_at) l3 c3 k3
  have b3 := F3.binds (ps := ["script", "k"]) fun _ _ _ _ _ _ us hl => match us, hl with | [_, _], _ => rfl
  have D3 : DefAt K mg "_law_at" s_law_at ["script", "k"] := ⟨_, _, F3, PySem.W.mg_of X G a3, b3⟩
  have F4 : Fun K "_law_play" "_law_play" s_law_play f4 _ := fun_mk (st := s_law_play) l4 c4 k4
  have b4 := F4.binds (ps := ["some", "most", "tries"]) fun _ _ _ _ _ _ us hl => match us, hl with | [_, _, _], _ => rfl
  have D4 : DefAt K mg "_law_play" s_law_play ["some", "most", "tries"] := ⟨_, _, F4, PySem.W.mg_of X G a4, b4⟩
  have F5 : Fun K "_law_great_play" "_law_great_play" s_law_great_play f5 _ := fun_mk (st := s_law_great_play) l5 c5 k5
  have b5 := F5.binds (ps := ["some"]) fun _ _ _ _ _ _ us hl => match us, hl with | [_], _ => rfl
  have D5 : DefAt K mg "_law_great_play" s_law_great_play ["some"] := ⟨_, _, F5, PySem.W.mg_of X G a5, b5⟩
  have F6 : Fun K "_law_first" "_law_first" s_law_first f6 _ := fun_mk (st := s_law_first) l6 c6 k6
  have b6 := F6.binds (ps := ["play"]) fun _ _ _ _ _ _ us hl => match us, hl with | [_], _ => rfl
  have D6 : DefAt K mg "_law_first" s_law_first ["play"] := ⟨_, _, F6, PySem.W.mg_of X G a6, b6⟩
  have F7 : Fun K "_law_try_part" "_law_try_part" s_law_try_part f7 _ := fun_mk (st := s_law_try_part) l7 c7 k7
  have b7 := F7.binds (ps := ["rules", "near", "far", "box", "part"]) fun _ _ _ _ _ _ us hl => match us, hl with | [_, _, _, _, _], _ => rfl
  have D7 : DefAt K mg "_law_try_part" s_law_try_part ["rules", "near", "far", "box", "part"] := ⟨_, _, F7, PySem.W.mg_of X G a7, b7⟩
  have F8 : Fun K "_law_take_part" "_law_take_part" s_law_take_part f8 _ := fun_mk (st := s_law_take_part) l8 c8 k8
  have b8 := F8.binds (ps := ["rules", "near", "far", "box", "part"]) fun _ _ _ _ _ _ us hl => match us, hl with | [_, _, _, _, _], _ => rfl
  have D8 : DefAt K mg "_law_take_part" s_law_take_part ["rules", "near", "far", "box", "part"] := ⟨_, _, F8, PySem.W.mg_of X G a8, b8⟩
  have F9 : Fun K "_law_small_step" "_law_small_step" s_law_small_step f9 _ := fun_mk (st := s_law_small_step) l9 c9 k9
  have b9 := F9.binds (ps := ["play", "rules", "state", "who"]) fun _ _ _ _ _ _ us hl => match us, hl with | [_, _, _, _], _ => rfl
  have D9 : DefAt K mg "_law_small_step" s_law_small_step ["play", "rules", "state", "who"] := ⟨_, _, F9, PySem.W.mg_of X G a9, b9⟩
  have F10 : Fun K "_law_to_end" "_law_to_end" s_law_to_end f10 _ := fun_mk (st := s_law_to_end) l10 c10 k10
  have b10 := F10.binds (ps := ["play", "some"]) fun _ _ _ _ _ _ us hl => match us, hl with | [_, _], _ => rfl
  have D10 : DefAt K mg "_law_to_end" s_law_to_end ["play", "some"] := ⟨_, _, F10, PySem.W.mg_of X G a10, b10⟩
  have F11 : Fun K "need_size" "need_size" s_need_size f11 _ := fun_mk (st := s_need_size) l11 c11 k11
  have b11 := F11.binds (ps := ["play"]) fun _ _ _ _ _ _ us hl => match us, hl with | [_], _ => rfl
  have D11 : DefAt K mg "need_size" s_need_size ["play"] := ⟨_, _, F11, PySem.W.mg_of X G a11, b11⟩
  have F12 : Fun K "first_state" "first_state" s_first_state f12 _ := fun_mk (st := s_first_state) l12 c12 k12
  have b12 := F12.binds (ps := ["play"]) fun _ _ _ _ _ _ us hl => match us, hl with | [_], _ => rfl
  have D12 : DefAt K mg "first_state" s_first_state ["play"] := ⟨_, _, F12, PySem.W.mg_of X G a12, b12⟩
  have F13 : Fun K "is_whole" "is_whole" s_is_whole f13 _ := fun_mk (st := s_is_whole) l13 c13 k13
  have b13 := F13.binds (ps := ["thing"]) fun _ _ _ _ _ _ us hl => match us, hl with | [_], _ => rfl
  have D13 : DefAt K mg "is_whole" s_is_whole ["thing"] := ⟨_, _, F13, PySem.W.mg_of X G a13, b13⟩
  have F14 : Fun K "ended" "ended" s_ended f14 _ := fun_mk (st := s_ended) l14 c14 k14
  have b14 := F14.binds (ps := ["mover", "what"]) fun _ _ _ _ _ _ us hl => match us, hl with | [_, _], _ => rfl
  have D14 : DefAt K mg "ended" s_ended ["mover", "what"] := ⟨_, _, F14, PySem.W.mg_of X G a14, b14⟩
  have F15 : Fun K "attempt" "attempt" s_attempt f15 _ := fun_mk (st := s_attempt) l15 c15 k15
  have b15 := F15.binds (ps := ["rules", "state", "mover"]) fun _ _ _ _ _ _ us hl => match us, hl with | [_, _, _], _ => rfl
  have D15 : DefAt K mg "attempt" s_attempt ["rules", "state", "mover"] := ⟨_, _, F15, PySem.W.mg_of X G a15, b15⟩
  have F16 : Fun K "lay" "lay" s_lay f16 _ := fun_mk (st := s_lay) l16 c16 k16
  have b16 := F16.binds (ps := ["state", "mover", "thing"]) fun _ _ _ _ _ _ us hl => match us, hl with | [_, _, _], _ => rfl
  have D16 : DefAt K mg "lay" s_lay ["state", "mover", "thing"] := ⟨_, _, F16, PySem.W.mg_of X G a16, b16⟩
  have F17 : Fun K "take" "take" s_take f17 _ := fun_mk (st := s_take) l17 c17 k17
  have b17 := F17.binds (ps := ["rules", "state", "mover"]) fun _ _ _ _ _ _ us hl => match us, hl with | [_, _, _], _ => rfl
  have D17 : DefAt K mg "take" s_take ["rules", "state", "mover"] := ⟨_, _, F17, PySem.W.mg_of X G a17, b17⟩
  have F18 : Fun K "moved" "moved" s_moved f18 _ := fun_mk (st := s_moved) l18 c18 k18
  have b18 := F18.binds (ps := ["play", "rules", "state", "who"]) fun _ _ _ _ _ _ us hl => match us, hl with | [_, _, _, _], _ => rfl
  have D18 : DefAt K mg "moved" s_moved ["play", "rules", "state", "who"] := ⟨_, _, F18, PySem.W.mg_of X G a18, b18⟩
  have F19 : Fun K "times_of" "times_of" s_times_of f19 _ := fun_mk (st := s_times_of) l19 c19 k19
  have b19 := F19.binds (ps := ["play", "weaving"]) fun _ _ _ _ _ _ us hl => match us, hl with | [_, _], _ => rfl
  have D19 : DefAt K mg "times_of" s_times_of ["play", "weaving"] := ⟨_, _, F19, PySem.W.mg_of X G a19, b19⟩
  have F20 : Fun K "takes_ahead" "takes_ahead" s_takes_ahead f20 _ := fun_mk (st := s_takes_ahead) l20 c20 k20
  have b20 := F20.binds (ps := ["play", "number"]) fun _ _ _ _ _ _ us hl => match us, hl with | [_, _], _ => rfl
  have D20 : DefAt K mg "takes_ahead" s_takes_ahead ["play", "number"] := ⟨_, _, F20, PySem.W.mg_of X G a20, b20⟩
  have F21 : Fun K "told_of" "told_of" s_told_of f21 _ := fun_mk (st := s_told_of) l21 c21 k21
  have b21 := F21.binds (ps := ["play", "state", "deed"]) fun _ _ _ _ _ _ us hl => match us, hl with | [_, _, _], _ => rfl
  have D21 : DefAt K mg "told_of" s_told_of ["play", "state", "deed"] := ⟨_, _, F21, PySem.W.mg_of X G a21, b21⟩
  have F22 : Fun K "told_by" "told_by" s_told_by f22 _ := fun_mk (st := s_told_by) l22 c22 k22
  have b22 := F22.binds (ps := ["state"]) fun _ _ _ _ _ _ us hl => match us, hl with | [_], _ => rfl
  have D22 : DefAt K mg "told_by" s_told_by ["state"] := ⟨_, _, F22, PySem.W.mg_of X G a22, b22⟩
  have F23 : Fun K "__init__" "Seen.__init__" s_Seen___init__ f23 _ := fun_mk (st := s_Seen___init__) l23 c23 k23
  have b23 := F23.binds (ps := ["self", "play", "weaving"]) fun _ _ _ _ _ _ us hl => match us, hl with | [_, _, _], _ => rfl
  have D23 : MakeAt K mg "Seen" "Seen.__init__" s_Seen___init__ ["self", "play", "weaving"] := ⟨_, _, _, A_Seen, PySem.W.mg_of X G A_Seen, ⟨mk_Seen, a23, i23, kc_Seen⟩, F23, b23⟩
  have F24 : Fun K "is_free" "Seen.is_free" s_Seen_is_free f24 _ := fun_mk (st := s_Seen_is_free) l24 c24 k24
  have b24 := F24.binds (ps := ["self", "deed", "rest"]) fun _ _ _ _ _ _ us hl => match us, hl with | [_, _, _], _ => rfl
  have D24 : MethAt K "Seen" "is_free" "Seen.is_free" s_Seen_is_free ["self", "deed", "rest"] := ⟨_, _, _, A_Seen, T_Seen, ⟨a24, i24, k24⟩, F24, b24⟩
  have F25 : Fun K "done_whole" "done_whole" s_done_whole f25 _ := fun_mk (st := s_done_whole) l25 c25 k25
  have b25 := F25.binds (ps := ["row", "word", "thing"]) fun _ _ _ _ _ _ us hl => match us, hl with | [_, _, _], _ => rfl
  have D25 : DefAt K mg "done_whole" s_done_whole ["row", "word", "thing"] := ⟨_, _, F25, PySem.W.mg_of X G a25, b25⟩
  have F26 : Fun K "order_of" "Seen.order_of" s_Seen_order_of f26 _ := fun_mk (st := s_Seen_order_of) l26 c26 k26
  have b26 := F26.binds (ps := ["self", "done", "row"]) fun _ _ _ _ _ _ us hl => match us, hl with | [_, _, _], _ => rfl
  have D26 : MethAt K "Seen" "order_of" "Seen.order_of" s_Seen_order_of ["self", "done", "row"] := ⟨_, _, _, A_Seen, T_Seen, ⟨a26, i26, k26⟩, F26, b26⟩
  have F27 : Fun K "seen_as" "seen_as" s_seen_as f27 _ := fun_mk (st := s_seen_as) l27 c27 k27
  have b27 := F27.binds (ps := ["play", "weaving"]) fun _ _ _ _ _ _ us hl => match us, hl with | [_, _], _ => rfl
  have D27 : DefAt K mg "seen_as" s_seen_as ["play", "weaving"] := ⟨_, _, F27, PySem.W.mg_of X G a27, b27⟩
  have F28 : Fun K "_law_spans" "_law_spans" s_law_spans f28 _ := fun_mk (st := s_law_spans) l28 c28 k28
  have b28 := F28.binds (ps := ["play", "weaving"]) fun _ _ _ _ _ _ us hl => match us, hl with | [_, _], _ => rfl
  have D28 : DefAt K mg "_law_spans" s_law_spans ["play", "weaving"] := ⟨_, _, F28, PySem.W.mg_of X G a28, b28⟩
  have F29 : Fun K "_law_tellings" "_law_tellings" s_law_tellings f29 _ := fun_mk (st := s_law_tellings) l29 c29 k29
  have b29 := F29.binds (ps := ["play", "state"]) fun _ _ _ _ _ _ us hl => match us, hl with | [_, _], _ => rfl
  have D29 : DefAt K mg "_law_tellings" s_law_tellings ["play", "state"] := ⟨_, _, F29, PySem.W.mg_of X G a29, b29⟩
  have F30 : Fun K "_law_row_behind" "_law_row_behind" s_law_row_behind f30 _ := fun_mk (st := s_law_row_behind) l30 c30 k30
  have b30 := F30.binds (ps := ["row", "telling"]) fun _ _ _ _ _ _ us hl => match us, hl with | [_, _], _ => rfl
  have D30 : DefAt K mg "_law_row_behind" s_law_row_behind ["row", "telling"] := ⟨_, _, F30, PySem.W.mg_of X G a30, b30⟩
  have F31 : Fun K "_law_told_by" "_law_told_by" s_law_told_by f31 _ := fun_mk (st := s_law_told_by) l31 c31 k31
  have b31 := F31.binds (ps := ["state"]) fun _ _ _ _ _ _ us hl => match us, hl with | [_], _ => rfl
  have D31 : DefAt K mg "_law_told_by" s_law_told_by ["state"] := ⟨_, _, F31, PySem.W.mg_of X G a31, b31⟩
  have F32 : Fun K "_law_seen_due" "_law_seen_due" s_law_seen_due f32 _ := fun_mk (st := s_law_seen_due) l32 c32 k32
  have b32 := F32.binds (ps := ["play", "weaving", "thing"]) fun _ _ _ _ _ _ us hl => match us, hl with | [_, _, _], _ => rfl
  have D32 : DefAt K mg "_law_seen_due" s_law_seen_due ["play", "weaving", "thing"] := ⟨_, _, F32, PySem.W.mg_of X G a32, b32⟩
  have F33 : Fun K "law" "law" s_law f33 _ := fun_mk (st := s_law) l33 c33 k33
  have b33 := F33.binds (ps := ["script"]) fun _ _ _ _ _ _ us hl => match us, hl with | [_], _ => rfl
  have D33 : DefAt K mg "law" s_law ["script"] := ⟨_, _, F33, PySem.W.mg_of X G a33, b33⟩
  have e := hfa.symm.trans (PySem.W.mg_of X G a33)
  cases e
  refine ⟨PySem.W.fnOf "law" "law" (defArgs s_law) (defBody s_law) (defScope s_law) .none kV33 dc33 pm33 an33 cd33 ct33, fun s v => .of_eq rfl, fun base _ _ => ?_⟩
  have h_law_mix : CallOk l.prog w K mg base 1 "_law_mix" C_law_mix := ok_law_mix nb nc fd  D1
  have h_law_digits : CallOk l.prog w K mg base 2 "_law_digits" C_law_digits := ok_law_digits nb nc fd h_law_mix D2
  have h_law_at : CallOk l.prog w K mg base 1 "_law_at" C_law_at := ok_law_at nb nc fd  D3
  have h_law_play : CallOk l.prog w K mg base 1 "_law_play" C_law_play := ok_law_play nb nc fd  D4
  have h_law_great_play : CallOk l.prog w K mg base 2 "_law_great_play" C_law_great_play := ok_law_great_play nb nc fd h_law_play D5
  have h_law_first : CallOk l.prog w K mg base 1 "_law_first" C_law_first := ok_law_first nb nc fd  D6
  have h_law_try_part : CallOk l.prog w K mg base 1 "_law_try_part" C_law_try_part := ok_law_try_part nb nc fd  D7
  have h_law_take_part : CallOk l.prog w K mg base 1 "_law_take_part" C_law_take_part := ok_law_take_part nb nc fd  D8
  have h_law_small_step : CallOk l.prog w K mg base 2 "_law_small_step" C_law_small_step := ok_law_small_step nb nc fd h_law_try_part h_law_take_part D9
  have h_law_to_end : CallOk l.prog w K mg base 3 "_law_to_end" C_law_to_end := ok_law_to_end nb nc fd h_law_first h_law_small_step D10
  have h_need_size : CallOk l.prog w K mg base 1 "need_size" C_need_size := ok_need_size nb nc fd  D11
  have h_first_state : CallOk l.prog w K mg base 1 "first_state" C_first_state := ok_first_state nb nc fd  D12
  have h_is_whole : CallOk l.prog w K mg base 1 "is_whole" C_is_whole := ok_is_whole nb nc fd  D13
  have h_ended : CallOk l.prog w K mg base 1 "ended" C_ended := ok_ended nb nc fd  D14
  have h_attempt : CallOk l.prog w K mg base 2 "attempt" C_attempt := ok_attempt nb nc fd h_ended D15
  have h_lay : CallOk l.prog w K mg base 1 "lay" C_lay := ok_lay nb nc fd  D16
  have h_take : CallOk l.prog w K mg base 2 "take" C_take := ok_take nb nc fd h_ended D17
  have h_moved : CallOk l.prog w K mg base 3 "moved" C_moved := ok_moved nb nc fd h_attempt h_lay h_take D18
  have h_times_of : CallOk l.prog w K mg base 4 "times_of" C_times_of := ok_times_of nb nc fd h_first_state h_is_whole h_moved D19
  have h_takes_ahead : CallOk l.prog w K mg base 1 "takes_ahead" C_takes_ahead := ok_takes_ahead nb nc fd  D20
  have h_told_of : CallOk l.prog w K mg base 2 "told_of" C_told_of := ok_told_of nb nc fd h_takes_ahead D21
  have h_told_by : CallOk l.prog w K mg base 1 "told_by" C_told_by := ok_told_by nb nc fd  D22
  have h_Seen___init__ : MakeOk l.prog w K mg base 5 "Seen" C_Seen___init__ := ok_Seen___init__ nb nc fd h_times_of h_told_of h_told_by D23
  have h_Seen_is_free : MethOk l.prog w K mg base 1 "Seen" "is_free" C_Seen_is_free := ok_Seen_is_free nb nc fd  D24
  have h_done_whole : CallOk l.prog w K mg base 1 "done_whole" C_done_whole := ok_done_whole nb nc fd  D25
  have h_Seen_order_of : MethOk l.prog w K mg base 11 "Seen" "order_of" (C_Seen_order_of 9) := ok_Seen_order_of nb nc fd h_Seen_is_free h_done_whole D26 9
  have h_seen_as : CallOk l.prog w K mg base 12 "seen_as" C_seen_as := ok_seen_as nb nc fd h_need_size h_Seen___init__ h_Seen_order_of D27
  have h_law_spans : CallOk l.prog w K mg base 3 "_law_spans" C_law_spans := ok_law_spans nb nc fd h_law_first h_law_small_step D28
  have h_law_tellings : CallOk l.prog w K mg base 1 "_law_tellings" C_law_tellings := ok_law_tellings nb nc fd  D29
  have h_law_row_behind : CallOk l.prog w K mg base 1 "_law_row_behind" C_law_row_behind := ok_law_row_behind nb nc fd  D30
  have h_law_told_by : CallOk l.prog w K mg base 1 "_law_told_by" C_law_told_by := ok_law_told_by nb nc fd  D31
  have h_law_seen_due : CallOk l.prog w K mg base 4 "_law_seen_due" C_law_seen_due := ok_law_seen_due nb nc fd h_law_spans h_law_tellings h_law_row_behind h_law_told_by D32
  have nd : N_law.Nodup := sc_law.nd
  exact fk_ok (T := T_law) F33 sc_law len_law (fun cdv A outer s H EL E hr hgd hp hE => (dss_cons (ds_for hp rfl (di_range1 rfl nb.n_range de_int) (dg_name 1 nd) (dss_cons (ds_set 2 nd (de_fn h_law_digits (hr.mono (by first | decide | omega)) hgd hE (da_cons (de_fn h_law_at (hr.mono (by first | decide | omega)) hgd hE (da_cons (de_var 0) (da_cons (de_var 1) da_nil))) (da_cons de_int da_nil))))
    (dss_cons (ds_set 3 nd (de_fn h_law_great_play (hr.mono (by first | decide | omega)) hgd hE (da_cons (de_var 2) da_nil)))
    (dss_cons (ds_set 4 nd (de_fn h_law_to_end (hr.mono (by first | decide | omega)) hgd hE (da_cons (de_var 3) (da_cons (de_slice (de_var 2) (do_some de_int) do_none) da_nil))))
    (dss_one (ds_for hp rfl (di_range1 rfl nb.n_range de_int) (dg_name 5 nd) (dss_cons (ds_set 6 nd (de_fn h_seen_as (hr.mono (by first | decide | omega)) hgd hE (da_cons (de_var 3) (da_cons (de_var 4) da_nil))))
    (dss_cons (ds_if (dt_not (dt_tru (de_fn h_law_seen_due (hr.mono (by first | decide | omega)) hgd hE (da_cons (de_var 3) (da_cons (de_var 4) (da_cons (de_var 6) da_nil)))))) (dss_one (ds_ret de_bl)) dss_nil)
    (dss_cons (ds_expr (de_append (de_var 6) (da_cons (de_tup (da_cons de_int (da_cons de_int da_nil))) da_nil)))
    (dss_one (ds_expr (de_reverse (de_var 6)))))))))))))
    (dss_one (ds_ret (de_eq (u64 hr) (de_fn h_seen_as (hr.mono (by first | decide | omega)) hgd hE (da_cons (de_tup (da_cons (de_tup da_nil) (da_cons (de_tup da_nil) da_nil))) (da_cons (de_tup da_nil) da_nil))) (de_lst da_nil)))))) run_law
end FD
open PySem PySem.W PyProof.Rows
set_option maxRecDepth 100000 in
set_option maxHeartbeats 0 in
theorem PySem.Challenge.cw_farend_k58_weavings_seen_whole_holds : PySem.Challenge.rw_farend_k58_weavings_seen_whole.Holds := by
  w_on; o_law; k_head; (case hw => w_witness2)
  k_fill
  refine FD.walk_fk (n := 63) (k := 13) (x := "script") rfl (by decide) rfl ⟨rfl, by decide, by decide⟩ (fun w h Y => PySem.W.kIn_of Y) ?F
  case F =>
    intro w mg fa h KX G hmg
    refine' FD.all_mk (l := PySem.Challenge.rw_farend_k58_weavings_seen_whole) KX G hmg ?A_Seen ?pg_Seen ?hd_Seen ?po_Seen ?sa_Seen ?mk_Seen ?kc_Seen ?nF_Seen_left ?nF_Seen_times ?nF_Seen_told ?a1 ?l1 ?c1 ?k1 ?a2 ?l2 ?c2 ?k2 ?a3 ?l3 ?c3 ?k3 ?a4 ?l4 ?c4 ?k4 ?a5 ?l5 ?c5 ?k5 ?a6 ?l6 ?c6 ?k6 ?a7 ?l7 ?c7 ?k7 ?a8 ?l8 ?c8 ?k8 ?a9 ?l9 ?c9 ?k9 ?a10 ?l10 ?c10 ?k10 ?a11 ?l11 ?c11 ?k11 ?a12 ?l12 ?c12 ?k12 ?a13 ?l13 ?c13 ?k13 ?a14 ?l14 ?c14 ?k14 ?a15 ?l15 ?c15 ?k15 ?a16 ?l16 ?c16 ?k16 ?a17 ?l17 ?c17 ?k17 ?a18 ?l18 ?c18 ?k18 ?a19 ?l19 ?c19 ?k19 ?a20 ?l20 ?c20 ?k20 ?a21 ?l21 ?c21 ?k21 ?a22 ?l22 ?c22 ?k22 ?a23 ?i23 ?l23 ?c23 ?k23 ?a24 ?i24 ?l24 ?c24 ?k24 ?a25 ?l25 ?c25 ?k25 ?a26 ?i26 ?l26 ?c26 ?k26 ?a27 ?l27 ?c27 ?k27 ?a28 ?l28 ?c28 ?k28 ?a29 ?l29 ?c29 ?k29 ?a30 ?l30 ?c30 ?k30 ?a31 ?l31 ?c31 ?k31 ?a32 ?l32 ?c32 ?k32 ?a33 ?l33 ?c33 ?k33 ?z_abs ?z_all ?z_bool ?z_enumerate ?z_int ?z_isinstance ?z_len ?z_list ?z_max ?z_range ?z_sorted ?z_sum ?z_tuple ?zc_MOST_DEEDS ?zc_MOST_TRIES
    (case A_Seen => k_is)
    (case pg_Seen => k_is)
    (case hd_Seen => k_is)
    (case po_Seen => k_is)
    (case sa_Seen => k_is)
    (case mk_Seen => k_is)
    (case kc_Seen => k_is)
    (case nF_Seen_left => k_is)
    (case nF_Seen_times => k_is)
    (case nF_Seen_told => k_is)
    (case a1 => k_is)
    (case l1 => k_is)
    (case c1 => k_is)
    (case k1 => k_is)
    (case a2 => k_is)
    (case l2 => k_is)
    (case c2 => k_is)
    (case k2 => k_is)
    (case a3 => k_is)
    (case l3 => k_is)
    (case c3 => k_is)
    (case k3 => k_is)
    (case a4 => k_is)
    (case l4 => k_is)
    (case c4 => k_is)
    (case k4 => k_is)
    (case a5 => k_is)
    (case l5 => k_is)
    (case c5 => k_is)
    (case k5 => k_is)
    (case a6 => k_is)
    (case l6 => k_is)
    (case c6 => k_is)
    (case k6 => k_is)
    (case a7 => k_is)
    (case l7 => k_is)
    (case c7 => k_is)
    (case k7 => k_is)
    (case a8 => k_is)
    (case l8 => k_is)
    (case c8 => k_is)
    (case k8 => k_is)
    (case a9 => k_is)
    (case l9 => k_is)
    (case c9 => k_is)
    (case k9 => k_is)
    (case a10 => k_is)
    (case l10 => k_is)
    (case c10 => k_is)
    (case k10 => k_is)
    (case a11 => k_is)
    (case l11 => k_is)
    (case c11 => k_is)
    (case k11 => k_is)
    (case a12 => k_is)
    (case l12 => k_is)
    (case c12 => k_is)
    (case k12 => k_is)
    (case a13 => k_is)
    (case l13 => k_is)
    (case c13 => k_is)
    (case k13 => k_is)
    (case a14 => k_is)
    (case l14 => k_is)
    (case c14 => k_is)
    (case k14 => k_is)
    (case a15 => k_is)
    (case l15 => k_is)
    (case c15 => k_is)
    (case k15 => k_is)
    (case a16 => k_is)
    (case l16 => k_is)
    (case c16 => k_is)
    (case k16 => k_is)
    (case a17 => k_is)
    (case l17 => k_is)
    (case c17 => k_is)
    (case k17 => k_is)
    (case a18 => k_is)
    (case l18 => k_is)
    (case c18 => k_is)
    (case k18 => k_is)
    (case a19 => k_is)
    (case l19 => k_is)
    (case c19 => k_is)
    (case k19 => k_is)
    (case a20 => k_is)
    (case l20 => k_is)
    (case c20 => k_is)
    (case k20 => k_is)
    (case a21 => k_is)
    (case l21 => k_is)
    (case c21 => k_is)
    (case k21 => k_is)
    (case a22 => k_is)
    (case l22 => k_is)
    (case c22 => k_is)
    (case k22 => k_is)
    (case a23 => k_is)
    (case i23 => k_is)
    (case l23 => k_is)
    (case c23 => k_is)
    (case k23 => k_is)
    (case a24 => k_is)
    (case i24 => k_is)
    (case l24 => k_is)
    (case c24 => k_is)
    (case k24 => k_is)
    (case a25 => k_is)
    (case l25 => k_is)
    (case c25 => k_is)
    (case k25 => k_is)
    (case a26 => k_is)
    (case i26 => k_is)
    (case l26 => k_is)
    (case c26 => k_is)
    (case k26 => k_is)
    (case a27 => k_is)
    (case l27 => k_is)
    (case c27 => k_is)
    (case k27 => k_is)
    (case a28 => k_is)
    (case l28 => k_is)
    (case c28 => k_is)
    (case k28 => k_is)
    (case a29 => k_is)
    (case l29 => k_is)
    (case c29 => k_is)
    (case k29 => k_is)
    (case a30 => k_is)
    (case l30 => k_is)
    (case c30 => k_is)
    (case k30 => k_is)
    (case a31 => k_is)
    (case l31 => k_is)
    (case c31 => k_is)
    (case k31 => k_is)
    (case a32 => k_is)
    (case l32 => k_is)
    (case c32 => k_is)
    (case k32 => k_is)
    (case a33 => k_is)
    (case l33 => k_is)
    (case c33 => k_is)
    (case k33 => k_is)
    (case z_abs => k_is)
    (case z_all => k_is)
    (case z_bool => k_is)
    (case z_enumerate => k_is)
    (case z_int => k_is)
    (case z_isinstance => k_is)
    (case z_len => k_is)
    (case z_list => k_is)
    (case z_max => k_is)
    (case z_range => k_is)
    (case z_sorted => k_is)
    (case z_sum => k_is)
    (case z_tuple => k_is)
    (case zc_MOST_DEEDS => k_is)
    (case zc_MOST_TRIES => k_is)
#print axioms PySem.Challenge.cw_farend_k58_weavings_seen_whole_holds
