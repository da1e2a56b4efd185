import PyProof.Rows.All
import Wide.All
import OpenK.AllK
import Wide.FinOn
import HandS.ForMost
import HandS.Deep
import HandS.TupAny
import HandS.TupMul
import HandS.TupLe
import HandS.IsInst
import HandS.Conv
import HandS.Flow
import HandS.Exc
import KE.KDictKeyed
import KE.KNest
import HandS.More
import HandS.SortInts
import HandS.RaiseMore
import HandS.ExcOwn
import HandS.WordsExc
import PyProof.ReprBulk
import HandS.Iter
import KE.GoesEnum
import HandS.SortOrd
import KE.DataFind
import HandS.TupLen
import HandS.ExcInit
import HandS.TryOnly
import HandS.ExcField
import KE.KExcIs
import HandS.Strs
import HandS.SortRule
import KE.KDictPairs
import KE.KDictSum
import KE.KDictCopyH
import PyProof.SeqIndex
import PyProof.DictRoadsH
import HandS.TupSets
import HandS.Style
import KE.KDictDisplayH
import HandS.Rev
import KE.SortData
import HandS.Text
import PyProof.Rows.RegReprOcc
import PyProof.StrOps2
import HandS.ExcValue
import KE.SortKeyHeap
import HandS.SortKw
import HandS.Lambda
import PySem.Challenge.RW_farend_k01_what_is_a_job
set_option Elab.async false
set_option linter.all false
set_option maxRecDepth 100000
set_option maxHeartbeats 4000000

/-! The data layer: tuples as values, an own small heap of lists and instances, readings by continuation. -/
namespace FD
open PySem L2

/-- data: tuples are values; whatever changes is named by its address -/
inductive D where
  | non | bl (b : Bool) | int (i : Int) | str (x : Str) | tup (xs : List D) | tpl (xs : List D) | lis (xs : List D) | ref (a : Addr) | ty (n : String)

inductive O where
  | lst (xs : List D)
  | ins (n : Str) (fs : List (Str × D))
  | dK (kvs : List (Key × D))
  /-- a dict by nested keys without texts that is walked: it stays as it is -/
  | dif (ow : Option World) (kvs : List (D × D))
  /-- a dict by nested keys; without a world: keys without texts -/
  | dic (ow : Option World) (kvs : List (D × D))
  /-- an exception that was caught and kept, its dict -/
  | exc (n : Str) (od : Option Addr)
  /-- the dict of such a one -/
  | xd (fs : List (Str × D))
  /-- the table of code objects of the def x: lambdas' alone -/
  | tab (x : Str)

abbrev DG := Addr → Option O
def up (G : DG) (a : Addr) (o : O) : DG := fun b => if b = a then some o else G b
theorem up_same {G : DG} {a : Addr} {o : O} : up G a o a = some o := by unfold up; rw [if_pos rfl]
theorem up_ne {G : DG} {a b : Addr} {o : O} (h : b ≠ a) : up G a o b = G b := by unfold up; rw [if_neg h]
theorem up_up {G : DG} {a : Addr} {o u : O} : up (up G a o) a u = up G a u := by
  funext b; unfold up; split <;> rfl
theorem gne {G : DG} {a b : Addr} {o : O} (h : G a = some o) (h' : G b = none) : a ≠ b := by
  intro e; subst e; rw [h] at h'; cases h'
/-- what is known is still known -/
def Le (G G' : DG) : Prop := ∀ a o, G a = some o → G' a = some o
theorem Le.refl (G : DG) : Le G G := fun _ _ h => h
theorem Le.trans {G G1 G2 : DG} (a : Le G G1) (b : Le G1 G2) : Le G G2 := fun c o h => b c o (a c o h)

/-! ### data as values of the hand layer -/
/-- a tuple whose object is known to have no dict of its own -/
def SqP (K : PySem.W.Frag) (H : Hp) (a : Addr) (vs : List V) : Prop := (∃ o : Obj, H a = some (.frz o (.tup vs)) ∧ o.dict = none) ∨
  ∃ (o : Obj) (its : Array Value) (n : Nat), K.lookup a = some o ∧ o.cls = .type "tuple" ∧ o.dict = none ∧ o.data = .seq its n ∧ its.size ≤ sizeLine ∧ Vals vs its.toList
theorem SqP.t {K : PySem.W.Frag} {H : Hp} {a : Addr} {vs : List V} (h : SqP K H a vs) : SqT K H a vs := by
  rcases h with ⟨o, h, _⟩ | ⟨o, its, n, h1, h2, _, h3, h4, h5⟩
  · exact .inl (.inr ⟨o, h⟩)
  · exact .inr ⟨o, its, n, h1, h2, h3, h4, h5⟩
/-- a list that stays as it is -/
def SqR (K : PySem.W.Frag) (H : Hp) (a : Addr) (vs : List V) : Prop := (∃ o : Obj, H a = some (.frz o (.lst vs))) ∨
  ∃ (o : Obj) (its : Array Value) (n : Nat), K.lookup a = some o ∧ o.cls = .type "list" ∧ o.dict = none ∧ o.data = .seq its n ∧ its.size ≤ sizeLine ∧ Vals vs its.toList
theorem SqR.l {K : PySem.W.Frag} {H : Hp} {a : Addr} {vs : List V} (h : SqR K H a vs) : SqL K H a vs := by
  rcases h with ⟨o, h⟩ | h
  · exact .inl (.inr ⟨o, h⟩)
  · exact .inr h
theorem SqP.new {K : PySem.W.Frag} {H : Hp} {a : Addr} {o : Obj} {vs : List V} (h : o.dict = none) : SqP K (upd H a (.frz o (.tup vs))) a vs := .inl ⟨o, upd_same, h⟩
inductive RD (K : PySem.W.Frag) (H : Hp) : D → V → Prop
  | non : RD K H .non .non
  | bl (b : Bool) : RD K H (.bl b) (.bl b)
  | int (i : Int) : RD K H (.int i) (.int i)
  | str (x : Str) : RD K H (.str x) (.str x)
  | ty (n : String) : RD K H (.ty n) (.ty n)
  | ref (a : Addr) : RD K H (.ref a) (.ref a)
  | lis {a : Addr} {xs : List D} {vs : List V} (h : SqR K H a vs) (hl : xs.length = vs.length) (hi : ∀ (i : Nat) (x : D) (v : V), xs[i]? = some x → vs[i]? = some v → RD K H x v) : RD K H (.lis xs) (.ref a)
  | tpl {a : Addr} {xs : List D} {vs : List V} (h : SqT K H a vs) (hl : xs.length = vs.length) (hi : ∀ (i : Nat) (x : D) (v : V), xs[i]? = some x → vs[i]? = some v → RD K H x v) : RD K H (.tpl xs) (.ref a)
  | tup {a : Addr} {xs : List D} {vs : List V} (h : SqP K H a vs) (hl : xs.length = vs.length) (hi : ∀ (i : Nat) (x : D) (v : V), xs[i]? = some x → vs[i]? = some v → RD K H x v) : RD K H (.tup xs) (.ref a)
def RDs (K : PySem.W.Frag) (H : Hp) (xs : List D) (vs : List V) : Prop := xs.length = vs.length ∧ ∀ (i : Nat) (x : D) (v : V), xs[i]? = some x → vs[i]? = some v → RD K H x v
structure KT (K : PySem.W.Frag) (H H' : Hp) : Prop where
  tup : ∀ a vs, H a = some (.tup vs) → H' a = some (.tup vs)
  frz : ∀ a o vs, H a = some (.frz o (.tup vs)) → H' a = some (.frz o (.tup vs))
  lis : ∀ a o u, H a = some (.frz o u) → H' a = some (.frz o u)
theorem KT.refl {K : PySem.W.Frag} {H : Hp} : KT K H H := ⟨fun _ _ h => h, fun _ _ _ h => h, fun _ _ _ h => h⟩
theorem KT.trans {K : PySem.W.Frag} {H H1 H2 : Hp} (a : KT K H H1) (b : KT K H1 H2) : KT K H H2 := ⟨fun c o h => b.1 c o (a.1 c o h), fun c o u h => b.2 c o u (a.2 c o u h), fun c o u h => b.3 c o u (a.3 c o u h)⟩
theorem KT.sqr {K : PySem.W.Frag} {H H' : Hp} (k : KT K H H') {a : Addr} {vs : List V} (h : SqR K H a vs) : SqR K H' a vs := by
  rcases h with ⟨o, h⟩ | h
  · exact .inl ⟨o, k.3 _ _ _ h⟩
  · exact .inr h
theorem KT.sqt {K : PySem.W.Frag} {H H' : Hp} (k : KT K H H') {a : Addr} {vs : List V} (h : SqT K H a vs) : SqT K H' a vs := by
  rcases h with (h | ⟨o, h⟩) | h
  · exact .inl (.inl (k.1 _ _ h))
  · exact .inl (.inr ⟨o, k.2 _ _ _ h⟩)
  · exact .inr h
theorem KT.sqp {K : PySem.W.Frag} {H H' : Hp} (k : KT K H H') {a : Addr} {vs : List V} (h : SqP K H a vs) : SqP K H' a vs := by
  rcases h with ⟨o, h, d⟩ | h
  · exact .inl ⟨o, k.2 _ _ _ h, d⟩
  · exact .inr h
theorem RD.kt {K : PySem.W.Frag} {H H' : Hp} (k : KT K H H') {d : D} {v : V} (r : RD K H d v) : RD K H' d v := by
  induction r with
  | non => exact .non
  | bl b => exact .bl b
  | int i => exact .int i
  | str x => exact .str x
  | ty n => exact .ty n
  | ref a => exact .ref a
  | tup h hl _ ih => exact .tup (k.sqp h) hl ih
  | tpl h hl _ ih => exact .tpl (k.sqt h) hl ih
  | lis h hl _ ih => exact .lis (k.sqr h) hl ih
theorem RDs.kt {K : PySem.W.Frag} {H H' : Hp} (k : KT K H H') {xs : List D} {vs : List V} (r : RDs K H xs vs) : RDs K H' xs vs := ⟨r.1, fun i x v a b => (r.2 i x v a b).kt k⟩
theorem RDs.nil {K : PySem.W.Frag} {H : Hp} : RDs K H [] [] := ⟨rfl, fun i x v a _ => by simp at a⟩
theorem RDs.cons {K : PySem.W.Frag} {H : Hp} {x : D} {v : V} {xs : List D} {vs : List V} (r : RD K H x v) (rs : RDs K H xs vs) : RDs K H (x :: xs) (v :: vs) :=
  ⟨by simp [rs.1], fun i y u a b => by
    cases i with
    | zero => simp at a b; subst a; subst b; exact r
    | succ i => exact rs.2 i y u (by simpa using a) (by simpa using b)⟩
theorem RDs.nil_inv {K : PySem.W.Frag} {H : Hp} {vs : List V} (r : RDs K H [] vs) : vs = [] := by
  have h := r.1
  cases vs with
  | nil => rfl
  | cons v vs => simp at h
theorem RDs.cons_inv {K : PySem.W.Frag} {H : Hp} {x : D} {xs : List D} {vs : List V} (r : RDs K H (x :: xs) vs) : ∃ v vs', vs = v :: vs' ∧ RD K H x v ∧ RDs K H xs vs' := by
  obtain ⟨hl, hi⟩ := r
  cases vs with
  | nil => simp at hl
  | cons v vs' => exact ⟨v, vs', rfl, hi 0 x v rfl rfl, by simpa using hl, fun i y u a b => hi (i + 1) y u (by simpa using a) (by simpa using b)⟩
theorem RDs.get {K : PySem.W.Frag} {H : Hp} {xs : List D} {vs : List V} (r : RDs K H xs vs) {i : Nat} {x : D} (h : xs[i]? = some x) : ∃ v, vs[i]? = some v ∧ RD K H x v := by
  have hi : i < vs.length := by
    have := (List.getElem?_eq_some_iff.mp h).1
    rw [← r.1]; exact this
  exact ⟨vs[i], List.getElem?_eq_getElem hi, r.2 i x _ h (List.getElem?_eq_getElem hi)⟩
theorem RDs.append {K : PySem.W.Frag} {H : Hp} : ∀ {xs ys : List D} {vs ws : List V}, RDs K H xs vs → RDs K H ys ws → RDs K H (xs ++ ys) (vs ++ ws)
  | [], ys, vs, ws, r, s => by
    have e := r.nil_inv
    subst e
    exact s
  | x :: xs, ys, vs, ws, r, s => by
    obtain ⟨v, vs', rfl, a, b⟩ := r.cons_inv
    exact (b.append s).cons a
theorem RDs.set {K : PySem.W.Frag} {H : Hp} {xs : List D} {vs : List V} {x : D} {v : V} (r : RDs K H xs vs) (a : RD K H x v) (i : Nat) : RDs K H (xs.set i x) (vs.set i v) := by
  refine ⟨by simp [r.1], fun j y u b c => ?_⟩
  by_cases e : i = j
  · subst e
    have h1 : i < xs.length := by
      have := (List.getElem?_eq_some_iff.mp b).1
      simpa using this
    rw [List.getElem?_set_self h1] at b
    rw [List.getElem?_set_self (by rw [← r.1]; exact h1)] at c
    cases b; cases c
    exact a
  · rw [List.getElem?_set_ne e] at b c
    exact r.2 j y u b c
theorem RDs.drop {K : PySem.W.Frag} {H : Hp} {xs : List D} {vs : List V} (r : RDs K H xs vs) (n : Nat) : RDs K H (xs.drop n) (vs.drop n) :=
  ⟨by simp [r.1], fun i x v a b => r.2 (n + i) x v (by simpa using a) (by simpa using b)⟩
theorem RDs.take {K : PySem.W.Frag} {H : Hp} {xs : List D} {vs : List V} (r : RDs K H xs vs) (n : Nat) : RDs K H (xs.take n) (vs.take n) :=
  ⟨by simp [r.1], fun i x v a b => by
    by_cases h : i < n
    · rw [List.getElem?_take_of_lt h] at a b
      exact r.2 i x v a b
    · rw [List.getElem?_take_eq_none (by omega)] at a
      cases a⟩
theorem RDs.at {K : PySem.W.Frag} {H : Hp} {xs : List D} {vs : List V} (r : RDs K H xs vs) {i : Int} {x : D} (h : atI xs i = some x) : ∃ v, atI vs i = some v ∧ RD K H x v := by
  unfold atI at h ⊢
  rw [← r.1]
  cases e : ixN xs.length i with
  | none => rw [e] at h; cases h
  | some j =>
    rw [e] at h
    exact r.get h
theorem RDs.int_inv {K : PySem.W.Frag} {H : Hp} : ∀ {ns : List Int} {vs : List V}, RDs K H (ns.map D.int) vs → vs = ns.map V.int
  | [], vs, r => r.nil_inv
  | n :: ns, vs, r => by
    obtain ⟨v, vs', rfl, a, b⟩ := RDs.cons_inv (by simpa using r)
    cases a
    rw [b.int_inv]
    rfl
theorem RDs.str_inv {K : PySem.W.Frag} {H : Hp} : ∀ {ns : List Str} {vs : List V}, RDs K H (ns.map D.str) vs → vs = ns.map V.str
  | [], vs, r => r.nil_inv
  | n :: ns, vs, r => by
    obtain ⟨v, vs', rfl, a, b⟩ := RDs.cons_inv (by simpa using r)
    cases a
    rw [b.str_inv]
    rfl
theorem RDs.bl_inv {K : PySem.W.Frag} {H : Hp} : ∀ {ns : List Bool} {vs : List V}, RDs K H (ns.map D.bl) vs → vs = ns.map V.bl
  | [], vs, r => r.nil_inv
  | n :: ns, vs, r => by
    obtain ⟨v, vs', rfl, a, b⟩ := RDs.cons_inv (by simpa using r)
    cases a
    rw [b.bl_inv]
    rfl
theorem RDs.of_int {K : PySem.W.Frag} {H : Hp} : ∀ (ns : List Int), RDs K H (ns.map D.int) (ns.map V.int)
  | [] => .nil
  | n :: ns => by simpa using (RDs.of_int ns).cons (.int n)
theorem RDs.of_str {K : PySem.W.Frag} {H : Hp} : ∀ (ns : List Str), RDs K H (ns.map D.str) (ns.map V.str)
  | [] => .nil
  | n :: ns => by simpa using (RDs.of_str ns).cons (.str n)

/-! ### the small heap over the hand layer's -/
/-- the class of a name, at the program's top -/
def ClsAt (K : PySem.W.Frag) (n : Str) (C : Addr) : Prop := PySem.W.nsIn K mainGlobals n = some (some (.ref C))
theorem ClsAt.uniq {K : PySem.W.Frag} {n : Str} {C C' : Addr} (h : ClsAt K n C) (h' : ClsAt K n C') : C = C' := by
  unfold ClsAt at h h'
  rw [h] at h'
  cases h'
  rfl
/-! ### nested keys -/
mutual
def nkD : D → Option NestedKey
  | .non => some .none
  | .int i => some (.num i)
  | .bl b => some (.num (if b = true then 1 else 0))
  | .str x => some (.text x)
  | .tup xs => (nkDs xs).map .tup
  | .tpl xs => (nkDs xs).map .tup
  | .lis _ => none
  | .ref _ => none
  | .ty _ => none
def nkDs : List D → Option (List NestedKey)
  | [] => some []
  | x :: xs => match nkD x, nkDs xs with
    | some k, some ks => some (k :: ks)
    | _, _ => none
end
def HashOk (ow : Option World) (k : NestedKey) (z : Int) : Prop := match ow with
  | none => ∀ w : World, z = k.hash w
  | some w => z = k.hash w
/-- a dict's entries: keys at their places, values -/
def dicP (ow : Option World) (ks : List (NestedKey × Addr)) (vs : List V) (es : List DictEntry) : Prop := es.length = ks.length ∧ vs.length = ks.length ∧
  ∀ (i : Nat) (e : DictEntry) (k : NestedKey × Addr) (v : V), es[i]? = some e → ks[i]? = some k → vs[i]? = some v → HashOk ow k.1 e.hash ∧ e.key = .ref k.2 ∧ RelV v e.val
def dicO (ow : Option World) (a : Addr) (ks : List (NestedKey × Addr)) (vs : List V) : HO := .ext fun h => ∃ o es ep, h.get? a = some o ∧ o.ExactDict ∧ o.data = .dict es ep ∧ dicP ow ks vs es.toList
/-- an exception's object -/
def excO (a : Addr) (cls : Value) (d : Option Addr) : HO := .ext fun h => ∃ oe vs, h.get? a = some oe ∧ oe.cls = cls ∧ oe.dict = d ∧ oe.data = .fields vs
/-- the code object of a lambda of that name -/
def codF (c : Addr) (q : Str) : HO := .ext fun h => ∃ (oc : Obj) (vs : Array Value) (t : Tok), h.get? c = some oc ∧
  oc.data = .fields vs ∧ vs[1]? = some (.str q t)
abbrev lamQ (x : Str) : Str := (x ++ ".<locals>.") ++ "<lambda>"
def MO (K : PySem.W.Frag) (H : Hp) (a : Addr) : O → Prop
  | .lst xs => ∃ vs, H a = some (.lst vs) ∧ RDs K H xs vs
  | .ins n fs => ∃ C dx fvs, ClsAt K n C ∧ H a = some (.ins C dx fvs) ∧ fvs.map (·.1) = fs.map (·.1) ∧ RDs K H (fs.map (·.2)) (fvs.map (·.2))
  | .dK kvs => ∃ kvs', H a = some (.dK kvs') ∧ kvs'.map (·.1) = kvs.map (·.1) ∧ RDs K H (kvs.map (·.2)) (kvs'.map (·.2))
  | .dif ow kvs => ∃ od ks vs, H a = some (.frz od (dicO ow a ks vs)) ∧ (a == sysModules) = false ∧ kvs.length ≤ sizeLine ∧ (ks.map (·.1)).Nodup ∧ kvs.length = ks.length ∧
      (∀ (i : Nat) (kv : D × D) (k : NestedKey × Addr), kvs[i]? = some kv → ks[i]? = some k → nkD kv.1 = some k.1 ∧ k.1.depth ≤ 8 ∧ RD K H kv.1 (.ref k.2)) ∧ RDs K H (kvs.map (·.2)) vs
  | .dic ow kvs => ∃ ks vs, H a = some (dicO ow a ks vs) ∧ (a == sysModules) = false ∧ kvs.length ≤ sizeLine ∧ (ks.map (·.1)).Nodup ∧ kvs.length = ks.length ∧
      (∀ (i : Nat) (kv : D × D) (k : NestedKey × Addr), kvs[i]? = some kv → ks[i]? = some k → nkD kv.1 = some k.1 ∧ k.1.depth ≤ 8 ∧ RD K H kv.1 (.ref k.2)) ∧ RDs K H (kvs.map (·.2)) vs
  | .exc n od => ∃ C, ClsAt K n C ∧ H a = some (excO a (.ref C) od)
  | .xd fs => ∃ fvs, H a = some (.xd fvs) ∧ fvs.map (·.1) = fs.map (·.1) ∧ RDs K H (fs.map (·.2)) (fvs.map (·.2))
  | .tab x => ∃ (c : Addr) (ps : Array Value), PySem.W.tabIn K x = some (c, a) ∧ H a = some (.tbl ps) ∧ TriplesOk ps.toList ∧ ∀ (pos : Pos) (cv : Value), codeAmong pos ps.toList = some cv → ∃ c' o, cv = .ref c' ∧ H c' = some (.frz o (codF c' (lamQ x)))
def MH (K : PySem.W.Frag) (G : DG) (H : Hp) : Prop := ∀ a o, G a = some o → MO K H a o
theorem MO.keep {K : PySem.W.Frag} {H H' : Hp} {a : Addr} {o : O} (m : MO K H a o) (e : H' a = H a) (k : KT K H H') : MO K H' a o := by
  cases o with
  | lst xs => obtain ⟨vs, h, r⟩ := m; exact ⟨vs, e.trans h, r.kt k⟩
  | ins n fs => obtain ⟨C, dx, fvs, hc, h, q, r⟩ := m; exact ⟨C, dx, fvs, hc, e.trans h, q, r.kt k⟩
  | dK kvs => obtain ⟨kvs', h, q, r⟩ := m; exact ⟨kvs', e.trans h, q, r.kt k⟩
  | dif ow kvs => obtain ⟨od, ks, vs, h, a1, a2, a3, a4, a5, r⟩ := m; exact ⟨od, ks, vs, e.trans h, a1, a2, a3, a4, fun i kv x e1 e2 => let ⟨b1, b2, b3⟩ := a5 i kv x e1 e2; ⟨b1, b2, b3.kt k⟩, r.kt k⟩
  | dic ow kvs => obtain ⟨ks, vs, h, a1, a2, a3, a4, a5, r⟩ := m; exact ⟨ks, vs, e.trans h, a1, a2, a3, a4, fun i kv x e1 e2 => let ⟨b1, b2, b3⟩ := a5 i kv x e1 e2; ⟨b1, b2, b3.kt k⟩, r.kt k⟩
  | exc n od => obtain ⟨C, hc, h⟩ := m; exact ⟨C, hc, e.trans h⟩
  | xd fs => obtain ⟨fvs, h, q, r⟩ := m; exact ⟨fvs, e.trans h, q, r.kt k⟩
  | tab x => obtain ⟨c, ps, t, h, q, r⟩ := m; exact ⟨c, ps, t, e.trans h, q, fun pos cv z => let ⟨c', o, e1, e2⟩ := r pos cv z; ⟨c', o, e1, k.3 _ _ _ e2⟩⟩
theorem MH.le {K : PySem.W.Frag} {G G' : DG} {H : Hp} (m : MH K G H) (l : Le G' G) : MH K G' H := fun a o h => m a o (l a o h)
theorem MH.upd {K : PySem.W.Frag} {G : DG} {H : Hp} {p : Addr} {o : O} {u : HO} (m : MH K G H) (k : KT K H (upd H p u)) (n : MO K (L2.upd H p u) p o) : MH K (up G p o) (L2.upd H p u) := fun a x h => by
  by_cases e : a = p
  · subst e
    rw [up_same] at h
    cases h
    exact n
  · rw [up_ne e] at h
    exact (m a x h).keep (upd_ne e) k
/-- behind a new object that isn't tracked -/
theorem MH.new {K : PySem.W.Frag} {G : DG} {H : Hp} {p : Addr} {u : HO} (m : MH K G H) (k : KT K H (L2.upd H p u)) (n : G p = none) : MH K G (L2.upd H p u) := fun a x h => (m a x h).keep (upd_ne (gne h n)) k
theorem KT.upd_new {K : PySem.W.Frag} {H : Hp} {p : Addr} {u : HO} (h : H p = none) : KT K H (L2.upd H p u) :=
  ⟨fun a vs s => by rw [upd_ne (ne_of_none s h)]; exact s, fun a o vs s => by rw [upd_ne (ne_of_none s h)]; exact s, fun a o vs s => by rw [upd_ne (ne_of_none s h)]; exact s⟩
/-- .. behind a change of what is neither a tuple nor locked -/
theorem KT.upd_mut {K : PySem.W.Frag} {H : Hp} {p : Addr} {u w : HO} (h : H p = some w) (ht : ∀ xs, w ≠ .tup xs) (hf : ∀ o x, w ≠ .frz o x) : KT K H (L2.upd H p u) :=
  ⟨fun a vs s => by rw [upd_ne (ne_of s h (fun e => ht _ e.symm))]; exact s, fun a o vs s => by rw [upd_ne (ne_of s h (fun e => hf _ _ e.symm))]; exact s, fun a o vs s => by rw [upd_ne (ne_of s h (fun e => hf _ _ e.symm))]; exact s⟩
theorem MH.fresh {K : PySem.W.Frag} {G : DG} {H : Hp} {p : Addr} (m : MH K G H) (h : H p = none) : G p = none := by
  cases e : G p with
  | none => rfl
  | some o =>
    have q := m p o e
    cases o with
    | lst xs => obtain ⟨vs, h1, _⟩ := q; rw [h] at h1; cases h1
    | ins n fs => obtain ⟨C, dx, fvs, _, h1, _⟩ := q; rw [h] at h1; cases h1
    | dK kvs => obtain ⟨kvs', h1, _⟩ := q; rw [h] at h1; cases h1
    | dif ow kvs => obtain ⟨_, _, _, h1, _⟩ := q; rw [h] at h1; cases h1
    | dic ow kvs => obtain ⟨_, _, h1, _⟩ := q; rw [h] at h1; cases h1
    | exc n od => obtain ⟨_, _, h1⟩ := q; rw [h] at h1; cases h1
    | xd fs => obtain ⟨_, h1, _⟩ := q; rw [h] at h1; cases h1
    | tab x => obtain ⟨_, _, _, h1, _⟩ := q; rw [h] at h1; cases h1
end FD

namespace FD
open PySem L2

abbrev DSt := List (Option D)
abbrev DK := D → DG → Prop
abbrev DE := DSt → DG → DK → Prop
abbrev DTt := DSt → DG → (Bool → DG → Prop) → Prop
abbrev DA := DSt → DG → (List D → DG → Prop) → Prop
structure DEnds where
  nx : DSt → DG → Prop
  rt : DK
  bk : DSt → DG → Prop
  ct : DSt → DG → Prop
abbrev DS := DEnds → DSt → DG → Prop
def DEnds.Le (D D' : DEnds) : Prop := (∀ σ G, D.nx σ G → D'.nx σ G) ∧ (∀ d G, D.rt d G → D'.rt d G) ∧ (∀ σ G, D.bk σ G → D'.bk σ G) ∧ (∀ σ G, D.ct σ G → D'.ct σ G)

def SR (K : PySem.W.Frag) (H : Hp) (σd : DSt) (σ : St) : Prop := σd.length = σ.length ∧ ∀ (i : Nat) (d : D), σd[i]? = some (some d) → ∃ v, σ[i]? = some (some v) ∧ RD K H d v
theorem SR.kt {K : PySem.W.Frag} {H H' : Hp} {σd : DSt} {σ : St} (s : SR K H σd σ) (k : KT K H H') : SR K H' σd σ := ⟨s.1, fun i d h => let ⟨v, a, b⟩ := s.2 i d h; ⟨v, a, b.kt k⟩⟩
theorem SR.set {K : PySem.W.Frag} {H : Hp} {σd : DSt} {σ : St} (s : SR K H σd σ) {d : D} {v : V} (r : RD K H d v) (i : Nat) : SR K H (σd.set i (some d)) (σ.set i (some v)) := by
  refine ⟨by simp [s.1], fun j e h => ?_⟩
  by_cases q : i = j
  · subst q
    have h1 : i < σd.length := by
      have := (List.getElem?_eq_some_iff.mp h).1
      simpa using this
    rw [List.getElem?_set_self h1] at h
    cases h
    exact ⟨v, List.getElem?_set_self (by rw [← s.1]; exact h1), r⟩
  · rw [List.getElem?_set_ne q] at h ⊢
    exact s.2 j e h
theorem SR.forget {K : PySem.W.Frag} {H : Hp} {σd : DSt} {σ : St} (s : SR K H σd σ) (i : Nat) (o : Option V) : SR K H (σd.set i none) (σ.set i o) := by
  refine ⟨by simp [s.1], fun j e h => ?_⟩
  by_cases q : i = j
  · subst q
    have h1 : i < σd.length := by
      have := (List.getElem?_eq_some_iff.mp h).1
      simpa using this
    rw [List.getElem?_set_self h1] at h
    cases h
  · rw [List.getElem?_set_ne q] at h ⊢
    exact s.2 j e h

def lf (K : PySem.W.Frag) (H : Hp) (Q : VK) : DK := fun d G' => ∀ v H', MH K G' H' → RD K H' d v → KT K H H' → Q v H'
def lfT (K : PySem.W.Frag) (H : Hp) (Q : Bool → Hp → Prop) : Bool → DG → Prop := fun b G' => ∀ H', MH K G' H' → KT K H H' → Q b H'
def lfA (K : PySem.W.Frag) (H : Hp) (Q : List V → Hp → Prop) : List D → DG → Prop := fun ds G' => ∀ vs H', MH K G' H' → RDs K H' ds vs → KT K H H' → Q vs H'
def lfS (K : PySem.W.Frag) (H : Hp) (Q : St → Hp → Prop) : DSt → DG → Prop := fun σd G' => ∀ σ H', MH K G' H' → SR K H' σd σ → KT K H H' → Q σ H'
def lfE (K : PySem.W.Frag) (H : Hp) (D : Ends) : DEnds := { nx := lfS K H D.nx, rt := lf K H D.rt, bk := lfS K H D.bk, ct := lfS K H D.ct }
theorem lf_kt {K : PySem.W.Frag} {H H' : Hp} {Q : VK} (k : KT K H H') {d : D} {G : DG} (h : lf K H Q d G) : lf K H' Q d G := fun v H2 a b c => h v H2 a b (k.trans c)
theorem lfT_kt {K : PySem.W.Frag} {H H' : Hp} {Q : Bool → Hp → Prop} (k : KT K H H') {d : Bool} {G : DG} (h : lfT K H Q d G) : lfT K H' Q d G := fun H2 a c => h H2 a (k.trans c)
theorem lfA_kt {K : PySem.W.Frag} {H H' : Hp} {Q : List V → Hp → Prop} (k : KT K H H') {d : List D} {G : DG} (h : lfA K H Q d G) : lfA K H' Q d G := fun v H2 a b c => h v H2 a b (k.trans c)
theorem lfS_kt {K : PySem.W.Frag} {H H' : Hp} {Q : St → Hp → Prop} (k : KT K H H') {d : DSt} {G : DG} (h : lfS K H Q d G) : lfS K H' Q d G := fun v H2 a b c => h v H2 a b (k.trans c)
theorem lfE_kt {K : PySem.W.Frag} {H H' : Hp} {D : Ends} (k : KT K H H') : (lfE K H D).Le (lfE K H' D) := ⟨fun _ _ h => lfS_kt k h, fun _ _ h => lf_kt k h, fun _ _ h => lfS_kt k h, fun _ _ h => lfS_kt k h⟩

def MonoE (t : DE) : Prop := ∀ σ G (Q Q' : DK), (∀ d G', Q d G' → Q' d G') → t σ G Q → t σ G Q'
def MonoT (t : DTt) : Prop := ∀ σ G (Q Q' : Bool → DG → Prop), (∀ d G', Q d G' → Q' d G') → t σ G Q → t σ G Q'
def MonoA (t : DA) : Prop := ∀ σ G (Q Q' : List D → DG → Prop), (∀ d G', Q d G' → Q' d G') → t σ G Q → t σ G Q'
def MonoS (t : DS) : Prop := ∀ σ G (D D' : DEnds), D.Le D' → t D σ G → t D' σ G

structure DPE (X : Cx) (e : Expr) (t : DE) : Prop where
  mono : MonoE t
  run : ∃ tt, PE X e tt ∧ ∀ σ H σd G Q, MH X.K G H → SR X.K H σd σ → t σd G (lf X.K H Q) → tt σ H Q
structure DPT (X : Cx) (e : Expr) (t : DTt) : Prop where
  mono : MonoT t
  run : ∃ tt, PT X e tt ∧ ∀ σ H σd G Q, MH X.K G H → SR X.K H σd σ → t σd G (lfT X.K H Q) → tt σ H Q
structure DPW (X : Cx) (e : Expr) (t : DTt) : Prop where
  mono : MonoT t
  run : ∃ tt, PW X e tt ∧ ∀ σ H σd G Q, MH X.K G H → SR X.K H σd σ → t σd G (lfT X.K H Q) → tt σ H Q
structure DPA (X : Cx) (es : List Expr) (t : DA) : Prop where
  mono : MonoA t
  run : ∃ tt, PA X es tt ∧ ∀ σ H σd G Q, MH X.K G H → SR X.K H σd σ → t σd G (lfA X.K H Q) → tt σ H Q
structure DPS (X : Cx) (st : Stmt) (t : DS) : Prop where
  mono : MonoS t
  run : ∃ tt, PS X st tt ∧ ∀ σ H σd G D, MH X.K G H → SR X.K H σd σ → t (lfE X.K H D) σd G → tt D σ H
structure DPSs (X : Cx) (st : List Stmt) (t : DS) : Prop where
  mono : MonoS t
  run : ∃ tt, PSs X st tt ∧ ∀ σ H σd G D, MH X.K G H → SR X.K H σd σ → t (lfE X.K H D) σd G → tt D σ H

section
variable {X : Cx} {a b c e : Expr} {es rest : List Expr} {ta tb tc : DE} {pos : Pos}

/-! ### names and constants -/
def getS (σ : DSt) (i : Nat) : Option D := match σ[i]? with | some (some d) => some d | _ => none
def opt (o : Option D) (G : DG) (Q : DK) : Prop := match o with | some d => Q d G | none => False
theorem opt_some {d : D} {G : DG} {Q : DK} : opt (some d) G Q = Q d G := rfl
theorem opt_mono {o : Option D} {G : DG} {Q Q' : DK} (h : ∀ d G', Q d G' → Q' d G') (q : opt o G Q) : opt o G Q' := by
  cases o with
  | none => exact q
  | some d => exact h _ _ q
def dVar (i : Nat) : DE := fun σ G Q => opt (getS σ i) G Q
def dC (d : D) : DE := fun _ G Q => Q d G
theorem de_var (i : Nat) {x : Str} (hN : X.N[i]? = some x := by rfl) (hv : Vis X.env.scope x := by first | exact Or.inl rfl | exact Or.inr (Or.inl rfl) | exact Or.inr (Or.inr rfl)) (hd : (x == ("__debug__" : Str)) = false := by decide)
    (hcd : (x == ("__classdict__" : Str)) = false := by decide) : DPE X (.Name x pos) (dVar i) := by
  refine ⟨fun σ G Q Q' h q => opt_mono h q, tVar i, pe_var hN hv hd hcd, fun σ H σd G Q m s h => ?_⟩
  unfold dVar getS at h
  cases e : σd[i]? with
  | none => rw [e] at h; exact False.elim h
  | some o =>
    cases o with
    | none => rw [e] at h; exact False.elim h
    | some d =>
      rw [e] at h
      obtain ⟨v, h1, h2⟩ := s.2 i d e
      exact ⟨v, h1, h v H m h2 .refl⟩
theorem de_const {v : V} {d : D} (p : PE X e (tC v)) (r : ∀ H, RD X.K H d v) : DPE X e (dC d) :=
  ⟨fun σ G Q Q' h q => h _ _ q, tC v, p, fun σ H σd G Q m s h => h v H m (r H) .refl⟩
theorem de_int {i : Int} {j} : DPE X (.Constant (.int i) j pos) (dC (.int i)) := de_const pe_int fun _ => .int i
theorem de_bl {b : Bool} {j} : DPE X (.Constant (.bool b) j pos) (dC (.bl b)) := de_const pe_bl fun _ => .bl b
theorem de_non {j} : DPE X (.Constant .none j pos) (dC .non) := de_const pe_non fun _ => .non
theorem de_str {x : Str} {j} : DPE X (.Constant (.str x) j pos) (dC (.str x)) := de_const pe_str fun _ => .str x
theorem de_glob {x : Str} {v : V} {d : D} {u : Value} (hg : Gl X x) (hm : X.mg x = some u) (r : RelV v u) (rd : ∀ H, RD X.K H d v) (hd : (x == ("__debug__" : Str)) = false := by decide) : DPE X (.Name x pos) (dC d) := de_const (pe_glob hg hm r hd) rd
theorem de_bltn {x : Str} {T : String} (hg : Gl X x) (hm : X.mg x = none) (hv : bootBuiltins x = some (.type T)) (hn : x ≠ "__name__" := by decide) (hd : (x == ("__debug__" : Str)) = false := by decide) : DPE X (.Name x pos) (dC (.ty T)) :=
  de_const (pe_bltn hg hm hv (v := .ty T) rfl hn hd) fun _ => .ty T

/-! ### operators by two values -/
abbrev F2 := D → D → DG → DK → Prop
def MonoF2 (f : F2) : Prop := ∀ x y G (Q Q' : DK), (∀ d G', Q d G' → Q' d G') → f x y G Q → f x y G Q'
def dOp (f : F2) (ta tb : DE) : DE := fun σ G Q => ta σ G fun x G1 => tb σ G1 fun y G2 => f x y G2 Q
def Sim2 (K : PySem.W.Frag) (r : R2) (f : F2) : Prop := ∀ H G x y dx dy Q, MH K G H → RD K H dx x → RD K H dy y → f dx dy G (lf K H Q) → r x y H Q
theorem dOp_mono {f : F2} (hm : MonoF2 f) (ha : MonoE ta) (hb : MonoE tb) : MonoE (dOp f ta tb) := fun σ G Q Q' h q =>
  ha σ G _ _ (fun x G1 q1 => hb σ G1 _ _ (fun y G2 q2 => hm x y G2 Q Q' h q2) q1) q
theorem dOp_run {K : PySem.W.Frag} {r : R2} {f : F2} {tta ttb : TE} (hm : MonoF2 f) (hs : Sim2 K r f) (ma : MonoE ta) (mb : MonoE tb)
    (ra : ∀ σ H σd G Q, MH K G H → SR K H σd σ → ta σd G (lf K H Q) → tta σ H Q) (rb : ∀ σ H σd G Q, MH K G H → SR K H σd σ → tb σd G (lf K H Q) → ttb σ H Q) :
    ∀ σ H σd G Q, MH K G H → SR K H σd σ → dOp f ta tb σd G (lf K H Q) → tOp r tta ttb σ H Q := fun σ H σd G Q m s h =>
  ra σ H σd G _ m s (ma _ _ _ _ (fun dx G1 h1 x H1 m1 r1 k1 => rb σ H1 σd G1 _ m1 (s.kt k1) (mb _ _ _ _ (fun dy G2 h2 y H2 m2 r2 k2 =>
    hs H2 G2 x y dx dy Q m2 (r1.kt k2) r2 (hm _ _ _ _ _ (fun d G' z => lf_kt (k1.trans k2) z) h2)) h1)) h)
theorem de_op {op : Operator} {r : R2} {f : F2} (ho : OpR X (binaryOp op) r) (hm : MonoF2 f) (hs : Sim2 X.K r f) (ha : DPE X a ta) (hb : DPE X b tb) : DPE X (.BinOp a op b pos) (dOp f ta tb) := by
  obtain ⟨ma, tta, pa, ra⟩ := ha
  obtain ⟨mb, ttb, pb, rb⟩ := hb
  exact ⟨dOp_mono hm ma mb, _, pe_op ho pa pb, dOp_run hm hs ma mb ra rb⟩
theorem de_cmpR {op : CmpOp} {r : R2} {f : F2} (ho : OpR X (compareOp op) r) (hm : MonoF2 f) (hs : Sim2 X.K r f) (ha : DPE X a ta) (hb : DPE X b tb) (hk : behindInMarks op b = false) : DPE X (.Compare a [op] [b] pos) (dOp f ta tb) := by
  obtain ⟨ma, tta, pa, ra⟩ := ha
  obtain ⟨mb, ttb, pb, rb⟩ := hb
  exact ⟨dOp_mono hm ma mb, _, pe_cmpR ho pa pb hk, dOp_run hm hs ma mb ra rb⟩
/-- a value that is a truth, as a test -/
def dTest (t : DE) : DTt := fun σ G Q => t σ G fun d G' => match d with | .bl k => Q k G' | _ => False
theorem dTest_mono (ha : MonoE ta) : MonoT (dTest ta) := fun σ G Q Q' h q => ha σ G _ _ (fun x G1 q1 => by
  cases x <;> first | exact h _ _ q1 | exact False.elim q1) q
theorem dTest_run {K : PySem.W.Frag} {tta : TE} (ma : MonoE ta) (ra : ∀ σ H σd G Q, MH K G H → SR K H σd σ → ta σd G (lf K H Q) → tta σ H Q) :
    ∀ σ H σd G Q, MH K G H → SR K H σd σ → dTest ta σd G (lfT K H Q) → tTest tta σ H Q := fun σ H σd G Q m s h =>
  ra σ H σd G _ m s (ma _ _ _ _ (fun d G' q v H' m' r' k' => by
    cases d with
    | bl k => cases r'; exact ⟨k, rfl, q H' m' k'⟩
    | _ => exact False.elim q) h)
theorem dt_cmpR {op : CmpOp} {r : R2} {f : F2} (ho : OpR X (compareOp op) r) (hm : MonoF2 f) (hs : Sim2 X.K r f) (ha : DPE X a ta) (hb : DPE X b tb) (hk : behindInMarks op b = false) : DPT X (.Compare a [op] [b] pos) (dTest (dOp f ta tb)) := by
  obtain ⟨ma, tta, pa, ra⟩ := ha
  obtain ⟨mb, ttb, pb, rb⟩ := hb
  exact ⟨dTest_mono (dOp_mono hm ma mb), _, pt_cmpR ho pa pb hk, dTest_run (dOp_mono hm ma mb) (dOp_run hm hs ma mb ra rb)⟩
/-- one place -/
abbrev F1 := D → DG → DK → Prop
def MonoF1 (f : F1) : Prop := ∀ x G (Q Q' : DK), (∀ d G', Q d G' → Q' d G') → f x G Q → f x G Q'
def dUn (f : F1) (ta : DE) : DE := fun σ G Q => ta σ G fun x G1 => f x G1 Q
def Sim1 (K : PySem.W.Frag) (r : V → Hp → VK → Prop) (f : F1) : Prop := ∀ H G x dx Q, MH K G H → RD K H dx x → f dx G (lf K H Q) → r x H Q
theorem dUn_mono {f : F1} (hm : MonoF1 f) (ha : MonoE ta) : MonoE (dUn f ta) := fun σ G Q Q' h q => ha σ G _ _ (fun x G1 q1 => hm x G1 Q Q' h q1) q
theorem dUn_run {K : PySem.W.Frag} {r : V → Hp → VK → Prop} {f : F1} {tta : TE} (hm : MonoF1 f) (hs : Sim1 K r f) (ma : MonoE ta)
    (ra : ∀ σ H σd G Q, MH K G H → SR K H σd σ → ta σd G (lf K H Q) → tta σ H Q) :
    ∀ σ H σd G Q, MH K G H → SR K H σd σ → dUn f ta σd G (lf K H Q) → tUn r tta σ H Q := fun σ H σd G Q m s h =>
  ra σ H σd G _ m s (ma _ _ _ _ (fun dx G1 h1 x H1 m1 r1 k1 => hs H1 G1 x dx Q m1 r1 (hm _ _ _ _ (fun d G' z => lf_kt k1 z) h1)) h)
theorem de_un {op : UnaryOp} {r : V → Hp → VK → Prop} {f : F1} (ho : UnR X (unaryOp op) r) (hm : MonoF1 f) (hs : Sim1 X.K r f) (ha : DPE X a ta) : DPE X (.UnaryOp op a pos) (dUn f ta) := by
  obtain ⟨ma, tta, pa, ra⟩ := ha
  exact ⟨dUn_mono hm ma, _, pe_un ho pa, dUn_run hm hs ma ra⟩

/-! ### argument lists, tuples, lists -/
def dNil : DA := fun _ G Q => Q [] G
def dCons (t : DE) (ts : DA) : DA := fun σ G Q => t σ G fun x G1 => ts σ G1 fun xs G2 => Q (x :: xs) G2
theorem da_nil : DPA X [] dNil := ⟨fun σ G Q Q' h q => h _ _ q, tNil, pa_nil, fun σ H σd G Q m s h => h [] H m .nil .refl⟩
theorem da_cons {ts : DA} (ha : DPE X e ta) (hr : DPA X es ts) (hs : starEach (e :: es) X.env = (false, eval e X.env) :: starEach es X.env := by rfl) : DPA X (e :: es) (dCons ta ts) := by
  obtain ⟨ma, tta, pa, ra⟩ := ha
  obtain ⟨mr, ttr, pr, rr⟩ := hr
  refine ⟨fun σ G Q Q' h q => ma σ G _ _ (fun x G1 q1 => mr σ G1 _ _ (fun xs G2 q2 => h _ _ q2) q1) q, _, pa_cons pa pr hs, fun σ H σd G Q m s h => ?_⟩
  exact ra σ H σd G _ m s (ma _ _ _ _ (fun dx G1 h1 x H1 m1 r1 k1 => rr σ H1 σd G1 _ m1 (s.kt k1) (mr _ _ _ _ (fun dxs G2 h2 xs H2 m2 r2 k2 => h2 (x :: xs) H2 m2 (r2.cons (r1.kt k2)) (k1.trans k2)) h1)) h)
def dTup (t : DA) : DE := fun σ G Q => t σ G fun xs G1 => xs.length ≤ sizeLine ∧ Q (.tup xs) G1
def dLst (t : DA) : DE := fun σ G Q => t σ G fun xs G1 => xs.length ≤ sizeLine ∧ ∀ p, G1 p = none → Q (.ref p) (up G1 p (.lst xs))
theorem RD.new_tup {K : PySem.W.Frag} {H : Hp} {p : Addr} {o : Obj} {ds : List D} {vs : List V} (r : RDs K H ds vs) (hp : H p = none) (hd : o.dict = none) : RD K (L2.upd H p (.frz o (.tup vs))) (.tup ds) (.ref p) :=
  .tup (.new hd) r.1 fun i x v a b => (r.2 i x v a b).kt (KT.upd_new hp)
/-- a new tuple, known as an object -/
def NewT (H : Hp) (xs : List V) (Q : VK) : Prop := ∀ (p : Addr) (o : Obj), H p = none → o.dict = none → Q (.ref p) (upd H p (.frz o (.tup xs)))
theorem newT_inv {pins : List (Addr × Obj)} {σ : St} {H : Hp} {s : Shared} {Q : VK} {xs : List V} {its : List Value} {h' : Heap} {n : Nat} (I : Inv X pins σ H { s with heap := h' }) (r : Vals xs its) (z : xs.length ≤ sizeLine) (q : NewT H xs Q) :
    EP X pins σ Q (.ref h'.objs.size) { s with heap := h'.push { cls := .type "tuple", data := .seq its.toArray n } } := by
  have hf : H h'.objs.size = none := I.hok.fresh (Nat.le_refl _)
  refine ⟨.ref h'.objs.size, _, I.laid (t' := s.toks) (fun b u e => Heap.get?_push_of_some _ e) (Nat.le_refl _) ?_, rfl, q _ { cls := .type "tuple", data := .seq its.toArray n } hf rfl⟩
  exact ⟨Heap.get?_push_size _ rfl, z, its, r, ⟨_, Heap.get?_push_size _ rfl, rfl, _, rfl⟩⟩
def tTupP (t : TA) : TE := fun σ H Q => t σ H fun xs H1 => xs.length ≤ sizeLine ∧ NewT H1 xs Q
theorem pe_tupP {x1} {t : TA} (h : PA X es t) : PE X (.Tuple es x1 pos) (tTupP t) := by
  refine ⟨fun pins s σ H Q I hq => ?_⟩
  refine wpAny_Tuple_spliced (thn (h.run pos pins s σ H _ I hq) fun us s1 ⟨xs, H1, I1, r, z, q⟩ => ⟨by rw [← r.length]; exact z, ?_⟩)
  exact newT_inv (s := s1) (h' := s1.heap) I1 r z q
theorem MO.new_lst {K : PySem.W.Frag} {H : Hp} {p : Addr} {ds : List D} {vs : List V} (r : RDs K H ds vs) (k : KT K H (L2.upd H p (.lst vs))) : MO K (L2.upd H p (.lst vs)) p (.lst ds) := ⟨vs, upd_same, r.kt k⟩
theorem de_tup {x1} {t : DA} (h : DPA X es t) : DPE X (.Tuple es x1 pos) (dTup t) := by
  obtain ⟨ma, tta, pa, ra⟩ := h
  refine ⟨fun σ G Q Q' h q => ma σ G _ _ (fun x G1 q1 => ⟨q1.1, h _ _ q1.2⟩) q, _, pe_tupP pa, fun σ H σd G Q m s h => ?_⟩
  refine ra σ H σd G _ m s (ma _ _ _ _ (fun ds G1 h1 vs H1 m1 r1 k1 => ?_) h)
  refine ⟨by rw [← r1.1]; exact h1.1, fun p o hp hd => ?_⟩
  exact h1.2 (.ref p) _ (m1.new (.upd_new hp) (m1.fresh hp)) (.new_tup r1 hp hd) (k1.trans (.upd_new hp))
theorem de_lst {t : DA} (h : DPA X es t) : DPE X (.List es pos) (dLst t) := by
  obtain ⟨ma, tta, pa, ra⟩ := h
  refine ⟨fun σ G Q Q' h q => ma σ G _ _ (fun x G1 q1 => ⟨q1.1, fun p hp => h _ _ (q1.2 p hp)⟩) q, _, pe_lst pa, fun σ H σd G Q m s h => ?_⟩
  refine ra σ H σd G _ m s (ma _ _ _ _ (fun ds G1 h1 vs H1 m1 r1 k1 => ?_) h)
  refine ⟨by rw [← r1.1]; exact h1.1, fun p hp => ?_⟩
  exact h1.2 p (m1.fresh hp) (.ref p) _ (m1.upd (.upd_new hp) (.new_lst r1 (.upd_new hp))) (.ref p) (k1.trans (.upd_new hp))

/-! ### calls of built-ins by values -/
abbrev FL := List D → DG → DK → Prop
def MonoFL (f : FL) : Prop := ∀ x G (Q Q' : DK), (∀ d G', Q d G' → Q' d G') → f x G Q → f x G Q'
def SimL (K : PySem.W.Frag) (r : List V → Hp → VK → Prop) (f : FL) : Prop := ∀ H G xs dxs Q, MH K G H → RDs K H dxs xs → f dxs G (lf K H Q) → r xs H Q
def dCB (f : FL) (t : DA) : DE := fun σ G Q => t σ G fun xs G1 => f xs G1 Q
theorem dCB_mono {f : FL} {t : DA} (hm : MonoFL f) (ha : MonoA t) : MonoE (dCB f t) := fun σ G Q Q' h q => ha σ G _ _ (fun x G1 q1 => hm x G1 Q Q' h q1) q
theorem dCB_run {K : PySem.W.Frag} {r : List V → Hp → VK → Prop} {f : FL} {t : DA} {tta : TA} (hm : MonoFL f) (hs : SimL K r f) (ma : MonoA t)
    (ra : ∀ σ H σd G Q, MH K G H → SR K H σd σ → t σd G (lfA K H Q) → tta σ H Q) :
    ∀ σ H σd G Q, MH K G H → SR K H σd σ → dCB f t σd G (lf K H Q) → tCB r tta σ H Q := fun σ H σd G Q m s h =>
  ra σ H σd G _ m s (ma _ _ _ _ (fun dx G1 h1 x H1 m1 r1 k1 => hs H1 G1 x dx Q m1 r1 (hm _ _ _ _ (fun d G' z => lf_kt k1 z) h1)) h)
theorem de_callB {x : Str} {id : String} {p : Pos} {r : List V → Hp → VK → Prop} {f : FL} {t : DA} (hc : CallR X (.builtin id) r) (hmf : MonoFL f) (hs : SimL X.K r f) (hg : Gl X x) (hm : X.mg x = none) (hv : bootBuiltins x = some (.builtin id)) (ha : DPA X (e :: es) t) (hn : x ≠ "__name__" := by decide) (hdb : (x == ("__debug__" : Str)) = false := by decide)
    (h1 : starEach (e :: es) X.env = (false, eval e X.env) :: starEach es X.env := by rfl) (h2 : ((backTo pos (starEach es X.env)).any fun x => x.fst) = false := by rfl) : DPE X (.Call (.Name x p) (e :: es) [] pos) (dCB f t) := by
  obtain ⟨ma, tta, pa, ra⟩ := ha
  exact ⟨dCB_mono hmf ma, _, pe_callB hc hg hm hv pa hn hdb h1 h2, dCB_run hmf hs ma ra⟩
theorem de_callTy {x : Str} {T : String} {p : Pos} {r : List V → Hp → VK → Prop} {f : FL} {t : DA} (hc : CallR X (.type T) r) (hmf : MonoFL f) (hs : SimL X.K r f) (hg : Gl X x) (hm : X.mg x = none) (hv : bootBuiltins x = some (.type T)) (ha : DPA X (e :: es) t) (hn : x ≠ "__name__" := by decide) (hdb : (x == ("__debug__" : Str)) = false := by decide)
    (h1 : starEach (e :: es) X.env = (false, eval e X.env) :: starEach es X.env := by rfl) (h2 : ((backTo pos (starEach es X.env)).any fun x => x.fst) = false := by rfl) : DPE X (.Call (.Name x p) (e :: es) [] pos) (dCB f t) := by
  obtain ⟨ma, tta, pa, ra⟩ := ha
  exact ⟨dCB_mono hmf ma, _, pe_callTy hc hg hm hv pa hn hdb h1 h2, dCB_run hmf hs ma ra⟩

/-! ### tests -/
def dAnd (t u : DTt) : DTt := fun σ G Q => t σ G fun k G1 => if k = true then u σ G1 Q else Q false G1
def dOr (t u : DTt) : DTt := fun σ G Q => t σ G fun k G1 => if k = true then Q true G1 else u σ G1 Q
def dNot (t : DTt) : DTt := fun σ G Q => t σ G fun k G1 => Q (!k) G1
variable {tA tB' : DTt}
theorem dw_and1 (ha : DPT X a tA) : DPW X (.BoolOp .And [a] pos) tA := let ⟨m, tt, p, r⟩ := ha; ⟨m, tt, pw_and1 p, r⟩
theorem dw_or1 (ha : DPT X a tA) : DPW X (.BoolOp .Or [a] pos) tA := let ⟨m, tt, p, r⟩ := ha; ⟨m, tt, pw_or1 p, r⟩
theorem dw_and (ha : DPT X a tA) (hb : DPW X (.BoolOp .And (b :: rest) pos) tB') : DPW X (.BoolOp .And (a :: b :: rest) pos) (dAnd tA tB') := by
  obtain ⟨ma, tta, pa, ra⟩ := ha
  obtain ⟨mb, ttb, pb, rb⟩ := hb
  refine ⟨fun σ G Q Q' h q => ma σ G _ _ (fun k G1 q1 => ?_) q, _, pw_and pa pb, fun σ H σd G Q m s h => ra σ H σd G _ m s (ma _ _ _ _ (fun k G1 h1 H1 m1 k1 => ?_) h)⟩
  · cases k with
    | true => exact mb σ G1 Q Q' h q1
    | false => exact h _ _ q1
  · cases k with
    | true => exact rb σ H1 σd G1 Q m1 (s.kt k1) (mb _ _ _ _ (fun d G' z => lfT_kt k1 z) h1)
    | false => exact h1 H1 m1 k1
theorem dw_or (ha : DPT X a tA) (hb : DPW X (.BoolOp .Or (b :: rest) pos) tB') : DPW X (.BoolOp .Or (a :: b :: rest) pos) (dOr tA tB') := by
  obtain ⟨ma, tta, pa, ra⟩ := ha
  obtain ⟨mb, ttb, pb, rb⟩ := hb
  refine ⟨fun σ G Q Q' h q => ma σ G _ _ (fun k G1 q1 => ?_) q, _, pw_or pa pb, fun σ H σd G Q m s h => ra σ H σd G _ m s (ma _ _ _ _ (fun k G1 h1 H1 m1 k1 => ?_) h)⟩
  · cases k with
    | false => exact mb σ G1 Q Q' h q1
    | true => exact h _ _ q1
  · cases k with
    | false => exact rb σ H1 σd G1 Q m1 (s.kt k1) (mb _ _ _ _ (fun d G' z => lfT_kt k1 z) h1)
    | true => exact h1 H1 m1 k1
theorem DPW.dt (h : DPW X e tA) : DPT X e tA := let ⟨m, tt, p, r⟩ := h; ⟨m, tt, p.pt, r⟩
theorem dt_not (ha : DPT X a tA) : DPT X (.UnaryOp .Not a pos) (dNot tA) := by
  obtain ⟨ma, tta, pa, ra⟩ := ha
  exact ⟨fun σ G Q Q' h q => ma σ G _ _ (fun k G1 q1 => h _ _ q1) q, _, pt_not pa, fun σ H σd G Q m s h => ra σ H σd G _ m s (ma _ _ _ _ (fun k G1 h1 H1 m1 k1 => h1 H1 m1 k1) h)⟩
/-- the truth of any value -/
def truD (d : D) (G : DG) : Option Bool := match d with
  | .non => some false
  | .bl b => some b
  | .int i => some (i != 0)
  | .str x => if x.length ≤ sizeLine then some ((x.length : Int) != 0) else none
  | .tup xs => some (!xs.isEmpty)
  | .lis xs => some (!xs.isEmpty)
  | .ref a => match G a with
    | some (.lst xs) => some (!xs.isEmpty)
    | some (.dK kvs) => some (!kvs.isEmpty)
    | _ => none
  | .ty _ => none
  | .tpl _ => none
def optT (o : Option Bool) (G : DG) (Q : Bool → DG → Prop) : Prop := match o with | some d => Q d G | none => False
def dTru (t : DE) : DTt := fun σ G Q => t σ G fun d G' => optT (truD d G') G' Q
theorem RDs.isEmpty {K : PySem.W.Frag} {H : Hp} {xs : List D} {vs : List V} (r : RDs K H xs vs) : xs.isEmpty = vs.isEmpty := by
  have h := r.1
  cases xs <;> cases vs <;> simp at h ⊢
theorem truD_ok {K : PySem.W.Frag} {H : Hp} {G : DG} {d : D} {v : V} {k : Bool} (m : MH K G H) (r : RD K H d v) (h : truD d G = some k) : TruV K v H k := by
  cases r with
  | non => simpa [truD, TruV, eq_comm] using h
  | bl b => simpa [truD, TruV, eq_comm] using h
  | int i => simpa [truD, TruV, eq_comm] using h
  | str x =>
    simp only [truD] at h
    split at h
    · exact ⟨by assumption, by simpa [eq_comm] using h⟩
    · cases h
  | ty n => simp [truD] at h
  | tpl => simp [truD] at h
  | lis hs hl hi =>
    refine Or.inl ⟨_, hs.l, ?_⟩
    simp only [truD, Option.some.injEq] at h
    rw [← h, RDs.isEmpty (K := K) (H := H) ⟨hl, hi⟩]
  | tup hs hl hi =>
    refine Or.inr (Or.inl ⟨_, hs.t, ?_⟩)
    simp only [truD, Option.some.injEq] at h
    rw [← h, RDs.isEmpty (K := K) (H := H) ⟨hl, hi⟩]
  | ref a =>
    simp only [truD] at h
    split at h
    · rename_i xs e
      obtain ⟨vs, h1, h2⟩ := m a _ e
      exact Or.inl ⟨vs, SqL.of h1, by rw [← h2.isEmpty]; simpa [eq_comm] using h⟩
    · rename_i xs e
      obtain ⟨vs, h1, h2, h3⟩ := m a _ e
      refine Or.inr (Or.inr ⟨vs, h1, ?_⟩)
      have e2 : xs.isEmpty = vs.isEmpty := by
        have := congrArg List.length h2
        cases xs <;> cases vs <;> simp at this ⊢
      rw [← e2]; simpa [eq_comm] using h
    · cases h
theorem dt_tru (ha : DPE X e ta) (he : ∀ whole, isTrue e X.env whole = (do let v ← whole; standAt e.pos; holding [v] (truthy v)) := by intro _; rfl) : DPT X e (dTru ta) := by
  obtain ⟨ma, tta, pa, ra⟩ := ha
  refine ⟨fun σ G Q Q' h q => ma σ G _ _ (fun d G1 q1 => ?_) q, _, pt_truth pa he, fun σ H σd G Q m s h => ra σ H σd G _ m s (ma _ _ _ _ (fun d G1 h1 v H1 m1 r1 k1 => ?_) h)⟩
  · unfold optT at q1 ⊢
    split <;> rename_i e
    · rw [e] at q1; exact h _ _ q1
    · rw [e] at q1; exact q1
  · unfold optT at h1
    split at h1 <;> rename_i e
    · exact ⟨_, truD_ok m1 r1 e, h1 H1 m1 k1⟩
    · exact False.elim h1
/-- a if t else b -/
def dIfE (t : DTt) (ta tb : DE) : DE := fun σ G Q => t σ G fun k G1 => if k = true then ta σ G1 Q else tb σ G1 Q
theorem de_if (hc : DPT X c tA) (ha : DPE X a ta) (hb : DPE X b tb) : DPE X (.IfExp c a b pos) (dIfE tA ta tb) := by
  obtain ⟨mc, ttc, pc, rc⟩ := hc
  obtain ⟨ma, tta, pa, ra⟩ := ha
  obtain ⟨mb, ttb, pb, rb⟩ := hb
  refine ⟨fun σ G Q Q' h q => mc σ G _ _ (fun k G1 q1 => ?_) q, _, pe_ifExp pc pa pb, fun σ H σd G Q m s h => rc σ H σd G _ m s (mc _ _ _ _ (fun k G1 h1 H1 m1 k1 => ?_) h)⟩
  · cases k with
    | true => exact ma σ G1 Q Q' h q1
    | false => exact mb σ G1 Q Q' h q1
  · cases k with
    | true => exact ra σ H1 σd G1 Q m1 (s.kt k1) (ma _ _ _ _ (fun d G' z => lf_kt k1 z) h1)
    | false => exact rb σ H1 σd G1 Q m1 (s.kt k1) (mb _ _ _ _ (fun d G' z => lf_kt k1 z) h1)
/-- and, or, not as values -/
def dAndV (ta tb : DE) : DE := fun σ G Q => ta σ G fun x G1 => match x with | .bl true => tb σ G1 Q | .bl false => Q (.bl false) G1 | _ => False
def dOrV (ta tb : DE) : DE := fun σ G Q => ta σ G fun x G1 => match x with | .bl false => tb σ G1 Q | .bl true => Q (.bl true) G1 | _ => False
def dNotV (ta : DE) : DE := fun σ G Q => ta σ G fun x G1 => match x with | .bl k => Q (.bl (!k)) G1 | _ => False
theorem de_one {op} (h : DPE X a ta) : DPE X (.BoolOp op [a] pos) ta := let ⟨m, tt, p, r⟩ := h; ⟨m, tt, pe_one p, r⟩
theorem de_and (ha : DPE X a ta) (hb : DPE X (.BoolOp .And (b :: rest) pos) tb) : DPE X (.BoolOp .And (a :: b :: rest) pos) (dAndV ta tb) := by
  obtain ⟨ma, tta, pa, ra⟩ := ha
  obtain ⟨mb, ttb, pb, rb⟩ := hb
  refine ⟨fun σ G Q Q' h q => ma σ G _ _ (fun x G1 q1 => ?_) q, _, pe_and pa pb, fun σ H σd G Q m s h => ra σ H σd G _ m s (ma _ _ _ _ (fun x G1 h1 v H1 m1 r1 k1 => ?_) h)⟩
  · cases x with
    | bl k =>
      cases k with
      | true => exact mb σ G1 Q Q' h q1
      | false => exact h _ _ q1
    | _ => exact False.elim q1
  · cases x with
    | bl k =>
      cases r1
      cases k with
      | true => exact ⟨true, rfl, rb σ H1 σd G1 Q m1 (s.kt k1) (mb _ _ _ _ (fun d G' z => lf_kt k1 z) h1)⟩
      | false => exact ⟨false, rfl, h1 (.bl false) H1 m1 (.bl false) k1⟩
    | _ => exact False.elim h1
theorem de_or (ha : DPE X a ta) (hb : DPE X (.BoolOp .Or (b :: rest) pos) tb) : DPE X (.BoolOp .Or (a :: b :: rest) pos) (dOrV ta tb) := by
  obtain ⟨ma, tta, pa, ra⟩ := ha
  obtain ⟨mb, ttb, pb, rb⟩ := hb
  refine ⟨fun σ G Q Q' h q => ma σ G _ _ (fun x G1 q1 => ?_) q, _, pe_or pa pb, fun σ H σd G Q m s h => ra σ H σd G _ m s (ma _ _ _ _ (fun x G1 h1 v H1 m1 r1 k1 => ?_) h)⟩
  · cases x with
    | bl k =>
      cases k with
      | false => exact mb σ G1 Q Q' h q1
      | true => exact h _ _ q1
    | _ => exact False.elim q1
  · cases x with
    | bl k =>
      cases r1
      cases k with
      | false => exact ⟨false, rfl, rb σ H1 σd G1 Q m1 (s.kt k1) (mb _ _ _ _ (fun d G' z => lf_kt k1 z) h1)⟩
      | true => exact ⟨true, rfl, h1 (.bl true) H1 m1 (.bl true) k1⟩
    | _ => exact False.elim h1
theorem de_not (ha : DPE X a ta) : DPE X (.UnaryOp .Not a pos) (dNotV ta) := by
  obtain ⟨ma, tta, pa, ra⟩ := ha
  refine ⟨fun σ G Q Q' h q => ma σ G _ _ (fun x G1 q1 => ?_) q, _, pe_not pa, fun σ H σd G Q m s h => ra σ H σd G _ m s (ma _ _ _ _ (fun x G1 h1 v H1 m1 r1 k1 => ?_) h)⟩
  · cases x with
    | bl k => exact h _ _ q1
    | _ => exact False.elim q1
  · cases x with
    | bl k => cases r1; exact ⟨k, rfl, h1 (.bl (!k)) H1 m1 (.bl _) k1⟩
    | _ => exact False.elim h1
/-- a < b < c -/
def dChain (f g : F2) (ta tb tc : DE) : DE := fun σ G Q => ta σ G fun x G1 => tb σ G1 fun y G2 => f x y G2 fun z G3 => match z with
  | .bl true => tc σ G3 fun u G4 => g y u G4 Q
  | .bl false => Q (.bl false) G3
  | _ => False
end
end FD

namespace FD
open PySem L2
section
variable {X : Cx} {a b c e : Expr} {es rest : List Expr} {ta tb tc : DE} {pos : Pos}

theorem de_chain {op op' : CmpOp} {r r' : R2} {f g : F2} (ho : OpR X (compareOp op) r) (ho' : OpR X (compareOp op') r') (hf : MonoF2 f) (hg : MonoF2 g) (sf : Sim2 X.K r f) (sg : Sim2 X.K r' g)
    (ha : DPE X a ta) (hb : DPE X b tb) (hc : DPE X c tc) (hm : lastMarks [op, op'] [b, c] = false := by with_unfolding_all rfl) : DPE X (.Compare a [op, op'] [b, c] pos) (dChain f g ta tb tc) ∧ DPT X (.Compare a [op, op'] [b, c] pos) (dTest (dChain f g ta tb tc)) := by
  obtain ⟨ma, tta, pa, ra⟩ := ha
  obtain ⟨mb, ttb, pb, rb⟩ := hb
  obtain ⟨mc, ttc, pc, rc⟩ := hc
  have mono : MonoE (dChain f g ta tb tc) := fun σ G Q Q' h q => ma σ G _ _ (fun x G1 q1 => mb σ G1 _ _ (fun y G2 q2 => hf x y G2 _ _ (fun z G3 q3 => by
    cases z with
    | bl k =>
      cases k with
      | true => exact mc σ G3 _ _ (fun u G4 q4 => hg y u G4 Q Q' h q4) q3
      | false => exact h _ _ q3
    | _ => exact False.elim q3) q2) q1) q
  have run : ∀ σ H σd G Q, MH X.K G H → SR X.K H σd σ → dChain f g ta tb tc σd G (lf X.K H Q) → tChain r r' tta ttb ttc σ H Q := fun σ H σd G Q m s h =>
    ra σ H σd G _ m s (ma _ _ _ _ (fun dx G1 h1 x H1 m1 r1 k1 => rb σ H1 σd G1 _ m1 (s.kt k1) (mb _ _ _ _ (fun dy G2 h2 y H2 m2 r2 k2 => by
      refine sf H2 G2 x y dx dy _ m2 (r1.kt k2) r2 (hf _ _ _ _ _ (fun z G3 q3 v H3 m3 r3 k3 => ?_) h2)
      cases z with
      | bl k =>
        cases r3
        cases k with
        | true =>
          refine ⟨true, rfl, ?_⟩
          show ttc σ H3 fun z H4 => r' y z H4 Q
          refine rc σ H3 σd G3 _ m3 (s.kt ((k1.trans k2).trans k3)) (mc _ _ _ _ (fun u G4 h4 w H4 m4 r4 k4 => ?_) q3)
          exact sg H4 G4 y w dy u Q m4 ((r2.kt k3).kt k4) r4 (hg _ _ _ _ _ (fun d G' z => lf_kt (((k1.trans k2).trans k3).trans k4) z) h4)
        | false =>
          refine ⟨false, rfl, ?_⟩
          exact q3 (.bl false) H3 m3 (.bl false) ((k1.trans k2).trans k3)
      | _ => exact False.elim q3) h1)) h)
  exact ⟨⟨mono, _, pe_chain ho ho' pa pb pc hm, run⟩, ⟨dTest_mono mono, _, pt_chain ho ho' pa pb pc hm, dTest_run mono run⟩⟩

/-! ### arithmetic -/
def addD : F2 := fun x y G Q => match x, y with
  | .int i, .int j => Q (.int (i + j)) G
  | .str s, .str t => s.length + t.length ≤ sizeLine ∧ Q (.str (s ++ t)) G
  | .tup xs, .tup ys => xs.length + ys.length ≤ sizeLine ∧ Q (.tup (xs ++ ys)) G
  | .ref p, .ref q => ∃ xs ys, G p = some (.lst xs) ∧ G q = some (.lst ys) ∧ xs.length + ys.length ≤ sizeLine ∧ ∀ n, G n = none → Q (.ref n) (up G n (.lst (xs ++ ys)))
  | _, _ => False
theorem addD_mono : MonoF2 addD := fun x y G Q Q' h q => by
  unfold addD at q ⊢
  split at q
  · exact h _ _ q
  · exact ⟨q.1, h _ _ q.2⟩
  · exact ⟨q.1, h _ _ q.2⟩
  · obtain ⟨xs, ys, h1, h2, h3, h4⟩ := q
    exact ⟨xs, ys, h1, h2, h3, fun n hn => h _ _ (h4 n hn)⟩
  · exact q
def rCatP (K : PySem.W.Frag) : R2 := fun x y H Q => ∃ a b xs ys, x = .ref a ∧ y = .ref b ∧ SqT K H a xs ∧ SqT K H b ys ∧ xs.length + ys.length ≤ sizeLine ∧
  (xs = [] → Q (.ref b) H) ∧ (xs ≠ [] → ys = [] → Q (.ref a) H) ∧ (xs ≠ [] → ys ≠ [] → NewT H (xs ++ ys) Q)
theorem op_catP : OpR X (binaryOp .Add) (rCatP X.K) := by
  intro pins s σ H x y v u Q I rx ry h
  obtain ⟨a, b, xs, ys, rfl, rfl, ha, hb, hz, q0, q1, q2⟩ := h
  cases rx
  cases ry
  obtain ⟨its, r1, p1, _⟩ := I.tuple ha
  obtain ⟨its2, r2, p2, _⟩ := I.tuple hb
  by_cases hx : xs = []
  · subst hx
    cases r1
    exact cat_tup0 p1 p2 ⟨.ref b, H, I, rfl, q0 rfl⟩
  · refine HT.cat_tup p1 p2 (fun z => hx (r1.nil_iff.mp z)) (fun z => ⟨.ref a, H, I, rfl, q1 hx (r2.nil_iff.mp z)⟩) (fun z => ?_) (by rw [← r1.length, ← r2.length]; exact hz)
    exact newT_inv (s := s) (h' := s.heap) I (r1.append r2) (by rw [List.length_append]; exact hz) (q2 hx fun w => z (r2.nil_iff.mpr w))
def rAddAll (K : PySem.W.Frag) : R2 := fun x y H Q => rI0 (fun i j => .int (i + j)) x y H Q ∨ (∃ i j, x = .str i ∧ y = .str j ∧ i.length + j.length ≤ sizeLine ∧ Q (.str (i ++ j)) H) ∨ rCatP K x y H Q ∨ rCat x y H Q
theorem op_addAll : OpR X (binaryOp .Add) (rAddAll X.K) := op_add.or (op_add_str.or (op_catP.or op_cat))
theorem addD_sim {K : PySem.W.Frag} : Sim2 K (rAddAll K) addD := fun H G x y dx dy Q m rx ry h => by
  unfold addD at h
  split at h
  · cases rx; cases ry
    exact .inl ⟨_, _, rfl, rfl, h _ _ m (.int _) .refl⟩
  · cases rx; cases ry
    exact .inr (.inl ⟨_, _, rfl, rfl, h.1, h.2 _ _ m (.str _) .refl⟩)
  · rename_i xs ys
    cases rx with
    | @tup p _ vs hs hl hi =>
      cases ry with
      | @tup q _ ws hs' hl' hi' =>
        refine .inr (.inr (.inl ⟨p, q, vs, ws, rfl, rfl, hs.t, hs'.t, by rw [← hl, ← hl']; exact h.1, ?_⟩))
        have r1 : RDs K H xs vs := ⟨hl, hi⟩
        have r2 : RDs K H ys ws := ⟨hl', hi'⟩
        refine ⟨fun e => ?_, fun e e2 => ?_, fun _ _ n o hn hd => ?_⟩
        · subst e
          have e2 : xs = [] := by cases xs with | nil => rfl | cons _ _ => simp at hl
          subst e2
          exact h.2 _ _ m (.tup hs' hl' hi') .refl
        · subst e2
          have e2 : ys = [] := by cases ys with | nil => rfl | cons _ _ => simp at hl'
          subst e2
          have h2 := h.2 (.ref p) H m (by simpa using RD.tup hs hl hi) .refl
          exact h2
        · exact h.2 (.ref n) _ (m.new (.upd_new hn) (m.fresh hn)) (.new_tup (r1.append r2) hn hd) (.upd_new hn)
  · obtain ⟨xs, ys, h1, h2, h3, h4⟩ := h
    cases rx; cases ry
    obtain ⟨vs, g1, r1⟩ := m _ _ h1
    obtain ⟨ws, g2, r2⟩ := m _ _ h2
    refine .inr (.inr (.inr ⟨_, _, vs, ws, rfl, rfl, g1, g2, by rw [← r1.1, ← r2.1]; exact h3, fun n hn => ?_⟩))
    exact h4 n (m.fresh hn) (.ref n) _ (m.upd (.upd_new hn) (.new_lst (r1.append r2) (.upd_new hn))) (.ref n) (.upd_new hn)
  · exact False.elim h
theorem de_add (ha : DPE X a ta) (hb : DPE X b tb) : DPE X (.BinOp a .Add b pos) (dOp addD ta tb) := de_op op_addAll addD_mono addD_sim ha hb
/-- two ints -/
def intD (C : Int → Int → Prop) (g : Int → Int → D) : F2 := fun x y G Q => match x, y with
  | .int i, .int j => C i j ∧ Q (g i j) G
  | _, _ => False
theorem intD_mono {C : Int → Int → Prop} {g : Int → Int → D} : MonoF2 (intD C g) := fun x y G Q Q' h q => by
  unfold intD at q ⊢
  split at q
  · exact ⟨q.1, h _ _ q.2⟩
  · exact q
theorem intD_sim {K : PySem.W.Frag} {C : Int → Int → Prop} {g : Int → Int → Int} : Sim2 K (rI C fun i j => .int (g i j)) (intD C fun i j => .int (g i j)) := fun H G x y dx dy Q m rx ry h => by
  unfold intD at h
  split at h
  · cases rx; cases ry
    exact ⟨_, _, rfl, rfl, h.1, h.2 _ _ m (.int _) .refl⟩
  · exact False.elim h
theorem intD_sim0 {K : PySem.W.Frag} {g : Int → Int → Int} : Sim2 K (rI0 fun i j => .int (g i j)) (intD (fun _ _ => True) fun i j => .int (g i j)) := fun H G x y dx dy Q m rx ry h => by
  unfold intD at h
  split at h
  · cases rx; cases ry
    exact ⟨_, _, rfl, rfl, h.2 _ _ m (.int _) .refl⟩
  · exact False.elim h
theorem intD_simB {K : PySem.W.Frag} {g : Int → Int → Bool} : Sim2 K (rI0 fun i j => .bl (g i j)) (intD (fun _ _ => True) fun i j => .bl (g i j)) := fun H G x y dx dy Q m rx ry h => by
  unfold intD at h
  split at h
  · cases rx; cases ry
    exact ⟨_, _, rfl, rfl, h.2 _ _ m (.bl _) .refl⟩
  · exact False.elim h
def subD : F2 := intD (fun _ _ => True) fun i j => .int (i - j)
def modD : F2 := intD (fun _ j => 0 < j) fun i j => .int (i % j)
def divD : F2 := intD CDiv fun i j => .int (i / j)
def powD : F2 := intD CPow fun i j => .int (i ^ j.toNat)
theorem de_sub (ha : DPE X a ta) (hb : DPE X b tb) : DPE X (.BinOp a .Sub b pos) (dOp subD ta tb) := de_op op_sub intD_mono intD_sim0 ha hb
theorem de_mod (ha : DPE X a ta) (hb : DPE X b tb) : DPE X (.BinOp a .Mod b pos) (dOp modD ta tb) := de_op op_mod intD_mono intD_sim ha hb
theorem de_div (ha : DPE X a ta) (hb : DPE X b tb) : DPE X (.BinOp a .FloorDiv b pos) (dOp divD ta tb) := de_op op_fdiv intD_mono intD_sim ha hb
theorem de_pow (ha : DPE X a ta) (hb : DPE X b tb) : DPE X (.BinOp a .Pow b pos) (dOp powD ta tb) := de_op op_pow intD_mono intD_sim ha hb
def negD : F1 := fun x G Q => match x with | .int i => Q (.int (-i)) G | _ => False
theorem de_neg (ha : DPE X a ta) : DPE X (.UnaryOp .USub a pos) (dUn negD ta) := de_un un_neg
  (fun x G Q Q' h q => by unfold negD at q ⊢; split at q; exact h _ _ q; exact q)
  (fun H G x dx Q m rx h => by
    unfold negD at h
    split at h
    · cases rx
      exact ⟨_, rfl, h _ _ m (.int _) .refl⟩
    · exact False.elim h) ha
/-! ### a tuple by an int: once, it is the same tuple -/
theorem tupOnce (l : Addr) (items : Array Value) (n : Nat) (dd : Option Addr) (sl : Array (Option Value)) (x : Int) (u : Tok) (hx : x = 1) :
    Meets (Builtin.«tuple.__mul__» ⟨[.ref l, .int x u], []⟩) (fun _ R s => s.heap.get? l = some { cls := .type "tuple", dict := dd, data := .seq items n, slots := sl } ∧ R (.ok (.ret (.ref l))) s) := by
  refine .of_wp fun prog w A R s h => ?_
  obtain ⟨hp, gg, ds, tk, os⟩ := s
  obtain ⟨hl, h⟩ := h
  subst hx
  have f1 := AutoSeq1.idx_int
  have c0 : (decide ((1 : Int) < -(2 ^ 63)) || decide ((1 : Int) ≥ 2 ^ 63)) = false := by decide
  have c1 : (items.isEmpty || (1 : Int) == 1) = true := by simp
  wp_walk using AutoSeq1.wpAny_loadPart' hl
  repeat (first
    | (refine wpAny_ite_false (decide_eq_false (by rw [c0]; exact Bool.false_ne_true)) ?_; wp_walk using AutoSeq1.wpAny_loadPart' hl)
    | (refine wpAny_ite_true (decide_eq_true (by rw [c1])) ?_; wp_walk using AutoSeq1.wpAny_loadPart' hl))
  exact ⟨_, rfl, h⟩
theorem tupNone (l : Addr) (items : Array Value) (n : Nat) (dd : Option Addr) (sl : Array (Option Value)) (x : Int) (u : Tok) (c0 : (decide (x < -(2 ^ 63)) || decide (x ≥ 2 ^ 63)) = false) (c1 : (items.isEmpty || x == 1) = false) (c2 : (decide (x ≤ 0) || items.isEmpty) = true) :
    Meets (Builtin.«tuple.__mul__» ⟨[.ref l, .int x u], []⟩) (fun _ R s => s.heap.get? l = some { cls := .type "tuple", dict := dd, data := .seq items n, slots := sl } ∧ R (.ok (.ret (.ref s.heap.objs.size))) { s with heap := s.heap.push { cls := .type "tuple", data := .seq #[] }, toks := s.toks }) := by
  refine .of_wp fun prog w A R s h => ?_
  obtain ⟨hp, gg, ds, tk, os⟩ := s
  obtain ⟨hl, h⟩ := h
  have f1 := AutoSeq1.idx_int
  wp_walk using AutoSeq1.wpAny_loadPart' hl
  repeat (first
    | (refine wpAny_ite_false (decide_eq_false (by rw [c0]; exact Bool.false_ne_true)) ?_; wp_walk using AutoSeq1.wpAny_loadPart' hl)
    | (refine wpAny_ite_false (decide_eq_false (by rw [c1]; exact Bool.false_ne_true)) ?_; wp_walk using AutoSeq1.wpAny_loadPart' hl)
    | (refine wpAny_ite_true (decide_eq_true (by rw [c2])) ?_; wp_walk using AutoSeq1.wpAny_loadPart' hl))
  exact ⟨_, rfl, h⟩
def rRepP (K : PySem.W.Frag) : R2 := fun x y H Q => ∃ l k xs, x = .ref l ∧ y = .int k ∧ SqP K H l xs ∧ xs ≠ [] ∧ -1000 ≤ k ∧ k ≤ 1000 ∧ xs.length ≤ 1000 ∧ (k = 1 → Q (.ref l) H) ∧ (k ≠ 1 → NewT H (List.replicate k.toNat xs).flatten Q)
theorem op_repP : OpR X (binaryOp .Mult) (rRepP X.K) := by
  intro pins s σ H x y v u Q I rx ry h
  obtain ⟨l, k, xs, rfl, rfl, hP, hne, h0, h2, hz, q1, q2⟩ := h
  cases rx
  obtain ⟨t, rfl⟩ := ry
  obtain ⟨its, r, ⟨⟨cls, dd, data, sl⟩, ho, hc, n, hd⟩, hs⟩ := I.tuple hP.t
  simp only at hc hd
  subst hc hd
  have hle : its.length = xs.length := r.length.symm
  have hi : its.toArray.isEmpty = false := by
    cases its with
    | nil => exact absurd (List.eq_nil_of_length_eq_zero hle.symm) hne
    | cons a b => rfl
  have c0 : (decide (k < -(2 ^ 63)) || decide (k ≥ 2 ^ 63)) = false := by
    rw [decide_eq_false (by omega), decide_eq_false (by omega)] <;> rfl
  have road : ∀ {R : Value → Shared → Prop}, (wpAny (model X.prog X.w) X.A (call (.builtin "tuple.__mul__") [.ref l, .int k t]) R X.xe s) → wpAny (model X.prog X.w) X.A (binaryOp .Mult (.ref l) (.int k t)) R X.xe s := fun z =>
    wpAny_binaryOp_repeat_ref (T := "tuple") (U := "int") (by decide) ⟨_, ho, rfl⟩ (fun s' => typeIs_int s' k t) noFill_tuple_mul F.fills_int_mul F.slot_int_rmul repeat_tuple F.slot_int_index.lookup
      (call_meets F.slot_int_rmul (typeIs_int s k t) F.entry_int_rmul (F.args_int_rmul_2 _ _) (int_rmul_tuple k t l its.toArray n dd sl) ⟨ho, rfl, ⟨_, ho, rfl⟩, z⟩)
  by_cases h1 : k = 1
  · exact road (call_meets F.slot_tuple_mul ⟨_, ho, rfl⟩ F.entry_tuple_mul (F.args_tuple_mul_2 _ _) (tupOnce l its.toArray n dd sl k t h1) ⟨ho, .ref l, _, I, rfl, q1 h1⟩)
  · have c1 : (its.toArray.isEmpty || k == 1) = false := by
      rw [hi, Bool.false_or]
      exact beq_eq_false_iff_ne.mpr h1
    by_cases h3 : k ≤ 0
    · refine road (call_meets F.slot_tuple_mul ⟨_, ho, rfl⟩ F.entry_tuple_mul (F.args_tuple_mul_2 _ _) (tupNone l its.toArray n dd sl k t c0 c1 (by rw [decide_eq_true h3]; rfl)) ⟨ho, ?_⟩)
      have e0 : (List.replicate k.toNat xs).flatten = [] := by
        rw [show k.toNat = 0 by omega]
        rfl
      have q3 := q2 h1
      rw [e0] at q3
      exact newT_inv (s := s) (h' := s.heap) (its := []) I .nil (by decide) q3
    · have c2 : (decide (k ≤ 0) || its.toArray.isEmpty) = false := by
        rw [hi, Bool.or_false]
        exact decide_eq_false h3
      have hsz0 : its.toArray.size = xs.length := by rw [List.size_toArray, hle]
      have hm : ((its.toArray.size : Nat) : Int) * k ≤ 1000000 := by
        rw [hsz0]
        have a1 : ((xs.length : Nat) : Int) * k ≤ 1000 * k := Int.mul_le_mul_of_nonneg_right (by omega) (by omega)
        omega
      have f1 : k.toNat * xs.length ≤ sizeLine := Nat.le_trans (Nat.mul_le_mul (show k.toNat ≤ 1000 by omega) hz) (by decide)
      have c4 : Builtin.Tuple.tupleTooMany (((its.toArray.size : Nat) : Int) * k) = false := by
        unfold Builtin.Tuple.tupleTooMany
        rw [sizeLine_eq]
        exact decide_eq_false (by omega)
      refine road (call_meets F.slot_tuple_mul ⟨_, ho, rfl⟩ F.entry_tuple_mul (F.args_tuple_mul_2 _ _) (tuple_mulW l its.toArray n dd sl k t c0 c1 c2 (by omega) c4 (by rw [size_rep, List.size_toArray, PyProof.Rows.lm_len_rep_flat, hle]; exact f1)) ⟨ho, ?_⟩)
      rw [size_rep]
      exact newT_inv (s := s) (h' := s.heap) I (r.rep k.toNat) (by rw [PyProof.Rows.lm_len_rep_flat]; exact f1) (q2 h1)
/-- * : two ints, a list or a tuple by an int -/
def mulD : F2 := fun x y G Q => match x, y with
  | .int i, .int j => CMul i j ∧ Q (.int (i * j)) G
  | .ref p, .int k => ∃ xs, G p = some (.lst xs) ∧ -(2 ^ 63) ≤ k ∧ k < 2 ^ 63 ∧ xs.length * k.toNat ≤ sizeLine ∧ ∀ n, G n = none → Q (.ref n) (up G n (.lst (List.replicate k.toNat xs).flatten))
  | .tup xs, .int k => xs ≠ [] ∧ -1000 ≤ k ∧ k ≤ 1000 ∧ xs.length ≤ 1000 ∧ Q (.tup (List.replicate k.toNat xs).flatten) G
  | _, _ => False
theorem RDs.rep {K : PySem.W.Frag} {H : Hp} {xs : List D} {vs : List V} (r : RDs K H xs vs) : ∀ k : Nat, RDs K H (List.replicate k xs).flatten (List.replicate k vs).flatten
  | 0 => by simpa using RDs.nil
  | k + 1 => by simpa [List.replicate_succ] using r.append (r.rep k)
theorem mulD_mono : MonoF2 mulD := fun x y G Q Q' h q => by
  unfold mulD at q ⊢
  split at q
  · exact ⟨q.1, h _ _ q.2⟩
  · obtain ⟨xs, h1, h2, h3, h4, h5⟩ := q
    exact ⟨xs, h1, h2, h3, h4, fun n hn => h _ _ (h5 n hn)⟩
  · exact ⟨q.1, q.2.1, q.2.2.1, q.2.2.2.1, h _ _ q.2.2.2.2⟩
  · exact q
def rMulAll (K : PySem.W.Frag) : R2 := fun x y H Q => (rI CMul (fun i j => .int (i * j)) x y H Q ∨ rRep x y H Q) ∨ rRepP K x y H Q
theorem op_mulAll : OpR X (binaryOp .Mult) (rMulAll X.K) := (op_mul.or op_rep).or op_repP
theorem mulD_sim {K : PySem.W.Frag} : Sim2 K (rMulAll K) mulD := fun H G x y dx dy Q m rx ry h => by
  unfold mulD at h
  split at h
  · cases rx; cases ry
    exact .inl (.inl ⟨_, _, rfl, rfl, h.1, h.2 _ _ m (.int _) .refl⟩)
  · obtain ⟨xs, h1, h2, h3, h4, h5⟩ := h
    cases rx; cases ry
    obtain ⟨vs, g1, r1⟩ := m _ _ h1
    refine .inl (.inr ?_)
    refine ⟨_, _, vs, rfl, rfl, g1, h2, h3, by rw [← r1.1]; exact h4, fun n hn => ?_⟩
    exact h5 n (m.fresh hn) (.ref n) _ (m.upd (.upd_new hn) (.new_lst (r1.rep _) (.upd_new hn))) (.ref n) (.upd_new hn)
  · rename_i xs k
    obtain ⟨h1, h2, h3, h4, h5⟩ := h
    cases ry
    cases rx with
    | @tup p _ vs hs hl hi =>
      have r : RDs K H xs vs := ⟨hl, hi⟩
      refine .inr ⟨p, k, vs, rfl, rfl, hs, fun e => h1 (List.eq_nil_of_length_eq_zero (by rw [hl, e]; rfl)), h2, h3, by rw [← hl]; exact h4, fun e => ?_, fun e p' o' hp hd => ?_⟩
      · subst e
        have e1 : (List.replicate (1 : Int).toNat xs).flatten = xs := by simp
        rw [e1] at h5
        exact h5 _ _ m (.tup hs hl hi) .refl
      · exact h5 _ _ (m.new (.upd_new hp) (m.fresh hp)) (.new_tup (r.rep k.toNat) hp hd) (.upd_new hp)
  · exact False.elim h
theorem de_mul (ha : DPE X a ta) (hb : DPE X b tb) : DPE X (.BinOp a .Mult b pos) (dOp mulD ta tb) := de_op op_mulAll mulD_mono mulD_sim ha hb

/-! ### subscripts -/
def itemD : F2 := fun x y G Q => match x, y with
  | .tup xs, .int i => opt (atI xs i) G Q
  | .lis xs, .int i => opt (atI xs i) G Q
  | .ref p, .int i => match G p with
    | some (.lst xs) => opt (atI xs i) G Q
    | _ => False
  | .str s, .int i => s.length ≤ sizeLine ∧ match atI s.cps.toList i with | some k => Q (.str ⟨#[k]⟩) G | none => False
  | _, _ => False
theorem itemD_mono : MonoF2 itemD := fun x y G Q Q' h q => by
  unfold itemD at q ⊢
  split at q
  · exact opt_mono h q
  · exact opt_mono h q
  · split at q <;> first | exact opt_mono h q | exact q
  · refine ⟨q.1, ?_⟩
    have q2 := q.2
    split at q2
    · exact h _ _ q2
    · exact q2
  · exact q
theorem itemD_sim {K : PySem.W.Frag} : Sim2 K (rIx K) itemD := fun H G x y dx dy Q m rx ry h => by
  unfold itemD at h
  split at h
  · rename_i xs i
    cases ry
    cases rx with
    | @tup p _ vs hs hl hi =>
      cases e : atI xs i with
      | none => rw [e] at h; exact False.elim h
      | some d =>
        rw [e] at h
        obtain ⟨v, h1, h2⟩ := RDs.at (K := K) (H := H) ⟨hl, hi⟩ e
        exact .inr (.inl ⟨p, vs, i, v, rfl, rfl, hs.t, h1, h v H m h2 .refl⟩)
  · rename_i xs i
    cases ry
    cases rx with
    | @lis p _ vs hs hl hi =>
      cases e : atI xs i with
      | none => rw [e] at h; exact False.elim h
      | some d =>
        rw [e] at h
        obtain ⟨v, h1, h2⟩ := RDs.at (K := K) (H := H) ⟨hl, hi⟩ e
        exact .inl ⟨p, vs, i, v, rfl, rfl, hs.l, h1, h v H m h2 .refl⟩
  · rename_i p i
    cases ry
    cases rx
    split at h
    · rename_i xs e2
      obtain ⟨vs, g, r⟩ := m _ _ e2
      cases e : atI xs i with
      | none => rw [e] at h; exact False.elim h
      | some d =>
        rw [e] at h
        obtain ⟨v, h1, h2⟩ := r.at e
        exact .inl ⟨p, vs, i, v, rfl, rfl, SqL.of g, h1, h v H m h2 .refl⟩
    · exact False.elim h
  · cases rx; cases ry
    obtain ⟨h1, h2⟩ := h
    split at h2
    · rename_i k e
      exact .inr (.inr ⟨_, _, k, rfl, rfl, h1, e, h2 _ _ m (.str _) .refl⟩)
    · exact False.elim h2
  · exact False.elim h
theorem de_ix (ha : DPE X a ta) (hb : DPE X b tb) (hs : PlainIx b := by exact fun _ _ => rfl) : DPE X (.Subscript a b pos) (dOp itemD ta tb) := by
  obtain ⟨ma, tta, pa, ra⟩ := ha
  obtain ⟨mb, ttb, pb, rb⟩ := hb
  exact ⟨dOp_mono itemD_mono ma mb, _, pe_ix ix_seq pa pb hs, dOp_run itemD_mono itemD_sim ma mb ra rb⟩
/-! ### slices -/
abbrev DO := DSt → DG → (Option Int → DG → Prop) → Prop
def lfO (K : PySem.W.Frag) (H : Hp) (Q : Option Int → Hp → Prop) : Option Int → DG → Prop := fun b G' => ∀ H', MH K G' H' → KT K H H' → Q b H'
structure DPO (X : Cx) (e : Option Expr) (t : DO) : Prop where
  mono : ∀ σ G (Q Q' : Option Int → DG → Prop), (∀ d G', Q d G' → Q' d G') → t σ G Q → t σ G Q'
  run : ∃ tt, PO X e tt ∧ ∀ σ H σd G Q, MH X.K G H → SR X.K H σd σ → t σd G (lfO X.K H Q) → tt σ H Q
def dNoPart : DO := fun _ G Q => Q none G
def dPart (t : DE) : DO := fun σ G Q => t σ G fun x G1 => match x with | .int i => Q (some i) G1 | _ => False
theorem do_none : DPO X none dNoPart := ⟨fun σ G Q Q' h q => h _ _ q, _, po_none, fun σ H σd G Q m s h => h H m .refl⟩
theorem do_some (ha : DPE X e ta) : DPO X (some e) (dPart ta) := by
  obtain ⟨ma, tta, pa, ra⟩ := ha
  refine ⟨fun σ G Q Q' h q => ma σ G _ _ (fun x G1 q1 => ?_) q, _, po_some pa, fun σ H σd G Q m s h => ra σ H σd G _ m s (ma _ _ _ _ (fun x G1 h1 v H1 m1 r1 k1 => ?_) h)⟩
  · cases x with
    | int i => exact h _ _ q1
    | _ => exact False.elim q1
  · cases x with
    | int i => cases r1; exact ⟨i, rfl, h1 H1 m1 k1⟩
    | _ => exact False.elim h1
def cutD (xs : List D) (lo hi : Option Int) : List D := (xs.drop (HT.sIx xs.length 0 lo)).take (HT.sIx xs.length xs.length hi - HT.sIx xs.length 0 lo)
def sliceD (x : D) (lo hi : Option Int) (G : DG) (Q : DK) : Prop := match x with
  | .tup xs => Q (.tup (cutD xs lo hi)) G
  | .str s => s.length ≤ sizeLine ∧ Q (.str (cutS s lo hi)) G
  | .lis xs => ∀ n, G n = none → Q (.ref n) (up G n (.lst (cutD xs lo hi)))
  | .ref p => match G p with
    | some (.lst xs) => ∀ n, G n = none → Q (.ref n) (up G n (.lst (cutD xs lo hi)))
    | _ => False
  | _ => False
theorem sliceD_mono {x : D} {lo hi : Option Int} {G : DG} {Q Q' : DK} (h : ∀ d G', Q d G' → Q' d G') (q : sliceD x lo hi G Q) : sliceD x lo hi G Q' := by
  unfold sliceD at q ⊢
  split at q
  · exact h _ _ q
  · exact ⟨q.1, h _ _ q.2⟩
  · exact fun n hn => h _ _ (q n hn)
  · split at q
    · exact fun n hn => h _ _ (q n hn)
    · exact q
  · exact q
theorem RDs.cut {K : PySem.W.Frag} {H : Hp} {xs : List D} {vs : List V} (r : RDs K H xs vs) (lo hi : Option Int) : RDs K H (cutD xs lo hi) (cutV vs lo hi) := by
  unfold cutD cutV
  rw [r.1]
  exact (r.drop _).take _
def rSlP (K : PySem.W.Frag) : V → Option Int → Option Int → Hp → VK → Prop := fun x lo hi H Q => ∃ a xs, x = .ref a ∧ SqT K H a xs ∧
  (HT.sIx xs.length 0 lo = 0 ∧ HT.sIx xs.length xs.length hi = xs.length → Q (.ref a) H) ∧ (¬ (HT.sIx xs.length 0 lo = 0 ∧ HT.sIx xs.length xs.length hi = xs.length) → NewT H (cutV xs lo hi) Q)
theorem sl_tupP : SlR X (rSlP X.K) := by
  intro pins s σ H x v vl vu lo hi sl Q I rx hs pl pu h
  obtain ⟨a, xs, rfl, hx, q1, q2⟩ := h
  cases rx
  obtain ⟨its, r, ht, hz⟩ := I.tuple hx
  have hlen : its.toArray.size = xs.length := by rw [List.size_toArray]; exact r.length.symm
  refine ⟨"tuple", _, PyProof.Rows.slot_tuple_getitem.lookup, ht.typeIs, ?_⟩
  by_cases hw : HT.sIx xs.length 0 lo = 0 ∧ HT.sIx xs.length xs.length hi = xs.length
  · exact getItem_tuple_whole ht hs pl pu (by rw [hlen]; exact hw) ⟨.ref a, H, I, rfl, q1 hw⟩
  · refine HT.getItem_tuple_cut ht hs pl pu (by rw [hlen]; exact hw) ?_ (by rw [hlen]; exact hz)
    rw [hlen]
    exact newT_inv (s := s) (h' := s.heap) I ((r.drop (HT.sIx xs.length 0 lo)).take (HT.sIx xs.length xs.length hi - HT.sIx xs.length 0 lo)) (Nat.le_trans (cutV_length xs lo hi) hz) (q2 hw)
def rSlAll (K : PySem.W.Frag) : V → Option Int → Option Int → Hp → VK → Prop := fun x lo hi H Q => rSlL K x lo hi H Q ∨ rSlP K x lo hi H Q ∨ ∃ z, x = .str z ∧ z.length ≤ sizeLine ∧ Q (.str (cutS z lo hi)) H
theorem sl_all : SlR X (rSlAll X.K) := sl_list.or (sl_tupP.or sl_str)
def dSl (te : DE) (tl th : DO) : DE := fun σ G Q => te σ G fun x G1 => tl σ G1 fun l G2 => th σ G2 fun u G3 => sliceD x l u G3 Q
theorem sliceD_sim {K : PySem.W.Frag} {H : Hp} {G : DG} {x : V} {d : D} {lo hi : Option Int} {Q : VK} (m : MH K G H) (rx : RD K H d x) (h : sliceD d lo hi G (lf K H Q)) : rSlAll K x lo hi H Q := by
  unfold sliceD at h
  split at h
  · rename_i xs
    cases rx with
    | @tup p _ vs hs hl hi' =>
      have r : RDs K H xs vs := ⟨hl, hi'⟩
      refine .inr (.inl ⟨p, vs, rfl, hs.t, ⟨fun e => ?_, fun _ n o hn hd => ?_⟩⟩)
      · refine h (.ref p) H m ?_ .refl
        have q := r.cut lo hi
        have e2 : cutV vs lo hi = vs := by
          unfold cutV
          rw [e.1, e.2]
          simp
        rw [e2] at q
        exact .tup hs q.1 q.2
      · exact h (.ref n) _ (m.new (.upd_new hn) (m.fresh hn)) (.new_tup (r.cut lo hi) hn hd) (.upd_new hn)
  · cases rx
    exact .inr (.inr ⟨_, rfl, h.1, h.2 _ _ m (.str _) .refl⟩)
  · cases rx with
    | @lis p _ vs hs hl hi' =>
      have r : RDs K H _ vs := ⟨hl, hi'⟩
      exact .inl ⟨_, vs, rfl, hs.l, fun n hn => h n (m.fresh hn) (.ref n) _ (m.upd (.upd_new hn) (.new_lst (r.cut lo hi) (.upd_new hn))) (.ref n) (.upd_new hn)⟩
  · cases rx
    split at h
    · rename_i e
      obtain ⟨vs, g, r⟩ := m _ _ e
      exact .inl ⟨_, vs, rfl, SqL.of g, fun n hn => h n (m.fresh hn) (.ref n) _ (m.upd (.upd_new hn) (.new_lst (r.cut lo hi) (.upd_new hn))) (.ref n) (.upd_new hn)⟩
    · exact False.elim h
  · exact False.elim h
theorem de_slice {lo hi : Option Expr} {p2 : Pos} {tl th : DO} (ha : DPE X e ta) (hl : DPO X lo tl) (hh : DPO X hi th) : DPE X (.Subscript e (.Slice lo hi none p2) pos) (dSl ta tl th) := by
  obtain ⟨ma, tta, pa, ra⟩ := ha
  obtain ⟨ml, ttl, pl, rl⟩ := hl
  obtain ⟨mh, tth, ph, rh⟩ := hh
  refine ⟨fun σ G Q Q' h q => ma σ G _ _ (fun x G1 q1 => ml σ G1 _ _ (fun l G2 q2 => mh σ G2 _ _ (fun u G3 q3 => sliceD_mono h q3) q2) q1) q, _, pe_slice sl_all pa pl ph, fun σ H σd G Q m s h => ?_⟩
  exact ra σ H σd G _ m s (ma _ _ _ _ (fun x G1 h1 v H1 m1 r1 k1 => rl σ H1 σd G1 _ m1 (s.kt k1) (ml _ _ _ _ (fun l G2 h2 H2 m2 k2 => rh σ H2 σd G2 _ m2 ((s.kt k1).kt k2) (mh _ _ _ _ (fun u G3 h3 H3 m3 k3 =>
    sliceD_sim m3 ((r1.kt k2).kt k3) (sliceD_mono (fun d G' z => lf_kt ((k1.trans k2).trans k3) z) h3)) h2)) h1)) h)
end
end FD

namespace FD
open PySem L2
/-! ### data seen through the small heap -/
def pyAll (f : D → Option PyData) : List D → Option (List PyData)
  | [] => some []
  | x :: r => match f x, pyAll f r with
    | some d, some ds => some (d :: ds)
    | _, _ => none
def pyD : Nat → DG → D → Option PyData
  | _, _, .non => some .none
  | _, _, .bl b => some (.bool b)
  | _, _, .int i => some (.int i)
  | _, _, .str x => if PyData.strOk x then some (.str x) else none
  | 0, _, _ => none
  | n + 1, G, .tup xs => (pyAll (pyD n G) xs).map .tuple
  | n + 1, G, .lis xs => (pyAll (pyD n G) xs).map .list
  | n + 1, G, .ref a => match G a with
    | some (.lst xs) => (pyAll (pyD n G) xs).map .list
    | _ => none
  | _, _, _ => none
theorem pyAll_cons {f : D → Option PyData} {x : D} {r : List D} {ps : List PyData} (h : pyAll f (x :: r) = some ps) : ∃ p ps', ps = p :: ps' ∧ f x = some p ∧ pyAll f r = some ps' := by
  unfold pyAll at h
  split at h
  · rename_i d ds e1 e2
    cases h
    exact ⟨d, ds, rfl, e1, e2⟩
  · cases h
theorem dpAll_of {K : PySem.W.Frag} {H : Hp} {f : D → Option PyData} (hf : ∀ d v p, RD K H d v → f d = some p → Dp K H v p) : ∀ (xs : List D) (vs : List V) (ps : List PyData), RDs K H xs vs → pyAll f xs = some ps → DpAll K H vs ps
  | [], vs, ps, r, h => by
    have e := r.nil_inv
    subst e
    cases h
    exact .nil
  | x :: xs, vs, ps, r, h => by
    obtain ⟨v, vs', rfl, a, b⟩ := r.cons_inv
    obtain ⟨p, ps', rfl, e1, e2⟩ := pyAll_cons h
    exact .cons (hf x v p a e1) (dpAll_of hf xs vs' ps' b e2)
theorem pyD_dp {K : PySem.W.Frag} {H : Hp} {G : DG} (m : MH K G H) : ∀ (n : Nat) (d : D) (v : V) (p : PyData), RD K H d v → pyD n G d = some p → Dp K H v p := by
  intro n
  induction n with
  | zero =>
    intro d v p r h
    cases r <;> simp [pyD] at h
    · subst h; exact .non
    · subst h; exact .bl _
    · subst h; exact .int _
    · obtain ⟨_, h⟩ := h; subst h; exact .str _
  | succ n ih =>
    intro d v p r h
    cases r with
    | non => simp [pyD] at h; subst h; exact .non
    | bl b => simp [pyD] at h; subst h; exact .bl _
    | int i => simp [pyD] at h; subst h; exact .int _
    | str x => simp [pyD] at h; obtain ⟨_, h⟩ := h; subst h; exact .str _
    | ty x => simp [pyD] at h
    | tpl _ _ _ => simp [pyD] at h
    | @tup a xs vs hs hl hi =>
      simp only [pyD, Option.map_eq_some_iff] at h
      obtain ⟨ps, h1, rfl⟩ := h
      exact .tup hs.t (dpAll_of ih xs vs ps ⟨hl, hi⟩ h1)
    | @lis a xs vs hs hl hi =>
      simp only [pyD, Option.map_eq_some_iff] at h
      obtain ⟨ps, h1, rfl⟩ := h
      exact .lst hs.l (dpAll_of ih xs vs ps ⟨hl, hi⟩ h1)
    | ref a =>
      simp only [pyD] at h
      split at h
      · rename_i xs e
        obtain ⟨vs, g, r⟩ := m a _ e
        obtain ⟨ps, h1, rfl⟩ := Option.map_eq_some_iff.mp h
        exact .lst (SqL.of g) (dpAll_of ih xs vs ps r h1)
      · cases h
theorem pyAll_ok {f : D → Option PyData} {n : Nat} (hf : ∀ d p, f d = some p → p.canLay0 = true ∧ p.depth ≤ n) : ∀ (xs : List D) (ps : List PyData), pyAll f xs = some ps → PyData.canLayAll0 ps = true ∧ PyData.depthAll ps ≤ n
  | [], ps, h => by cases h; simp [PyData.canLayAll0, PyData.depthAll]
  | x :: xs, ps, h => by
    obtain ⟨p, ps', rfl, e1, e2⟩ := pyAll_cons h
    obtain ⟨h1, h2⟩ := hf x p e1
    obtain ⟨h3, h4⟩ := pyAll_ok hf xs ps' e2
    simp only [PyData.canLayAll0, PyData.depthAll, h1, h3, Bool.and_self, true_and]
    omega
theorem pyD_ok (G : DG) : ∀ (n : Nat) (d : D) (p : PyData), pyD n G d = some p → p.canLay0 = true ∧ p.depth ≤ n := by
  intro n
  induction n with
  | zero =>
    intro d p h
    cases d <;> simp [pyD] at h
    · subst h; simp [PyData.canLay0, PyData.depth]
    · subst h; simp [PyData.canLay0, PyData.depth]
    · subst h; simp [PyData.canLay0, PyData.depth]
    · obtain ⟨h1, h⟩ := h; subst h; simp [PyData.canLay0, PyData.depth, h1]
  | succ n ih =>
    intro d p h
    cases d with
    | non => simp [pyD] at h; subst h; simp [PyData.canLay0, PyData.depth]
    | bl b => simp [pyD] at h; subst h; simp [PyData.canLay0, PyData.depth]
    | int i => simp [pyD] at h; subst h; simp [PyData.canLay0, PyData.depth]
    | str x => simp [pyD] at h; obtain ⟨h1, h⟩ := h; subst h; simp [PyData.canLay0, PyData.depth, h1]
    | ty x => simp [pyD] at h
    | tpl x => simp [pyD] at h
    | tup xs =>
      simp only [pyD, Option.map_eq_some_iff] at h
      obtain ⟨ps, h1, rfl⟩ := h
      obtain ⟨a, b⟩ := pyAll_ok ih xs ps h1
      simp only [PyData.canLay0, PyData.depth, a, true_and]
      omega
    | lis xs =>
      simp only [pyD, Option.map_eq_some_iff] at h
      obtain ⟨ps, h1, rfl⟩ := h
      obtain ⟨a, b⟩ := pyAll_ok ih xs ps h1
      simp only [PyData.canLay0, PyData.depth, a, true_and]
      omega
    | ref a =>
      simp only [pyD] at h
      split at h
      · obtain ⟨ps, h1, rfl⟩ := Option.map_eq_some_iff.mp h
        obtain ⟨a, b⟩ := pyAll_ok ih _ ps h1
        simp only [PyData.canLay0, PyData.depth, a, true_and]
        omega
      · cases h
theorem pyD_shaped {G : DG} {n : Nat} {d : D} {p : PyData} (h : pyD n G d = some p) (hn : n ≤ 64) : SeqAt.shaped p = true := by
  obtain ⟨a, b⟩ := pyD_ok G n d p h
  unfold SeqAt.shaped
  rw [a, decide_eq_true (Nat.le_trans b hn)]
  rfl
section
variable {X : Cx} {a b c e : Expr} {es rest : List Expr} {ta tb tc : DE} {pos : Pos}
def py2 (x y : D) (G : DG) (f : PyData → PyData → Prop) : Prop := match pyD 9 G x, pyD 9 G y with
  | some p, some q => f p q
  | _, _ => False
def eqD : F2 := fun x y G Q => match x, y with
  | .str s, .str t => Q (.bl (decide (s = t))) G
  | x, y => py2 x y G fun p q => Q (.bl (PyData.eqv p q)) G
def neD : F2 := fun x y G Q => match x, y with
  | .str s, .str t => Q (.bl (!decide (s = t))) G
  | x, y => py2 x y G fun p q => Q (.bl (!PyData.eqv p q)) G
theorem py2_mono {x y : D} {G : DG} {f g : PyData → PyData → Prop} (h : ∀ p q, f p q → g p q) (q : py2 x y G f) : py2 x y G g := by
  unfold py2 at q ⊢
  split at q
  · exact h _ _ q
  · exact q
theorem py2_of {K : PySem.W.Frag} {H : Hp} {G : DG} {x y : V} {dx dy : D} {f : PyData → PyData → Prop} (m : MH K G H) (rx : RD K H dx x) (ry : RD K H dy y) (h : py2 dx dy G f) :
    ∃ p q, Dp K H x p ∧ Dp K H y q ∧ SeqAt.shaped p = true ∧ SeqAt.shaped q = true ∧ f p q := by
  unfold py2 at h
  split at h
  · rename_i p q e1 e2
    exact ⟨p, q, pyD_dp m 9 _ _ p rx e1, pyD_dp m 9 _ _ q ry e2, pyD_shaped e1 (by decide), pyD_shaped e2 (by decide), h⟩
  · exact False.elim h
def rEqA (K : PySem.W.Frag) : R2 := fun x y H Q => rEq x y H Q ∨ rEqD K x y H Q
def rNeA (K : PySem.W.Frag) : R2 := fun x y H Q => rNe x y H Q ∨ rNeD K x y H Q
theorem op_eqA (hu : X.A.units + 64 < cLine) : OpR X (compareOp .Eq) (rEqA X.K) := op_eq.or (op_eqD hu)
theorem op_neA (hu : X.A.units + 64 < cLine) : OpR X (compareOp .NotEq) (rNeA X.K) := op_ne.or (op_neD hu)
theorem dec_strs {s t : Str} : decide (V.str s = V.str t) = decide (s = t) := by
  by_cases h : s = t
  · subst h; simp
  · rw [decide_eq_false h, decide_eq_false fun e => h (V.str.inj e)]
theorem eqD_sim {K : PySem.W.Frag} : Sim2 K (rEqA K) eqD := fun H G x y dx dy Q m rx ry h => by
  unfold eqD at h
  split at h
  · cases rx; cases ry
    refine .inl ⟨rfl, ?_⟩
    rw [dec_strs]
    exact h _ _ m (.bl _) .refl
  · obtain ⟨p, q, h1, h2, h3, h4, h5⟩ := py2_of m rx ry h
    exact .inr ⟨p, q, h1, h2, h3, h4, h5 _ _ m (.bl _) .refl⟩
theorem neD_sim {K : PySem.W.Frag} : Sim2 K (rNeA K) neD := fun H G x y dx dy Q m rx ry h => by
  unfold neD at h
  split at h
  · cases rx; cases ry
    refine .inl ⟨rfl, ?_⟩
    rw [dec_strs]
    exact h _ _ m (.bl _) .refl
  · obtain ⟨p, q, h1, h2, h3, h4, h5⟩ := py2_of m rx ry h
    exact .inr ⟨p, q, h1, h2, h3, h4, h5 _ _ m (.bl _) .refl⟩
theorem eqD_mono : MonoF2 eqD := fun x y G Q Q' h q => by
  unfold eqD at q ⊢
  split at q
  · exact h _ _ q
  · exact py2_mono (fun _ _ z => h _ _ z) q
theorem neD_mono : MonoF2 neD := fun x y G Q Q' h q => by
  unfold neD at q ⊢
  split at q
  · exact h _ _ q
  · exact py2_mono (fun _ _ z => h _ _ z) q
theorem de_eq (hu : X.A.units + 64 < cLine) (ha : DPE X a ta) (hb : DPE X b tb) : DPE X (.Compare a [.Eq] [b] pos) (dOp eqD ta tb) := de_cmpR (op_eqA hu) eqD_mono eqD_sim ha hb (nomark _)
theorem dt_eq (hu : X.A.units + 64 < cLine) (ha : DPE X a ta) (hb : DPE X b tb) : DPT X (.Compare a [.Eq] [b] pos) (dTest (dOp eqD ta tb)) := dt_cmpR (op_eqA hu) eqD_mono eqD_sim ha hb (nomark _)
theorem de_ne (hu : X.A.units + 64 < cLine) (ha : DPE X a ta) (hb : DPE X b tb) : DPE X (.Compare a [.NotEq] [b] pos) (dOp neD ta tb) := de_cmpR (op_neA hu) neD_mono neD_sim ha hb (nomark _)
theorem dt_ne (hu : X.A.units + 64 < cLine) (ha : DPE X a ta) (hb : DPE X b tb) : DPT X (.Compare a [.NotEq] [b] pos) (dTest (dOp neD ta tb)) := dt_cmpR (op_neA hu) neD_mono neD_sim ha hb (nomark _)
/-! ### orders of ints -/
def ltD : F2 := intD (fun _ _ => True) fun i j => .bl (decide (i < j))
def leD : F2 := intD (fun _ _ => True) fun i j => .bl (decide (i ≤ j))
def gtD : F2 := intD (fun _ _ => True) fun i j => .bl (decide (j < i))
def geD : F2 := intD (fun _ _ => True) fun i j => .bl (decide (j ≤ i))
theorem de_lt (ha : DPE X a ta) (hb : DPE X b tb) : DPE X (.Compare a [.Lt] [b] pos) (dOp ltD ta tb) := de_cmpR op_lt intD_mono intD_simB ha hb (nomark _)
theorem de_le (ha : DPE X a ta) (hb : DPE X b tb) : DPE X (.Compare a [.LtE] [b] pos) (dOp leD ta tb) := de_cmpR op_le intD_mono intD_simB ha hb (nomark _)
theorem de_gt (ha : DPE X a ta) (hb : DPE X b tb) : DPE X (.Compare a [.Gt] [b] pos) (dOp gtD ta tb) := de_cmpR op_gt intD_mono intD_simB ha hb (nomark _)
theorem de_ge (ha : DPE X a ta) (hb : DPE X b tb) : DPE X (.Compare a [.GtE] [b] pos) (dOp geD ta tb) := de_cmpR op_ge intD_mono intD_simB ha hb (nomark _)
theorem dt_lt (ha : DPE X a ta) (hb : DPE X b tb) : DPT X (.Compare a [.Lt] [b] pos) (dTest (dOp ltD ta tb)) := dt_cmpR op_lt intD_mono intD_simB ha hb (nomark _)
theorem dt_le (ha : DPE X a ta) (hb : DPE X b tb) : DPT X (.Compare a [.LtE] [b] pos) (dTest (dOp leD ta tb)) := dt_cmpR op_le intD_mono intD_simB ha hb (nomark _)
theorem dt_gt (ha : DPE X a ta) (hb : DPE X b tb) : DPT X (.Compare a [.Gt] [b] pos) (dTest (dOp gtD ta tb)) := dt_cmpR op_gt intD_mono intD_simB ha hb (nomark _)
theorem dt_ge (ha : DPE X a ta) (hb : DPE X b tb) : DPT X (.Compare a [.GtE] [b] pos) (dTest (dOp geD ta tb)) := dt_cmpR op_ge intD_mono intD_simB ha hb (nomark _)
theorem de_lele (ha : DPE X a ta) (hb : DPE X b tb) (hc : DPE X c tc) (hm : lastMarks [.LtE, .LtE] [b, c] = false := by with_unfolding_all rfl) : DPE X (.Compare a [.LtE, .LtE] [b, c] pos) (dChain leD leD ta tb tc) := (de_chain op_le op_le intD_mono intD_mono intD_simB intD_simB ha hb hc hm).1
theorem dt_lele (ha : DPE X a ta) (hb : DPE X b tb) (hc : DPE X c tc) (hm : lastMarks [.LtE, .LtE] [b, c] = false := by with_unfolding_all rfl) : DPT X (.Compare a [.LtE, .LtE] [b, c] pos) (dTest (dChain leD leD ta tb tc)) := (de_chain op_le op_le intD_mono intD_mono intD_simB intD_simB ha hb hc hm).2
theorem de_lelt (ha : DPE X a ta) (hb : DPE X b tb) (hc : DPE X c tc) (hm : lastMarks [.LtE, .Lt] [b, c] = false := by with_unfolding_all rfl) : DPE X (.Compare a [.LtE, .Lt] [b, c] pos) (dChain leD ltD ta tb tc) := (de_chain op_le op_lt intD_mono intD_mono intD_simB intD_simB ha hb hc hm).1
theorem dt_lelt (ha : DPE X a ta) (hb : DPE X b tb) (hc : DPE X c tc) (hm : lastMarks [.LtE, .Lt] [b, c] = false := by with_unfolding_all rfl) : DPT X (.Compare a [.LtE, .Lt] [b, c] pos) (dTest (dChain leD ltD ta tb tc)) := (de_chain op_le op_lt intD_mono intD_mono intD_simB intD_simB ha hb hc hm).2
/-! ### in -/
def items? : PyData → Option (List PyData)
  | .list xs => some xs
  | .tuple xs => some xs
  | _ => none
def inD (neg : Bool) : F2 := fun x y G Q => match pyD 9 G x, (pyD 9 G y).bind items? with
  | some p, some qs => Q (.bl (if neg then !(qs.any fun z => PyData.eqv z p) else qs.any fun z => PyData.eqv z p)) G
  | _, _ => False
theorem inD_mono {neg : Bool} : MonoF2 (inD neg) := fun x y G Q Q' h q => by
  unfold inD at q ⊢
  split at q
  · exact h _ _ q
  · exact q
def rInA (K : PySem.W.Frag) (neg : Bool) : R2 := fun x y H Q => ∃ d e ds, Dp K H x d ∧ Dp K H y e ∧ SeqAt.shaped d = true ∧ SeqAt.shaped e = true ∧ items? e = some ds ∧ Q (.bl (if neg then !(ds.any fun z => PyData.eqv z d) else ds.any fun z => PyData.eqv z d)) H
theorem op_inA (hu : X.A.units + 65 < cLine) : OpR X (compareOp .In) (rInA X.K false) := by
  intro pins s σ H x y v u Q I rx ry h
  obtain ⟨d, e, ds, hd, he, sd, se, hi, q⟩ := h
  obtain ⟨as, r1⟩ := Dp.reads I d x v hd rx
  obtain ⟨bs, r2⟩ := Dp.reads I e y u he ry
  have room := PyProof.Rows.room_in_shaped (A := X.A) (xs := ds) sd hu
  cases e with
  | list xs => cases hi; exact SeqAt.in_list_reads r2 r1 (SeqAt.canLay_of_shaped se) (SeqAt.canLay_of_shaped sd) room ⟨.bl _, H, I, rfl, q⟩
  | tuple xs => cases hi; exact SeqAt.in_tuple_reads r2 r1 (SeqAt.canLay_of_shaped se) (SeqAt.canLay_of_shaped sd) room ⟨.bl _, H, I, rfl, q⟩
  | _ => cases hi
theorem op_notInA (hu : X.A.units + 65 < cLine) : OpR X (compareOp .NotIn) (rInA X.K true) := by
  intro pins s σ H x y v u Q I rx ry h
  obtain ⟨d, e, ds, hd, he, sd, se, hi, q⟩ := h
  obtain ⟨as, r1⟩ := Dp.reads I d x v hd rx
  obtain ⟨bs, r2⟩ := Dp.reads I e y u he ry
  have room := PyProof.Rows.room_in_shaped (A := X.A) (xs := ds) sd hu
  cases e with
  | list xs => cases hi; exact SeqAt.notIn_list_reads r2 r1 (SeqAt.canLay_of_shaped se) (SeqAt.canLay_of_shaped sd) room ⟨.bl _, H, I, rfl, q⟩
  | tuple xs => cases hi; exact SeqAt.notIn_tuple_reads r2 r1 (SeqAt.canLay_of_shaped se) (SeqAt.canLay_of_shaped sd) room ⟨.bl _, H, I, rfl, q⟩
  | _ => cases hi
theorem inD_sim {K : PySem.W.Frag} {neg : Bool} : Sim2 K (rInA K neg) (inD neg) := fun H G x y dx dy Q m rx ry h => by
  unfold inD at h
  split at h
  · rename_i p qs e1 e2
    obtain ⟨q, e3, e4⟩ := Option.bind_eq_some_iff.mp e2
    exact ⟨p, q, qs, pyD_dp m 9 _ _ p rx e1, pyD_dp m 9 _ _ q ry e3, pyD_shaped e1 (by decide), pyD_shaped e3 (by decide), e4, h _ _ m (.bl _) .refl⟩
  · exact False.elim h
theorem de_in (hu : X.A.units + 65 < cLine) (ha : DPE X a ta) (hb : DPE X b tb) (hk : behindInMarks .In b = false := by rfl) : DPE X (.Compare a [.In] [b] pos) (dOp (inD false) ta tb) := de_cmpR (op_inA hu) inD_mono inD_sim ha hb hk
theorem dt_in (hu : X.A.units + 65 < cLine) (ha : DPE X a ta) (hb : DPE X b tb) (hk : behindInMarks .In b = false := by rfl) : DPT X (.Compare a [.In] [b] pos) (dTest (dOp (inD false) ta tb)) := dt_cmpR (op_inA hu) inD_mono inD_sim ha hb hk
theorem de_notin (hu : X.A.units + 65 < cLine) (ha : DPE X a ta) (hb : DPE X b tb) (hk : behindInMarks .NotIn b = false := by rfl) : DPE X (.Compare a [.NotIn] [b] pos) (dOp (inD true) ta tb) := de_cmpR (op_notInA hu) inD_mono inD_sim ha hb hk
theorem dt_notin (hu : X.A.units + 65 < cLine) (ha : DPE X a ta) (hb : DPE X b tb) (hk : behindInMarks .NotIn b = false := by rfl) : DPT X (.Compare a [.NotIn] [b] pos) (dTest (dOp (inD true) ta tb)) := dt_cmpR (op_notInA hu) inD_mono inD_sim ha hb hk
/-! ### is: None, truths -/
def isD (neg : Bool) : F2 := fun x y G Q => match x, y with
  | .bl i, .bl j => Q (.bl (if neg then !decide (i = j) else decide (i = j))) G
  | .non, .non => Q (.bl (!neg)) G
  | _, .non => Q (.bl neg) G
  | _, _ => False
theorem isD_mono {neg : Bool} : MonoF2 (isD neg) := fun x y G Q Q' h q => by
  unfold isD at q ⊢
  split at q <;> first | exact h _ _ q | exact q
def rIs (neg : Bool) : R2 := fun x y H Q => (y = .non ∧ Q (.bl (if neg then !decide (x = .non) else decide (x = .non))) H) ∨ ∃ a b, x = .bl a ∧ y = .bl b ∧ Q (.bl (if neg then !decide (a = b) else decide (a = b))) H
theorem op_is1 : OpR X (compareOp .Is) (rIs false) := op_isN.or op_is_bl
theorem op_is2 : OpR X (compareOp .IsNot) (rIs true) := op_notN.or op_isnot_bl
theorem isD_sim {K : PySem.W.Frag} {neg : Bool} : Sim2 K (rIs neg) (isD neg) := fun H G x y dx dy Q m rx ry h => by
  unfold isD at h
  split at h
  · cases rx; cases ry
    exact .inr ⟨_, _, rfl, rfl, h _ _ m (.bl _) .refl⟩
  · cases rx; cases ry
    refine .inl ⟨rfl, ?_⟩
    cases neg <;> exact h _ _ m (.bl _) .refl
  · rename_i hx
    cases ry
    have hn : x ≠ .non := by
      intro e
      subst e
      cases rx
      exact hx rfl
    refine .inl ⟨rfl, ?_⟩
    have e : decide (x = V.non) = false := decide_eq_false hn
    rw [e]
    cases neg <;> exact h _ _ m (.bl _) .refl
  · exact False.elim h
theorem de_is (ha : DPE X a ta) (hb : DPE X b tb) : DPE X (.Compare a [.Is] [b] pos) (dOp (isD false) ta tb) := de_cmpR op_is1 isD_mono isD_sim ha hb (nomark _)
theorem dt_is (ha : DPE X a ta) (hb : DPE X b tb) : DPT X (.Compare a [.Is] [b] pos) (dTest (dOp (isD false) ta tb)) := dt_cmpR op_is1 isD_mono isD_sim ha hb (nomark _)
theorem de_isnot (ha : DPE X a ta) (hb : DPE X b tb) : DPE X (.Compare a [.IsNot] [b] pos) (dOp (isD true) ta tb) := de_cmpR op_is2 isD_mono isD_sim ha hb (nomark _)
theorem dt_isnot (ha : DPE X a ta) (hb : DPE X b tb) : DPT X (.Compare a [.IsNot] [b] pos) (dTest (dOp (isD true) ta tb)) := dt_cmpR op_is2 isD_mono isD_sim ha hb (nomark _)
end
end FD

namespace FD
open PySem L2
section
variable {X : Cx} {a b c e : Expr} {es rest : List Expr} {ta tb tc : DE} {pos : Pos}
/-! ### sequences: what a value holds -/
def seqD (x : D) (G : DG) : Option (List D) := match x with
  | .tup xs => some xs
  | .lis xs => some xs
  | .ref p => match G p with
    | some (.lst xs) => some xs
    | _ => none
  | _ => none
theorem seqD_ok {K : PySem.W.Frag} {H : Hp} {G : DG} {x : V} {d : D} {xs : List D} (m : MH K G H) (r : RD K H d x) (h : seqD d G = some xs) : ∃ p vs, x = .ref p ∧ RDs K H xs vs ∧ (SqL K H p vs ∨ SqT K H p vs) := by
  unfold seqD at h
  split at h
  · cases h
    cases r with
    | @tup p _ vs hs hl hi => exact ⟨p, vs, rfl, ⟨hl, hi⟩, .inr hs.t⟩
  · cases h
    cases r with
    | @lis p _ vs hs hl hi => exact ⟨p, vs, rfl, ⟨hl, hi⟩, .inl hs.l⟩
  · cases r
    split at h
    · rename_i e
      cases h
      obtain ⟨vs, g, r⟩ := m _ _ e
      exact ⟨_, vs, rfl, r, .inl (SqL.of g)⟩
    · cases h
  · cases h
/-- a list's items -/
def lstD (x : D) (G : DG) : Option (List D) := match x with
  | .lis xs => some xs
  | .ref p => match G p with
    | some (.lst xs) => some xs
    | _ => none
  | _ => none
theorem lstD_ok {K : PySem.W.Frag} {H : Hp} {G : DG} {x : V} {d : D} {xs : List D} (m : MH K G H) (r : RD K H d x) (h : lstD d G = some xs) : ∃ p vs, x = .ref p ∧ RDs K H xs vs ∧ SqL K H p vs := by
  unfold lstD at h
  split at h
  · cases h
    cases r with
    | @lis p _ vs hs hl hi => exact ⟨p, vs, rfl, ⟨hl, hi⟩, hs.l⟩
  · cases r
    split at h
    · rename_i e
      cases h
      obtain ⟨vs, g, r⟩ := m _ _ e
      exact ⟨_, vs, rfl, r, SqL.of g⟩
    · cases h
  · cases h
def optL (o : Option (List D)) (f : List D → Prop) : Prop := match o with | some xs => f xs | none => False
theorem optL_mono {o : Option (List D)} {f g : List D → Prop} (h : ∀ xs, f xs → g xs) (q : optL o f) : optL o g := by
  cases o with
  | none => exact q
  | some xs => exact h xs q
/-! ### len -/
def lenD : FL := fun xs G Q => match xs with
  | [.str s] => s.length ≤ sizeLine ∧ Q (.int s.length) G
  | [x] => optL (seqD x G) fun ys => Q (.int ys.length) G
  | _ => False
theorem lenD_mono : MonoFL lenD := fun xs G Q Q' h q => by
  unfold lenD at q ⊢
  split at q
  · exact ⟨q.1, h _ _ q.2⟩
  · exact optL_mono (fun _ z => h _ _ z) q
  · exact q
theorem lenD_sim {K : PySem.W.Frag} : SimL K (fun xs H Q => ∃ x n, xs = [x] ∧ LenV K x H n ∧ Q (.int n) H) lenD := fun H G xs ds Q m r h => by
  unfold lenD at h
  split at h
  · obtain ⟨v, vs', rfl, r1, r2⟩ := r.cons_inv
    have e := r2.nil_inv
    subst e
    cases r1
    exact ⟨_, _, rfl, ⟨h.1, rfl⟩, h.2 _ _ m (.int _) .refl⟩
  · obtain ⟨v, vs', rfl, r1, r2⟩ := r.cons_inv
    have e := r2.nil_inv
    subst e
    unfold optL at h
    split at h
    · rename_i ys e
      obtain ⟨p, ws, rfl, rr, hq⟩ := seqD_ok m r1 e
      refine ⟨_, ws.length, rfl, ?_, ?_⟩
      · rcases hq with hq | hq
        · exact .inl ⟨ws, hq, rfl⟩
        · exact .inr ⟨ws, hq, rfl⟩
      · rw [← rr.1]
        exact h _ _ m (.int _) .refl
    · exact False.elim h
  · exact False.elim h
theorem de_len {p : Pos} {t : DA} (hg : Gl X "len") (hm : X.mg "len" = none) (ha : DPA X (e :: es) t) (h1 : starEach (e :: es) X.env = (false, eval e X.env) :: starEach es X.env := by rfl) (h2 : ((backTo pos (starEach es X.env)).any fun x => x.fst) = false := by rfl) :
    DPE X (.Call (.Name "len" p) (e :: es) [] pos) (dCB lenD t) := de_callB call_len lenD_mono lenD_sim hg hm PySem.boot_len ha (by decide) (by decide) h1 h2
/-! ### list(..), tuple(..) -/
def listD : FL := fun xs G Q => match xs with
  | [x] => optL (seqD x G) fun ys => ∀ p, G p = none → Q (.ref p) (up G p (.lst ys))
  | _ => False
theorem listD_mono : MonoFL listD := fun xs G Q Q' h q => by
  unfold listD at q ⊢
  split at q
  · exact optL_mono (fun _ z p hp => h _ _ (z p hp)) q
  · exact q
theorem listD_sim {K : PySem.W.Frag} : SimL K (fun xs H Q => ∃ p ys, xs = [.ref p] ∧ (SqL K H p ys ∨ SqT K H p ys) ∧ ∀ l, H l = none → Q (.ref l) (upd H l (.lst ys))) listD := fun H G xs ds Q m r h => by
  unfold listD at h
  split at h
  · obtain ⟨v, vs', rfl, r1, r2⟩ := r.cons_inv
    have e := r2.nil_inv
    subst e
    unfold optL at h
    split at h
    · rename_i ys e
      obtain ⟨p, ws, rfl, rr, hq⟩ := seqD_ok m r1 e
      exact ⟨p, ws, rfl, hq, fun l hl => h l (m.fresh hl) (.ref l) _ (m.upd (.upd_new hl) (.new_lst rr (.upd_new hl))) (.ref l) (.upd_new hl)⟩
    · exact False.elim h
  · exact False.elim h
theorem de_list {p : Pos} {t : DA} (hg : Gl X "list") (hm : X.mg "list" = none) (ha : DPA X (e :: es) t) (h1 : starEach (e :: es) X.env = (false, eval e X.env) :: starEach es X.env := by rfl) (h2 : ((backTo pos (starEach es X.env)).any fun x => x.fst) = false := by rfl) :
    DPE X (.Call (.Name "list" p) (e :: es) [] pos) (dCB listD t) := de_callTy call_list_of listD_mono listD_sim hg hm (by decide +kernel) ha (by decide) (by decide) h1 h2
def tupleD : FL := fun xs G Q => match xs with
  | [x] => optL (seqD x G) fun ys => Q (.tup ys) G
  | _ => False
theorem tupleD_mono : MonoFL tupleD := fun xs G Q Q' h q => by
  unfold tupleD at q ⊢
  split at q
  · exact optL_mono (fun _ z => h _ _ z) q
  · exact q
theorem call_tupleP : CallR X (.type "tuple") (fun xs H Q => ∃ p ys, xs = [.ref p] ∧ ((SqL X.K H p ys ∧ NewT H ys Q) ∨ (SqP X.K H p ys ∧ Q (.ref p) H))) := by
  intro pins s σ H xs us Q I r h
  obtain ⟨p, ys, rfl, h⟩ := h
  obtain ⟨u, rfl, rx⟩ := vals1 r
  cases rx
  rcases h with ⟨hq, q⟩ | ⟨hq, q⟩
  · obtain ⟨its, r', pl, hz⟩ := I.list hq
    have hlen := r'.length
    refine call_tuple_list pl.isList (fun h' kp => ?_) (by simp only [List.size_toArray] <;> omega)
    exact newT_inv (s := s) (h' := h') (I.kept (t' := s.toks) kp) r' hz q
  · obtain ⟨its, r', pl, hz⟩ := I.tuple hq.t
    exact call_tuple_same pl ⟨.ref p, H, I, rfl, q⟩
theorem tupleD_sim {K : PySem.W.Frag} : SimL K (fun xs H Q => ∃ p ys, xs = [.ref p] ∧ ((SqL K H p ys ∧ NewT H ys Q) ∨ (SqP K H p ys ∧ Q (.ref p) H))) tupleD := fun H G xs ds Q m r h => by
  unfold tupleD at h
  split at h
  · rename_i x
    obtain ⟨v, vs', rfl, r1, r2⟩ := r.cons_inv
    have e := r2.nil_inv
    subst e
    unfold optL at h
    split at h
    · rename_i ys e
      cases x with
      | tup zs =>
        simp [seqD] at e
        subst e
        cases r1 with
        | @tup p _ vs hs hl hi => exact ⟨p, vs, rfl, .inr ⟨hs, h _ _ m (.tup hs hl hi) .refl⟩⟩
      | ref p =>
        have e2 : lstD (.ref p) G = some ys := by simpa [seqD, lstD] using e
        obtain ⟨p', ws, hp, rr, hq⟩ := lstD_ok m r1 e2
        exact ⟨p', ws, by rw [hp], .inl ⟨hq, fun n o hn hd => h (.ref n) _ (m.new (.upd_new hn) (m.fresh hn)) (.new_tup rr hn hd) (.upd_new hn)⟩⟩
      | lis zs =>
        have e2 : lstD (.lis zs) G = some ys := by simpa [seqD, lstD] using e
        obtain ⟨p', ws, hp, rr, hq⟩ := lstD_ok m r1 e2
        exact ⟨p', ws, by rw [hp], .inl ⟨hq, fun n o hn hd => h (.ref n) _ (m.new (.upd_new hn) (m.fresh hn)) (.new_tup rr hn hd) (.upd_new hn)⟩⟩
      | _ => simp [seqD] at e
    · exact False.elim h
  · exact False.elim h
theorem de_tuple {p : Pos} {t : DA} (hg : Gl X "tuple") (hm : X.mg "tuple" = none) (ha : DPA X (e :: es) t) (h1 : starEach (e :: es) X.env = (false, eval e X.env) :: starEach es X.env := by rfl) (h2 : ((backTo pos (starEach es X.env)).any fun x => x.fst) = false := by rfl) :
    DPE X (.Call (.Name "tuple" p) (e :: es) [] pos) (dCB tupleD t) := de_callTy call_tupleP tupleD_mono tupleD_sim hg hm (by decide +kernel) ha (by decide) (by decide) h1 h2
/-! ### min, max of two ints or of a list; sum; abs; all -/
def intsD : List D → Option (List Int)
  | [] => some []
  | .int i :: r => (intsD r).map (i :: ·)
  | _ :: _ => none
theorem intsD_map : ∀ ns : List Int, intsD (ns.map .int) = some ns
  | [] => rfl
  | n :: ns => by simp [intsD, intsD_map ns]
theorem intsD_inv : ∀ {ds : List D} {ns : List Int}, intsD ds = some ns → ds = ns.map .int
  | [], ns, h => by cases h; rfl
  | .int i :: r, ns, h => by
    simp only [intsD, Option.map_eq_some_iff] at h
    obtain ⟨a, h1, rfl⟩ := h
    rw [intsD_inv h1]
    rfl
  | .non :: r, ns, h => by simp [intsD] at h
  | .bl b :: r, ns, h => by simp [intsD] at h
  | .str b :: r, ns, h => by simp [intsD] at h
  | .tup b :: r, ns, h => by simp [intsD] at h
  | .tpl b :: r, ns, h => by simp [intsD] at h
  | .lis b :: r, ns, h => by simp [intsD] at h
  | .ref b :: r, ns, h => by simp [intsD] at h
  | .ty b :: r, ns, h => by simp [intsD] at h
def maxD : FL := fun xs G Q => match xs with
  | [.int i, .int j] => Q (.int (if j > i then j else i)) G
  | [x] => ∃ ns, (lstD x G).bind intsD = some ns ∧ 0 < ns.length ∧ ∀ m, m ∈ ns → (∀ y, y ∈ ns → y ≤ m) → Q (.int m) G
  | _ => False
def minD : FL := fun xs G Q => match xs with
  | [.int i, .int j] => Q (.int (if j < i then j else i)) G
  | [x] => ∃ ns, (lstD x G).bind intsD = some ns ∧ 0 < ns.length ∧ ∀ m, m ∈ ns → (∀ y, y ∈ ns → m ≤ y) → Q (.int m) G
  | _ => False
theorem maxD_mono : MonoFL maxD := fun xs G Q Q' h q => by
  unfold maxD at q ⊢
  split at q
  · exact h _ _ q
  · obtain ⟨ns, h1, h2, h3⟩ := q
    exact ⟨ns, h1, h2, fun m a b => h _ _ (h3 m a b)⟩
  · exact q
theorem minD_mono : MonoFL minD := fun xs G Q Q' h q => by
  unfold minD at q ⊢
  split at q
  · exact h _ _ q
  · obtain ⟨ns, h1, h2, h3⟩ := q
    exact ⟨ns, h1, h2, fun m a b => h _ _ (h3 m a b)⟩
  · exact q
theorem ints_ok {K : PySem.W.Frag} {H : Hp} {G : DG} {x : V} {d : D} {ns : List Int} (m : MH K G H) (r : RD K H d x) (h : (lstD d G).bind intsD = some ns) : ∃ p, x = .ref p ∧ SqL K H p (ns.map V.int) := by
  obtain ⟨ds, h1, h2⟩ := Option.bind_eq_some_iff.mp h
  obtain ⟨p, vs, rfl, rr, hq⟩ := lstD_ok m r h1
  rw [intsD_inv h2] at rr
  exact ⟨p, rfl, by rw [← rr.int_inv]; exact hq⟩
theorem maxD_sim {K : PySem.W.Frag} : SimL K (fun xs H Q => (∃ i j, xs = [.int i, .int j] ∧ Q (.int (if j > i then j else i)) H) ∨ rMax K xs H Q) maxD := fun H G xs ds Q m r h => by
  unfold maxD at h
  split at h
  · obtain ⟨v, vs', rfl, r1, r2⟩ := r.cons_inv
    obtain ⟨v2, vs2, rfl, r3, r4⟩ := r2.cons_inv
    have e := r4.nil_inv
    subst e
    cases r1; cases r3
    exact .inl ⟨_, _, rfl, h _ _ m (.int _) .refl⟩
  · obtain ⟨v, vs', rfl, r1, r2⟩ := r.cons_inv
    have e := r2.nil_inv
    subst e
    obtain ⟨ns, h1, h2, h3⟩ := h
    obtain ⟨p, rfl, hq⟩ := ints_ok m r1 h1
    exact .inr ⟨p, ns, rfl, hq, h2, fun m' a b => h3 m' a b _ _ m (.int _) .refl⟩
  · exact False.elim h
theorem minD_sim {K : PySem.W.Frag} : SimL K (fun xs H Q => (∃ i j, xs = [.int i, .int j] ∧ Q (.int (if j < i then j else i)) H) ∨ rMin K xs H Q) minD := fun H G xs ds Q m r h => by
  unfold minD at h
  split at h
  · obtain ⟨v, vs', rfl, r1, r2⟩ := r.cons_inv
    obtain ⟨v2, vs2, rfl, r3, r4⟩ := r2.cons_inv
    have e := r4.nil_inv
    subst e
    cases r1; cases r3
    exact .inl ⟨_, _, rfl, h _ _ m (.int _) .refl⟩
  · obtain ⟨v, vs', rfl, r1, r2⟩ := r.cons_inv
    have e := r2.nil_inv
    subst e
    obtain ⟨ns, h1, h2, h3⟩ := h
    obtain ⟨p, rfl, hq⟩ := ints_ok m r1 h1
    exact .inr ⟨p, ns, rfl, hq, h2, fun m' a b => h3 m' a b _ _ m (.int _) .refl⟩
  · exact False.elim h
theorem de_max {p : Pos} {t : DA} (hc : X.calm = true) (hg : Gl X "max") (hm : X.mg "max" = none) (ha : DPA X (e :: es) t) (h1 : starEach (e :: es) X.env = (false, eval e X.env) :: starEach es X.env := by rfl) (h2 : ((backTo pos (starEach es X.env)).any fun x => x.fst) = false := by rfl) :
    DPE X (.Call (.Name "max" p) (e :: es) [] pos) (dCB maxD t) := de_callB ((call_max2 hc).or (cr_max hc)) maxD_mono maxD_sim hg hm (by decide +kernel) ha (by decide) (by decide) h1 h2
theorem de_min {p : Pos} {t : DA} (hc : X.calm = true) (hg : Gl X "min") (hm : X.mg "min" = none) (ha : DPA X (e :: es) t) (h1 : starEach (e :: es) X.env = (false, eval e X.env) :: starEach es X.env := by rfl) (h2 : ((backTo pos (starEach es X.env)).any fun x => x.fst) = false := by rfl) :
    DPE X (.Call (.Name "min" p) (e :: es) [] pos) (dCB minD t) := de_callB ((call_min2 hc).or (cr_min hc)) minD_mono minD_sim hg hm (by decide +kernel) ha (by decide) (by decide) h1 h2
def sumD : FL := fun xs G Q => match xs with
  | [x] => ∃ ns, (lstD x G).bind intsD = some ns ∧ Q (.int ns.sum) G
  | _ => False
theorem sumD_mono : MonoFL sumD := fun xs G Q Q' h q => by
  unfold sumD at q ⊢
  split at q
  · obtain ⟨ns, h1, h2⟩ := q
    exact ⟨ns, h1, h _ _ h2⟩
  · exact q
theorem sumD_sim {K : PySem.W.Frag} : SimL K (rSum K) sumD := fun H G xs ds Q m r h => by
  unfold sumD at h
  split at h
  · obtain ⟨v, vs', rfl, r1, r2⟩ := r.cons_inv
    have e := r2.nil_inv
    subst e
    obtain ⟨ns, h1, h2⟩ := h
    obtain ⟨p, rfl, hq⟩ := ints_ok m r1 h1
    exact ⟨p, ns, rfl, hq, h2 _ _ m (.int _) .refl⟩
  · exact False.elim h
theorem de_sum {p : Pos} {t : DA} (hc : X.calm = true) (hg : Gl X "sum") (hm : X.mg "sum" = none) (ha : DPA X (e :: es) t) (h1 : starEach (e :: es) X.env = (false, eval e X.env) :: starEach es X.env := by rfl) (h2 : ((backTo pos (starEach es X.env)).any fun x => x.fst) = false := by rfl) :
    DPE X (.Call (.Name "sum" p) (e :: es) [] pos) (dCB sumD t) := de_callB (cr_sum hc) sumD_mono sumD_sim hg hm (by decide +kernel) ha (by decide) (by decide) h1 h2
def absD : FL := fun xs G Q => match xs with
  | [.int i] => Q (.int (if i < 0 then -i else i)) G
  | _ => False
theorem de_abs {p : Pos} {t : DA} (hg : Gl X "abs") (hm : X.mg "abs" = none) (ha : DPA X (e :: es) t) (h1 : starEach (e :: es) X.env = (false, eval e X.env) :: starEach es X.env := by rfl) (h2 : ((backTo pos (starEach es X.env)).any fun x => x.fst) = false := by rfl) :
    DPE X (.Call (.Name "abs" p) (e :: es) [] pos) (dCB absD t) := de_callB call_abs
  (fun xs G Q Q' h q => by unfold absD at q ⊢; split at q; exact h _ _ q; exact q)
  (fun H G xs ds Q m r h => by
    unfold absD at h
    split at h
    · obtain ⟨v, vs', rfl, r1, r2⟩ := r.cons_inv
      have e := r2.nil_inv
      subst e
      cases r1
      exact ⟨_, rfl, h _ _ m (.int _) .refl⟩
    · exact False.elim h) hg hm (by decide +kernel) ha (by decide) (by decide) h1 h2
def blsD : List D → Option (List Bool)
  | [] => some []
  | .bl i :: r => (blsD r).map (i :: ·)
  | _ :: _ => none
theorem blsD_map : ∀ ns : List Bool, blsD (ns.map .bl) = some ns
  | [] => rfl
  | n :: ns => by simp [blsD, blsD_map ns]
theorem blsD_inv : ∀ {ds : List D} {ns : List Bool}, blsD ds = some ns → ds = ns.map .bl
  | [], ns, h => by cases h; rfl
  | .bl i :: r, ns, h => by
    simp only [blsD, Option.map_eq_some_iff] at h
    obtain ⟨a, h1, rfl⟩ := h
    rw [blsD_inv h1]
    rfl
  | .non :: r, ns, h => by simp [blsD] at h
  | .int b :: r, ns, h => by simp [blsD] at h
  | .str b :: r, ns, h => by simp [blsD] at h
  | .tup b :: r, ns, h => by simp [blsD] at h
  | .tpl b :: r, ns, h => by simp [blsD] at h
  | .lis b :: r, ns, h => by simp [blsD] at h
  | .ref b :: r, ns, h => by simp [blsD] at h
  | .ty b :: r, ns, h => by simp [blsD] at h
theorem bls_ok {K : PySem.W.Frag} {H : Hp} {G : DG} {x : V} {d : D} {ns : List Bool} (m : MH K G H) (r : RD K H d x) (h : (lstD d G).bind blsD = some ns) : ∃ p, x = .ref p ∧ SqL K H p (ns.map V.bl) := by
  obtain ⟨ds, h1, h2⟩ := Option.bind_eq_some_iff.mp h
  obtain ⟨p, vs, rfl, rr, hq⟩ := lstD_ok m r h1
  rw [blsD_inv h2] at rr
  exact ⟨p, rfl, by rw [← rr.bl_inv]; exact hq⟩
def allD : FL := fun xs G Q => match xs with
  | [x] => ∃ bs, (lstD x G).bind blsD = some bs ∧ Q (.bl (bs.all id)) G
  | _ => False
theorem de_all {p : Pos} {t : DA} (hc : X.calm = true) (hg : Gl X "all") (hm : X.mg "all" = none) (ha : DPA X (e :: es) t) (h1 : starEach (e :: es) X.env = (false, eval e X.env) :: starEach es X.env := by rfl) (h2 : ((backTo pos (starEach es X.env)).any fun x => x.fst) = false := by rfl) :
    DPE X (.Call (.Name "all" p) (e :: es) [] pos) (dCB allD t) := de_callB (cr_all hc)
  (fun xs G Q Q' h q => by
    unfold allD at q ⊢
    split at q
    · obtain ⟨bs, z1, z2⟩ := q
      exact ⟨bs, z1, h _ _ z2⟩
    · exact q)
  (fun H G xs ds Q m r h => by
    unfold allD at h
    split at h
    · obtain ⟨v, vs', rfl, r1, r2⟩ := r.cons_inv
      have e := r2.nil_inv
      subst e
      obtain ⟨bs, z1, z2⟩ := h
      obtain ⟨p, rfl, hq⟩ := bls_ok m r1 z1
      exact ⟨p, bs, rfl, hq, z2 _ _ m (.bl _) .refl⟩
    · exact False.elim h) hg hm (by decide +kernel) ha (by decide) (by decide) h1 h2
/-! ### sorted, ints -/
def sortedD : FL := fun xs G Q => match xs with
  | [x] => ∃ ns, (lstD x G).bind intsD = some ns ∧ ∀ ns' : List Int, ns'.Perm ns → ns'.Pairwise (· ≤ ·) → ∀ p, G p = none → Q (.ref p) (up G p (.lst (ns'.map .int)))
  | _ => False
theorem de_sortedI {p : Pos} {t : DA} (hg : Gl X "sorted") (hm : X.mg "sorted" = none) (ha : DPA X (e :: es) t) (h1 : starEach (e :: es) X.env = (false, eval e X.env) :: starEach es X.env := by rfl) (h2 : ((backTo pos (starEach es X.env)).any fun x => x.fst) = false := by rfl) :
    DPE X (.Call (.Name "sorted" p) (e :: es) [] pos) (dCB sortedD t) := de_callB cr_sortedI
  (fun xs G Q Q' h q => by
    unfold sortedD at q ⊢
    split at q
    · obtain ⟨bs, z1, z2⟩ := q
      exact ⟨bs, z1, fun ns' a b p hp => h _ _ (z2 ns' a b p hp)⟩
    · exact q)
  (fun H G xs ds Q m r h => by
    unfold sortedD at h
    split at h
    · obtain ⟨v, vs', rfl, r1, r2⟩ := r.cons_inv
      have e := r2.nil_inv
      subst e
      obtain ⟨bs, z1, z2⟩ := h
      obtain ⟨p, rfl, hq⟩ := ints_ok m r1 z1
      exact ⟨p, bs, rfl, hq, fun ns' n a b hn => z2 ns' a b n (m.fresh hn) (.ref n) _ (m.upd (.upd_new hn) (.new_lst (.of_int ns') (.upd_new hn))) (.ref n) (.upd_new hn)⟩
    · exact False.elim h) hg hm (by decide +kernel) ha (by decide) (by decide) h1 h2
/-! ### methods of lists -/
abbrev FM := D → List D → DG → DK → Prop
def MonoFM (f : FM) : Prop := ∀ x xs G (Q Q' : DK), (∀ d G', Q d G' → Q' d G') → f x xs G Q → f x xs G Q'
def SimM (K : PySem.W.Frag) (r : V → List V → Hp → VK → Prop) (f : FM) : Prop := ∀ H G x xs dx dxs Q, MH K G H → RD K H dx x → RDs K H dxs xs → f dx dxs G (lf K H Q) → r x xs H Q
def isLst (x : D) (G : DG) : Prop := ∃ xs, lstD x G = some xs
def dMt (f : FM) (to : DE) (t : DA) : DE := fun σ G Q => to σ G fun x G1 => isLst x G1 ∧ t σ G1 fun xs G2 => f x xs G2 Q
theorem tyV_lst {K : PySem.W.Frag} {H : Hp} {G : DG} {x : V} {d : D} (m : MH K G H) (r : RD K H d x) (h : isLst d G) : tyV K "list" x H := by
  obtain ⟨xs, h⟩ := h
  obtain ⟨p, vs, rfl, rr, hq⟩ := lstD_ok m r h
  exact .inl ⟨rfl, vs, hq⟩
theorem de_mtL {o : Expr} {name : Str} {apos : Pos} {id : String} {to : DE} {t : DA} {r : V → List V → Hp → VK → Prop} {f : FM} (slot : Slot "list" name id) (hty : typeOf (.builtin id) = pure (.type "method_descriptor")) (hm : MtR X id r) (hf : MonoFM f) (hs : SimM X.K r f) (ho : DPE X o to) (ha : DPA X (e :: es) t)
    (hbase : attributeBase o name X.env (eval o X.env) = eval o X.env := by rfl)
    (hfew : ((backTo pos (starEach (e :: es) X.env)).all (fun x => !x.1) && (backToKw pos (keywordEach [] X.env)).all (fun x => x.1.isSome)
      && decide ((e :: es).length + ([] : List Keyword).length + (if ([] : List Keyword).isEmpty then 0 else 1) < 30)) = true := by rfl)
    (hline : (apos.endLine == pos.line) = true := by rfl) (h1 : starEach (e :: es) X.env = (false, eval e X.env) :: starEach es X.env := by rfl) (hplain : (backTo pos (starEach es X.env)).any (·.1) = false := by rfl) :
    DPE X (.Call (.Attribute o name apos) (e :: es) [] pos) (dMt f to t) := by
  obtain ⟨mo, tto, po, ro⟩ := ho
  obtain ⟨ma, tta, pa, ra⟩ := ha
  refine ⟨fun σ G Q Q' h q => mo σ G _ _ (fun x G1 q1 => ⟨q1.1, ma σ G1 _ _ (fun xs G2 q2 => hf x xs G2 Q Q' h q2) q1.2⟩) q, _, pe_bm PySem.F.plainAttrs_list slot hty hm po pa hbase hfew hline h1 hplain, fun σ H σd G Q m s h => ?_⟩
  refine ro σ H σd G _ m s (mo _ _ _ _ (fun dx G1 q1 x H1 m1 r1 k1 => ?_) h)
  refine ⟨tyV_lst m1 r1 q1.1, ra σ H1 σd G1 _ m1 (s.kt k1) (ma _ _ _ _ (fun dxs G2 q2 xs H2 m2 r2 k2 => ?_) q1.2)⟩
  exact hs H2 G2 x xs dx dxs Q m2 (r1.kt k2) r2 (hf _ _ _ _ _ (fun d G' z => lf_kt (k1.trans k2) z) q2)
theorem de_mtL0 {o : Expr} {name : Str} {apos : Pos} {id : String} {to : DE} {r : V → List V → Hp → VK → Prop} {f : FM} (slot : Slot "list" name id) (hty : typeOf (.builtin id) = pure (.type "method_descriptor")) (hm : MtR X id r) (hf : MonoFM f) (hs : SimM X.K r f) (ho : DPE X o to)
    (hbase : attributeBase o name X.env (eval o X.env) = eval o X.env := by rfl) (hline : (apos.endLine == pos.line) = true := by rfl) :
    DPE X (.Call (.Attribute o name apos) [] [] pos) (dMt f to dNil) := by
  obtain ⟨mo, tto, po, ro⟩ := ho
  refine ⟨fun σ G Q Q' h q => mo σ G _ _ (fun x G1 q1 => ⟨q1.1, hf x _ G1 Q Q' h q1.2⟩) q, _, pe_bm0 PySem.F.plainAttrs_list slot hty hm po hbase hline, fun σ H σd G Q m s h => ?_⟩
  refine ro σ H σd G _ m s (mo _ _ _ _ (fun dx G1 q1 x H1 m1 r1 k1 => ?_) h)
  exact ⟨tyV_lst m1 r1 q1.1, hs H1 G1 x [] dx [] Q m1 r1 .nil (hf _ _ _ _ _ (fun d G' z => lf_kt k1 z) q1.2)⟩
theorem KT.upd_lst {K : PySem.W.Frag} {H : Hp} {p : Addr} {vs ws : List V} (h : H p = some (.lst vs)) : KT K H (L2.upd H p (.lst ws)) := .upd_mut h (fun _ e => by cases e) (fun _ _ e => by cases e)
def appendD : FM := fun x xs G Q => match x, xs with
  | .ref p, [y] => ∃ zs, G p = some (.lst zs) ∧ zs.length < sizeLine ∧ Q .non (up G p (.lst (zs ++ [y])))
  | _, _ => False
theorem appendD_mono : MonoFM appendD := fun x xs G Q Q' h q => by
  unfold appendD at q ⊢
  split at q
  · obtain ⟨zs, h1, h2, h3⟩ := q
    exact ⟨zs, h1, h2, h _ _ h3⟩
  · exact q
theorem appendD_sim {K : PySem.W.Frag} : SimM K rAppend appendD := fun H G x xs dx dxs Q m rx rs h => by
  unfold appendD at h
  split at h
  · obtain ⟨zs, h1, h2, h3⟩ := h
    cases rx
    obtain ⟨v, vs', rfl, r1, r2⟩ := rs.cons_inv
    have e := r2.nil_inv
    subst e
    obtain ⟨vs, g, r⟩ := m _ _ h1
    refine ⟨_, vs, v, rfl, rfl, g, by rw [← r.1]; exact h2, ?_⟩
    exact h3 .non _ (m.upd (.upd_lst g) (.new_lst (r.append (RDs.nil.cons r1)) (.upd_lst g))) .non (.upd_lst g)
  · exact False.elim h
theorem de_append {o : Expr} {apos : Pos} {to : DE} {t : DA} (ho : DPE X o to) (ha : DPA X (e :: es) t)
    (hbase : attributeBase o "append" X.env (eval o X.env) = eval o X.env := by rfl)
    (hfew : ((backTo pos (starEach (e :: es) X.env)).all (fun x => !x.1) && (backToKw pos (keywordEach [] X.env)).all (fun x => x.1.isSome)
      && decide ((e :: es).length + ([] : List Keyword).length + (if ([] : List Keyword).isEmpty then 0 else 1) < 30)) = true := by rfl)
    (hline : (apos.endLine == pos.line) = true := by rfl) (h1 : starEach (e :: es) X.env = (false, eval e X.env) :: starEach es X.env := by rfl) (hplain : (backTo pos (starEach es X.env)).any (·.1) = false := by rfl) :
    DPE X (.Call (.Attribute o "append" apos) (e :: es) [] pos) (dMt appendD to t) := de_mtL PySem.F.slot_list_append PySem.F.type_list_append mt_append appendD_mono appendD_sim ho ha hbase hfew hline h1 hplain
def extendD : FM := fun x xs G Q => match x, xs with
  | .ref p, [.ref q] => ∃ zs ws, G p = some (.lst zs) ∧ G q = some (.lst ws) ∧ zs.length + ws.length ≤ sizeLine ∧ Q .non (up G p (.lst (zs ++ ws)))
  | _, _ => False
theorem de_extend {o : Expr} {apos : Pos} {to : DE} {t : DA} (ho : DPE X o to) (ha : DPA X (e :: es) t)
    (hbase : attributeBase o "extend" X.env (eval o X.env) = eval o X.env := by rfl)
    (hfew : ((backTo pos (starEach (e :: es) X.env)).all (fun x => !x.1) && (backToKw pos (keywordEach [] X.env)).all (fun x => x.1.isSome)
      && decide ((e :: es).length + ([] : List Keyword).length + (if ([] : List Keyword).isEmpty then 0 else 1) < 30)) = true := by rfl)
    (hline : (apos.endLine == pos.line) = true := by rfl) (h1 : starEach (e :: es) X.env = (false, eval e X.env) :: starEach es X.env := by rfl) (hplain : (backTo pos (starEach es X.env)).any (·.1) = false := by rfl) :
    DPE X (.Call (.Attribute o "extend" apos) (e :: es) [] pos) (dMt extendD to t) := de_mtL PySem.F.slot_list_extend PySem.F.type_list_extend mt_extend
  (fun x xs G Q Q' h q => by
    unfold extendD at q ⊢
    split at q
    · obtain ⟨zs, ws, z1, z2, z3, z4⟩ := q
      exact ⟨zs, ws, z1, z2, z3, h _ _ z4⟩
    · exact q)
  (fun H G x xs dx dxs Q m rx rs h => by
    unfold extendD at h
    split at h
    · obtain ⟨zs, ws, z1, z2, z3, z4⟩ := h
      cases rx
      obtain ⟨v, vs', rfl, r1, r2⟩ := rs.cons_inv
      have e := r2.nil_inv
      subst e
      cases r1
      obtain ⟨vs, g, r⟩ := m _ _ z1
      obtain ⟨vs2, g2, r2'⟩ := m _ _ z2
      refine ⟨_, _, vs, vs2, rfl, rfl, g, g2, by rw [← r.1, ← r2'.1]; exact z3, ?_⟩
      exact z4 .non _ (m.upd (.upd_lst g) (.new_lst (r.append r2') (.upd_lst g))) .non (.upd_lst g)
    · exact False.elim h) ho ha hbase hfew hline h1 hplain
def insertD : FM := fun x xs G Q => match x, xs with
  | .ref p, [.int i, y] => ∃ zs, G p = some (.lst zs) ∧ zs.length < sizeLine ∧ 0 ≤ i ∧ i < 2 ^ 63 ∧ Q .non (up G p (.lst (zs.take i.toNat ++ y :: zs.drop i.toNat)))
  | _, _ => False
def popD : FM := fun x xs G Q => match x, xs with
  | .ref p, [] => ∃ zs y, G p = some (.lst zs) ∧ zs[zs.length - 1]? = some y ∧ Q y (up G p (.lst zs.dropLast))
  | _, _ => False
def popAtD : FM := fun x xs G Q => match x, xs with
  | .ref p, [.int i] => ∃ zs k y, G p = some (.lst zs) ∧ -(2 ^ 63) ≤ i ∧ i < 2 ^ 63 ∧ seqIndex? i zs.length = some k ∧ zs[k]? = some y ∧ Q y (up G p (.lst (zs.eraseIdx k)))
  | _, _ => False
def clearD : FM := fun x xs G Q => match x, xs with
  | .ref p, [] => ∃ zs, G p = some (.lst zs) ∧ Q .non (up G p (.lst []))
  | _, _ => False
theorem RDs.dropLast {K : PySem.W.Frag} {H : Hp} {xs : List D} {vs : List V} (r : RDs K H xs vs) : RDs K H xs.dropLast vs.dropLast := by
  rw [List.dropLast_eq_take, List.dropLast_eq_take, r.1]
  exact r.take _
theorem de_pop {o : Expr} {apos : Pos} {to : DE} (ho : DPE X o to)
    (hbase : attributeBase o "pop" X.env (eval o X.env) = eval o X.env := by rfl) (hline : (apos.endLine == pos.line) = true := by rfl) :
    DPE X (.Call (.Attribute o "pop" apos) [] [] pos) (dMt popD to dNil) := de_mtL0 PySem.F.slot_list_pop PySem.F.type_list_pop mt_pop
  (fun x xs G Q Q' h q => by
    unfold popD at q ⊢
    split at q
    · obtain ⟨zs, y, z1, z2, z3⟩ := q
      exact ⟨zs, y, z1, z2, h _ _ z3⟩
    · exact q)
  (fun H G x xs dx dxs Q m rx rs h => by
    unfold popD at h
    split at h
    · obtain ⟨zs, y, z1, z2, z3⟩ := h
      cases rx
      have e := rs.nil_inv
      subst e
      obtain ⟨vs, g, r⟩ := m _ _ z1
      obtain ⟨v, h1, h2⟩ := r.get z2
      refine ⟨_, vs, v, rfl, rfl, g, by rw [← r.1]; exact h1, ?_⟩
      exact z3 v _ (m.upd (.upd_lst g) (.new_lst r.dropLast (.upd_lst g))) (h2.kt (.upd_lst g)) (.upd_lst g)
    · exact False.elim h) ho hbase hline
theorem de_clear {o : Expr} {apos : Pos} {to : DE} (ho : DPE X o to)
    (hbase : attributeBase o "clear" X.env (eval o X.env) = eval o X.env := by rfl) (hline : (apos.endLine == pos.line) = true := by rfl) :
    DPE X (.Call (.Attribute o "clear" apos) [] [] pos) (dMt clearD to dNil) := de_mtL0 PySem.F.slot_list_clear PySem.F.type_list_clear mt_clear
  (fun x xs G Q Q' h q => by
    unfold clearD at q ⊢
    split at q
    · obtain ⟨zs, z1, z3⟩ := q
      exact ⟨zs, z1, h _ _ z3⟩
    · exact q)
  (fun H G x xs dx dxs Q m rx rs h => by
    unfold clearD at h
    split at h
    · obtain ⟨zs, z1, z3⟩ := h
      cases rx
      have e := rs.nil_inv
      subst e
      obtain ⟨vs, g, r⟩ := m _ _ z1
      refine ⟨_, vs, rfl, rfl, g, ?_⟩
      exact z3 .non _ (m.upd (.upd_lst g) (.new_lst .nil (.upd_lst g))) .non (.upd_lst g)
    · exact False.elim h) ho hbase hline
theorem RDs.insert {K : PySem.W.Frag} {H : Hp} {xs : List D} {vs : List V} {x : D} {v : V} (r : RDs K H xs vs) (a : RD K H x v) (i : Nat) : RDs K H (xs.take i ++ x :: xs.drop i) (vs.take i ++ [v] ++ vs.drop i) := by
  rw [List.append_assoc]
  exact (r.take i).append ((r.drop i).cons a)
theorem de_insert {o : Expr} {apos : Pos} {to : DE} {t : DA} (ho : DPE X o to) (ha : DPA X (e :: es) t)
    (hbase : attributeBase o "insert" X.env (eval o X.env) = eval o X.env := by rfl)
    (hfew : ((backTo pos (starEach (e :: es) X.env)).all (fun x => !x.1) && (backToKw pos (keywordEach [] X.env)).all (fun x => x.1.isSome)
      && decide ((e :: es).length + ([] : List Keyword).length + (if ([] : List Keyword).isEmpty then 0 else 1) < 30)) = true := by rfl)
    (hline : (apos.endLine == pos.line) = true := by rfl) (h1 : starEach (e :: es) X.env = (false, eval e X.env) :: starEach es X.env := by rfl) (hplain : (backTo pos (starEach es X.env)).any (·.1) = false := by rfl) :
    DPE X (.Call (.Attribute o "insert" apos) (e :: es) [] pos) (dMt insertD to t) := de_mtL PySem.F.slot_list_insert PySem.F.type_list_insert mt_insert
  (fun x xs G Q Q' h q => by
    unfold insertD at q ⊢
    split at q
    · obtain ⟨zs, z1, z2, z3, z4, z5⟩ := q
      exact ⟨zs, z1, z2, z3, z4, h _ _ z5⟩
    · exact q)
  (fun H G x xs dx dxs Q m rx rs h => by
    unfold insertD at h
    split at h
    · obtain ⟨zs, z1, z2, z3, z4, z5⟩ := h
      cases rx
      obtain ⟨v, vs', rfl, r1, r2⟩ := rs.cons_inv
      obtain ⟨w, ws', rfl, r3, r4⟩ := r2.cons_inv
      have e := r4.nil_inv
      subst e
      cases r1
      obtain ⟨vs, g, r⟩ := m _ _ z1
      refine ⟨_, vs, _, w, rfl, rfl, g, by rw [← r.1]; exact z2, z3, z4, ?_⟩
      exact z5 .non _ (m.upd (.upd_lst g) (.new_lst (r.insert r3 _) (.upd_lst g))) .non (.upd_lst g)
    · exact False.elim h) ho ha hbase hfew hline h1 hplain
end
end FD

namespace FD
open PySem L2
section
variable {X : Cx} {a b c e : Expr} {es rest : List Expr} {ta tb tc : DE} {pos : Pos} {st : Stmt} {sts : List Stmt} {t u : DS}
/-! ### statements -/
def dNext : DS := fun D σ G => D.nx σ G
/-- what is no longer asked for may be forgotten -/
def Dr (N : DSt → DG → Prop) : DSt → DG → Prop := fun σ G => ∃ G0, Le G0 G ∧ N σ G0
def DrK (Q : DK) : DK := fun d G => ∃ G0, Le G0 G ∧ Q d G0
theorem Dr.mono {N N' : DSt → DG → Prop} (h : ∀ σ G, N σ G → N' σ G) {σ : DSt} {G : DG} (q : Dr N σ G) : Dr N' σ G := let ⟨G0, a, b⟩ := q; ⟨G0, a, h _ _ b⟩
theorem DrK.mono {N N' : DK} (h : ∀ σ G, N σ G → N' σ G) {σ : D} {G : DG} (q : DrK N σ G) : DrK N' σ G := let ⟨G0, a, b⟩ := q; ⟨G0, a, h _ _ b⟩
def Go (u : DS) (D : DEnds) : DSt → DG → Prop := Dr (u D)
def dSeq (t u : DS) : DS := fun D σ G => t { nx := Go u D, rt := D.rt, bk := D.bk, ct := D.ct } σ G
theorem DEnds.le_nx {D D' : DEnds} {n n' : DSt → DG → Prop} (l : D.Le D') (h : ∀ σ G, n σ G → n' σ G) : DEnds.Le { nx := n, rt := D.rt, bk := D.bk, ct := D.ct } { nx := n', rt := D'.rt, bk := D'.bk, ct := D'.ct } := ⟨h, l.2.1, l.2.2.1, l.2.2.2⟩
theorem dss_nil : DPSs X [] dNext := ⟨fun σ G D D' l q => l.1 _ _ q, _, pss_nil, fun σ H σd G D m s h => h σ H m s .refl⟩
theorem dss_cons (h1 : DPS X st t) (h2 : DPSs X sts u) : DPSs X (st :: sts) (dSeq t u) := by
  obtain ⟨m1, tt1, p1, r1⟩ := h1
  obtain ⟨m2, tt2, p2, r2⟩ := h2
  refine ⟨fun σ G D D' l q => m1 σ G _ _ (DEnds.le_nx l fun σ' G' z => Dr.mono (fun _ _ z => m2 _ _ D D' l z) z) q, _, pss_cons p1 p2, fun σ H σd G D m s h => ?_⟩
  refine r1 σ H σd G _ m s (m1 _ _ { nx := Go u (lfE X.K H D), rt := (lfE X.K H D).rt, bk := (lfE X.K H D).bk, ct := (lfE X.K H D).ct } _ ⟨fun σ' G' z σ1 H1 mm ss k => ?_, fun _ _ z => z, fun _ _ z => z, fun _ _ z => z⟩ h)
  obtain ⟨G0, le, z⟩ := z
  exact r2 σ1 H1 σ' G0 D (mm.le le) ss (m2 _ _ _ _ (lfE_kt k) z)
theorem dss_one (h1 : DPS X st t) : DPSs X [st] t := let ⟨m, tt, p, r⟩ := h1; ⟨m, tt, pss_one p, r⟩
def dPass : DS := fun D σ G => D.nx σ G
def dBreak : DS := fun D σ G => D.bk σ G
def dCont : DS := fun D σ G => D.ct σ G
theorem ds_pass : DPS X (.Pass pos) dPass := ⟨fun σ G D D' l q => l.1 _ _ q, _, ps_pass, fun σ H σd G D m s h => h σ H m s .refl⟩
theorem ds_break : DPS X (.Break pos) dBreak := ⟨fun σ G D D' l q => l.2.2.1 _ _ q, _, ps_break, fun σ H σd G D m s h => h σ H m s .refl⟩
theorem ds_cont : DPS X (.Continue pos) dCont := ⟨fun σ G D D' l q => l.2.2.2 _ _ q, _, ps_continue, fun σ H σd G D m s h => h σ H m s .refl⟩
def dNever : DS := fun _ _ _ => False
theorem ds_never : DPS X st dNever := ⟨fun σ G D D' l q => q.elim, _, ps_never, fun σ H σd G D m s h => h.elim⟩
theorem dss_never : DPSs X sts dNever := ⟨fun σ G D D' l q => q.elim, _, pss_never, fun σ H σd G D m s h => h.elim⟩
def dDrop (t : DE) : DS := fun D σ G => t σ G fun _ G1 => D.nx σ G1
theorem ds_expr (ha : DPE X e ta) (hs : swapsWith e none pos.line X.env = pure false := by rfl) : DPS X (.Expr e pos) (dDrop ta) := by
  obtain ⟨ma, tta, pa, ra⟩ := ha
  exact ⟨fun σ G D D' l q => ma σ G _ _ (fun _ G1 z => l.1 _ _ z) q, _, ps_expr pa hs, fun σ H σd G D m s h => ra σ H σd G _ m s (ma _ _ _ _ (fun d G1 z v H1 m1 r1 k1 => z σ H1 m1 (s.kt k1) k1) h)⟩
def dRet (t : DE) : DS := fun D σ G => t σ G D.rt
theorem ds_ret (ha : DPE X e ta) : DPS X (.Return (some e) pos) (dRet ta) := by
  obtain ⟨ma, tta, pa, ra⟩ := ha
  exact ⟨fun σ G D D' l q => ma σ G _ _ (fun _ G1 z => l.2.1 _ _ z) q, _, ps_ret pa, fun σ H σd G D m s h => ra σ H σd G _ m s h⟩
def dRetN : DS := fun D _ G => D.rt .non G
theorem ds_retN : DPS X (.Return none pos) dRetN := ⟨fun σ G D D' l q => l.2.1 _ _ q, _, ps_retN, fun σ H σd G D m s h => h .non H m .non .refl⟩
def dIf (c : DTt) (t u : DS) : DS := fun D σ G => c σ G fun k G1 => if k = true then t D σ G1 else u D σ G1
theorem ds_if {tc : DTt} {as bs : List Stmt} (hc : DPT X c tc) (ha : DPSs X as t) (hb : DPSs X bs u) : DPS X (.If c as bs pos) (dIf tc t u) := by
  obtain ⟨mc, ttc, pc, rc⟩ := hc
  obtain ⟨m1, tt1, p1, r1⟩ := ha
  obtain ⟨m2, tt2, p2, r2⟩ := hb
  refine ⟨fun σ G D D' l q => mc σ G _ _ (fun k G1 z => ?_) q, _, ps_if pc p1 p2, fun σ H σd G D m s h => rc σ H σd G _ m s (mc _ _ _ _ (fun k G1 z H1 mm kk => ?_) h)⟩
  · cases k with
    | true => exact m1 σ G1 D D' l z
    | false => exact m2 σ G1 D D' l z
  · cases k with
    | true => exact r1 σ H1 σd G1 D mm (s.kt kk) (m1 _ _ _ _ (lfE_kt kk) z)
    | false => exact r2 σ H1 σd G1 D mm (s.kt kk) (m2 _ _ _ _ (lfE_kt kk) z)
/-! ### targets -/
abbrev DTg := D → DSt → DG → (DSt → DG → Prop) → Prop
abbrev DTgs := List D → DSt → DG → (DSt → DG → Prop) → Prop
structure DPG (X : Cx) (tg : Expr) (g : DTg) : Prop where
  mono : ∀ d σ G (Q Q' : DSt → DG → Prop), (∀ σ' G', Q σ' G' → Q' σ' G') → g d σ G Q → g d σ G Q'
  run : ∃ gg, PG X tg gg ∧ ∀ d v σ H σd G Q, MH X.K G H → SR X.K H σd σ → RD X.K H d v → g d σd G (lfS X.K H Q) → gg v σ H Q
structure DPGs (X : Cx) (ts : List Expr) (g : DTgs) : Prop where
  mono : ∀ d σ G (Q Q' : DSt → DG → Prop), (∀ σ' G', Q σ' G' → Q' σ' G') → g d σ G Q → g d σ G Q'
  run : ∃ gg, PGs X ts gg ∧ ∀ d v σ H σd G Q, MH X.K G H → SR X.K H σd σ → RDs X.K H d v → g d σd G (lfS X.K H Q) → gg v σ H Q
def dgName (i : Nat) : DTg := fun d σ G Q => Q (σ.set i (some d)) G
theorem dg_name (i : Nat) {x : Str} (hN : X.N.Nodup) (hi : X.N[i]? = some x := by rfl) (hx : Loc X.env.scope x := by first | exact .inl rfl | exact .inr rfl) (hf : X.fn x = true ∨ X.env.scope.names.lookup x = some .local := by first | exact .inl rfl | exact .inr rfl | assumption) : DPG X (.Name x pos) (dgName i) :=
  ⟨fun d σ G Q Q' h q => h _ _ q, _, pg_name hN hi hx hf, fun d v σ H σd G Q m s r h => h _ H m (s.set r i) .refl⟩
def dgNil : DTgs := fun ds σ G Q => ds = [] ∧ Q σ G
def dgCons (g : DTg) (gs : DTgs) : DTgs := fun ds σ G Q => match ds with
  | d :: r => g d σ G fun σ' G' => gs r σ' G' Q
  | [] => False
theorem dgs_nil : DPGs X [] dgNil := ⟨fun d σ G Q Q' h q => ⟨q.1, h _ _ q.2⟩, _, pgs_nil, fun d v σ H σd G Q m s r h => by
  obtain ⟨rfl, h⟩ := h
  exact ⟨r.nil_inv, h σ H m s .refl⟩⟩
theorem dgs_cons {g : DTg} {gs : DTgs} (h1 : DPG X e g) (h2 : DPGs X es gs) (hs : (assignEach (e :: es) X.env).map (·.2) = assign e X.env :: (assignEach es X.env).map (·.2) := by rfl) : DPGs X (e :: es) (dgCons g gs) := by
  obtain ⟨m1, gg1, p1, r1⟩ := h1
  obtain ⟨m2, gg2, p2, r2⟩ := h2
  refine ⟨fun d σ G Q Q' h q => ?_, _, pgs_cons p1 p2 hs, fun d v σ H σd G Q m s r h => ?_⟩
  · cases d with
    | nil => exact q
    | cons d r => exact m1 d σ G _ _ (fun σ' G' z => m2 r σ' G' Q Q' h z) q
  · cases d with
    | nil => exact False.elim h
    | cons d ds =>
      obtain ⟨v, vs', rfl, a1, a2⟩ := r.cons_inv
      refine ⟨v, vs', rfl, r1 d v σ H σd G _ m s a1 (m1 _ _ _ _ _ (fun σ' G' z σ1 H1 mm ss k => ?_) h)⟩
      exact r2 ds vs' σ1 H1 σ' G' Q mm ss (a2.kt k) (m2 _ _ _ _ _ (fun _ _ w => lfS_kt k w) z)
def dgTup (n : Nat) (gs : DTgs) : DTg := fun d σ G Q => match d with
  | .tup xs => xs.length = n ∧ gs xs σ G Q
  | .tpl xs => xs.length = n ∧ gs xs σ G Q
  | _ => False
theorem dg_tup {k n : Nat} {gs : DTgs} (hc : X.calm = true) (h : DPGs X es gs) (hn : (assignEach es X.env).length = n := by rfl) (hst : (assignEach es X.env).findIdx? (·.1) = none := by rfl) : DPG X (.Tuple es k pos) (dgTup n gs) := by
  obtain ⟨m1, gg1, p1, r1⟩ := h
  refine ⟨fun d σ G Q Q' h q => ?_, _, pg_tup hc p1 hn hst, fun d v σ H σd G Q m s r h => ?_⟩
  · cases d with
    | tup xs => exact ⟨q.1, m1 _ _ _ _ _ h q.2⟩
    | tpl xs => exact ⟨q.1, m1 _ _ _ _ _ h q.2⟩
    | _ => exact q
  · cases d with
    | tup xs =>
      cases r with
      | @tup p _ vs hs hl hi => exact ⟨p, vs, rfl, hs.t, by rw [← hl]; exact h.1, r1 xs vs σ H σd G Q m s ⟨hl, hi⟩ h.2⟩
    | tpl xs =>
      cases r with
      | @tpl p _ vs hs hl hi => exact ⟨p, vs, rfl, hs, by rw [← hl]; exact h.1, r1 xs vs σ H σd G Q m s ⟨hl, hi⟩ h.2⟩
    | _ => exact False.elim h
/-- o[i] = v, a list -/
def setD (o i v : D) (G : DG) (Q : DG → Prop) : Prop := match o, i with
  | .ref p, .int k => ∃ xs j, G p = some (.lst xs) ∧ ixN xs.length k = some j ∧ Q (up G p (.lst (xs.set j v)))
  | _, _ => False
def dgSub (to ti : DE) : DTg := fun v σ G Q => to σ G fun o G1 => ti σ G1 fun i G2 => setD o i v G2 fun G3 => Q σ G3
theorem dg_sub {o i : Expr} {to ti : DE} (ho : DPE X o to) (hi : DPE X i ti)
    (ha : ∀ v, assign (.Subscript o i pos) X.env v = (do
      let ov ← holding [v] (eval o X.env)
      let iv ← holding [v, ov] (eval i X.env)
      standAt pos
      holding [v, ov, iv] (setItem ov iv v)
      release [v, ov, iv] []) := by intro _; rfl) : DPG X (.Subscript o i pos) (dgSub to ti) := by
  obtain ⟨mo, tto, po, ro⟩ := ho
  obtain ⟨mi, tti, pi, ri⟩ := hi
  refine ⟨fun d σ G Q Q' h q => mo σ G _ _ (fun o G1 q1 => mi σ G1 _ _ (fun i G2 q2 => ?_) q1) q, _, pg_sub po pi set_list ha, fun d v σ H σd G Q m s r h => ?_⟩
  · unfold setD at q2 ⊢
    split at q2
    · obtain ⟨xs, j, z1, z2, z3⟩ := q2
      exact ⟨xs, j, z1, z2, h _ _ z3⟩
    · exact q2
  · refine ro σ H σd G _ m s (mo _ _ _ _ (fun dd G1 q1 x H1 m1 r1 k1 => ri σ H1 σd G1 _ m1 (s.kt k1) (mi _ _ _ _ (fun di G2 q2 y H2 m2 r2 k2 => ?_) q1)) h)
    unfold setD at q2
    split at q2
    · obtain ⟨xs, j, z1, z2, z3⟩ := q2
      cases r1; cases r2
      obtain ⟨vs, g, rr⟩ := m2 _ _ z1
      have kk := k1.trans k2
      refine ⟨_, vs, _, j, rfl, rfl, g, by rw [← rr.1]; exact z2, ?_⟩
      exact z3 σ _ (m2.upd (.upd_lst g) (.new_lst (rr.set (r.kt kk) j) (.upd_lst g))) (s.kt (kk.trans (.upd_lst g))) (kk.trans (.upd_lst g))
    · exact False.elim q2
def dAsg (t : DE) (g : DTg) : DS := fun D σ G => t σ G fun x G1 => g x σ G1 D.nx
theorem ds_asg {tg : Expr} {g : DTg} (ha : DPE X e ta) (hg : DPG X tg g) (hs : swapsWithSole [tg] e pos.line X.env = pure false := by rfl) (hw : swappedStores [tg] e X.env = pure none := by rfl)
    (h1 : (assignEach [tg] X.env).map (·.2) = [assign tg X.env] := by rfl) : DPS X (.Assign [tg] e pos) (dAsg ta g) := by
  obtain ⟨ma, tta, pa, ra⟩ := ha
  obtain ⟨mg, gg, pg, rg⟩ := hg
  refine ⟨fun σ G D D' l q => ma σ G _ _ (fun x G1 z => mg _ _ _ _ _ l.1 z) q, _, ps_asg pa pg hs hw h1, fun σ H σd G D m s h => ra σ H σd G _ m s (ma _ _ _ _ (fun d G1 z v H1 m1 r1 k1 => ?_) h)⟩
  exact rg d v σ H1 σd G1 _ m1 (s.kt k1) r1 (mg _ _ _ _ _ (fun _ _ w => lfS_kt k1 w) z)
theorem ds_set (i : Nat) {x : Str} {pos' : Pos} (hN : X.N.Nodup) (ha : DPE X e ta) (hi : X.N[i]? = some x := by rfl) (hx : Loc X.env.scope x := by first | exact .inl rfl | exact .inr rfl) (hs : swapsWith e (some (.Name x pos')) pos.line X.env = pure false := by rfl) (hf : X.fn x = true ∨ X.env.scope.names.lookup x = some .local := by first | exact .inl rfl | exact .inr rfl | assumption) :
    DPS X (.Assign [.Name x pos'] e pos) (dAsg ta (dgName i)) := by
  obtain ⟨ma, tta, pa, ra⟩ := ha
  refine ⟨fun σ G D D' l q => ma σ G _ _ (fun x G1 z => l.1 _ _ z) q, _, ps_set hN hi hx pa hs hf, fun σ H σd G D m s h => ra σ H σd G _ m s (ma _ _ _ _ (fun d G1 z v H1 m1 r1 k1 => ?_) h)⟩
  exact z _ H1 m1 ((s.kt k1).set r1 i) k1
/-- x, y = a, b: two plain local names -/
def dPar (i j : Nat) (t : DA) : DS := fun D σ G => t σ G fun ds G1 => match ds with
  | [d, e] => D.nx ((σ.set i (some d)).set j (some e)) G1
  | _ => False
theorem ds_par (i j : Nat) {x y : Str} {t : DA} {px py pt : Pos} {kt k2 pt2} (hc : X.calm = true) (hN : X.N.Nodup) (ha : DPA X [a, b] t) (hi : X.N[i]? = some x := by rfl) (hj : X.N[j]? = some y := by rfl) (hij : i ≠ j := by decide)
    (hx : X.env.scope.names.lookup x = some .local := by rfl) (hy : X.env.scope.names.lookup y = some .local := by rfl)
    (hw : swappedStores [.Tuple [.Name x px, .Name y py] kt pt] (.Tuple [a, b] k2 pt2) X.env = pure (some [x, y]) := by rfl)
    (hs : swapsWithSole [.Tuple [.Name x px, .Name y py] kt pt] (.Tuple [a, b] k2 pt2) pos.line X.env = pure false := by rfl) :
    DPS X (.Assign [.Tuple [.Name x px, .Name y py] kt pt] (.Tuple [a, b] k2 pt2) pos) (dPar i j t) := by
  obtain ⟨ma, tta, pa, ra⟩ := ha
  refine ⟨fun σ G D D' l q => ma σ G _ _ (fun ds G1 z => ?_) q, _, ps_par hc hN hi hj hij hx hy pa hw hs, fun σ H σd G D m s h => ra σ H σd G _ m s (ma _ _ _ _ (fun ds G1 z vs H1 m1 r1 k1 => ?_) h)⟩
  · split at z
    · exact l.1 _ _ z
    · exact z
  · split at z
    · obtain ⟨v, vs', rfl, a1, a2⟩ := r1.cons_inv
      obtain ⟨w, ws', rfl, a3, a4⟩ := a2.cons_inv
      have e := a4.nil_inv
      subst e
      exact ⟨v, w, rfl, z _ H1 m1 (((s.kt k1).set a1 i).set a3 j) k1⟩
    · exact False.elim z
/-! ### what is walked -/
abbrev DI := DSt → DG → (List D → (DG → Prop) → DG → Prop) → Prop
def ItOk (K : PySem.W.Frag) (H1 : Hp) (J : It) (items : List D) (ok : DG → Prop) : Prop := ∀ (i : Nat) (H' : Hp) (G' : DG), KT K H1 H' → MH K G' H' → ok G' →
  (∀ d, items[i]? = some d → J.go i H' ∧ ∀ x H'', J.yld i H' x H'' → MH K G' H'' ∧ KT K H' H'' ∧ RD K H'' d x) ∧ (items.length ≤ i → J.stop i H')
structure DPI (X : Cx) (tg iter : Expr) (ti : DI) : Prop where
  mono : ∀ σ G (R R' : List D → (DG → Prop) → DG → Prop), (∀ xs ok G', R xs ok G' → R' xs ok G') → ti σ G R → ti σ G R'
  run : ∃ wi, PI X tg iter wi ∧ ∀ σ H σd G (R : It → Hp → Prop), MH X.K G H → SR X.K H σd σ → ti σd G (fun items ok G1 => ∀ J H1, MH X.K G1 H1 → KT X.K H H1 → ItOk X.K H1 J items ok → R J H1) → wi σ H R
/-- a list's items, as long as it stays -/
def diLst (t : DE) : DI := fun σ G R => t σ G fun x G1 => match x with
  | .lis xs => R xs (fun _ => True) G1
  | .ref p => match G1 p with
    | some (.lst xs) => R xs (fun G' => G' p = some (.lst xs)) G1
    | _ => False
  | _ => False
theorem itOk_list {K : PySem.W.Frag} {H1 : Hp} {p : Addr} {xs : List D} {ok : DG → Prop} (h : ∀ G' H', KT K H1 H' → MH K G' H' → ok G' → ∃ vs, SqL K H' p vs ∧ RDs K H' xs vs) : ItOk K H1 (Itl K p) xs ok := fun i H' G' k m o => by
  obtain ⟨vs, hq, r⟩ := h G' H' k m o
  refine ⟨fun d hd => ?_, fun hl => ⟨vs, hq, by rw [← r.1]; exact hl⟩⟩
  obtain ⟨v, h1, h2⟩ := r.get hd
  refine ⟨⟨vs, v, hq, h1⟩, fun x H'' y => ?_⟩
  obtain ⟨rfl, y⟩ := y
  have e := y vs hq
  rw [h1] at e
  cases e
  exact ⟨m, .refl, h2⟩
theorem di_lst {tg l : Expr} (ha : DPE X l ta) : DPI X tg l (diLst ta) := by
  obtain ⟨ma, tta, pa, ra⟩ := ha
  refine ⟨fun σ G R R' h q => ma σ G _ _ (fun x G1 z => ?_) q, _, pi_list pa, fun σ H σd G R m s h => ra σ H σd G _ m s (ma _ _ _ _ (fun d G1 z v H1 m1 r1 k1 => ?_) h)⟩
  · split at z
    · exact h _ _ _ z
    · split at z <;> first | exact h _ _ _ z | exact z
    · exact z
  · split at z
    · cases r1 with
      | @lis p _ vs hs hl hi => exact ⟨p, rfl, ⟨vs, hs.l⟩, z _ H1 m1 k1 (itOk_list fun G' H' k' m' o => ⟨vs, (k'.sqr hs).l, RDs.kt k' ⟨hl, hi⟩⟩)⟩
    · cases r1
      rename_i p
      split at z
      · rename_i xs e
        obtain ⟨vs, g, r⟩ := m1 _ _ e
        refine ⟨p, rfl, ⟨vs, SqL.of g⟩, z _ H1 m1 k1 (itOk_list fun G' H' k' m' o => ?_)⟩
        obtain ⟨vs', g', r'⟩ := m' _ _ o
        exact ⟨vs', SqL.of g', r'⟩
      · exact False.elim z
    · exact False.elim z
def diTup (t : DE) : DI := fun σ G R => t σ G fun x G1 => match x with
  | .tup xs => R xs (fun _ => True) G1
  | _ => False
theorem di_tup {tg l : Expr} (ha : DPE X l ta) : DPI X tg l (diTup ta) := by
  obtain ⟨ma, tta, pa, ra⟩ := ha
  refine ⟨fun σ G R R' h q => ma σ G _ _ (fun x G1 z => ?_) q, _, pi_tup pa, fun σ H σd G R m s h => ra σ H σd G _ m s (ma _ _ _ _ (fun d G1 z v H1 m1 r1 k1 => ?_) h)⟩
  · split at z <;> first | exact h _ _ _ z | exact z
  · split at z
    · rename_i xs
      cases r1 with
      | @tup p _ vs hs hl hi =>
        refine ⟨p, rfl, ⟨vs, hs.t⟩, z _ H1 m1 k1 fun i H' G' k m' o => ?_⟩
        have r : RDs X.K H' xs vs := RDs.kt k ⟨hl, hi⟩
        have hq : SqT X.K H' p vs := k.sqt hs.t
        refine ⟨fun d hd => ?_, fun hl' => ⟨vs, hq, by rw [← hl]; exact hl'⟩⟩
        obtain ⟨w, h1, h2⟩ := r.get hd
        refine ⟨⟨vs, w, hq, h1⟩, fun x H'' y => ?_⟩
        obtain ⟨rfl, y⟩ := y
        have e := y vs hq
        rw [h1] at e
        cases e
        exact ⟨m', .refl, h2⟩
    · exact False.elim z
def rangeD (lo hi : Int) : List D := (List.range (hi - lo).toNat).map fun i => D.int (lo + (i : Nat))
theorem rangeD_length {lo hi : Int} : (rangeD lo hi).length = (hi - lo).toNat := by simp [rangeD]
theorem itOk_range {K : PySem.W.Frag} {H1 : Hp} {lo : Int} {n : Nat} {ok : DG → Prop} : ItOk K H1 (Itr lo n) ((List.range n).map fun i => D.int (lo + (i : Nat))) ok := fun i H' G' k m o => by
  refine ⟨fun d hd => ?_, fun hl => (show n ≤ i by simpa using hl)⟩
  have hi : i < n := by
    have := (List.getElem?_eq_some_iff.mp hd).1
    simpa using this
  rw [List.getElem?_map, List.getElem?_range hi] at hd
  cases hd
  refine ⟨hi, fun x H'' y => ?_⟩
  obtain ⟨rfl, rfl⟩ := y
  exact ⟨m, .refl, .int _⟩
def diRange (t : DA) : DI := fun σ G R => t σ G fun xs G1 => match xs with
  | [.int j] => -(2 ^ 62) ≤ j ∧ j < 2 ^ 62 ∧ R (rangeD 0 j) (fun _ => True) G1
  | [.int i, .int j] => (-(2 ^ 62) ≤ i ∧ i < 2 ^ 62 ∧ -(2 ^ 62) ≤ j ∧ j < 2 ^ 62) ∧ R (rangeD i j) (fun _ => True) G1
  | _ => False
theorem diRange_mono {t : DA} (ma : MonoA t) : ∀ σ G (R R' : List D → (DG → Prop) → DG → Prop), (∀ xs ok G', R xs ok G' → R' xs ok G') → diRange t σ G R → diRange t σ G R' := fun σ G R R' h q => ma σ G _ _ (fun x G1 z => by
  split at z
  · exact ⟨z.1, z.2.1, h _ _ _ z.2.2⟩
  · exact ⟨z.1, h _ _ _ z.2⟩
  · exact z) q
theorem di_range1 {tg : Expr} {t : DE} {p pos : Pos} (hg : Gl X "range") (hm : X.mg "range" = none) (ha : DPE X a t) (hs : starEach [a] X.env = [(false, eval a X.env)] := by rfl) : DPI X tg (.Call (.Name "range" p) [a] [] pos) (diRange (dCons t dNil)) := by
  have hb : DPA X [a] (dCons t dNil) := da_cons ha da_nil hs
  obtain ⟨ma, tta, pa, ra⟩ := hb
  have hl : MonoA (dCons t dNil) := ma
  refine ⟨diRange_mono ma, iRng1 tta, pi_range1 hg hm pa hs, fun σ H σd G R m s h => ra σ H σd G _ m s (?_ : dCons t dNil σd G _)⟩
  have h2 : dCons t dNil σd G fun xs G1 => xs.length = 1 ∧ match xs with
      | [.int j] => -(2 ^ 62) ≤ j ∧ j < 2 ^ 62 ∧ (∀ J H1, MH X.K G1 H1 → KT X.K H H1 → ItOk X.K H1 J (rangeD 0 j) (fun _ => True) → R J H1)
      | [.int i, .int j] => (-(2 ^ 62) ≤ i ∧ i < 2 ^ 62 ∧ -(2 ^ 62) ≤ j ∧ j < 2 ^ 62) ∧ (∀ J H1, MH X.K G1 H1 → KT X.K H H1 → ItOk X.K H1 J (rangeD i j) (fun _ => True) → R J H1)
      | _ => False := ha.mono _ _ _ _ (fun x G1 z => ⟨rfl, z⟩) h
  refine ma _ _ _ _ (fun xs G1 z vs H1 m1 r1 k1 => ?_) h2
  obtain ⟨z0, z⟩ := z
  split at z
  · obtain ⟨v, vs', rfl, a1, a2⟩ := r1.cons_inv
    have e := a2.nil_inv
    subst e
    cases a1
    refine ⟨_, rfl, z.1, z.2.1, z.2.2 _ H1 m1 k1 ?_⟩
    rename_i j
    have e2 : rangeD 0 j = (List.range j.toNat).map fun i => D.int (0 + (i : Nat)) := by simp [rangeD]
    rw [e2]
    exact itOk_range
  · simp at z0
  · exact False.elim z
theorem di_range2 {tg : Expr} {t t' : DE} {p pos : Pos} (hg : Gl X "range") (hm : X.mg "range" = none) (ha : DPE X a t) (hb : DPE X b t') (hs : starEach [a, b] X.env = [(false, eval a X.env), (false, eval b X.env)] := by rfl) (hs2 : starEach [b] X.env = [(false, eval b X.env)] := by rfl) :
    DPI X tg (.Call (.Name "range" p) [a, b] [] pos) (diRange (dCons t (dCons t' dNil))) := by
  have hb' : DPA X [a, b] (dCons t (dCons t' dNil)) := da_cons ha (da_cons hb da_nil hs2) (by rw [hs, hs2])
  obtain ⟨ma, tta, pa, ra⟩ := hb'
  refine ⟨diRange_mono ma, iRng2 tta, pi_range2 hg hm pa hs hs2, fun σ H σd G R m s h => ra σ H σd G _ m s (?_ : dCons t (dCons t' dNil) σd G _)⟩
  have h2 : dCons t (dCons t' dNil) σd G fun xs G1 => xs.length = 2 ∧ match xs with
      | [.int j] => -(2 ^ 62) ≤ j ∧ j < 2 ^ 62 ∧ (∀ J H1, MH X.K G1 H1 → KT X.K H H1 → ItOk X.K H1 J (rangeD 0 j) (fun _ => True) → R J H1)
      | [.int i, .int j] => (-(2 ^ 62) ≤ i ∧ i < 2 ^ 62 ∧ -(2 ^ 62) ≤ j ∧ j < 2 ^ 62) ∧ (∀ J H1, MH X.K G1 H1 → KT X.K H H1 → ItOk X.K H1 J (rangeD i j) (fun _ => True) → R J H1)
      | _ => False := ha.mono _ _ _ _ (fun x G1 z => hb.mono _ _ _ _ (fun y G2 z => ⟨rfl, z⟩) z) h
  refine ma _ _ _ _ (fun xs G1 z vs H1 m1 r1 k1 => ?_) h2
  obtain ⟨z0, z⟩ := z
  split at z
  · simp at z0
  · obtain ⟨v, vs', rfl, a1, a2⟩ := r1.cons_inv
    obtain ⟨v2, vs2, rfl, a3, a4⟩ := a2.cons_inv
    have e := a4.nil_inv
    subst e
    cases a1; cases a3
    exact ⟨_, _, rfl, z.1, z.2 _ H1 m1 k1 itOk_range⟩
  · exact False.elim z
/-! ### for, while -/
def DLoop (g : DTg) (tb : DS) (ok : DG → Prop) (E : DEnds) : List D → DSt → DG → Prop
  | [], σ, G => ok G ∧ E.nx σ G
  | d :: r, σ, G => ok G ∧ g d σ G fun σ' G' => tb { nx := Dr (DLoop g tb ok E r), rt := E.rt, bk := E.nx, ct := Dr (DLoop g tb ok E r) } σ' G'
theorem DLoop_mono {g : DTg} {tb : DS} {ok : DG → Prop} (mg : ∀ d σ G (Q Q' : DSt → DG → Prop), (∀ σ' G', Q σ' G' → Q' σ' G') → g d σ G Q → g d σ G Q') (mb : MonoS tb) {E E' : DEnds} (l : E.Le E') :
    ∀ (xs : List D) (σ : DSt) (G : DG), DLoop g tb ok E xs σ G → DLoop g tb ok E' xs σ G
  | [], σ, G, h => ⟨h.1, l.1 _ _ h.2⟩
  | d :: r, σ, G, h => ⟨h.1, mg _ _ _ _ _ (fun σ' G' z => mb _ _ { nx := Dr (DLoop g tb ok E r), rt := E.rt, bk := E.nx, ct := Dr (DLoop g tb ok E r) } _ ⟨fun _ _ w => Dr.mono (DLoop_mono mg mb l r) w, l.2.1, l.1, fun _ _ w => Dr.mono (DLoop_mono mg mb l r) w⟩ z) h.2⟩
def dFor (ti : DI) (g : DTg) (tb : DS) : DS := fun D σ G => ti σ G fun items ok G1 => DLoop g tb ok D items σ G1
theorem ds_for {tg iter : Expr} {body : List Stmt} {ti : DI} {g : DTg} {tb : DS} (hp : PassesOwn (model X.prog X.w) X.A X.env X.xe) (hc : X.calm = true) (hi : DPI X tg iter ti) (hg : DPG X tg g) (hb : DPSs X body tb)
    (hs : ∀ x, foldedSetIterable iter X.env x = pure x := by intro _; rfl) : DPS X (.For tg iter body [] pos) (dFor ti g tb) := by
  obtain ⟨mi, wi, pi, ri⟩ := hi
  obtain ⟨mg, gg, pg, rg⟩ := hg
  obtain ⟨mb, ttb, pb, rb⟩ := hb
  refine ⟨fun σ G D D' l q => mi σ G _ _ (fun xs ok G1 z => DLoop_mono mg mb l xs σ G1 z) q, _, ps_for hp hc pi pg pb hs, fun σ H σd G D m s h => ri σ H σd G _ m s (mi _ _ _ _ (fun items ok G1 z J H1 m1 k1 it => ?_) h)⟩
  refine ⟨fun i mm σ' H' => ∃ σd' G', MH X.K G' H' ∧ SR X.K H' σd' σ' ∧ KT X.K H1 H' ∧ mm = items.length - i ∧ i ≤ items.length ∧ DLoop g tb ok (lfE X.K H D) (items.drop i) σd' G', ⟨items.length, σd, G1, m1, s.kt k1, .refl, by omega, by omega, by simpa using z⟩, ?_⟩
  rintro i mm σ' H' ⟨σd', G', m', s', k', rfl, hi', q⟩
  have kH : KT X.K H H' := k1.trans k'
  by_cases hlt : i < items.length
  · rw [List.drop_eq_getElem_cons hlt] at q
    obtain ⟨o, q⟩ := q
    obtain ⟨go, stop⟩ := it i H' G' k' m' o
    obtain ⟨g1, g2⟩ := go items[i] (List.getElem?_eq_getElem hlt)
    refine .inr ⟨g1, fun σ2 H2 => ∃ σd2 G2, MH X.K G2 H2 ∧ SR X.K H2 σd2 σ2 ∧ KT X.K H1 H2 ∧ DLoop g tb ok (lfE X.K H D) (items.drop (i + 1)) σd2 G2, ?_, fun x H'' y => ?_⟩
    · rintro σ2 H2 ⟨σd2, G2, a1, a2, a3, a4⟩
      exact ⟨items.length - (i + 1), by omega, σd2, G2, a1, a2, a3, rfl, by omega, a4⟩
    · obtain ⟨b1, b2, b3⟩ := g2 x H'' y
      refine rg items[i] x σ' H'' σd' G' _ b1 (s'.kt b2) b3 (mg _ _ _ _ _ (fun σd3 G3 z3 σ3 H3 m3 s3 k3 => ?_) q)
      have kk : KT X.K H H3 := kH.trans (b2.trans k3)
      have k13 : KT X.K H1 H3 := k'.trans (b2.trans k3)
      refine rb σ3 H3 σd3 G3 _ m3 s3 (mb _ _ { nx := Dr (DLoop g tb ok (lfE X.K H D) (items.drop (i + 1))), rt := (lfE X.K H D).rt, bk := (lfE X.K H D).nx, ct := Dr (DLoop g tb ok (lfE X.K H D) (items.drop (i + 1))) } _ ⟨fun σ4 G4 z4 σ5 H5 m5 s5 k5 => let ⟨G0, le, z4⟩ := z4; ⟨σ4, G0, m5.le le, s5, k13.trans k5, z4⟩, fun _ _ w => lf_kt kk w, fun _ _ w => lfS_kt kk w, fun σ4 G4 z4 σ5 H5 m5 s5 k5 => let ⟨G0, le, z4⟩ := z4; ⟨σ4, G0, m5.le le, s5, k13.trans k5, z4⟩⟩ z3)
  · have e : items.drop i = [] := List.drop_eq_nil_of_le (by omega)
    rw [e] at q
    obtain ⟨o, q⟩ := q
    obtain ⟨go, stop⟩ := it i H' G' k' m' o
    exact .inl ⟨stop (by omega), q σ' H' m' s' kH⟩
def DWh (c : DTt) (tb : DS) (E : DEnds) : Nat → DSt → DG → Prop
  | 0, _, _ => False
  | n + 1, σ, G => c σ G fun k G1 => if k = true then tb { nx := Dr (DWh c tb E n), rt := E.rt, bk := E.nx, ct := Dr (DWh c tb E n) } σ G1 else E.nx σ G1
theorem DWh_mono {c : DTt} {tb : DS} (mc : MonoT c) (mb : MonoS tb) {E E' : DEnds} (l : E.Le E') : ∀ (n : Nat) (σ : DSt) (G : DG), DWh c tb E n σ G → DWh c tb E' n σ G
  | 0, _, _, h => h
  | n + 1, σ, G, h => mc _ _ _ _ (fun k G1 z => by
    cases k with
    | true => exact mb _ _ { nx := Dr (DWh c tb E n), rt := E.rt, bk := E.nx, ct := Dr (DWh c tb E n) } _ ⟨fun _ _ w => Dr.mono (DWh_mono mc mb l n) w, l.2.1, l.1, fun _ _ w => Dr.mono (DWh_mono mc mb l n) w⟩ z
    | false => exact l.1 _ _ z) h
def dWhile (c : DTt) (tb : DS) : DS := fun D σ G => ∃ n, DWh c tb D n σ G
theorem ds_while {tc : DTt} {body : List Stmt} {tb : DS} (hp : PassesOwn (model X.prog X.w) X.A X.env X.xe) (hc : DPT X c tc) (hb : DPSs X body tb) : DPS X (.While c body [] pos) (dWhile tc tb) := by
  obtain ⟨mc, ttc, pc, rc⟩ := hc
  obtain ⟨mb, ttb, pb, rb⟩ := hb
  refine ⟨fun σ G D D' l q => let ⟨n, q⟩ := q; ⟨n, DWh_mono mc mb l n _ _ q⟩, _, ps_while hp pc pb, fun σ H σd G D m s h => ?_⟩
  obtain ⟨n, h⟩ := h
  refine ⟨fun mm σ' H' => ∃ σd' G', MH X.K G' H' ∧ SR X.K H' σd' σ' ∧ KT X.K H H' ∧ DWh tc tb (lfE X.K H D) mm σd' G', ⟨n, σd, G, m, s, .refl, h⟩, ?_⟩
  rintro mm σ' H' ⟨σd', G', m', s', k', q⟩
  cases mm with
  | zero => exact False.elim q
  | succ mm =>
    refine rc σ' H' σd' G' _ m' s' (mc _ _ _ _ (fun k G1 z H1 m1 k1 => ?_) q)
    have kk : KT X.K H H1 := k'.trans k1
    cases k with
    | true =>
      refine ⟨fun σ2 H2 => ∃ σd2 G2, MH X.K G2 H2 ∧ SR X.K H2 σd2 σ2 ∧ KT X.K H H2 ∧ DWh tc tb (lfE X.K H D) mm σd2 G2, ?_, ?_⟩
      · rintro σ2 H2 ⟨σd2, G2, a1, a2, a3, a4⟩
        exact ⟨mm, by omega, σd2, G2, a1, a2, a3, a4⟩
      · exact rb σ' H1 σd' G1 _ m1 (s'.kt k1) (mb _ _ { nx := Dr (DWh tc tb (lfE X.K H D) mm), rt := (lfE X.K H D).rt, bk := (lfE X.K H D).nx, ct := Dr (DWh tc tb (lfE X.K H D) mm) } _ ⟨fun σ4 G4 z4 σ5 H5 m5 s5 k5 => let ⟨G0, le, z4⟩ := z4; ⟨σ4, G0, m5.le le, s5, kk.trans k5, z4⟩, fun _ _ w => lf_kt kk w, fun _ _ w => lfS_kt kk w, fun σ4 G4 z4 σ5 H5 m5 s5 k5 => let ⟨G0, le, z4⟩ := z4; ⟨σ4, G0, m5.le le, s5, kk.trans k5, z4⟩⟩ z)
    | false => exact z σ' H1 m1 (s'.kt k1) kk
/-! ### comprehensions -/
def dwipe (σ : DSt) : List Nat → DSt
  | [] => σ
  | i :: r => (dwipe σ r).set i none
theorem SR.wipe {K : PySem.W.Frag} {H : Hp} : ∀ (vs : List Nat) {σd : DSt} {σ : St}, SR K H σd σ → SR K H (dwipe σd vs) (wipe σ vs)
  | [], _, _, s => s
  | i :: r, _, _, s => (SR.wipe r s).forget i none
structure DPTs (X : Cx) (ifs : List Expr) (t : DTt) : Prop where
  mono : MonoT t
  run : ∃ tt, PTs X ifs tt ∧ ∀ σ H σd G Q, MH X.K G H → SR X.K H σd σ → t σd G (lfT X.K H Q) → tt σ H Q
def dYes : DTt := fun _ G Q => Q true G
theorem dts_nil : DPTs X [] dYes := ⟨fun σ G Q Q' h q => h _ _ q, _, pts_nil, fun σ H σd G Q m s h => h H m .refl⟩
theorem dts_one {t : DTt} (h : DPT X c t) : DPTs X [c] t := let ⟨m, tt, p, r⟩ := h; ⟨m, tt, pts_one p, r⟩
end
end FD

namespace FD
open PySem L2
section
variable {X : Cx} {a b c e : Expr} {es rest : List Expr} {ta tb tc : DE} {pos : Pos} {st : Stmt} {sts : List Stmt} {t u : DS}
/-! ### readings that hang on the data alone -/
def canonE (K : PySem.W.Frag) (t : DE) : TE := fun σ H Q => ∃ σd G, MH K G H ∧ SR K H σd σ ∧ t σd G (lf K H Q)
def canonT (K : PySem.W.Frag) (t : DTt) : TT := fun σ H Q => ∃ σd G, MH K G H ∧ SR K H σd σ ∧ t σd G (lfT K H Q)
theorem DPE.canon (h : DPE X e ta) : PE X e (canonE X.K ta) := by
  obtain ⟨m, tt, p, r⟩ := h
  exact ⟨fun pins s σ H Q I ⟨σd, G, mh, sr, q⟩ => p.run pins s σ H Q I (r σ H σd G Q mh sr q)⟩
theorem DPTs.canon {t : DTt} (h : DPTs X es t) : PTs X es (canonT X.K t) := by
  obtain ⟨m, tt, p, r⟩ := h
  exact ⟨fun pins s σ H Q I ⟨σd, G, mh, sr, q⟩ => p.run pins s σ H Q I (r σ H σd G Q mh sr q)⟩
/-! ### comprehensions: a target that binds names alone -/
def optS (o : Option DSt) (f : DSt → Prop) : Prop := match o with | some x => f x | none => False
theorem optS_mono {o : Option DSt} {f g : DSt → Prop} (h : ∀ x, f x → g x) (q : optS o f) : optS o g := by
  cases o with
  | none => exact q
  | some x => exact h x q
def bdN (i : Nat) : D → DSt → Option DSt := fun d σ => some (σ.set i (some d))
def bdP (i j : Nat) : D → DSt → Option DSt := fun d σ => match d with
  | .tup [x, y] => some ((σ.set i (some x)).set j (some y))
  | .tpl [x, y] => some ((σ.set i (some x)).set j (some y))
  | _ => none
def Bd (K : PySem.W.Frag) (vs : List Nat) (bd : D → DSt → Option DSt) (gg : TG) : Prop := ∀ d v σ H σd σd' G (Q : St → Hp → Prop), MH K G H → SR K H σd σ → RD K H d v → bd d σd = some σd' → (∀ σ', SR K H σd' σ' → wipe σ' vs = wipe σ vs → Q σ' H) → gg v σ H Q
theorem wipe_set {i : Nat} {o : Option V} : ∀ {vs : List Nat} {σ : St}, i ∈ vs → wipe (σ.set i o) vs = wipe σ vs
  | v :: vs, σ, h => by
    show (wipe (σ.set i o) vs).set v none = (wipe σ vs).set v none
    by_cases e : i ∈ vs
    · rw [wipe_set e]
    · rcases List.mem_cons.mp h with rfl | h
      · have q : ∀ (vs : List Nat) (σ : St), i ∉ vs → wipe (σ.set i o) vs = (wipe σ vs).set i o := by
          intro vs
          induction vs with
          | nil => intro σ _; rfl
          | cons w vs ih =>
            intro σ hw
            show (wipe (σ.set i o) vs).set w none = ((wipe σ vs).set w none).set i o
            rw [ih σ fun z => hw (List.mem_cons_of_mem _ z), List.set_comm _ _ (fun z => hw (by rw [z]; exact List.mem_cons_self))]
        rw [q vs σ e, List.set_set]
      · exact absurd h e
theorem wipe_idem {vs : List Nat} (σ : St) : wipe (wipe σ vs) vs = wipe σ vs := by
  have q : ∀ (us vs : List Nat) (σ : St), (∀ u ∈ us, u ∈ vs) → wipe (wipe σ us) vs = wipe σ vs := by
    intro us
    induction us with
    | nil => intro vs σ _; rfl
    | cons u us ih =>
      intro vs σ h
      show wipe ((wipe σ us).set u none) vs = wipe σ vs
      rw [wipe_set (h u List.mem_cons_self), ih vs σ fun z hz => h z (List.mem_cons_of_mem _ hz)]
  exact q vs vs σ fun _ h => h
theorem bd_name {K : PySem.W.Frag} (i : Nat) : Bd K [i] (bdN i) (gName i) := fun d v σ H σd σd' G Q m s r h q => by
  cases h
  exact q _ (s.set r i) (wipe_set (by simp))
theorem bd_pair {K : PySem.W.Frag} (i j : Nat) : Bd K [i, j] (bdP i j) (gTup K 2 (gCons (gName i) (gCons (gName j) gNil))) := fun d v σ H σd σd' G Q m s r h q => by
  have fin : ∀ (p : Addr) (x y : D) (vs : List V), SqT K H p vs → RDs K H [x, y] vs → v = .ref p → some ((σd.set i (some x)).set j (some y)) = some σd' → gTup K 2 (gCons (gName i) (gCons (gName j) gNil)) v σ H Q := fun p x y vs hs rr e e2 => by
    cases e2
    obtain ⟨v1, vs1, rfl, a1, a2⟩ := rr.cons_inv
    obtain ⟨v2, vs2, rfl, a3, a4⟩ := a2.cons_inv
    have e3 := a4.nil_inv
    subst e3
    refine ⟨p, [v1, v2], e, hs, rfl, v1, [v2], rfl, v2, [], rfl, rfl, q _ ((s.set a1 i).set a3 j) ?_⟩
    rw [wipe_set (by simp), wipe_set (by simp)]
  unfold bdP at h
  split at h
  · cases r with
    | @tup p _ vs hs hl hi => exact fin p _ _ vs hs.t ⟨hl, hi⟩ rfl h
  · cases r with
    | @tpl p _ vs hs hl hi => exact fin p _ _ vs hs ⟨hl, hi⟩ rfl h
  · cases h
def DComp (bd : D → DSt → Option DSt) (vs : List Nat) (tt : DTt) (te : DE) (ok : DG → Prop) (p : Addr) (σ : DSt) (Q : DK) : List D → DG → Prop
  | [], G => ok G ∧ Q (.ref p) G
  | d :: r, G => ok G ∧ optS (bd d (dwipe σ vs)) fun σ' => tt σ' G fun k G3 => if k = true then te σ' G3 fun y G4 => ∃ acc, G4 p = some (.lst acc) ∧ acc.length < sizeLine ∧ ∃ G0, Le G0 (up G4 p (.lst (acc ++ [y]))) ∧ DComp bd vs tt te ok p σ Q r G0
      else ∃ G0, Le G0 G3 ∧ DComp bd vs tt te ok p σ Q r G0
theorem DComp_mono {bd : D → DSt → Option DSt} {vs : List Nat} {tt : DTt} {te : DE} {ok : DG → Prop} {p : Addr} {σ : DSt} {Q Q' : DK} (mt : MonoT tt) (me : MonoE te) (h : ∀ d G, Q d G → Q' d G) :
    ∀ (xs : List D) (G : DG), DComp bd vs tt te ok p σ Q xs G → DComp bd vs tt te ok p σ Q' xs G
  | [], G, q => ⟨q.1, h _ _ q.2⟩
  | d :: r, G, q => ⟨q.1, optS_mono (fun σ' z => mt _ _ _ _ (fun k G3 z => by
      cases k with
      | true => exact me _ _ _ _ (fun y G4 z => let ⟨acc, h1, h2, G0, l, h3⟩ := z; ⟨acc, h1, h2, G0, l, DComp_mono mt me h r _ h3⟩) z
      | false => exact let ⟨G0, l, z⟩ := z; ⟨G0, l, DComp_mono mt me h r _ z⟩) z) q.2⟩
def dLc (ti : DI) (bd : D → DSt → Option DSt) (vs : List Nat) (tt : DTt) (te : DE) : DE := fun σ G Q => ti σ G fun items ok G1 => ∀ p, G1 p = none → DComp bd vs tt te ok p σ Q items (up G1 p (.lst []))
theorem dLc_sim {tg iter : Expr} {ti : DI} {wi : TI} {bd : D → DSt → Option DSt} {vs : List Nat} {gg : TG} {tt : DTt} {te : DE} {K : PySem.W.Frag} (hb : Bd K vs bd gg) (mt : MonoT tt) (me : MonoE te)
    (mi : ∀ σ G (R R' : List D → (DG → Prop) → DG → Prop), (∀ xs ok G', R xs ok G' → R' xs ok G') → ti σ G R → ti σ G R')
    (ri : ∀ σ H σd G (R : It → Hp → Prop), MH K G H → SR K H σd σ → ti σd G (fun items ok G1 => ∀ J H1, MH K G1 H1 → KT K H H1 → ItOk K H1 J items ok → R J H1) → wi σ H R)
    {σ : St} {H : Hp} {σd : DSt} {G : DG} {Q : VK} (m : MH K G H) (s : SR K H σd σ) (h : dLc ti bd vs tt te σd G (lf K H Q)) : tLc wi gg (canonT K tt) (canonE K te) vs σ H Q := by
  refine ri σ H σd G _ m s (mi _ _ _ _ (fun items ok G1 z J H1 m1 k1 it p hp => ?_) h)
  have hz := z p (m1.fresh hp)
  have k2 : KT K H1 (L2.upd H1 p (.lst [])) := .upd_new hp
  refine ⟨fun i mm H' => ∃ G', MH K G' H' ∧ KT K H1 H' ∧ mm = items.length - i ∧ i ≤ items.length ∧ DComp bd vs tt te ok p σd (lf K H Q) (items.drop i) G',
    ⟨items.length, _, m1.upd k2 (.new_lst .nil k2), k2, by omega, by omega, by simpa using hz⟩, ?_⟩
  rintro i mm H' ⟨G', m', k', rfl, hi', q⟩
  have kH : KT K H H' := k1.trans k'
  by_cases hlt : i < items.length
  · rw [List.drop_eq_getElem_cons hlt] at q
    obtain ⟨o, q⟩ := q
    obtain ⟨go, stop⟩ := it i H' G' k' m' o
    obtain ⟨g1, g2⟩ := go items[i] (List.getElem?_eq_getElem hlt)
    refine .inr ⟨g1, fun H2 => ∃ G2, MH K G2 H2 ∧ KT K H1 H2 ∧ DComp bd vs tt te ok p σd (lf K H Q) (items.drop (i + 1)) G2, ?_, fun x H'' y => ?_⟩
    · rintro H2 ⟨G2, a1, a3, a4⟩
      exact ⟨items.length - (i + 1), by omega, G2, a1, a3, rfl, by omega, a4⟩
    · obtain ⟨b1, b2, b3⟩ := g2 x H'' y
      unfold optS at q
      split at q
      · rename_i σd' e
        have kk : KT K H1 H'' := k'.trans b2
        refine hb items[i] x (wipe σ vs) H'' (dwipe σd vs) σd' G' _ b1 (SR.wipe vs (s.kt (k1.trans kk))) b3 e (fun σ2 s2 w2 => ⟨by rw [w2, wipe_idem], σd', G', b1, s2, ?_⟩)
        refine mt _ _ _ _ (fun k G3 z3 H3 m3 k3 => ?_) q
        have kk3 : KT K H1 H3 := kk.trans k3
        cases k with
        | false =>
          obtain ⟨G0, l, z3⟩ := z3
          exact ⟨G0, m3.le l, kk3, z3⟩
        | true =>
          refine ⟨σd', G3, m3, s2.kt k3, me _ _ _ _ (fun d G4 z4 v H4 m4 r4 k4 => ?_) z3⟩
          obtain ⟨acc, h1, h2, G0, l, h3⟩ := z4
          obtain ⟨ws, g4, rr⟩ := m4 _ _ h1
          refine ⟨ws, g4, by rw [← rr.1]; exact h2, G0, MH.le (m4.upd (.upd_lst g4) (.new_lst (rr.append (RDs.nil.cons r4)) (.upd_lst g4))) l, (kk3.trans k4).trans (.upd_lst g4), h3⟩
      · exact False.elim q
  · have e : items.drop i = [] := List.drop_eq_nil_of_le (by omega)
    rw [e] at q
    obtain ⟨o, q⟩ := q
    obtain ⟨go, stop⟩ := it i H' G' k' m' o
    exact .inl ⟨stop (by omega), q (.ref p) H' m' (.ref p) kH⟩
theorem dLc_mono {ti : DI} {bd : D → DSt → Option DSt} {vs : List Nat} {tt : DTt} {te : DE} (mt : MonoT tt) (me : MonoE te)
    (mi : ∀ σ G (R R' : List D → (DG → Prop) → DG → Prop), (∀ xs ok G', R xs ok G' → R' xs ok G') → ti σ G R → ti σ G R') : MonoE (dLc ti bd vs tt te) := fun σ G Q Q' h q => mi σ G _ _ (fun xs ok G1 z p hp => DComp_mono mt me h xs _ (z p hp)) q
theorem de_lc {elt tg iter : Expr} {ifs : List Expr} {scope : Scope} (own : List (Str × Nat)) {ti : DI} {bd : D → DSt → Option DSt} {gg : TG} {tt : DTt} {te : DE} (hb : Bd X.K (own.map (·.2)) bd gg) (hc : X.calm = true) (hN : X.N.Nodup) (hi : DPI X tg iter ti) (ok : BlkOk X.N X.env.scope scope own)
    (hg : ∀ (s : Shared) (H : Hp) (C : Addr) (cl : List (Str × Addr)) (fp : List Addr), PG (X.blk s H scope (compEnvC scope cl C X.env) fp) tg gg) (ht : ∀ (s : Shared) (H : Hp) (C : Addr) (cl : List (Str × Addr)) (fp : List Addr), DPTs (X.blk s H scope (compEnvC scope cl C X.env) fp) ifs tt)
    (he : ∀ (s : Shared) (H : Hp) (C : Addr) (cl : List (Str × Addr)) (fp : List Addr), DPE (X.blk s H scope (compEnvC scope cl C X.env) fp) elt te) (mt : MonoT tt) (me : MonoE te) (hs : ∀ x, foldedSetIterable iter X.env x = pure x := by intro _; rfl) :
    DPE X (.ListComp elt [⟨tg, iter, ifs, 0⟩] scope pos) (dLc ti bd (own.map (·.2)) tt te) := by
  obtain ⟨mi, wi, pi, ri⟩ := hi
  exact ⟨dLc_mono mt me mi, _, pe_lc hc hN pi ok hg (tt := canonT X.K tt) (te := canonE X.K te) (fun s H C cl fp => (ht s H C cl fp).canon) (fun s H C cl fp => (he s H C cl fp).canon) hs, fun σ H σd G Q m s h => dLc_sim (tg := tg) (iter := iter) hb mt me mi ri m s h⟩
theorem ds_setLc (i : Nat) {y : Str} {py : Pos} {elt tg iter : Expr} {ifs : List Expr} {scope : Scope} {pos spos : Pos} (own : List (Str × Nat)) {ti : DI} {bd : D → DSt → Option DSt} {gg : TG} {tt : DTt} {te : DE} (hb : Bd X.K (own.map (·.2)) bd gg) (hc : X.calm = true) (hN : X.N.Nodup)
    (hsw : swapsWith (.ListComp elt [⟨tg, iter, ifs, 0⟩] scope pos) (some (.Name y py)) spos.line X.env = pure true) (hi : DPI X tg iter ti) (ok : BlkOk X.N X.env.scope scope own)
    (hg : ∀ (s : Shared) (H : Hp) (C : Addr) (cl : List (Str × Addr)) (fp : List Addr), PG (X.blk s H scope (compEnvC scope cl C X.env) fp) tg gg) (ht : ∀ (s : Shared) (H : Hp) (C : Addr) (cl : List (Str × Addr)) (fp : List Addr), DPTs (X.blk s H scope (compEnvC scope cl C X.env) fp) ifs tt)
    (he : ∀ (s : Shared) (H : Hp) (C : Addr) (cl : List (Str × Addr)) (fp : List Addr), DPE (X.blk s H scope (compEnvC scope cl C X.env) fp) elt te) (mt : MonoT tt) (me : MonoE te) (hy : X.N[i]? = some y := by rfl) (hyl : X.env.scope.names.lookup y = some .local := by rfl) (hs : ∀ x, foldedSetIterable iter X.env x = pure x := by intro _; rfl) :
    DPS X (.Assign [.Name y py] (.ListComp elt [⟨tg, iter, ifs, 0⟩] scope pos) spos) (dAsg (dLc ti bd (own.map (·.2)) tt te) (dgName i)) := by
  obtain ⟨mi, wi, pi, ri⟩ := hi
  have ml : MonoE (dLc ti bd (own.map (·.2)) tt te) := dLc_mono mt me mi
  refine ⟨fun σ G D D' l q => ml σ G _ _ (fun x G1 z => l.1 _ _ z) q, _, ps_setLc hc hN hy hyl hsw pi ok hg (tt := canonT X.K tt) (te := canonE X.K te) (fun s H C cl fp => (ht s H C cl fp).canon) (fun s H C cl fp => (he s H C cl fp).canon) hs, fun σ H σd G D m s h => ?_⟩
  refine dLc_sim (tg := tg) (iter := iter) hb mt me mi ri m s (ml _ _ _ _ (fun d G1 z v H1 m1 r1 k1 => ?_) h)
  exact z _ H1 m1 ((s.kt k1).set r1 i) k1
end
/-! ### what a def promises, by data -/
abbrev DX := Str → Option (List (Str × D)) → DG → Prop
abbrev Ct := List D → DG → DK → DX → Prop
def XO (K : PySem.W.Frag) (H : Hp) (d : Option Addr) (fo : Option (List (Str × D))) : Prop := match d, fo with
  | none, none => True
  | some a, some fs => ∃ fvs, H a = some (.xd fvs) ∧ fvs.map (·.1) = fs.map (·.1) ∧ RDs K H (fs.map (·.2)) (fvs.map (·.2))
  | _, _ => False
def lfX (K : PySem.W.Frag) (H : Hp) (E : XK) : DX := fun n fo G' => ∀ C d H', ClsAt K n C → MH K G' H' → KT K H H' → XO K H' d fo → E (.ref C) d H'
theorem lfX_kt {K : PySem.W.Frag} {H H' : Hp} {E : XK} (k : KT K H H') {n : Str} {fo : Option (List (Str × D))} {G : DG} (h : lfX K H E n fo G) : lfX K H' E n fo G := fun C d H2 a b c => h C d H2 a b (k.trans c)
def spOf (K : PySem.W.Frag) (C : Ct) : Sp := fun vs H Q E => ∃ ds G Q0 E0, MH K G H ∧ RDs K H ds vs ∧ C ds G Q0 E0 ∧ (∀ d G', Q0 d G' → lf K H Q d G') ∧ (∀ c fo G', E0 c fo G' → lfX K H E c fo G')
def UpC (C : Ct) (ds : List D) (G : DG) (Q : DK) (E : DX) : Prop := ∃ Q0 E0, C ds G Q0 E0 ∧ (∀ d G', Q0 d G' → Q d G') ∧ (∀ c fo G', E0 c fo G' → E c fo G')
theorem UpC.of {C : Ct} {ds : List D} {G : DG} {Q : DK} {E : DX} (h : C ds G Q E) : UpC C ds G Q E := ⟨Q, E, h, fun _ _ q => q, fun _ _ _ q => q⟩
theorem UpC.mono {C : Ct} {ds : List D} {G : DG} {Q Q' : DK} {E : DX} (h : ∀ d G', Q d G' → Q' d G') (u : UpC C ds G Q E) : UpC C ds G Q' E := let ⟨Q0, E0, a, b, c⟩ := u; ⟨Q0, E0, a, fun d G' q => h _ _ (b d G' q), c⟩
def noX : DX := fun _ _ _ => False
structure FK (P : Program) (w : World) (K : PySem.W.Frag) (mg : Str → Option Value) (base : Heap) (k : Nat) (f : Addr) (fd : FuncData) (ps : List Str) (sp : Sp) : Prop where
  len : ∀ vs H Q E, sp vs H Q E → vs.length = ps.length
  run : ∀ (A : Around) (outer : List Env) (s : Shared) (H : Hp) (args : Args) (us : List Value) (vs : List V) (Q : VK) (E : XK), Room k A → A.guards = some [] → Env0 P w K mg base A outer s H → BindsTo s fd args (ps.zip us) → Vals vs us → sp vs H Q E →
    codeAny (model P w) A (.call (.ref f) args) (CR (L2.CX P w) outer P w H s Q E) s
theorem FK.mono {P : Program} {w : World} {K : PySem.W.Frag} {mg : Str → Option Value} {base : Heap} {j k : Nat} {f : Addr} {fd : FuncData} {ps : List Str} {sp : Sp} (F : FK P w K mg base j f fd ps sp) (h : j ≤ k) : FK P w K mg base k f fd ps sp :=
  ⟨F.len, fun A outer s H args us vs Q E hr => F.run A outer s H args us vs Q E (hr.mono h)⟩
theorem inv_kt {X : Cx} {pins : List (Addr × Obj)} {σ : St} {H : Hp} {s : Shared} (I : L2.Inv X pins σ H s) : KT X.K X.H_0 H := ⟨I.base.tups, fun a o vs h => I.base.frzs a o _ h, fun a o vs h => I.base.frzs a o _ h⟩
def PassD (X : Cx) (E : DX) : Prop := ∃ EL : XK, Passes (L2.CX X.prog X.w) X EL ∧ Takes X (fun cls d _ H => EL cls d H) ∧ ∀ H, KT X.K X.H_0 H → ∀ c fo G', E c fo G' → lfX X.K H EL c fo G'
theorem passD_no {X : Cx} : PassD X noX := ⟨E0, passL, fun _ _ ⟨_, _, _, _, _, _, _, _, _, _, _, _, _, _, _, _, w⟩ => w.elim, fun _ _ _ _ _ h => h.elim⟩
section
variable {X : Cx} {k : Nat} {f C : Addr} {fd : FuncData} {ps : List Str} {Cn : Ct} {E : DX} {x m : Str} {p pos apos : Pos} {e o : Expr} {es : List Expr} {ta to : DE} {t : DA}
theorem run_fk {sp : Sp} {EL : XK} {pins : List (Addr × Obj)} {σ : St} {H : Hp} {s : Shared} {Q : VK} {us : List Value} {vs : List V} (F : FK X.prog X.w X.K X.mg X.base k f fd ps sp) (hr : Room k X.A) (hg : X.A.guards = some []) (hb : Binds X.K fd ps []) (hx : Passes (L2.CX X.prog X.w) X EL)
    (I : L2.Inv X pins σ H s) (r : Vals vs us) (h : sp vs H Q EL) : wpAny (model X.prog X.w) X.A (call (.ref f) us) (EP X pins σ Q) X.xe s := by
  have hl : (us ++ []).length = ps.length := by
    rw [List.append_nil, ← r.length]
    exact F.len _ _ _ _ h
  have hb' := hb s us I.kIn hl
  rw [List.append_nil] at hb'
  refine wpAny_call (codeAny_mono (F.run X.A X.stack s H ⟨us, []⟩ us vs Q EL hr hg I.env0 hb' r h) fun r s' hq => ?_)
  cases r with
  | error e => exact hx pins σ H s e s' I hq
  | ok fl =>
    cases fl with
    | ret u => exact I.after hq
    | next => exact False.elim hq
    | brk => exact False.elim hq
    | cont => exact False.elim hq
def tCallF (X : Cx) (sp : Sp) (EL : XK) (t : TA) : TE := fun σ H Q => t σ H fun vs H1 => KT X.K X.H_0 H1 → sp vs H1 Q EL
def dCall (C : Ct) (E : DX) (t : DA) : DE := fun σ G Q => t σ G fun ds G1 => UpC C ds G1 Q E
theorem dCall_mono (ma : MonoA t) : MonoE (dCall Cn E t) := fun σ G Q Q' h q => ma σ G _ _ (fun ds G1 z => z.mono h) q
theorem dCall_sim {tta : TA} {EL : XK} (ma : MonoA t) (ra : ∀ σ H σd G Q, MH X.K G H → SR X.K H σd σ → t σd G (lfA X.K H Q) → tta σ H Q) (he : ∀ H, KT X.K X.H_0 H → ∀ c fo G', E c fo G' → lfX X.K H EL c fo G') :
    ∀ σ H σd G Q, MH X.K G H → SR X.K H σd σ → dCall Cn E t σd G (lf X.K H Q) → tCallF X (spOf X.K Cn) EL tta σ H Q := fun σ H σd G Q m s h =>
  ra σ H σd G _ m s (ma _ _ _ _ (fun ds G1 z vs H1 m1 r1 k1 k0 => by
    obtain ⟨Q0, E0, h1, h2, h3⟩ := z
    exact ⟨ds, G1, Q0, E0, m1, r1, h1, fun d G' q => lf_kt k1 (h2 d G' q), fun c fo G' q => he H1 k0 c fo G' (h3 c fo G' q)⟩) h)
theorem de_call (F : FK X.prog X.w X.K X.mg X.base k f fd ps (spOf X.K Cn)) (hr : Room k X.A) (hgd : X.A.guards = some []) (hm : X.mg x = some (.ref f)) (hk : PySem.W.keepIn X.K (.ref f) = true) (hb : Binds X.K fd ps []) (hE : PassD X E)
    (ha : DPA X (e :: es) t) (hg : Gl X x := by rfl) (hdb : (x == ("__debug__" : Str)) = false := by decide) (he : starEach (e :: es) X.env = (false, eval e X.env) :: starEach es X.env := by rfl) (hpl : (backTo pos (starEach es X.env)).any (·.1) = false := by rfl) :
    DPE X (.Call (.Name x p) (e :: es) [] pos) (dCall Cn E t) := by
  obtain ⟨ma, tta, pa, ra⟩ := ha
  obtain ⟨EL, hx, _, hE⟩ := hE
  refine ⟨dCall_mono ma, tCallF X (spOf X.K Cn) EL tta, ⟨fun pins s σ H Q I h => ?_⟩, dCall_sim ma ra hE⟩
  refine wpAny_Call_Name_kw (ld_glob I hg hm ?_ hdb)
  refine PySem.W.callWith_K (h₀ := X.base) I.ok.mod.kin hk (thn (pa.run pos pins s σ H _ I h) fun us s1 ⟨vs, H1, I1, r, q⟩ => ⟨I1.kIn, ?_⟩) he hpl
  exact run_fk F hr hgd hb hx I1 r (q (inv_kt I1))
theorem de_call0 (F : FK X.prog X.w X.K X.mg X.base k f fd ps (spOf X.K Cn)) (hr : Room k X.A) (hgd : X.A.guards = some []) (hm : X.mg x = some (.ref f)) (hk : PySem.W.keepIn X.K (.ref f) = true) (hb : Binds X.K fd ps []) (hE : PassD X E)
    (hg : Gl X x := by rfl) (hdb : (x == ("__debug__" : Str)) = false := by decide) : DPE X (.Call (.Name x p) [] [] pos) (dCall Cn E dNil) := by
  have ha : DPA X [] dNil := da_nil
  obtain ⟨EL, hx, _, hE⟩ := hE
  refine ⟨dCall_mono ha.mono, tCallF X (spOf X.K Cn) EL tNil, ⟨fun pins s σ H Q I h => ?_⟩, dCall_sim ha.mono (fun σ H σd G Q m s h => h [] H m .nil .refl) hE⟩
  refine wpAny_Call_Name_kw (ld_glob I hg hm ?_ hdb)
  exact PySem.W.callWith_K0 I.kIn hk (run_fk (us := []) F hr hgd hb hx I .nil (h (inv_kt I)))
end
/-! ### a def's body -/
section
variable {P : Program} {w : World} {K : PySem.W.Frag} {mg : Str → Option Value} {base : Heap}
theorem fk_of {k : Nat} {f : Addr} {name qual : Str} {params : Arguments} {body : List Stmt} {scope : Scope} {dV kV doc pm cdv ct oc : Value} {an od : Option Addr}
    {osl : Array (Option Value)} {N ps : List Str} {sp : Sp} (lk : K.lookup f = some ⟨oc, od, .func (PySem.W.fnOf name qual params body scope dV kV doc pm an cdv ct), osl⟩) (hcd : PySem.W.codeIn K cdv qual = true) (S : FnScope N ps scope)
    (len : ∀ vs H Q E, sp vs H Q E → vs.length = ps.length)
    (hbody : ∀ (A : Around) (outer : List Env) (s : Shared) (H : Hp) (vs : List V) (Q : VK) (E : XK), Room k (A.deeper (PyProof.Rows.envOfC qual scope s.heap.objs.size f cdv)) → A.guards = some [] → sp vs H Q E →
      ∃ t, PSs (cxOf (L2.CX P w) P w K mg base N qual scope f cdv A outer s H E) body t ∧ t { nx := fun _ H' => Q .non H', rt := Q } (start N vs) H) :
    FK P w K mg base (k + 1) f (PySem.W.fnOf name qual params body scope dV kV doc pm an cdv ct) ps sp := by
  refine ⟨len, fun A outer s H args us vs Q E hr hgd e0 hb r hsp => ?_⟩
  have hl := len _ _ _ _ hsp
  have KX : K.In s.heap := e0.mod.kin.keeps fun b o e => (e0.bs b o e).1
  have lim : s.heap.NoLimit := e0.mod.nolimit.keeps fun b o e => (e0.bs b o e).1
  have kinds : ∀ y ∈ ps.zip us, scope.names.lookup y.1 = some .local ∨ (scope.names.lookup y.1 = some .cell ∧ ((cellsFrom (s.heap.objs.size + 1) scope.names []).lookup y.1).isSome = true) := by
    rintro ⟨n, v⟩ hy
    rcases S.par n (List.of_mem_zip hy).1 with q | q
    · exact .inl q
    · exact .inr ⟨q, PySem.W.cellsFrom_some _ _ _ (.inl q)⟩
  refine codeAny_call_function hr.depth (KX _ _ lk) rfl S.co S.gen rfl (PySem.W.codeRec_of KX hcd) (hb _ _ _ _ ?_)
  refine wpAny_newFunctionEnv_cells S.kind kinds fun env he s1 x => ?_
  subst he
  refine ⟨lim.keeps x.toInCall.keep, codeAny_func ?_⟩
  obtain ⟨t, ht, hq⟩ := hbody A outer s H vs Q E (hr.deeper _) hgd hsp
  have I : L2.Inv (cxOf (L2.CX P w) P w K mg base N qual scope f cdv A outer s H E) [] (start N vs) H s1 := inv_start S hr.hd e0 hl r x
  refine wpAny_mono (ht.run [] s1 (start N vs) H _ I hq) (fun fl s' hs => ?_) fun e s' hs => hs
  cases fl with
  | ret u =>
    obtain ⟨v, σ', H', J, rv, q⟩ := hs
    exact ⟨v, H', J.os, J.bare, J.base, J.hok, rv, q⟩
  | next =>
    obtain ⟨σ', H', J, q⟩ := hs
    exact ⟨V.non, H', J.os, J.bare, J.base, J.hok, rfl, q⟩
  | brk =>
    obtain ⟨_, _, _, q⟩ := hs
    exact False.elim q
  | cont =>
    obtain ⟨_, _, _, q⟩ := hs
    exact False.elim q
def dstart (N : List Str) (ds : List D) : DSt := ds.map some ++ List.replicate (N.length - ds.length) none
theorem SR.start {K : PySem.W.Frag} {H : Hp} {ds : List D} {vs : List V} (N : List Str) (r : RDs K H ds vs) : SR K H (dstart N ds) (start N vs) := by
  refine ⟨by simp [dstart, L2.start, r.1], fun i d h => ?_⟩
  unfold dstart at h
  by_cases hi : i < ds.length
  · rw [List.getElem?_append_left (by simpa using hi), List.getElem?_map] at h
    cases e : ds[i]? with
    | none => rw [e] at h; simp at h
    | some d' =>
      rw [e] at h
      have e2 : d' = d := by simpa using h
      subst e2
      obtain ⟨v, h1, h2⟩ := r.get e
      refine ⟨v, ?_, h2⟩
      unfold L2.start
      rw [List.getElem?_append_left (by rw [List.length_map, ← r.1]; exact hi), List.getElem?_map, h1]
      rfl
  · rw [List.getElem?_append_right (by simpa using hi)] at h
    rw [List.getElem?_replicate] at h
    split at h
    · cases h
    · cases h
/-- THE RULE for a def -/
theorem fk_ok {x qual : Str} {st : Stmt} {f : Addr} {fd : FuncData} {N ps : List Str} {k : Nat} {C : Ct} {T : DX → DS} (F : Fun K x qual st f fd) (S : FnScope N ps (defScope st)) (len : ∀ ds G Q E, C ds G Q E → ds.length = ps.length)
    (der : ∀ (cdv : Value) (A : Around) (outer : List Env) (s : Shared) (H : Hp) (EL : XK) (E : DX), Room k (cxOf (L2.CX P w) P w K mg base N qual (defScope st) f cdv A outer s H EL).A → (cxOf (L2.CX P w) P w K mg base N qual (defScope st) f cdv A outer s H EL).A.guards = some [] →
      PassesOwn (model P w) (cxOf (L2.CX P w) P w K mg base N qual (defScope st) f cdv A outer s H EL).A (cxOf (L2.CX P w) P w K mg base N qual (defScope st) f cdv A outer s H EL).env (cxOf (L2.CX P w) P w K mg base N qual (defScope st) f cdv A outer s H EL).xe →
      PassD (cxOf (L2.CX P w) P w K mg base N qual (defScope st) f cdv A outer s H EL) E → DPSs (cxOf (L2.CX P w) P w K mg base N qual (defScope st) f cdv A outer s H EL) (defBody st) (T E))
    (run : ∀ ds G Q E, C ds G Q E → T E { nx := fun _ G' => DrK Q .non G', rt := DrK Q, bk := fun _ _ => False, ct := fun _ _ => False } (dstart N ds) G) : FK P w K mg base (k + 1) f fd ps (spOf K C) := by
  obtain ⟨oc, od, kV, doc, pm, an, cdv, ct, osl, rfl, lk, hcd⟩ := F.ex
  refine fk_of lk hcd S (fun vs H Q E h => ?_) fun A outer s H vs Q E hr hgd hsp => ?_
  · obtain ⟨ds, G, Q0, E0, _, r, hC, _⟩ := h
    rw [← r.1]
    exact len _ _ _ _ hC
  · obtain ⟨ds, G, Q0, E0, m, r, hC, hQ, hE⟩ := hsp
    have tk : Takes (cxOf (L2.CX P w) P w K mg base N qual (defScope st) f cdv A outer s H E) (fun cls d _ H => E cls d H) := takes_of rfl rfl rfl rfl
    have D0 := der cdv A outer s H E E0 hr hgd (passes_of rfl) ⟨E, passes_call tk fun _ _ _ _ h => h, tk, fun H' kt c fo G' q => lfX_kt kt (hE c fo G' q)⟩
    obtain ⟨mS, tt, p, rr⟩ := D0
    refine ⟨tt, p, rr (start N vs) H (dstart N ds) G _ m (.start N r) (mS _ _ { nx := fun _ G' => DrK Q0 .non G', rt := DrK Q0, bk := fun _ _ => False, ct := fun _ _ => False } _ ⟨fun σ G' q => ?_, fun d G' q v H' m' r' k' => let ⟨G0, l, q⟩ := q; hQ d G0 q v H' (m'.le l) r' k', fun _ _ q => q.elim, fun _ _ q => q.elim⟩ (run ds G Q0 E0 hC))⟩
    obtain ⟨G0, l, q⟩ := q
    exact fun σ' H' m' _ k' => hQ .non G0 q .non H' (m'.le l) .non k'
end
end FD

namespace FD
open PySem L2
/-! ### isinstance of a built-in class -/
def tys : List String := ["NoneType", "bool", "int", "str", "tuple", "list", "dict"]
def isiB (t n : String) : Bool := t == n || (t == "bool" && n == "int")
theorem kit_all : ∀ t ∈ tys, ∀ n ∈ tys, kitB t n = some (isiB t n) := by decide +kernel
def tyN (x : D) (G : DG) : Option String := match x with
  | .non => some "NoneType"
  | .bl _ => some "bool"
  | .int _ => some "int"
  | .str _ => some "str"
  | .tup _ => some "tuple"
  | .lis _ => some "list"
  | .ref a => match G a with
    | some (.lst _) => some "list"
    | some (.dK _) => some "dict"
    | _ => none
  | _ => none
theorem tyN_ok {K : PySem.W.Frag} {H : Hp} {G : DG} {x : V} {d : D} {t : String} (m : MH K G H) (r : RD K H d x) (h : tyN d G = some t) : t ∈ tys ∧ TyX K H x (.type t) := by
  cases r with
  | non => cases h; exact ⟨by decide, .base .non⟩
  | bl b => cases h; exact ⟨by decide, .base (.bl b)⟩
  | int b => cases h; exact ⟨by decide, .base (.int b)⟩
  | str b => cases h; exact ⟨by decide, .base (.str b)⟩
  | ty n => cases h
  | tpl _ _ _ => cases h
  | tup hs _ _ =>
    cases h
    refine ⟨by decide, ?_⟩
    rcases hs with ⟨o, h1, _⟩ | ⟨o, its, n, h1, h2, _⟩
    · exact .fTuple h1
    · exact .kTuple h1 h2
  | lis hs _ _ =>
    cases h
    refine ⟨by decide, ?_⟩
    rcases hs with ⟨o, h1⟩ | ⟨o, its, n, h1, h2, _⟩
    · exact .base (.frz h1)
    · exact .kList h1 h2
  | ref a =>
    simp only [tyN] at h
    split at h
    · rename_i e
      cases h
      obtain ⟨vs, g, _⟩ := m _ _ e
      exact ⟨by decide, .base (.lst g)⟩
    · rename_i e
      cases h
      obtain ⟨vs, g, _⟩ := m _ _ e
      exact ⟨by decide, .base (.dK g)⟩
    · cases h
def isinstD : FL := fun xs G Q => match xs with
  | [x, .ty n] => match tyN x G with
    | some t => n ∈ tys ∧ Q (.bl (isiB t n)) G
    | none => False
  | _ => False
section
variable {X : Cx} {a b c e : Expr} {es rest : List Expr} {ta tb tc : DE} {pos : Pos}
theorem isinstD_mono : MonoFL isinstD := fun xs G Q Q' h q => by
  unfold isinstD at q ⊢
  split at q
  · split at q
    · exact ⟨q.1, h _ _ q.2⟩
    · exact q
  · exact q
theorem isinstD_sim {K : PySem.W.Frag} : SimL K (rIsi K) isinstD := fun H G xs ds Q m r h => by
  unfold isinstD at h
  split at h
  · obtain ⟨v, vs', rfl, r1, r2⟩ := r.cons_inv
    obtain ⟨v2, vs2, rfl, r3, r4⟩ := r2.cons_inv
    have e := r4.nil_inv
    subst e
    cases r3
    split at h
    · rename_i t e
      obtain ⟨h1, h2⟩ := tyN_ok m r1 e
      exact ⟨v, _, _, _, _, rfl, .ty _, h2, kit_ty (kit_all _ h1 _ h.1), h.2 _ _ m (.bl _) .refl⟩
    · exact False.elim h
  · exact False.elim h
theorem de_isinst {p : Pos} {t : DA} (hg : Gl X "isinstance") (hm : X.mg "isinstance" = none) (ha : DPA X (e :: es) t) (h1 : starEach (e :: es) X.env = (false, eval e X.env) :: starEach es X.env := by rfl) (h2 : ((backTo pos (starEach es X.env)).any fun x => x.fst) = false := by rfl) :
    DPE X (.Call (.Name "isinstance" p) (e :: es) [] pos) (dCB isinstD t) := de_callB call_isi isinstD_mono isinstD_sim hg hm (by decide +kernel) ha (by decide) (by decide) h1 h2
/-! ### repr -/
def RepOk (p : PyData) : Prop := p.showable = true ∧ p.shown.length ≤ sizeLine
def isCont : PyData → Bool
  | .list _ => true
  | .tuple _ => true
  | .int _ => true
  | .none => true
  | .bool _ => true
  | .str _ => true
  | _ => false
def reprD : FL := fun xs G Q => match xs with
  | [x] => match pyD 9 G x with
    | some p => isCont p = true ∧ RepOk p ∧ Q (.str p.shown) G
    | none => False
  | _ => False
theorem reprD_mono : MonoFL reprD := fun xs G Q Q' h q => by
  unfold reprD at q ⊢
  split at q
  · split at q
    · exact ⟨q.1, q.2.1, h _ _ q.2.2⟩
    · exact q
  · exact q
mutual
theorem noDict_of : ∀ d : PyData, d.canLay0 = true → d.hasDict = false
  | .none, _ => by simp only [PyData.hasDict]
  | .bool _, _ => by simp only [PyData.hasDict]
  | .int _, _ => by simp only [PyData.hasDict]
  | .str _, _ => by simp only [PyData.hasDict]
  | .list xs, h => by
    simp only [PyData.hasDict]
    exact noDictAll_of xs (by simpa [PyData.canLay0] using h)
  | .tuple xs, h => by
    simp only [PyData.hasDict]
    exact noDictAll_of xs (by simpa [PyData.canLay0] using h)
  | .dict _, h => by simp [PyData.canLay0] at h
theorem noDictAll_of : ∀ ds : List PyData, PyData.canLayAll0 ds = true → PyData.hasDictAll ds = false
  | [], _ => by simp only [PyData.hasDictAll]
  | d :: ds, h => by
    have h2 : d.canLay0 = true ∧ PyData.canLayAll0 ds = true := by simpa [PyData.canLayAll0] using h
    simp only [PyData.hasDictAll, noDict_of d h2.1, noDictAll_of ds h2.2, Bool.or_self]
end
theorem call_reprA (hgd : X.A.guards = some []) (hu : X.A.units + 65 < cLine) : CallR X (.builtin "repr") (fun xs H Q => ∃ x d, xs = [x] ∧ Dp X.K H x d ∧ SeqAt.shaped d = true ∧ isCont d = true ∧ RepOk d ∧ Q (.str d.shown) H) := by
  intro pins s σ H xs us Q I r h
  obtain ⟨x, d, rfl, hd, sh, hc, ⟨hs, hz⟩, q⟩ := h
  obtain ⟨u, rfl, rx⟩ := vals1 r
  obtain ⟨as, rr⟩ := Dp.reads I d x u hd rx
  have nd : d.hasDict = false := noDict_of d (SeqAt.canLay_of_shaped sh)
  have dp : d.depth ≤ 64 := SeqAt.depth_of_shaped sh
  have go : ∀ a, u = .ref a → wpAny (model X.prog X.w) X.A (call (.builtin "repr") [u]) (EP X pins σ Q) X.xe s := by
    rintro a rfl
    refine repr_of_reads' (h₀ := s.heap) rr hs (fun z => by rw [nd] at z; cases z) hgd (by omega) (fun _ _ z => z) (fun h' t tk kp => ?_) hz
    exact ⟨.str d.shown, H, I.kept (t' := tk) kp, ⟨_, rfl⟩, q⟩
  cases d with
  | list ds => cases hd; exact go _ rx
  | tuple ds => cases hd; exact go _ rx
  | int i =>
    cases hd
    obtain ⟨t, rfl⟩ := rx
    have hs' : i.natAbs.log2 < 1920 := by simpa [PyData.showable] using hs
    rw [PyData.shown_int] at q
    exact PySem.P.repr_of_int hs' ⟨.str _, H, I.tok _, ⟨_, rfl⟩, q⟩
  | none =>
    cases hd
    cases (show u = Value.none from rx)
    exact PySem.P.repr_of_none ⟨.str _, H, I.tok _, ⟨_, rfl⟩, q⟩
  | bool b =>
    cases hd
    cases (show u = Value.bool b from rx)
    refine PySem.P.repr_of_bool ⟨.str _, H, I.tok _, ⟨_, rfl⟩, ?_⟩
    cases b <;> exact q
  | str x =>
    cases hd
    obtain ⟨t, rfl⟩ := rx
    exact PySem.P.repr_of_str ⟨.str _, H, I.tok _, ⟨_, rfl⟩, q⟩ hz
  | _ => simp [isCont] at hc
theorem reprD_sim {K : PySem.W.Frag} : SimL K (fun xs H Q => ∃ x d, xs = [x] ∧ Dp K H x d ∧ SeqAt.shaped d = true ∧ isCont d = true ∧ RepOk d ∧ Q (.str d.shown) H) reprD := fun H G xs ds Q m r h => by
  unfold reprD at h
  split at h
  · obtain ⟨v, vs', rfl, r1, r2⟩ := r.cons_inv
    have e := r2.nil_inv
    subst e
    split at h
    · rename_i p e
      exact ⟨v, p, rfl, pyD_dp m 9 _ _ p r1 e, pyD_shaped e (by decide), h.1, h.2.1, h.2.2 _ _ m (.str _) .refl⟩
    · exact False.elim h
  · exact False.elim h
theorem de_repr {p : Pos} {t : DA} (hgd : X.A.guards = some []) (hu : X.A.units + 65 < cLine) (hg : Gl X "repr") (hm : X.mg "repr" = none) (ha : DPA X (e :: es) t) (h1 : starEach (e :: es) X.env = (false, eval e X.env) :: starEach es X.env := by rfl) (h2 : ((backTo pos (starEach es X.env)).any fun x => x.fst) = false := by rfl) :
    DPE X (.Call (.Name "repr" p) (e :: es) [] pos) (dCB reprD t) := de_callB (call_reprA hgd hu) reprD_mono reprD_sim hg hm (by decide +kernel) ha (by decide) (by decide) h1 h2
end
/-! ### the law's end -/
def spLaw (n : Nat) : Ct := fun ds G Q _ => ∃ ns : List Int, ds = [.lis (ns.map .int)] ∧ ns.length ≤ n ∧ ∀ G', Q (.bl true) G'
theorem law_fk {P : Program} {w : World} {K : PySem.W.Frag} {mg mb : Str → Option Value} {k n : Nat} {fa a : Addr} {fd : FuncData} {x : Str} {s1 : Shared} {vs : List Value} {ns : List Int}
    (KX : K.In s1.heap) (hns : s1.heap.Ns mainGlobals mg) (hb : s1.heap.Ns builtinsNs mb) (hbb : ∀ x : Str, x ≠ "__name__" → mb x = bootBuiltins x) (hlim : s1.heap.NoLimit) (hg : s1.gens = #[])
    (ha : s1.heap.get? a = some { cls := .type "list", data := .seq vs.toArray }) (hi : PyProof.Rows.IntsAre vs ns) (hl : ns.length ≤ n) (hn : n ≤ sizeLine) (hr : Room k callerA)
    (F : ∀ base : Heap, K.In base → base.Ns mainGlobals mg → (∀ (b : Addr) (m : Str → Option Value), s1.heap.Ns b m → base.Ns b m) → FK P w K mg base k fa fd [x] (spOf K (spLaw n))) (hbind : ∀ (s : Shared) (u : Value), BindsTo s fd ⟨[u], []⟩ [(x, u)]) :
    codeAny (model P w) callerA (.call (.ref fa) ⟨[.ref a], []⟩) (fun r s' => r = .ok (.ret (.bool true)) ∧ OldK s1.heap s'.heap ∧ s'.os = s1.os ∧ PyProof.Rows.AllBare s'.gens) s1 := by
  have rv := vals_ints hi
  have lenV := hi.length
  have hz : ns.length ≤ sizeLine := Nat.le_trans hl hn
  have main : ∀ H : Hp, Only H → SqR K H a (ns.map V.int) → HOk P w H s1.heap → (∀ b, H b ≠ none → b = a) → (H a ≠ none → K.lookup a = none) →
      codeAny (model P w) callerA (.call (.ref fa) ⟨[.ref a], []⟩) (fun r s' => r = .ok (.ret (.bool true)) ∧ OldK s1.heap s'.heap ∧ s'.os = s1.os ∧ PyProof.Rows.AllBare s'.gens) s1 := by
    intro H hO hS hok hA hK
    have there : ∀ {b : Addr} {o : Obj}, s1.heap.get? b = some o → H b = none → (hidT s1.heap H).get? b = some o := fun e n => hidT_get e n
    have noD : ∀ {b : Addr} {o : Obj} {es : Array DictEntry} {ep : Nat}, s1.heap.get? b = some o → o.data = .dict es ep → H b = none := by
      intro b o es ep e d
      cases q : H b with
      | none => rfl
      | some u =>
        have e' : b = a := hA b (by rw [q]; simp)
        subst e'
        rw [ha] at e
        cases e
        cases (show Data.seq vs.toArray _ = Data.dict es ep from d)
    have ns1 : ∀ {b : Addr} {m : Str → Option Value}, s1.heap.Ns b m → (hidT s1.heap H).Ns b m := fun {b m} ⟨o, es, ep, e, d, r⟩ => ⟨o, es, ep, there e (noD e d), d, r⟩
    have kin : K.In (hidT s1.heap H) := fun b o e => there (KX b o e) (by
      cases q : H b with
      | none => rfl
      | some u =>
        have e' : b = a := hA b (by rw [q]; simp)
        subst e'
        rw [hK (by rw [q]; simp)] at e
        cases e)
    have M : Mod K mg (hidT s1.heap H) := ⟨kin, ns1 hns, ⟨mb, ns1 hb, hbb⟩, let ⟨mc, h1, h2⟩ := hlim; ⟨mc, ns1 h1, h2⟩⟩
    have E : Env0 P w K mg (hidT s1.heap H) callerA [] s1 H := ⟨rfl, M, fun b o e => of_hidT e, Nat.le_of_eq (hidT_size _ _), trivial, fun b hb => absurd (show b ∈ ([] : List Addr) from hb) (by simp), hok, .of_eq hg⟩
    have pr : spOf K (spLaw n) [.ref a] H (fun v _ => v = .bl true) (fun _ _ _ => False) := by
      have m0 : MH K (fun _ => none) H := fun _ _ h => by cases (show (none : Option O) = some _ from h)
      refine ⟨[.lis (ns.map .int)], fun _ => none, fun d _ => d = .bl true, noX, m0, RDs.nil.cons (.lis hS (by simp) (RDs.of_int ns).2), ⟨ns, rfl, hl, fun _ => rfl⟩, fun d G' q v H' m r k => ?_, fun _ _ _ q => False.elim q⟩
      subst q
      cases r
      rfl
    refine codeAny_mono ((F _ kin (ns1 hns) fun b m => ns1).run callerA [] s1 H ⟨[.ref a], []⟩ [.ref a] [.ref a] _ _ hr rfl E (hbind s1 (.ref a)) (.cons rfl .nil) pr) fun r s' h => ?_
    cases r with
    | error e =>
      obtain ⟨_, _, _, _, _, _, _, _, _, _, _, _, z⟩ := h
      exact z.elim
    | ok fl =>
      cases fl with
      | next => exact False.elim h
      | brk => exact False.elim h
      | cont => exact False.elim h
      | ret u =>
        obtain ⟨v, H', os, bare, un, hok', r', q⟩ := h
        have q' : v = .bl true := q
        subst q'
        obtain rfl : u = Value.bool true := r'
        refine ⟨rfl, OldK.of_keep fun b o e => ?_, os, bare⟩
        cases q : H b with
        | none => exact un.keep b o e q (fun z => absurd (show b ∈ ([] : List Addr) from z) (by simp)) (by simp)
        | some u =>
          rcases hO b with z | ⟨ob, xs, z⟩
          · rw [q] at z; cases z
          · obtain ⟨e1, _⟩ := hok b _ z
            obtain ⟨e2, _⟩ := hok' b _ (un.frzs b ob _ z)
            rw [e] at e1
            cases e1
            exact e2
  cases hk : K.lookup a with
  | some o =>
    have e := KX a o hk
    rw [ha] at e
    cases e
    exact main (fun _ => none) (fun _ => .inl rfl) (.inr ⟨_, vs.toArray, _, hk, rfl, rfl, rfl, by rw [List.size_toArray, lenV]; exact hz, by simpa using rv⟩) (fun b u z => by cases (show (none : Option HO) = some u from z)) (fun b z => absurd rfl z) fun z => absurd rfl z
  | none =>
    refine main (fun b => if b = a then some (.frz { cls := .type "list", data := .seq vs.toArray } (.lst (ns.map V.int))) else none) (fun b => ?_) (.inl ⟨{ cls := .type "list", data := .seq vs.toArray }, if_pos rfl⟩) (fun b u z => ?_) (fun b z => ?_) fun _ => hk
    · by_cases hb : b = a
      · exact .inr ⟨_, _, if_pos hb⟩
      · exact .inl (if_neg hb)
    · by_cases hb : b = a
      · have z' := (if_pos hb).symm.trans z
        cases z'
        subst hb
        exact ⟨ha, by rw [List.length_map]; exact hz, vs, _, rv, ha⟩
      · have z' := (if_neg hb).symm.trans z
        cases z'
    · by_cases hb : b = a
      · exact hb
      · exact absurd (if_neg hb) z
theorem walk_fk {l : PySem.W.OpenLaw} {n k : Nat} {q : Program} {loose : List Str} {XP : (Str → Option Value) → Heap → Prop} {YP : World → Heap → Prop} {d : DefRec} {K : Params → PySem.W.Frag} {x : Str}
    (hn : l.most = some n) (hn2 : n ≤ sizeLine) (hdf : d.params.defaults = []) (hr : Room k callerA) (hY : ∀ (w : World) (h : Heap), YP w h → (K w.params).In h)
    (F : ∀ (w : World) (mg : Str → Option Value) (fa : Addr) (h : Heap), (K w.params).In h → h.Ns mainGlobals mg → mg d.name = some (.ref fa) →
      ∃ fd : FuncData, (∀ (s : Shared) (u : Value), BindsTo s fd ⟨[u], []⟩ [(x, u)]) ∧
        ∀ base : Heap, (K w.params).In base → base.Ns mainGlobals mg → FK l.prog w (K w.params) mg base k fa fd [x] (spOf (K w.params) (spLaw n))) :
    PySem.W.WalkO q loose XP YP l.row.toRowW d [] (fun f vs => PySem.call f vs) := by
  refine Att.attach_call hn hdf fun w s0 s1 mg mb fa o pm cd doc a vs ns G Y ho hd hcd hmg hobj hints hlen hg => ?_
  have KX := hY w _ Y
  obtain ⟨fd, hb, hF⟩ := F w mg fa _ KX G.T.g hmg
  exact law_fk KX G.T.g G.T.b G.T.builtins G.T.nolimit hg hobj hints hlen hn2 hr (fun base h1 h2 _ => hF base h1 h2) hb
end FD

namespace FD
open PySem L2
section
variable {X : Cx} {a b c e : Expr} {es rest : List Expr} {ta tb tc : DE} {pos : Pos}
theorem u64 {k : Nat} {A : Around} (r : Room k A) : A.units + 64 < cLine := r.units
theorem u65 {k : Nat} {A : Around} (r : Room k A) : A.units + 65 < cLine := by have := r.un; omega
/-- a list or a tuple, walked -/
def diSeq (t : DE) : DI := fun σ G R => t σ G fun x G1 => match x with
  | .tup xs => R xs (fun _ => True) G1
  | .lis xs => R xs (fun _ => True) G1
  | .ref p => match G1 p with
    | some (.lst xs) => R xs (fun G' => G' p = some (.lst xs)) G1
    | _ => False
  | _ => False
def iSeqV (K : PySem.W.Frag) (x : V) (H : Hp) (R : It → Hp → Prop) : Prop := (∃ p, x = .ref p ∧ (∃ xs, SqL K H p xs) ∧ R (Itl K p) H) ∨ ∃ p, x = .ref p ∧ (∃ xs, SqT K H p xs) ∧ R (Itt K p) H
theorem pi_seqV {tg l : Expr} {tl : TE} (hl : PE X l tl) : PI X tg l (fun σ H R => tl σ H fun x H1 => iSeqV X.K x H1 R) := by
  refine ⟨fun pins s σ H R I h => thn (hl.run pins s σ H _ I h) fun v s1 ⟨x, H1, I1, r1, q1⟩ => ?_⟩
  have fresh : ∀ b ∈ [s1.heap.objs.size], b = s1.heap.objs.size := fun b hb => by simpa using hb
  rcases q1 with ⟨p, e, ⟨xs, hq⟩, q⟩ | ⟨p, e, ⟨xs, hq⟩, q⟩
  · subst e
    cases r1
    obtain ⟨its, rv, pl, hz⟩ := I1.list hq
    refine wpAny_pyIter_list pl.isList ⟨s1.heap.objs.size, [s1.heap.objs.size], _, _, H1, rfl, I1.kept (t' := s1.toks) fun b o e => Heap.get?_push_of_some _ e, turn_list p _, ⟨_, Heap.get?_push_size _ rfl, rfl, rfl⟩, fun b hb => ?_, q⟩
    rw [fresh b hb]
    exact I1.fpOk (Nat.le_refl _) (I1.hok.fresh (Nat.le_refl _))
  · subst e
    cases r1
    obtain ⟨its, rv, pl, hz⟩ := I1.tuple hq
    refine wpAny_pyIter_tuple pl ⟨s1.heap.objs.size, [s1.heap.objs.size], _, _, H1, rfl, I1.kept (t' := s1.toks) fun b o e => Heap.get?_push_of_some _ e, turn_tuple p _, ⟨_, Heap.get?_push_size _ rfl, rfl, rfl⟩, fun b hb => ?_, q⟩
    rw [fresh b hb]
    exact I1.fpOk (Nat.le_refl _) (I1.hok.fresh (Nat.le_refl _))
theorem di_seq {tg l : Expr} (ha : DPE X l ta) : DPI X tg l (diSeq ta) := by
  obtain ⟨ma, tta, pa, ra⟩ := ha
  refine ⟨fun σ G R R' h q => ma σ G _ _ (fun x G1 z => ?_) q, _, pi_seqV pa, fun σ H σd G R m s h => ra σ H σd G _ m s (ma _ _ _ _ (fun d G1 z v H1 m1 r1 k1 => ?_) h)⟩
  · split at z
    · exact h _ _ _ z
    · exact h _ _ _ z
    · split at z <;> first | exact h _ _ _ z | exact z
    · exact z
  · split at z
    · rename_i xs
      cases r1 with
      | @tup p _ vs hs hl hi =>
        refine .inr ⟨p, rfl, ⟨vs, hs.t⟩, z _ H1 m1 k1 fun i H' G' k m' o => ?_⟩
        have r : RDs X.K H' xs vs := RDs.kt k ⟨hl, hi⟩
        have hq : SqT X.K H' p vs := k.sqt hs.t
        refine ⟨fun d hd => ?_, fun hl' => ⟨vs, hq, by rw [← hl]; exact hl'⟩⟩
        obtain ⟨w, h1, h2⟩ := r.get hd
        refine ⟨⟨vs, w, hq, h1⟩, fun x H'' y => ?_⟩
        obtain ⟨rfl, y⟩ := y
        have e := y vs hq
        rw [h1] at e
        cases e
        exact ⟨m', .refl, h2⟩
    · cases r1 with
      | @lis p _ vs hs hl hi => exact .inl ⟨p, rfl, ⟨vs, hs.l⟩, z _ H1 m1 k1 (itOk_list fun G' H' k' m' o => ⟨vs, (k'.sqr hs).l, RDs.kt k' ⟨hl, hi⟩⟩)⟩
    · cases r1
      rename_i p
      split at z
      · rename_i xs e
        obtain ⟨vs, g, r⟩ := m1 _ _ e
        refine .inl ⟨p, rfl, ⟨vs, SqL.of g⟩, z _ H1 m1 k1 (itOk_list fun G' H' k' m' o => ?_)⟩
        obtain ⟨vs', g', r'⟩ := m' _ _ o
        exact ⟨vs', SqL.of g', r'⟩
      · exact False.elim z
    · exact False.elim z
theorem de_lcN {elt tg iter : Expr} {ifs : List Expr} {scope : Scope} (own : List (Str × Nat)) {ti : DI} {bd : D → DSt → Option DSt} {gg : TG} {tt : DTt} {te : DE} (hb : Bd X.K (own.map (·.2)) bd gg) (hc : X.calm = true) (hN : X.N.Nodup) (hi : DPI X tg iter ti) (ok : BlkOk X.N X.env.scope scope own)
    (hg : ∀ (s : Shared) (H : Hp) (C : Addr) (cl : List (Str × Addr)) (fp : List Addr), PG (X.blk s H scope (compEnvC scope cl C X.env) fp) tg gg) (ht : ∀ (s : Shared) (H : Hp) (C : Addr) (cl : List (Str × Addr)) (fp : List Addr), DPTs (X.blk s H scope (compEnvC scope cl C X.env) fp) ifs tt)
    (he : ∀ (s : Shared) (H : Hp) (C : Addr) (cl : List (Str × Addr)) (fp : List Addr), DPE (X.blk s H scope (compEnvC scope cl C X.env) fp) elt te) (hs : ∀ x, foldedSetIterable iter X.env x = pure x := by intro _; rfl) :
    DPE X (.ListComp elt [⟨tg, iter, ifs, 0⟩] scope pos) (dLc ti bd (own.map (·.2)) tt te) :=
  de_lc own hb hc hN hi ok hg ht he (ht X.s_0 X.H_0 0 [] []).mono (he X.s_0 X.H_0 0 [] []).mono hs
theorem ds_setLcN (i : Nat) {y : Str} {py : Pos} {elt tg iter : Expr} {ifs : List Expr} {scope : Scope} {pos spos : Pos} (own : List (Str × Nat)) {ti : DI} {bd : D → DSt → Option DSt} {gg : TG} {tt : DTt} {te : DE} (hb : Bd X.K (own.map (·.2)) bd gg) (hc : X.calm = true) (hN : X.N.Nodup)
    (hsw : swapsWith (.ListComp elt [⟨tg, iter, ifs, 0⟩] scope pos) (some (.Name y py)) spos.line X.env = pure true) (hi : DPI X tg iter ti) (ok : BlkOk X.N X.env.scope scope own)
    (hg : ∀ (s : Shared) (H : Hp) (C : Addr) (cl : List (Str × Addr)) (fp : List Addr), PG (X.blk s H scope (compEnvC scope cl C X.env) fp) tg gg) (ht : ∀ (s : Shared) (H : Hp) (C : Addr) (cl : List (Str × Addr)) (fp : List Addr), DPTs (X.blk s H scope (compEnvC scope cl C X.env) fp) ifs tt)
    (he : ∀ (s : Shared) (H : Hp) (C : Addr) (cl : List (Str × Addr)) (fp : List Addr), DPE (X.blk s H scope (compEnvC scope cl C X.env) fp) elt te) (hy : X.N[i]? = some y := by rfl) (hyl : X.env.scope.names.lookup y = some .local := by rfl) (hs : ∀ x, foldedSetIterable iter X.env x = pure x := by intro _; rfl) :
    DPS X (.Assign [.Name y py] (.ListComp elt [⟨tg, iter, ifs, 0⟩] scope pos) spos) (dAsg (dLc ti bd (own.map (·.2)) tt te) (dgName i)) :=
  ds_setLc i own hb hc hN hsw hi ok hg ht he (ht X.s_0 X.H_0 0 [] []).mono (he X.s_0 X.H_0 0 [] []).mono hy hyl hs
end
/-! ### a def at its name -/
def DefAt (K : PySem.W.Frag) (mg : Str → Option Value) (x : Str) (st : Stmt) (ps : List Str) : Prop := ∃ f fd, Fun K x x st f fd ∧ mg x = some (.ref f) ∧ Binds K fd ps []
def CallOk (P : Program) (w : World) (K : PySem.W.Frag) (mg : Str → Option Value) (base : Heap) (k : Nat) (x : Str) (C : Ct) : Prop := ∃ f fd ps, mg x = some (.ref f) ∧ PySem.W.keepIn K (.ref f) = true ∧ Binds K fd ps [] ∧ FK P w K mg base k f fd ps (spOf K C)
theorem CallOk.mono {P : Program} {w : World} {K : PySem.W.Frag} {mg : Str → Option Value} {base : Heap} {j k : Nat} {x : Str} {C : Ct} (h : CallOk P w K mg base j x C) (l : j ≤ k) : CallOk P w K mg base k x C := let ⟨f, fd, ps, a, b, c, d⟩ := h; ⟨f, fd, ps, a, b, c, d.mono l⟩
theorem FK.imp {P : Program} {w : World} {K : PySem.W.Frag} {mg : Str → Option Value} {base : Heap} {k : Nat} {f : Addr} {fd : FuncData} {ps : List Str} {C C' : Ct} (F : FK P w K mg base k f fd ps (spOf K C)) (h : ∀ ds G Q E, C' ds G Q E → C ds G Q E) : FK P w K mg base k f fd ps (spOf K C') :=
  ⟨fun vs H Q E ⟨ds, G, Q0, E0, a, b, c, d⟩ => F.len vs H Q E ⟨ds, G, Q0, E0, a, b, h _ _ _ _ c, d⟩, fun A outer s H args us vs Q E hr hg e0 hb hv ⟨ds, G, Q0, E0, a, b, c, d⟩ => F.run A outer s H args us vs Q E hr hg e0 hb hv ⟨ds, G, Q0, E0, a, b, h _ _ _ _ c, d⟩⟩
section
variable {X : Cx} {k : Nat} {Cn : Ct} {E : DX} {x m : Str} {p pos apos : Pos} {e o : Expr} {es : List Expr} {ta to : DE} {t : DA}
theorem de_fn (F : CallOk X.prog X.w X.K X.mg X.base k x Cn) (hr : Room k X.A) (hgd : X.A.guards = some []) (hE : PassD X E)
    (ha : DPA X (e :: es) t) (hg : Gl X x := by rfl) (hdb : (x == ("__debug__" : Str)) = false := by decide) (he : starEach (e :: es) X.env = (false, eval e X.env) :: starEach es X.env := by rfl) (hpl : (backTo pos (starEach es X.env)).any (·.1) = false := by rfl) :
    DPE X (.Call (.Name x p) (e :: es) [] pos) (dCall Cn E t) := let ⟨_, _, _, a, b, c, d⟩ := F; de_call d hr hgd a b c hE ha hg hdb he hpl
theorem de_fn0 (F : CallOk X.prog X.w X.K X.mg X.base k x Cn) (hr : Room k X.A) (hgd : X.A.guards = some []) (hE : PassD X E)
    (hg : Gl X x := by rfl) (hdb : (x == ("__debug__" : Str)) = false := by decide) : DPE X (.Call (.Name x p) [] [] pos) (dCall Cn E dNil) := let ⟨_, _, _, a, b, c, d⟩ := F; de_call0 d hr hgd a b c hE hg hdb
end
section
variable {P : Program} {w : World} {K : PySem.W.Frag} {mg : Str → Option Value} {base : Heap}
/-- the context of a def's body -/
abbrev cx (P : Program) (w : World) (K : PySem.W.Frag) (mg : Str → Option Value) (base : Heap) (N : List Str) (qual : Str) (sc : Scope) (f : Addr) (cdv : Value) (A : Around) (outer : List Env) (s : Shared) (H : Hp) (EL : XK) : Cx := cxOf (L2.CX P w) P w K mg base N qual sc f cdv A outer s H EL
theorem call_ok {x : Str} {st : Stmt} {N ps : List Str} {k : Nat} {C : Ct} {T : DX → DS} (D : DefAt K mg x st ps) (S : FnScope N ps (defScope st)) (len : ∀ ds G Q E, C ds G Q E → ds.length = ps.length)
    (der : ∀ (f : Addr) (cdv : Value) (A : Around) (outer : List Env) (s : Shared) (H : Hp) (EL : XK) (E : DX), Room k (cx P w K mg base N x (defScope st) f cdv A outer s H EL).A → (cx P w K mg base N x (defScope st) f cdv A outer s H EL).A.guards = some [] →
      PassesOwn (model P w) (cx P w K mg base N x (defScope st) f cdv A outer s H EL).A (cx P w K mg base N x (defScope st) f cdv A outer s H EL).env (cx P w K mg base N x (defScope st) f cdv A outer s H EL).xe →
      PassD (cx P w K mg base N x (defScope st) f cdv A outer s H EL) E → DPSs (cx P w K mg base N x (defScope st) f cdv A outer s H EL) (defBody st) (T E))
    (run : ∀ ds G Q E, C ds G Q E → T E { nx := fun _ G' => DrK Q .non G', rt := DrK Q, bk := fun _ _ => False, ct := fun _ _ => False } (dstart N ds) G) : CallOk P w K mg base (k + 1) x C := by
  obtain ⟨f, fd, F, hm, hb⟩ := D
  exact ⟨f, fd, ps, hm, F.kp, hb, fk_ok F S len (der f) run⟩
end
end FD

namespace FD
open PySem L2
section
variable {X : Cx} {pos : Pos}
theorem pgN (i : Nat) {x : Str} (hN : X.N.Nodup) (hi : X.N[i]? = some x := by rfl) (hx : Loc X.env.scope x := by first | exact .inl rfl | exact .inr rfl) (hf : X.fn x = true ∨ X.env.scope.names.lookup x = some .local := by first | exact .inl rfl | exact .inr rfl | assumption) : PG X (.Name x pos) (gName i) := pg_name hN hi hx hf
end
/-! ### running readings -/
theorem getS_zero {o : Option D} {σ : DSt} : getS (o :: σ) 0 = o := by cases o <;> rfl
theorem getS_succ {o : Option D} {σ : DSt} {n : Nat} : getS (o :: σ) (n + 1) = getS σ n := rfl
theorem atI_zero {α : Type} {x : α} {xs : List α} : atI (x :: xs) 0 = some x := by
  simp [atI, ixN]
theorem ixN_nat {n i : Nat} (h : i < n) : ixN n (i : Int) = some i := by
  unfold ixN
  rw [if_pos (by omega), if_pos (by omega)]
  simp
theorem atI_of {α : Type} {xs : List α} {i : Int} {j : Nat} (e : i = (j : Int)) : atI xs i = xs[j]? := by
  subst e
  unfold atI
  by_cases h : j < xs.length
  · rw [ixN_nat h]
    rfl
  · rw [List.getElem?_eq_none (by omega)]
    unfold ixN
    rw [if_pos (by omega), if_neg (by omega)]
    rfl
theorem atI_cast {α : Type} {xs : List α} {j : Nat} : atI xs (j : Int) = xs[j]? := atI_of rfl
theorem atI_1 {α : Type} {xs : List α} : atI xs 1 = xs[1]? := atI_of (j := 1) rfl
theorem atI_0 {α : Type} {xs : List α} : atI xs 0 = xs[0]? := atI_of (j := 0) rfl
theorem atI_2 {α : Type} {xs : List α} : atI xs 2 = xs[2]? := atI_of (j := 2) rfl
theorem ixN_0 {n : Nat} : ixN (n + 1) 0 = some 0 := ixN_nat (n := n + 1) (i := 0) (by omega)
theorem ixN_1 {n : Nat} : ixN (n + 1 + 1) 1 = some 1 := ixN_nat (n := n + 1 + 1) (i := 1) (by omega)
end FD
namespace FD
open PySem L2
/-! ### steps: one lemma a combinator -/
def tbl (d : D) (G : DG) (Q : Bool → DG → Prop) : Prop := match d with | .bl k => Q k G | _ => False
def br (k : Bool) (A B : Prop) : Prop := if k = true then A else B
def andB (x : D) (G : DG) (A : Prop) (Q : DK) : Prop := match x with | .bl true => A | .bl false => Q (.bl false) G | _ => False
def orB (x : D) (G : DG) (A : Prop) (Q : DK) : Prop := match x with | .bl false => A | .bl true => Q (.bl true) G | _ => False
def notB (x : D) (G : DG) (Q : DK) : Prop := match x with | .bl k => Q (.bl (!k)) G | _ => False
def partB (x : D) (G : DG) (Q : Option Int → DG → Prop) : Prop := match x with | .int i => Q (some i) G | _ => False
def mkT (xs : List D) (G : DG) (Q : DK) : Prop := xs.length ≤ sizeLine ∧ Q (.tup xs) G
def mkL (xs : List D) (G : DG) (Q : DK) : Prop := xs.length ≤ sizeLine ∧ ∀ p, G p = none → Q (.ref p) (up G p (.lst xs))
def rngB (xs : List D) (G : DG) (R : List D → (DG → Prop) → DG → Prop) : Prop := match xs with
  | [.int j] => -(2 ^ 62) ≤ j ∧ j < 2 ^ 62 ∧ R (rangeD 0 j) (fun _ => True) G
  | [.int i, .int j] => (-(2 ^ 62) ≤ i ∧ i < 2 ^ 62 ∧ -(2 ^ 62) ≤ j ∧ j < 2 ^ 62) ∧ R (rangeD i j) (fun _ => True) G
  | _ => False
def seqB (x : D) (G : DG) (R : List D → (DG → Prop) → DG → Prop) : Prop := match x with
  | .tup xs => R xs (fun _ => True) G
  | .lis xs => R xs (fun _ => True) G
  | .ref p => match G p with
    | some (.lst xs) => R xs (fun G' => G' p = some (.lst xs)) G
    | _ => False
  | _ => False
def parB (i j : Nat) (ds : List D) (σ : DSt) (G : DG) (Q : DSt → DG → Prop) : Prop := match ds with
  | [d, e] => Q ((σ.set i (some d)).set j (some e)) G
  | _ => False
section
variable {σ : DSt} {G : DG} {Q : DK} {QB : Bool → DG → Prop} {QL : List D → DG → Prop} {i j : Nat} {d x y : D} {f : F2} {g1 : F1} {fl : FL} {fm : FM} {ta tb tc te : DE} {ts : DA} {c c' : DTt} {t u : DS} {E : DEnds} {nx bk ct : DSt → DG → Prop} {rt : DK} {a b n m : Int} {p q : Addr} {xs ys : List D} {s z : Str} {K : Prop}
theorem s_var (e : getS σ i = some d) (h : Q d G) : dVar i σ G Q := by unfold dVar; rw [e]; exact h
theorem s_c (h : Q d G) : dC d σ G Q := h
theorem s_op (h : ta σ G fun x G1 => tb σ G1 fun y G2 => f x y G2 Q) : dOp f ta tb σ G Q := h
theorem s_un (h : ta σ G fun x G1 => g1 x G1 Q) : dUn g1 ta σ G Q := h
theorem s_cb (h : ts σ G fun xs G1 => fl xs G1 Q) : dCB fl ts σ G Q := h
theorem s_nil (h : QL [] G) : dNil σ G QL := h
theorem s_cons (h : ta σ G fun x G1 => ts σ G1 fun xs G2 => QL (x :: xs) G2) : dCons ta ts σ G QL := h
theorem s_tup (h : ts σ G fun xs G1 => mkT xs G1 Q) : dTup ts σ G Q := h
theorem s_lst (h : ts σ G fun xs G1 => mkL xs G1 Q) : dLst ts σ G Q := h
theorem s_mkT (e : xs.length ≤ sizeLine) (h : Q (.tup xs) G) : mkT xs G Q := ⟨e, h⟩
theorem s_mkL (e : xs.length ≤ sizeLine) (h : ∀ p, G p = none → Q (.ref p) (up G p (.lst xs))) : mkL xs G Q := ⟨e, h⟩
theorem s_mt {to : DE} (h : to σ G fun x G1 => isLst x G1 ∧ ts σ G1 fun xs G2 => fm x xs G2 Q) : dMt fm to ts σ G Q := h
theorem s_isl {A : Prop} (e : G p = some (.lst xs)) (h : A) : isLst (.ref p) G ∧ A := ⟨⟨xs, by simp [lstD, e]⟩, h⟩
theorem s_test (h : ta σ G fun d G' => tbl d G' QB) : dTest ta σ G QB := h
theorem s_tbl {k : Bool} (h : QB k G) : tbl (.bl k) G QB := h
theorem s_not (h : c σ G fun k G1 => QB (!k) G1) : dNot c σ G QB := h
theorem s_and (h : c σ G fun k G1 => br k (c' σ G1 QB) (QB false G1)) : dAnd c c' σ G QB := h
theorem s_or (h : c σ G fun k G1 => br k (QB true G1) (c' σ G1 QB)) : dOr c c' σ G QB := h
theorem s_tru (h : ta σ G fun d G' => optT (truD d G') G' QB) : dTru ta σ G QB := h
theorem s_optT {k : Bool} {o : Option Bool} (e : o = some k) (h : QB k G) : optT o G QB := by rw [e]; exact h
theorem s_ifE (h : c σ G fun k G1 => br k (ta σ G1 Q) (tb σ G1 Q)) : dIfE c ta tb σ G Q := h
theorem s_andV (h : ta σ G fun x G1 => andB x G1 (tb σ G1 Q) Q) : dAndV ta tb σ G Q := h
theorem s_orV (h : ta σ G fun x G1 => orB x G1 (tb σ G1 Q) Q) : dOrV ta tb σ G Q := h
theorem s_notV (h : ta σ G fun x G1 => notB x G1 Q) : dNotV ta σ G Q := h
theorem s_notB {k : Bool} (h : Q (.bl (!k)) G) : notB (.bl k) G Q := h
theorem s_andB {k : Bool} {A : Prop} (h : br k A (Q (.bl false) G)) : andB (.bl k) G A Q := by cases k <;> exact h
theorem s_orB {k : Bool} {A : Prop} (h : br k (Q (.bl true) G) A) : orB (.bl k) G A Q := by cases k <;> exact h
theorem s_asg {g : DTg} (h : ta σ G fun x G1 => g x σ G1 nx) : dAsg ta g ⟨nx, rt, bk, ct⟩ σ G := h
theorem s_gn {QS : DSt → DG → Prop} (h : QS (σ.set i (some d)) G) : dgName i d σ G QS := h
theorem s_gs {to ti : DE} {QS : DSt → DG → Prop} (h : to σ G fun o G1 => ti σ G1 fun i G2 => setD o i d G2 fun G3 => QS σ G3) : dgSub to ti d σ G QS := h
theorem s_setD {k : Int} {R : DG → Prop} (e : G p = some (.lst xs)) (e2 : ixN xs.length k = some j) (h : R (up G p (.lst (xs.set j d)))) : setD (.ref p) (.int k) d G R := ⟨xs, j, e, e2, h⟩
theorem s_gt {gs : DTgs} {QS : DSt → DG → Prop} (h : gs xs σ G QS) (e : xs.length = i) : dgTup i gs (.tup xs) σ G QS := ⟨e, h⟩
theorem s_gtl {gs : DTgs} {QS : DSt → DG → Prop} (h : gs xs σ G QS) (e : xs.length = i) : dgTup i gs (.tpl xs) σ G QS := ⟨e, h⟩
theorem s_gc {g : DTg} {gs : DTgs} {QS : DSt → DG → Prop} (h : g d σ G fun σ' G' => gs xs σ' G' QS) : dgCons g gs (d :: xs) σ G QS := h
theorem s_gni {QS : DSt → DG → Prop} (h : QS σ G) : dgNil [] σ G QS := ⟨rfl, h⟩
theorem s_par (h : ts σ G fun ds G1 => parB i j ds σ G1 nx) : dPar i j ts ⟨nx, rt, bk, ct⟩ σ G := h
theorem s_parB {QS : DSt → DG → Prop} (h : QS ((σ.set i (some x)).set j (some y)) G) : parB i j [x, y] σ G QS := h
theorem s_drop (h : ta σ G fun _ G1 => nx σ G1) : dDrop ta ⟨nx, rt, bk, ct⟩ σ G := h
theorem s_ret (h : ta σ G rt) : dRet ta ⟨nx, rt, bk, ct⟩ σ G := h
theorem s_retN (h : rt .non G) : dRetN ⟨nx, rt, bk, ct⟩ σ G := h
theorem s_if (h : c σ G fun k G1 => br k (t E σ G1) (u E σ G1)) : dIf c t u E σ G := h
theorem s_pass (h : nx σ G) : dPass ⟨nx, rt, bk, ct⟩ σ G := h
theorem s_next (h : nx σ G) : dNext ⟨nx, rt, bk, ct⟩ σ G := h
theorem s_brk (h : bk σ G) : dBreak ⟨nx, rt, bk, ct⟩ σ G := h
theorem s_cnt (h : ct σ G) : dCont ⟨nx, rt, bk, ct⟩ σ G := h
theorem s_seq (h : t ⟨Go u ⟨nx, rt, bk, ct⟩, rt, bk, ct⟩ σ G) : dSeq t u ⟨nx, rt, bk, ct⟩ σ G := h
theorem s_go (h : u E σ G) : Go u E σ G := ⟨G, .refl G, h⟩
theorem s_goD {G0 : DG} (l : Le G0 G) (h : u E σ G0) : Go u E σ G := ⟨G0, l, h⟩
theorem s_rtD {G0 : DG} (l : Le G0 G) (h : Q d G0) : DrK Q d G := ⟨G0, l, h⟩
theorem s_rt (h : Q d G) : DrK Q d G := ⟨G, .refl G, h⟩
theorem s_dr {N : DSt → DG → Prop} {G0 : DG} (l : Le G0 G) (h : N σ G0) : Dr N σ G := ⟨G0, l, h⟩
theorem s_for {ti : DI} {g : DTg} (h : ti σ G fun items ok G1 => DLoop g t ok E items σ G1) : dFor ti g t E σ G := h
theorem s_lc {ti : DI} {bd : D → DSt → Option DSt} {vs : List Nat} (h : ti σ G fun items ok G1 => ∀ p, G1 p = none → DComp bd vs c ta ok p σ Q items (up G1 p (.lst []))) : dLc ti bd vs c ta σ G Q := h
theorem s_rng {R : List D → (DG → Prop) → DG → Prop} (h : ts σ G fun xs G1 => rngB xs G1 R) : diRange ts σ G R := h
theorem s_rng1 {R : List D → (DG → Prop) → DG → Prop} (e : -(2 ^ 62) ≤ a ∧ a < 2 ^ 62) (h : R (rangeD 0 a) (fun _ => True) G) : rngB [.int a] G R := ⟨e.1, e.2, h⟩
theorem s_rng2 {R : List D → (DG → Prop) → DG → Prop} (e : -(2 ^ 62) ≤ a ∧ a < 2 ^ 62 ∧ -(2 ^ 62) ≤ b ∧ b < 2 ^ 62) (h : R (rangeD a b) (fun _ => True) G) : rngB [.int a, .int b] G R := ⟨e, h⟩
theorem s_dseq {R : List D → (DG → Prop) → DG → Prop} (h : ta σ G fun x G1 => seqB x G1 R) : diSeq ta σ G R := h
theorem s_seqT {R : List D → (DG → Prop) → DG → Prop} (h : R xs (fun _ => True) G) : seqB (.tup xs) G R := h
theorem s_seqS {R : List D → (DG → Prop) → DG → Prop} (h : R xs (fun _ => True) G) : seqB (.lis xs) G R := h
theorem s_seqL {R : List D → (DG → Prop) → DG → Prop} (e : G p = some (.lst xs)) (h : R xs (fun G' => G' p = some (.lst xs)) G) : seqB (.ref p) G R := by simp only [seqB, e]; exact h
theorem s_sl {tl th : DO} (h : te σ G fun x G1 => tl σ G1 fun l G2 => th σ G2 fun u G3 => sliceD x l u G3 Q) : dSl te tl th σ G Q := h
theorem s_np {QO : Option Int → DG → Prop} (h : QO none G) : dNoPart σ G QO := h
theorem s_pt {QO : Option Int → DG → Prop} (h : ta σ G fun x G1 => partB x G1 QO) : dPart ta σ G QO := h
theorem s_ptB {QO : Option Int → DG → Prop} (h : QO (some a) G) : partB (.int a) G QO := h
theorem s_sliceT {lo hi : Option Int} (h : Q (.tup (cutD xs lo hi)) G) : sliceD (.tup xs) lo hi G Q := h
theorem s_sliceL {lo hi : Option Int} (e : G p = some (.lst xs)) (h : ∀ n, G n = none → Q (.ref n) (up G n (.lst (cutD xs lo hi)))) : sliceD (.ref p) lo hi G Q := by simp only [sliceD, e]; exact h
theorem s_sliceS {lo hi : Option Int} (h : ∀ n, G n = none → Q (.ref n) (up G n (.lst (cutD xs lo hi)))) : sliceD (.lis xs) lo hi G Q := h
theorem s_call {C : Ct} {X : DX} (h : ts σ G fun ds G1 => UpC C ds G1 Q X) : dCall C X ts σ G Q := h
theorem s_addI (h : Q (.int (a + b)) G) : addD (.int a) (.int b) G Q := h
theorem s_addT (e : xs.length + ys.length ≤ sizeLine) (h : Q (.tup (xs ++ ys)) G) : addD (.tup xs) (.tup ys) G Q := ⟨e, h⟩
theorem s_addL (e1 : G p = some (.lst xs)) (e2 : G q = some (.lst ys)) (e : xs.length + ys.length ≤ sizeLine) (h : ∀ n, G n = none → Q (.ref n) (up G n (.lst (xs ++ ys)))) : addD (.ref p) (.ref q) G Q := ⟨xs, ys, e1, e2, e, h⟩
theorem s_addS (e : s.length + z.length ≤ sizeLine) (h : Q (.str (s ++ z)) G) : addD (.str s) (.str z) G Q := ⟨e, h⟩
theorem s_subI (h : Q (.int (a - b)) G) : subD (.int a) (.int b) G Q := ⟨trivial, h⟩
theorem s_modI (e : 0 < b) (h : Q (.int (a % b)) G) : modD (.int a) (.int b) G Q := ⟨e, h⟩
theorem s_divI (e : CDiv a b) (h : Q (.int (a / b)) G) : divD (.int a) (.int b) G Q := ⟨e, h⟩
theorem s_powI (e : CPow a b) (h : Q (.int (a ^ b.toNat)) G) : powD (.int a) (.int b) G Q := ⟨e, h⟩
theorem s_mulI (e : CMul a b) (h : Q (.int (a * b)) G) : mulD (.int a) (.int b) G Q := ⟨e, h⟩
theorem s_mulL (e1 : G p = some (.lst xs)) (e : (0 ≤ a ∧ a < 2 ^ 62) ∧ xs.length * a.toNat ≤ sizeLine) (h : ∀ n, G n = none → Q (.ref n) (up G n (.lst (List.replicate a.toNat xs).flatten))) : mulD (.ref p) (.int a) G Q := ⟨xs, e1, by omega, by omega, e.2, h⟩
theorem s_mulT (e : xs ≠ [] ∧ -1000 ≤ a ∧ a ≤ 1000 ∧ xs.length ≤ 1000) (h : Q (.tup (List.replicate a.toNat xs).flatten) G) : mulD (.tup xs) (.int a) G Q := ⟨e.1, e.2.1, e.2.2.1, e.2.2.2, h⟩
theorem s_negI (h : Q (.int (-a)) G) : negD (.int a) G Q := h
theorem s_ltI (h : Q (.bl (decide (a < b))) G) : ltD (.int a) (.int b) G Q := ⟨trivial, h⟩
theorem s_leI (h : Q (.bl (decide (a ≤ b))) G) : leD (.int a) (.int b) G Q := ⟨trivial, h⟩
theorem s_gtI (h : Q (.bl (decide (b < a))) G) : gtD (.int a) (.int b) G Q := ⟨trivial, h⟩
theorem s_geI (h : Q (.bl (decide (b ≤ a))) G) : geD (.int a) (.int b) G Q := ⟨trivial, h⟩
theorem s_itT (e : atI xs a = some d) (h : Q d G) : itemD (.tup xs) (.int a) G Q := by simp only [itemD, e]; exact h
theorem s_itS (e : atI xs a = some d) (h : Q d G) : itemD (.lis xs) (.int a) G Q := by simp only [itemD, e]; exact h
theorem s_itL (e1 : G p = some (.lst xs)) (e : atI xs a = some d) (h : Q d G) : itemD (.ref p) (.int a) G Q := by simp only [itemD, e1, e]; exact h
theorem s_eqS (h : Q (.bl (decide (s = z))) G) : eqD (.str s) (.str z) G Q := h
theorem s_neS (h : Q (.bl (!decide (s = z))) G) : neD (.str s) (.str z) G Q := h
theorem s_eqI (h : Q (.bl (a == b)) G) : eqD (.int a) (.int b) G Q := h
theorem s_neI (h : Q (.bl (!(a == b))) G) : neD (.int a) (.int b) G Q := h
theorem s_lenT (h : Q (.int xs.length) G) : lenD [.tup xs] G Q := h
theorem s_lenS (h : Q (.int xs.length) G) : lenD [.lis xs] G Q := h
theorem s_lenL (e : G p = some (.lst xs)) (h : Q (.int xs.length) G) : lenD [.ref p] G Q := by simp only [lenD, optL, seqD, e]; exact h
theorem s_lenX (e : s.length ≤ sizeLine) (h : Q (.int s.length) G) : lenD [.str s] G Q := ⟨e, h⟩
theorem s_listT (h : ∀ p, G p = none → Q (.ref p) (up G p (.lst xs))) : listD [.tup xs] G Q := h
theorem s_listL (e : G p = some (.lst xs)) (h : ∀ n, G n = none → Q (.ref n) (up G n (.lst xs))) : listD [.ref p] G Q := by simp only [listD, optL, seqD, e]; exact h
theorem s_listS (h : ∀ p, G p = none → Q (.ref p) (up G p (.lst xs))) : listD [.lis xs] G Q := h
theorem s_tupT (h : Q (.tup xs) G) : tupleD [.tup xs] G Q := h
theorem s_tupL (e : G p = some (.lst xs)) (h : Q (.tup xs) G) : tupleD [.ref p] G Q := by simp only [tupleD, optL, seqD, e]; exact h
theorem s_maxI (h : Q (.int (if b > a then b else a)) G) : maxD [.int a, .int b] G Q := h
theorem s_minI (h : Q (.int (if b < a then b else a)) G) : minD [.int a, .int b] G Q := h
theorem s_absI (h : Q (.int (if a < 0 then -a else a)) G) : absD [.int a] G Q := h
theorem s_sumL {ns : List Int} (e : G p = some (.lst (ns.map .int))) (h : Q (.int ns.sum) G) : sumD [.ref p] G Q := ⟨ns, by simp [lstD, e, intsD_map], h⟩
theorem s_maxL {ns : List Int} (e : G p = some (.lst (ns.map .int))) (e2 : 0 < ns.length) (h : ∀ m, m ∈ ns → (∀ y, y ∈ ns → y ≤ m) → Q (.int m) G) : maxD [.ref p] G Q := ⟨ns, by simp [lstD, e, intsD_map], e2, h⟩
theorem s_minL {ns : List Int} (e : G p = some (.lst (ns.map .int))) (e2 : 0 < ns.length) (h : ∀ m, m ∈ ns → (∀ y, y ∈ ns → m ≤ y) → Q (.int m) G) : minD [.ref p] G Q := ⟨ns, by simp [lstD, e, intsD_map], e2, h⟩
theorem s_allL {bs : List Bool} (e : G p = some (.lst (bs.map .bl))) (h : Q (.bl (bs.all id)) G) : allD [.ref p] G Q := ⟨bs, by simp [lstD, e, blsD_map], h⟩
theorem s_app (e : G p = some (.lst xs)) (e2 : xs.length < sizeLine) (h : Q .non (up G p (.lst (xs ++ [d])))) : appendD (.ref p) [d] G Q := ⟨xs, e, e2, h⟩
theorem s_ext (e : G p = some (.lst xs)) (e2 : G q = some (.lst ys)) (e3 : xs.length + ys.length ≤ sizeLine) (h : Q .non (up G p (.lst (xs ++ ys)))) : extendD (.ref p) [.ref q] G Q := ⟨xs, ys, e, e2, e3, h⟩
theorem s_ins (e : G p = some (.lst xs)) (e2 : xs.length < sizeLine) (e3 : 0 ≤ a ∧ a < 2 ^ 62) (h : Q .non (up G p (.lst (xs.take a.toNat ++ d :: xs.drop a.toNat)))) : insertD (.ref p) [.int a, d] G Q := ⟨xs, e, e2, e3.1, by omega, h⟩
theorem s_pop (e : G p = some (.lst (xs ++ [d]))) (h : Q d (up G p (.lst xs))) : popD (.ref p) [] G Q := ⟨xs ++ [d], d, e, by simp, by simpa using h⟩
theorem s_clr (e : G p = some (.lst xs)) (h : Q .non (up G p (.lst []))) : clearD (.ref p) [] G Q := ⟨xs, e, h⟩
theorem s_isi {tn nm : String} (e : tyN x G = some tn) (e2 : nm ∈ tys) (h : Q (.bl (isiB tn nm)) G) : isinstD [x, .ty nm] G Q := by simp only [isinstD, e]; exact ⟨e2, h⟩
theorem s_repr {pd : PyData} (e : pyD 9 G x = some pd) (e2 : isCont pd = true) (e3 : RepOk pd) (h : Q (.str pd.shown) G) : reprD [x] G Q := by simp only [reprD, e]; exact ⟨e2, e3, h⟩
theorem s_isNN (h : Q (.bl true) G) : isD false .non .non G Q := h
theorem s_isnNN (h : Q (.bl false) G) : isD true .non .non G Q := h
theorem s_isIN (h : Q (.bl false) G) : isD false (.int a) .non G Q := h
theorem s_isnIN (h : Q (.bl true) G) : isD true (.int a) .non G Q := h
theorem br_t {A B : Prop} (h : A) : br true A B := by unfold br; rw [if_pos rfl]; exact h
theorem br_f {A B : Prop} (h : B) : br false A B := by unfold br; rw [if_neg (by decide)]; exact h
theorem br_dec {c A B : Prop} [Decidable c] (h1 : c → A) (h2 : ¬ c → B) : br (decide c) A B := by
  by_cases h : c
  · rw [decide_eq_true h]; exact br_t (h1 h)
  · rw [decide_eq_false h]; exact br_f (h2 h)
theorem br_pos {c A B : Prop} [Decidable c] (hc : c) (h : A) : br (decide c) A B := by rw [decide_eq_true hc]; exact br_t h
theorem br_neg {c A B : Prop} [Decidable c] (hc : ¬ c) (h : B) : br (decide c) A B := by rw [decide_eq_false hc]; exact br_f h
theorem br_tt {k : Bool} {A B : Prop} (e : k = true) (h : A) : br k A B := e ▸ br_t h
theorem br_ff {k : Bool} {A B : Prop} (e : k = false) (h : B) : br k A B := e ▸ br_f h
theorem br_eq {k k' : Bool} {A B : Prop} (e : k = k') (h : br k' A B) : br k A B := e ▸ h
theorem br_bool {k : Bool} {A B : Prop} (h1 : k = true → A) (h2 : k = false → B) : br k A B := by
  cases k with
  | true => exact br_t (h1 rfl)
  | false => exact br_f (h2 rfl)
theorem up_nx {o o' : O} (e : q ≠ p) (h : G q = some o') : up G p o q = some o' := by rw [up_ne e]; exact h
theorem up_nn {o : O} (e : q ≠ p) (h : G q = none) : up G p o q = none := by rw [up_ne e]; exact h
theorem le_new {G' : DG} {o : O} (h : G p = none) (l : Le G G') : Le G (up G' p o) := fun b ob e => up_nx (gne e h) (l b ob e)
theorem le_up {G' : DG} {o : O} (l : Le G G') : Le (up G p o) (up G' p o) := fun b ob e => by
  by_cases hb : b = p
  · subst hb
    rw [up_same] at e ⊢
    exact e
  · rw [up_ne hb] at e ⊢
    exact l b ob e
theorem le_put {G' : DG} {o : O} (l : Le G G') (h : G' p = some o) : Le (up G p o) G' := fun b ob e => by
  by_cases hb : b = p
  · subst hb
    rw [up_same] at e
    rw [h]
    exact e
  · rw [up_ne hb] at e
    exact l b ob e
theorem up_comm {o o' : O} (h : p ≠ q) : up (up G p o) q o' = up (up G q o') p o := by
  funext b
  unfold up
  by_cases h1 : b = q
  · subst h1
    simp [Ne.symm h]
  · simp [h1]
theorem up_free {o : O} (h : up G p o q = none) : G q = none := by
  by_cases e : q = p
  · subst e
    rw [up_same] at h
    cases h
  · rw [up_ne e] at h
    exact h
theorem up_free_ne {o : O} (h : up G p o q = none) : q ≠ p := fun e => by
  subst e
  rw [up_same] at h
  cases h
def LeX (xs : List Addr) (G G' : DG) : Prop := ∀ b ob, b ∉ xs → G b = some ob → G' b = some ob
theorem LeX.le {G' : DG} (h : LeX [] G G') : Le G G' := fun b ob e => h b ob (by simp) e
theorem lex_refl {ws : List Addr} : LeX ws G G := fun _ _ _ e => e
theorem lex_put {ws : List Addr} {G' : DG} {o : O} (h : G' p = some o) (l : LeX (p :: ws) G G') : LeX ws (up G p o) G' := fun b ob hb e => by
  by_cases h1 : b = p
  · subst h1
    rw [up_same] at e
    rw [h]
    exact e
  · rw [up_ne h1] at e
    exact l b ob (by simp [h1, hb]) e
theorem lex_mem {ws : List Addr} {G' : DG} {o : O} (h : p ∈ ws) (l : LeX ws G G') : LeX ws G (up G' p o) := fun b ob hb e => by
  rw [up_ne (show b ≠ p from fun z => hb (by rw [z]; exact h))]
  exact l b ob hb e
theorem lex_new {ws : List Addr} {G' : DG} {o : O} (h : G p = none) (l : LeX ws G G') : LeX ws G (up G' p o) := fun b ob hb e => by
  rw [up_ne (gne e h)]
  exact l b ob hb e
theorem szL {n : Nat} (h : n ≤ 100000) : n ≤ sizeLine := Nat.le_trans h (by decide)
theorem szLt {n : Nat} (h : n < 100000) : n < sizeLine := Nat.lt_of_lt_of_le h (by decide)
end
/-! ### loops -/
theorem loop_inv {g : DTg} {tb : DS} {ok : DG → Prop} {nx bk ct : DSt → DG → Prop} {rt : DK} {xs : List D} {σ : DSt} {G : DG} (Pv : Nat → DSt → DG → Prop) (h0 : Pv 0 σ G) (hok : ∀ i σ G, i ≤ xs.length → Pv i σ G → ok G)
    (hs : ∀ (i : Nat) (d : D) (σ : DSt) (G : DG) (N : DSt → DG → Prop), xs[i]? = some d → i < xs.length → Pv i σ G → (∀ σ' G' G0, Le G0 G' → Pv (i + 1) σ' G0 → N σ' G') → g d σ G fun σ' G' => tb ⟨N, rt, nx, N⟩ σ' G')
    (hd : ∀ σ G, Pv xs.length σ G → nx σ G) : DLoop g tb ok ⟨nx, rt, bk, ct⟩ xs σ G := by
  have q : ∀ (n i : Nat) (σ : DSt) (G : DG), n = xs.length - i → i ≤ xs.length → Pv i σ G → DLoop g tb ok ⟨nx, rt, bk, ct⟩ (xs.drop i) σ G := by
    intro n
    induction n with
    | zero =>
      intro i σ G hn hi h
      have e : i = xs.length := by omega
      subst e
      rw [List.drop_length]
      exact ⟨hok _ _ _ hi h, hd σ G h⟩
    | succ n ih =>
      intro i σ G hn hi h
      have hlt : i < xs.length := by omega
      rw [List.drop_eq_getElem_cons hlt]
      exact ⟨hok _ _ _ hi h, hs i xs[i] σ G _ (List.getElem?_eq_getElem hlt) hlt h fun σ' G' G0 l p => ⟨G0, l, ih (i + 1) σ' G0 (by omega) (by omega) p⟩⟩
  have := q _ 0 σ G rfl (Nat.zero_le _) h0
  rwa [List.drop_zero] at this
theorem rangeD_get {lo hi : Int} {i : Nat} {d : D} (h : (rangeD lo hi)[i]? = some d) : d = .int (lo + i) ∧ (i : Int) < hi - lo := by
  have hl := (List.getElem?_eq_some_iff.mp h).1
  rw [rangeD_length] at hl
  unfold rangeD at h
  rw [List.getElem?_map, List.getElem?_range hl] at h
  cases h
  exact ⟨rfl, by omega⟩
theorem rangeD_get0 {n : Int} {i : Nat} {d : D} (h : (rangeD 0 n)[i]? = some d) : d = .int (i : Nat) ∧ (i : Int) < n := by
  obtain ⟨h1, h2⟩ := rangeD_get h
  exact ⟨by rw [h1]; simp, by omega⟩
theorem while_by {c : DTt} {tb : DS} {nx bk ct : DSt → DG → Prop} {rt : DK} {σ : DSt} {G : DG} (Pv : DSt → DG → Prop) (mu : DSt → DG → Nat) (h0 : Pv σ G)
    (hs : ∀ (σ : DSt) (G : DG) (N : DSt → DG → Prop), Pv σ G → (∀ σ' G' G0, Le G0 G' → Pv σ' G0 → mu σ' G0 < mu σ G → N σ' G') → c σ G fun k G1 => br k (tb ⟨N, rt, nx, N⟩ σ G1) (nx σ G1)) : dWhile c tb ⟨nx, rt, bk, ct⟩ σ G := by
  have q : ∀ (n : Nat) (σ : DSt) (G : DG), mu σ G < n → Pv σ G → DWh c tb ⟨nx, rt, bk, ct⟩ n σ G := by
    intro n
    induction n with
    | zero => intro σ G h _; omega
    | succ n ih =>
      intro σ G hm h
      exact hs σ G _ h fun σ' G' G0 l p lt => ⟨G0, l, ih σ' G0 (by omega) p⟩
  exact ⟨_, q _ σ G (Nat.lt_succ_self _) h0⟩
/-- a comprehension whose parts leave the heap as it is: a filter and a map over the items -/
theorem comp_pure {α : Type} {bd : D → DSt → Option DSt} {vs : List Nat} {tt : DTt} {te : DE} {ok : DG → Prop} {p : Addr} {σ : DSt} {Q : DK} {G : DG} (xs : List α) (enc : α → D) (keep : α → Bool) (f : α → D) (hlen : xs.length < 100000) (hp : G p = none)
    (hok : ∀ o, ok (up G p o))
    (hs : ∀ x ∈ xs, ∀ o, ∃ σ', bd (enc x) (dwipe σ vs) = some σ' ∧ (∀ QB : Bool → DG → Prop, QB (keep x) (up G p o) → tt σ' (up G p o) QB) ∧ (keep x = true → ∀ QD : DK, QD (f x) (up G p o) → te σ' (up G p o) QD))
    (h : Q (.ref p) (up G p (.lst ((xs.filter keep).map f)))) : DComp bd vs tt te ok p σ Q (xs.map enc) (up G p (.lst [])) := by
  have q : ∀ (r l : List α), xs = l ++ r → DComp bd vs tt te ok p σ Q (r.map enc) (up G p (.lst ((l.filter keep).map f))) := by
    intro r
    induction r with
    | nil =>
      intro l e
      rw [List.append_nil] at e
      subst e
      exact ⟨hok _, h⟩
    | cons x r ih =>
      intro l e
      obtain ⟨σ', h1, h2, h3⟩ := hs x (by rw [e]; simp) (.lst ((l.filter keep).map f))
      refine ⟨hok _, ?_⟩
      rw [h1]
      have e2 : xs = (l ++ [x]) ++ r := by rw [e]; simp
      have nx := ih (l ++ [x]) e2
      refine h2 _ ?_
      cases hk : keep x with
      | false =>
        refine ⟨_, .refl _, ?_⟩
        rw [List.filter_append] at nx
        simpa [hk] using nx
      | true =>
        refine h3 hk _ ⟨_, up_same, ?_, _, .refl _, ?_⟩
        · refine szLt ?_
          rw [List.length_map]
          have a1 := List.length_filter_le keep l
          have a2 : l.length ≤ xs.length := by rw [e]; simp
          omega
        · rw [up_up]
          rw [List.filter_append] at nx
          simpa [hk] using nx
  exact q xs [] rfl
theorem comp_map {α : Type} {bd : D → DSt → Option DSt} {vs : List Nat} {te : DE} {ok : DG → Prop} {p : Addr} {σ : DSt} {Q : DK} {G : DG} (xs : List α) (enc f : α → D) (hlen : xs.length < 100000) (hp : G p = none) (hok : ∀ o, ok (up G p o))
    (hs : ∀ x ∈ xs, ∀ o, ∃ σ', bd (enc x) (dwipe σ vs) = some σ' ∧ ∀ QD : DK, QD (f x) (up G p o) → te σ' (up G p o) QD) (h : Q (.ref p) (up G p (.lst (xs.map f)))) : DComp bd vs dYes te ok p σ Q (xs.map enc) (up G p (.lst [])) := by
  refine comp_pure xs enc (fun _ => true) f hlen hp hok (fun x hx o => ?_) ?_
  · obtain ⟨σ', h1, h2⟩ := hs x hx o
    exact ⟨σ', h1, fun QB h => h, fun _ => h2⟩
  · rw [List.filter_eq_self.mpr (fun _ _ => rfl)]
    exact h
theorem cutD_upto {xs : List D} {n : Nat} : cutD xs none (some (n : Int)) = xs.take n := by
  unfold cutD
  rw [HT.sIx_none, HT.sIx_nat]
  simp only [List.drop_zero, Nat.sub_zero]
  by_cases h : n ≤ xs.length
  · rw [Nat.min_eq_left h]
  · rw [Nat.min_eq_right (by omega), List.take_length, List.take_of_length_le (by omega)]
theorem cutD_from {xs : List D} {n : Nat} : cutD xs (some (n : Int)) none = xs.drop n := by
  unfold cutD
  rw [HT.sIx_none, HT.sIx_nat]
  by_cases h : n ≤ xs.length
  · rw [Nat.min_eq_left h]
    exact List.take_of_length_le (by simp)
  · rw [Nat.min_eq_right (by omega), List.drop_eq_nil_of_le (Nat.le_refl _), List.drop_eq_nil_of_le (by omega), List.take_nil]
/-- a comprehension without a test, by an invariant over the heap -/
theorem comp_inv {bd : D → DSt → Option DSt} {vs : List Nat} {te : DE} {ok : DG → Prop} {p : Addr} {σ : DSt} {Q : DK} {xs : List D} {G : DG} (Pv : Nat → DG → Prop) (h0 : Pv 0 G) (hok : ∀ i G, i ≤ xs.length → Pv i G → ok G)
    (hs : ∀ (i : Nat) (d : D) (G : DG), xs[i]? = some d → i < xs.length → Pv i G → ∃ σ', bd d (dwipe σ vs) = some σ' ∧ ∀ N : DG → Prop, (∀ G' G0, Le G0 G' → Pv (i + 1) G0 → N G') → te σ' G fun y G4 => ∃ acc, G4 p = some (.lst acc) ∧ acc.length < sizeLine ∧ N (up G4 p (.lst (acc ++ [y]))))
    (hd : ∀ G, Pv xs.length G → Q (.ref p) G) : DComp bd vs dYes te ok p σ Q xs G := by
  have q : ∀ (n i : Nat) (G : DG), n = xs.length - i → i ≤ xs.length → Pv i G → DComp bd vs dYes te ok p σ Q (xs.drop i) G := by
    intro n
    induction n with
    | zero =>
      intro i G hn hi h
      have e : i = xs.length := by omega
      subst e
      rw [List.drop_length]
      exact ⟨hok _ _ hi h, hd G h⟩
    | succ n ih =>
      intro i G hn hi h
      have hlt : i < xs.length := by omega
      rw [List.drop_eq_getElem_cons hlt]
      obtain ⟨σ', h1, h2⟩ := hs i xs[i] G (List.getElem?_eq_getElem hlt) hlt h
      refine ⟨hok _ _ hi h, ?_⟩
      rw [h1]
      exact h2 (fun G' => ∃ G0, Le G0 G' ∧ DComp bd vs dYes te ok p σ Q (xs.drop (i + 1)) G0) fun G' G0 l p => ⟨G0, l, ih (i + 1) G0 (by omega) (by omega) p⟩
  have := q _ 0 G rfl (Nat.zero_le _) h0
  rwa [List.drop_zero] at this
end FD

namespace FD
open PySem L2
theorem s_isiL {G : DG} {Q : DK} {p : Addr} {xs : List D} {nm : String} (e : G p = some (.lst xs)) (e2 : nm ∈ tys) (h : Q (.bl (isiB "list" nm)) G) : isinstD [.ref p, .ty nm] G Q := s_isi (tn := "list") (by simp [tyN, e]) e2 h
/-! ### what can be shown -/
structure Okd (b : Nat) (d : PyData) : Prop where
  s : d.showable = true
  l : d.leavesShort 13 = true
  w : d.bulk ≤ b
theorem Okd.mono {b c : Nat} {d : PyData} (h : Okd b d) (l : b ≤ c) : Okd c d := ⟨h.s, h.l, Nat.le_trans h.w l⟩
theorem log_small {n : Nat} (h : n < 10 ^ 12) : n.log2 < 1920 := by
  by_cases h0 : n = 0
  · subst h0
    decide
  · rw [Nat.log2_lt h0]
    exact Nat.lt_of_lt_of_le h (Nat.le_trans (show 10 ^ 12 ≤ 2 ^ 40 by decide) (Nat.pow_le_pow_right (by decide) (by decide)))
theorem okd_int {i : Int} (h : i.natAbs < 10 ^ 12) : Okd 0 (.int i) := ⟨by simpa [PyData.showable] using log_small h, by simpa [PyData.leavesShort] using PyData.shown_int_le h, by simp [PyData.bulk]⟩
theorem okd_none : Okd 0 .none := ⟨rfl, rfl, by simp [PyData.bulk]⟩
theorem okd_bool {k : Bool} : Okd 0 (.bool k) := ⟨rfl, rfl, by simp [PyData.bulk]⟩
theorem okd_all {b : Nat} : ∀ {ds : List PyData}, (∀ d ∈ ds, Okd b d) → PyData.showableAll ds = true ∧ PyData.leavesShortAll 13 ds = true ∧ PyData.bulkAll ds ≤ ds.length * (b + 1)
  | [], _ => ⟨rfl, rfl, by simp [PyData.bulkAll]⟩
  | d :: ds, h => by
    obtain ⟨h1, h2, h3⟩ := okd_all (ds := ds) fun d hd => h d (by simp [hd])
    have hd := h d (by simp)
    refine ⟨by simp [PyData.showableAll, hd.s, h1], by simp [PyData.leavesShortAll, hd.l, h2], ?_⟩
    have := hd.w
    simp only [PyData.bulkAll, List.length_cons, Nat.succ_mul]
    omega
theorem okd_list {b n : Nat} {ds : List PyData} (h : ∀ d ∈ ds, Okd b d) (hn : ds.length ≤ n) : Okd (n * (b + 1)) (.list ds) := by
  obtain ⟨h1, h2, h3⟩ := okd_all h
  exact ⟨by simpa [PyData.showable] using h1, by simpa [PyData.leavesShort] using h2, by simpa [PyData.bulk] using Nat.le_trans h3 (Nat.mul_le_mul_right _ hn)⟩
theorem okd_tuple {b n : Nat} {ds : List PyData} (h : ∀ d ∈ ds, Okd b d) (hn : ds.length ≤ n) : Okd (n * (b + 1)) (.tuple ds) := by
  obtain ⟨h1, h2, h3⟩ := okd_all h
  exact ⟨by simpa [PyData.showable] using h1, by simpa [PyData.leavesShort] using h2, by simpa [PyData.bulk] using Nat.le_trans h3 (Nat.mul_le_mul_right _ hn)⟩
theorem Okd.rep {b : Nat} {d : PyData} (h : Okd b d) (hb : b ≤ 2 ^ 20) : RepOk d := ⟨h.s, PyData.shown_fits_bulk (B := 13) (by decide) (by decide) h.l (Nat.le_trans h.w hb)⟩
theorem pyAll_map {α : Type} {f : D → Option PyData} {enc : α → D} {encP : α → PyData} : ∀ {xs : List α}, (∀ x ∈ xs, f (enc x) = some (encP x)) → pyAll f (xs.map enc) = some (xs.map encP)
  | [], _ => rfl
  | x :: xs, h => by
    rw [List.map_cons, List.map_cons]
    unfold pyAll
    rw [h x (by simp), pyAll_map fun y hy => h y (by simp [hy])]
theorem pyD_ref {n : Nat} {G : DG} {p : Addr} {xs : List D} {ps : List PyData} (h : G p = some (.lst xs)) (e : pyAll (pyD n G) xs = some ps) : pyD (n + 1) G (.ref p) = some (.list ps) := by
  simp only [pyD, h, e, Option.map_some]
theorem pyD_tup {n : Nat} {G : DG} {xs : List D} {ps : List PyData} (e : pyAll (pyD n G) xs = some ps) : pyD (n + 1) G (.tup xs) = some (.tuple ps) := by
  simp only [pyD, e, Option.map_some]
theorem pyD_int {n : Nat} {G : DG} {i : Int} : pyD n G (.int i) = some (.int i) := by cases n <;> rfl
theorem pyD_bl {n : Nat} {G : DG} {i : Bool} : pyD n G (.bl i) = some (.bool i) := by cases n <;> rfl
theorem pyD_non {n : Nat} {G : DG} : pyD n G .non = some .none := by cases n <;> rfl
theorem pyAll_nil {f : D → Option PyData} : pyAll f [] = some [] := rfl
theorem pyAll_c {f : D → Option PyData} {x : D} {xs : List D} {p : PyData} {ps : List PyData} (h : f x = some p) (h2 : pyAll f xs = some ps) : pyAll f (x :: xs) = some (p :: ps) := by
  unfold pyAll
  rw [h, h2]
/-! ### closed data: looked for, compared -/
structure EncOk {α : Type} [DecidableEq α] (enc : α → D) (encP : α → PyData) : Prop where
  py : ∀ (n : Nat) (G : DG) (x : α), pyD (n + 4) G (enc x) = some (encP x)
  eq : ∀ x y : α, PyData.eqv (encP x) (encP y) = decide (x = y)
theorem EncOk.any {α : Type} [DecidableEq α] {enc : α → D} {encP : α → PyData} (h : EncOk enc encP) (x : α) : ∀ xs : List α, ((xs.map encP).any fun z => PyData.eqv z (encP x)) = decide (x ∈ xs)
  | [] => by simp
  | y :: ys => by
    rw [List.map_cons, List.any_cons, h.any x ys, h.eq]
    by_cases e : y = x
    · subst e
      simp
    · simp [e, Ne.symm e]
theorem EncOk.all {α : Type} [DecidableEq α] {enc : α → D} {encP : α → PyData} (h : EncOk enc encP) : ∀ xs ys : List α, PyData.eqvAll (xs.map encP) (ys.map encP) = decide (xs = ys)
  | [], [] => by simp [PyData.eqvAll]
  | [], _ :: _ => by simp [PyData.eqvAll]
  | _ :: _, [] => by simp [PyData.eqvAll]
  | x :: xs, y :: ys => by
    rw [List.map_cons, List.map_cons, PyData.eqvAll, h.eq, h.all xs ys]
    by_cases e : x = y <;> by_cases e2 : xs = ys <;> simp [e, e2]
theorem EncOk.pyRef {α : Type} [DecidableEq α] {enc : α → D} {encP : α → PyData} (h : EncOk enc encP) {n : Nat} {G : DG} {p : Addr} {xs : List α} (e : G p = some (.lst (xs.map enc))) : pyD (n + 5) G (.ref p) = some (.list (xs.map encP)) := pyD_ref e (pyAll_map fun x _ => h.py n G x)
theorem EncOk.pyTup {α : Type} [DecidableEq α] {enc : α → D} {encP : α → PyData} (h : EncOk enc encP) {n : Nat} {G : DG} {xs : List α} : pyD (n + 5) G (.tup (xs.map enc)) = some (.tuple (xs.map encP)) := pyD_tup (pyAll_map fun x _ => h.py n G x)
section
variable {α : Type} [DecidableEq α] {enc : α → D} {encP : α → PyData} {G : DG} {Q : DK} {p q : Addr} {xs ys : List α} {x y : α}
theorem s_inE (h : EncOk enc encP) (e : G p = some (.lst (xs.map enc))) (k : Q (.bl (decide (x ∈ xs))) G) : inD false (enc x) (.ref p) G Q := by
  unfold inD
  rw [h.py 5, h.pyRef (n := 4) e]
  simp only [Option.bind_some, items?, h.any]
  exact k
theorem s_ninE (h : EncOk enc encP) (e : G p = some (.lst (xs.map enc))) (k : Q (.bl (!decide (x ∈ xs))) G) : inD true (enc x) (.ref p) G Q := by
  unfold inD
  rw [h.py 5, h.pyRef (n := 4) e]
  simp only [Option.bind_some, items?, h.any]
  exact k
theorem s_inET (h : EncOk enc encP) (k : Q (.bl (decide (x ∈ xs))) G) : inD false (enc x) (.tup (xs.map enc)) G Q := by
  unfold inD
  rw [h.py 5, h.pyTup (n := 4)]
  simp only [Option.bind_some, items?, h.any]
  exact k
theorem s_ninET (h : EncOk enc encP) (k : Q (.bl (!decide (x ∈ xs))) G) : inD true (enc x) (.tup (xs.map enc)) G Q := by
  unfold inD
  rw [h.py 5, h.pyTup (n := 4)]
  simp only [Option.bind_some, items?, h.any]
  exact k
theorem s_eqLE (h : EncOk enc encP) (e : G p = some (.lst (xs.map enc))) (e2 : G q = some (.lst (ys.map enc))) (k : Q (.bl (decide (xs = ys))) G) : eqD (.ref p) (.ref q) G Q := by
  show py2 _ _ G _
  unfold py2
  rw [h.pyRef (n := 4) e, h.pyRef (n := 4) e2]
  simp only [PyData.eqv, h.all]
  exact k
theorem s_neLE (h : EncOk enc encP) (e : G p = some (.lst (xs.map enc))) (e2 : G q = some (.lst (ys.map enc))) (k : Q (.bl (!decide (xs = ys))) G) : neD (.ref p) (.ref q) G Q := by
  show py2 _ _ G _
  unfold py2
  rw [h.pyRef (n := 4) e, h.pyRef (n := 4) e2]
  simp only [PyData.eqv, h.all]
  exact k
theorem s_eqNI {a : Int} (k : Q (.bl false) G) : eqD .non (.int a) G Q := k
end
abbrev encN (n : Nat) : D := .int n
abbrev shN (n : Nat) : PyData := .int n
theorem ok_N : EncOk encN shN := ⟨fun n G x => pyD_int, fun x y => by
  simp only [PyData.eqv]
  by_cases h : x = y
  · simp [h]
  · simp [h]; omega⟩
abbrev encNN (p : Nat × Nat) : D := .tup [.int p.1, .int p.2]
abbrev showNN (p : Nat × Nat) : PyData := .tuple [.int p.1, .int p.2]
theorem ok_NN : EncOk encNN showNN := ⟨fun n G x => pyD_tup (pyAll_c pyD_int (pyAll_c pyD_int pyAll_nil)), fun x y => by
  simp only [PyData.eqv, PyData.eqvAll, Bool.and_true]
  obtain ⟨a, b⟩ := x
  obtain ⟨c, d⟩ := y
  simp only [Prod.mk.injEq]
  by_cases h : a = c <;> by_cases h2 : b = d <;> simp [h, h2] <;> omega⟩
abbrev encO : Option Nat → D
  | none => .non
  | some n => .int n
abbrev shO : Option Nat → PyData
  | none => .none
  | some n => .int n
theorem ok_O : EncOk encO shO := ⟨fun n G x => by cases x with | none => exact pyD_non | some n => exact pyD_int, fun x y => by
  cases x with
  | none => cases y with
    | none => simp [PyData.eqv]
    | some n => simp [PyData.eqv]
  | some m => cases y with
    | none => simp [PyData.eqv]
    | some n =>
      simp only [PyData.eqv]
      by_cases h : m = n
      · simp [h]
      · simp [h]; omega⟩
theorem sorted_uniq {xs ys : List Int} (h : xs.Perm ys) (h1 : xs.Pairwise (· ≤ ·)) (h2 : ys.Pairwise (· ≤ ·)) : xs = ys := h.eq_of_pairwise (fun a b _ _ h1 h2 => Int.le_antisymm h1 h2) h1 h2
theorem s_sortN {G : DG} {Q : DK} {p : Addr} {ks ks' : List Nat} (e : G p = some (.lst (ks.map encN))) (hp : ks'.Perm ks) (hs : ks'.Pairwise (· < ·)) (k : ∀ p, G p = none → Q (.ref p) (up G p (.lst (ks'.map encN)))) : sortedD [.ref p] G Q := by
  have e2 : ks.map encN = (ks.map fun k : Nat => (k : Int)).map D.int := by rw [List.map_map]; rfl
  have e3 : ks'.map encN = (ks'.map fun k : Nat => (k : Int)).map D.int := by rw [List.map_map]; rfl
  refine ⟨ks.map fun k : Nat => (k : Int), by rw [show lstD (.ref p) G = some (ks.map encN) by simp [lstD, e], e2]; exact intsD_map _, fun ns' h1 h2 q hq => ?_⟩
  have : ns' = ks'.map fun k : Nat => (k : Int) := by
    refine sorted_uniq (h1.trans (hp.symm.map _)) h2 ?_
    rw [List.pairwise_map]
    exact hs.imp fun h => by omega
  rw [this, ← e3]
  exact k q hq
/-! ### defs that call themselves -/
theorem call_none {P : Program} {w : World} {K : PySem.W.Frag} {mg : Str → Option Value} {base : Heap} {x : Str} {st : Stmt} {ps : List Str} {k : Nat} {C : Ct} (D0 : DefAt K mg x st ps) (h : ∀ ds G Q E, ¬ C ds G Q E) : CallOk P w K mg base k x C := by
  obtain ⟨f, fd, F, hm, hb⟩ := D0
  refine ⟨f, fd, ps, hm, F.kp, hb, fun vs H Q E ⟨ds, G, Q0, E0, _, _, c, _⟩ => absurd c (h _ _ _ _), fun A outer s H args us vs Q E hr hg e0 hb hv ⟨ds, G, Q0, E0, _, _, c, _⟩ => absurd c (h _ _ _ _)⟩
end FD

/-! ### enumerate of a tuple -/
namespace FD
open PySem
theorem newEnumT {v : Value} {o : Obj} {Hs : Heap → Prop} (B : Begins v o Hs) : Meets (Builtin.«enumerate.__new__» ⟨[.type "enumerate", v], []⟩) (fun _ R s => Hs s.heap ∧
      R (.ok (.ret (.ref (s.heap.push o).objs.size))) { s with heap := (s.heap.push o).push { cls := .type "enumerate", data := .fields #[.none, .bool false, .ref s.heap.objs.size, rawInt 0, .none, .none] } }) := by
  refine .of_wp fun prog w A R s h => ?_
  obtain ⟨hp, gg, dd, tk, os⟩ := s
  obtain ⟨h1, h⟩ := h
  have hsub := sub_enumerate
  have fresh : ∀ {A' : Around} {E : Value → Shared → Prop} {Q : Value → Shared → Prop}, Q (.ref hp.objs.size) ⟨hp.push o, gg, dd, tk, os⟩ → wpAny (model prog w) A' (pyIter v) Q E ⟨hp, gg, dd, tk, os⟩ := fun q => B.iter prog w _ _ ⟨hp, gg, dd, tk, os⟩ _ h1 q
  wp_walk using fresh
  refine wpAny_stack_any fun st => wpAny_pure ?_
  split
  · rename_i c _ _ _ _ _
    cases (c == Value.type "enumerate") <;> (wp_walk using fresh; exact ⟨_, rfl, h⟩)
  · wp_walk using fresh
    exact ⟨_, rfl, h⟩
theorem callEnumT {prog : Program} {w : World} {A : Around} {E : Value → Shared → Prop} {s : Shared} {v : Value} {o : Obj} {Hs : Heap → Prop} {Q : Value → Shared → Prop} (B : Begins v o Hs) (h1 : Hs s.heap)
    (h : ∀ h', IsEnum h' (s.heap.objs.size + 1) s.heap.objs.size 0 .none → h'.get? s.heap.objs.size = some o → (∀ b u, s.heap.get? b = some u → h'.get? b = some u) → Q (.ref (s.heap.objs.size + 1)) { s with heap := h' }) :
    wpAny (model prog w) A (call (.type "enumerate") [v]) Q E s := by
  refine callType_new F.called_enumerate (by decide) (F.typeCall_enumerate_1 _) (F.newCall_enumerate_1 _) (fun obj => F.args_object_init_2 obj _) F.entry_enumerate_new (newEnumT B) ⟨h1, ?_⟩
  have hz : (s.heap.push o).objs.size = s.heap.objs.size + 1 := Heap.size_push ..
  show _ ∧ _
  rw [hz]
  have he : IsEnum ((s.heap.push o).push { cls := .type "enumerate", data := .fields #[.none, .bool false, .ref s.heap.objs.size, rawInt 0, .none, .none] }) (s.heap.objs.size + 1) s.heap.objs.size 0 .none := by
    have q := Heap.get?_push_size (s.heap.push o) (o := { cls := .type "enumerate", data := .fields #[.none, .bool false, .ref s.heap.objs.size, rawInt 0, .none, .none] }) rfl
    rw [hz] at q
    exact q
  exact ⟨⟨_, he, rfl⟩, h _ he (Heap.get?_push_of_some _ (Heap.get?_push_size _ B.free)) fun b u x => Heap.get?_push_of_some _ (Heap.get?_push_of_some _ x)⟩
open L2
/-- the tuple at a, each item in a new pair -/
def ItEt (K : PySem.W.Frag) (a : Addr) : It :=
  ⟨fun i H => ∃ (xs : List V) (x : V), SqT K H a xs ∧ xs[i]? = some x, fun i H v H' => ∃ T x, v = .ref T ∧ H T = none ∧ H' = upd H T (.tup [.int (i : Nat), x]) ∧ ∀ xs, SqT K H a xs → xs[i]? = some x, fun i H => ∃ xs : List V, SqT K H a xs ∧ xs.length ≤ i⟩
theorem turn_enT {P : Program} {w : World} {K : PySem.W.Frag} {elts : List Expr} {kk : Nat} {tpos : Pos} (a e it : Addr) (hai : a ≠ it) (hae : a ≠ e) :
    Turn P w K (.Tuple elts kk tpos) (ItEt K a) [e, it] e (fun i h => (∃ old, IsEnum h e it ((i : Nat) : Int) old) ∧ h.IsTupleIter it a i ∧ e ≠ it) := by
  refine ⟨by simp, fun i h st b hb => ?_, fun i h h' st k => ?_, ?_, ?_, fun A i s Q E st h => let ⟨⟨_, he⟩, _⟩ := st; wpAny_pyIter_enum he h⟩
  · obtain ⟨⟨old, he⟩, ⟨o, ho, hc, hd⟩, _⟩ := st
    rcases (show b = e ∨ b = it by simpa using hb) with z | z
    · subst z
      exact ⟨_, he, fun v q => nomatch q⟩
    · subst z
      exact ⟨o, ho, fun v q => by rw [hd] at q; cases q⟩
  · obtain ⟨⟨old, he⟩, hi, hne⟩ := st
    exact ⟨⟨old, k e (by simp) _ he⟩, hi.at fun o q => k it (by simp) o q, hne⟩
  · intro X hP hw hK hc i pins s σ H E I hf st hg
    subst hP hw hK
    obtain ⟨⟨old, he⟩, hit, hne⟩ := st
    obtain ⟨xs, x, hq, hx⟩ := hg
    obtain ⟨its, rv, p, hz⟩ := I.tuple hq
    obtain ⟨u, hu, ru⟩ := rv.get hx
    have hel : e < s.heap.objs.size := Heap.lt_size he
    have hil : it < s.heap.objs.size := by obtain ⟨_, q, _⟩ := hit; exact Heap.lt_size q
    have hlen : i < its.toArray.size := by
      have := (List.getElem?_eq_some_iff.mp hu).1
      simpa using this
    refine wpAny_pyNext_enum_itemD (Draws.tuple (prog := X.prog) (w := X.w) (A := X.A.in1) (I.ok.hd hc) it a hai its.toArray) he ⟨hit, p⟩ hlen hne (by simp [hne, Ne.symm hae]) fun y h' tk hy ho hit' hT hsz hk => ?_
    have ey : y = u := by
      have h1 : its[i]? = some y := by simpa using hy
      rw [hu] at h1
      exact (Option.some.inj h1).symm
    subst ey
    refine ⟨_, rfl, wpAny_letOwnedTupleGo_enum (s := { s with heap := h', toks := tk + 1 }) ho fun h'' he' sb => ?_⟩
    have hT2 : h''.get? s.heap.objs.size = some { cls := .type "tuple", data := .seq #[.int i tk, y] } := (sb.2 _ (Nat.ne_of_gt hel)).trans hT
    have new : ObjOk X.prog X.w (upd H s.heap.objs.size (.tup [.int (i : Nat), x])) h'' s.heap.objs.size (.tup [.int (i : Nat), x]) :=
      ⟨by show 2 ≤ sizeLine; decide, [.int i tk, y], .cons ⟨_, rfl⟩ (.cons ru .nil), ⟨_, hT2, rfl, _, rfl⟩⟩
    have I1 : Inv X pins σ (upd H s.heap.objs.size (.tup [.int (i : Nat), x])) { s with heap := h'', toks := tk + 1 } :=
      I.turnedNew (ch := [e, it]) (fun b ob hb q => (sb.2 b (fun z => hb (by simp [z]))).trans (hk b ob (fun z => hb (by simp [z])) (fun z => hb (by simp [z])) q)) hf (Nat.le_refl _) new
    refine ⟨.ref s.heap.objs.size, _, I1, rfl, ⟨_, x, rfl, I.hok.fresh (Nat.le_refl _), rfl, fun ys hy => by rw [I.tuple_inj hy hq]; exact hx⟩, ⟨⟨y, ?_⟩, hit'.1.at fun o q => (sb.2 it (Ne.symm hne)).trans q, hne⟩, fun b hb => ?_⟩
    · rw [show ((i + 1 : Nat) : Int) = (i : Int) + 1 by omega]
      exact he'
    · have hb' : b < s.heap.objs.size := by
        rcases (show b = e ∨ b = it by simpa using hb) with z | z
        · rw [z]
          exact hel
        · rw [z]
          exact hil
      rw [upd_ne (Nat.ne_of_lt hb')]
      exact (hf b hb).1
  · intro X hP hw hK hc i pins s σ H E I hf st hg
    subst hP hw hK
    obtain ⟨⟨old, he⟩, hit, hne⟩ := st
    obtain ⟨xs, hq, hx⟩ := hg
    obtain ⟨its, rv, p, hz⟩ := I.tuple hq
    obtain ⟨f0, f1, f2, f3, f4, f5⟩ := hf it (by simp)
    have hl := rv.length
    have D2 : Draws X.prog X.w X.A.in1 it [it, a] i (fun _ _ => True) (fun k h => k = i ∧ h.IsTupleIter it a i ∧ h.IsTuple a its.toArray) :=
      ⟨fun _ _ st => let ⟨o, ho, _⟩ := st.2.1; ⟨o, ho⟩, fun _ _ _ st hk => ⟨st.1, st.2.1.at fun o e => hk it (by simp) o e, st.2.2.at fun o e => hk a (by simp) o e⟩, fun k s Q E hk st _ => absurd st.1 (Nat.ne_of_lt hk), fun s Q E st hE => wpAny_nextOf_tuple_end (I.ok.hd hc) st.2.1 st.2.2 (by simp; omega) hE⟩
    exact wpAny_pyNext_enum_endD D2 he ⟨rfl, hit, p⟩ fun h' eb => ⟨rfl, I.turned (t' := s.toks) (fun b o hb q => eb b o hb q) f0 f1 f3 f4 f5⟩
/-- enumerate of a list or a tuple -/
def iEnV (K : PySem.W.Frag) (ta : TA) : TI := fun σ H R => ta σ H fun vs H1 => ∃ a, vs = [.ref a] ∧ ((∃ xs, SqL K H1 a xs ∧ R (Ite K a) H1) ∨ ∃ xs, SqT K H1 a xs ∧ R (ItEt K a) H1)
theorem pi_enV {X : Cx} {e : Expr} {ta : TA} {p pos tpos : Pos} {elts : List Expr} {kk : Nat} (hg : Gl X "enumerate") (hm : X.mg "enumerate" = none) (ha : PA X [e] ta) (hs : starEach [e] X.env = [(false, eval e X.env)] := by rfl) :
    PI X (.Tuple elts kk tpos) (.Call (.Name "enumerate" p) [e] [] pos) (iEnV X.K ta) := by
  refine ⟨fun pins s σ H R I h => ?_⟩
  refine PyProof.Rows.Call_ (ld_blt I hg hm PyProof.Rows.boot_enumerate (PyProof.Rows.callWith_type1 (thn (ha.run pos pins s σ H _ I h) fun us s1 ⟨vs, H1, I1, r1, q1⟩ => ?_) hs rfl))
  obtain ⟨a, ex, q⟩ := q1
  subst ex
  cases r1 with
  | cons r rr =>
    cases rr
    cases r
    have two : ∀ b ∈ [s1.heap.objs.size + 1, s1.heap.objs.size], s1.heap.objs.size ≤ b := fun b hb => by
      rcases (show b = s1.heap.objs.size + 1 ∨ b = s1.heap.objs.size by simpa using hb) with z | z
      · rw [z]
        exact Nat.le_add_right _ _
      · rw [z]
        exact Nat.le_refl _
    rcases q with ⟨xs, hq, q⟩ | ⟨xs, hq, q⟩
    · obtain ⟨its, rv, p', hz⟩ := I1.list hq
      refine callEnumT (begins_list a its.toArray) p'.isList fun h' he hit hk => wpAny_pyIter_enum he ?_
      exact ⟨s1.heap.objs.size + 1, [s1.heap.objs.size + 1, s1.heap.objs.size], _, _, H1, rfl, I1.kept (t' := s1.toks) hk, turn_enum a (s1.heap.objs.size + 1) s1.heap.objs.size, ⟨⟨.none, he⟩, ⟨_, hit, rfl, rfl⟩, Nat.succ_ne_self _⟩, fun b hb => I1.fpOk (two b hb) (I1.hok.fresh (two b hb)), q⟩
    · obtain ⟨its, rv, p', hz⟩ := I1.tuple hq
      have hlt : a < s1.heap.objs.size := by obtain ⟨_, z, _⟩ := p'; exact Heap.lt_size z
      refine callEnumT (begins_tuple a its.toArray) p' fun h' he hit hk => wpAny_pyIter_enum he ?_
      exact ⟨s1.heap.objs.size + 1, [s1.heap.objs.size + 1, s1.heap.objs.size], _, _, H1, rfl, I1.kept (t' := s1.toks) hk, turn_enT a (s1.heap.objs.size + 1) s1.heap.objs.size (Nat.ne_of_lt hlt) (Nat.ne_of_lt (Nat.lt_succ_of_lt hlt)), ⟨⟨.none, he⟩, ⟨_, hit, rfl, rfl⟩, Nat.succ_ne_self _⟩, fun b hb => I1.fpOk (two b hb) (I1.hok.fresh (two b hb)), q⟩
def enumD (xs : List D) : List D := xs.zipIdx.map fun p => D.tpl [.int p.2, p.1]
theorem enumD_get {xs : List D} {i : Nat} {d : D} (h : (enumD xs)[i]? = some d) : ∃ x, xs[i]? = some x ∧ d = .tpl [.int i, x] := by
  unfold enumD at h
  rw [List.getElem?_map, List.getElem?_zipIdx] at h
  cases e : xs[i]? with
  | none => rw [e] at h; cases h
  | some x =>
    rw [e] at h
    cases h
    exact ⟨x, rfl, by simp⟩
theorem enumD_length {xs : List D} : (enumD xs).length = xs.length := by simp [enumD]
def diEnumerate (t : DA) : DI := fun σ G R => t σ G fun xs G1 => match xs with
  | [.tup ys] => R (enumD ys) (fun _ => True) G1
  | [.lis ys] => R (enumD ys) (fun _ => True) G1
  | [.ref p] => match G1 p with
    | some (.lst ys) => R (enumD ys) (fun G' => G' p = some (.lst ys)) G1
    | _ => False
  | _ => False
theorem pair_rd {K : PySem.W.Frag} {H : Hp} {T : Addr} {i : Nat} {x : V} {d : D} (hT : H T = none) (r : RD K H d x) : RD K (upd H T (.tup [.int (i : Nat), x])) (.tpl [.int i, d]) (.ref T) := by
  refine .tpl (vs := [.int (i : Nat), x]) (.inl (.inl (upd_same ..))) rfl fun k y v hy hv => ?_
  match k with
  | 0 => cases hy; cases hv; exact .int _
  | 1 => cases hy; cases hv; exact r.kt (.upd_new hT)
  | k + 2 => cases hy
theorem itOk_enL {K : PySem.W.Frag} {H1 : Hp} {p : Addr} {xs : List D} {ok : DG → Prop} (h : ∀ G' H', KT K H1 H' → MH K G' H' → ok G' → ∃ vs, SqL K H' p vs ∧ RDs K H' xs vs) : ItOk K H1 (Ite K p) (enumD xs) ok := fun i H' G' k m o => by
  obtain ⟨vs, hq, r⟩ := h G' H' k m o
  refine ⟨fun d hd => ?_, fun hl => ⟨vs, hq, by rw [← r.1, ← enumD_length]; exact hl⟩⟩
  obtain ⟨x, hx, rfl⟩ := enumD_get hd
  obtain ⟨v, h1, h2⟩ := r.get hx
  refine ⟨⟨vs, v, hq, h1⟩, fun y H'' z => ?_⟩
  obtain ⟨T, w, rfl, hT, rfl, e⟩ := z
  have e := e vs hq
  rw [h1] at e
  cases e
  exact ⟨m.new (.upd_new hT) (m.fresh hT), .upd_new hT, pair_rd hT h2⟩
theorem itOk_enT {K : PySem.W.Frag} {H1 : Hp} {p : Addr} {xs : List D} {ok : DG → Prop} (h : ∀ G' H', KT K H1 H' → MH K G' H' → ok G' → ∃ vs, SqT K H' p vs ∧ RDs K H' xs vs) : ItOk K H1 (ItEt K p) (enumD xs) ok := fun i H' G' k m o => by
  obtain ⟨vs, hq, r⟩ := h G' H' k m o
  refine ⟨fun d hd => ?_, fun hl => ⟨vs, hq, by rw [← r.1, ← enumD_length]; exact hl⟩⟩
  obtain ⟨x, hx, rfl⟩ := enumD_get hd
  obtain ⟨v, h1, h2⟩ := r.get hx
  refine ⟨⟨vs, v, hq, h1⟩, fun y H'' z => ?_⟩
  obtain ⟨T, w, rfl, hT, rfl, e⟩ := z
  have e := e vs hq
  rw [h1] at e
  cases e
  exact ⟨m.new (.upd_new hT) (m.fresh hT), .upd_new hT, pair_rd hT h2⟩
theorem di_enumerate {X : Cx} {e : Expr} {t : DA} {p pos tpos : Pos} {elts : List Expr} {kk : Nat} (hg : Gl X "enumerate") (hm : X.mg "enumerate" = none) (ha : DPA X [e] t) (hs : starEach [e] X.env = [(false, eval e X.env)] := by rfl) :
    DPI X (.Tuple elts kk tpos) (.Call (.Name "enumerate" p) [e] [] pos) (diEnumerate t) := by
  obtain ⟨ma, tta, pa, ra⟩ := ha
  refine ⟨fun σ G R R' h q => ma σ G _ _ (fun xs G1 z => ?_) q, _, pi_enV hg hm pa hs, fun σ H σd G R m s h => ra σ H σd G _ m s (ma _ _ _ _ (fun ds G1 z vs H1 m1 r1 k1 => ?_) h)⟩
  · split at z
    · exact h _ _ _ z
    · exact h _ _ _ z
    · split at z <;> first | exact h _ _ _ z | exact z
    · exact z
  · split at z
    · obtain ⟨v, vs', rfl, a1, a2⟩ := r1.cons_inv
      have e := a2.nil_inv
      subst e
      cases a1 with
      | @tup p _ vs hs hl hi => exact ⟨p, rfl, .inr ⟨vs, hs.t, z _ H1 m1 k1 (itOk_enT fun G' H' k' m' o => ⟨vs, k'.sqt hs.t, RDs.kt k' ⟨hl, hi⟩⟩)⟩⟩
    · obtain ⟨v, vs', rfl, a1, a2⟩ := r1.cons_inv
      have e := a2.nil_inv
      subst e
      cases a1 with
      | @lis p _ vs hs hl hi => exact ⟨p, rfl, .inl ⟨vs, hs.l, z _ H1 m1 k1 (itOk_enL fun G' H' k' m' o => ⟨vs, (k'.sqr hs).l, RDs.kt k' ⟨hl, hi⟩⟩)⟩⟩
    · obtain ⟨v, vs', rfl, a1, a2⟩ := r1.cons_inv
      have e := a2.nil_inv
      subst e
      cases a1
      rename_i p
      split at z
      · rename_i xs e
        obtain ⟨vs, g, r⟩ := m1 _ _ e
        refine ⟨p, rfl, .inl ⟨vs, SqL.of g, z _ H1 m1 k1 (itOk_enL fun G' H' k' m' o => ?_)⟩⟩
        obtain ⟨vs', g', r'⟩ := m' _ _ o
        exact ⟨vs', SqL.of g', r'⟩
      · exact False.elim z
    · exact False.elim z
theorem rangeD0 {n : Nat} : rangeD 0 (n : Int) = (List.range n).map fun k : Nat => D.int k := by
  unfold rangeD
  simp
/-! ### int(..) of an int or a truth -/
def intOfD : FL := fun xs G Q => match xs with
  | [.int i] => Q (.int i) G
  | [.bl k] => Q (.int (if k then 1 else 0)) G
  | _ => False
theorem de_intOf {X : Cx} {e : Expr} {es : List Expr} {pos p : Pos} {t : DA} (hg : Gl X "int") (hm : X.mg "int" = none) (ha : DPA X (e :: es) t) (h1 : starEach (e :: es) X.env = (false, eval e X.env) :: starEach es X.env := by rfl) (h2 : ((backTo pos (starEach es X.env)).any fun x => x.fst) = false := by rfl) :
    DPE X (.Call (.Name "int" p) (e :: es) [] pos) (dCB intOfD t) := de_callTy call_int1
  (fun xs G Q Q' h q => by unfold intOfD at q ⊢; split at q <;> first | exact h _ _ q | exact q)
  (fun H G xs ds Q m r h => by
    unfold intOfD at h
    split at h
    · obtain ⟨v, vs', rfl, r1, r2⟩ := r.cons_inv
      have e := r2.nil_inv
      subst e
      cases r1
      exact .inl ⟨_, rfl, h _ _ m (.int _) .refl⟩
    · obtain ⟨v, vs', rfl, r1, r2⟩ := r.cons_inv
      have e := r2.nil_inv
      subst e
      cases r1
      exact .inr ⟨_, rfl, h _ _ m (.int _) .refl⟩
    · exact False.elim h) hg hm (by decide +kernel) ha (by decide) (by decide) h1 h2
theorem s_intB {G : DG} {Q : DK} {k : Bool} (h : Q (.int (if k then 1 else 0)) G) : intOfD [.bl k] G Q := h
theorem s_intI {G : DG} {Q : DK} {k : Int} (h : Q (.int k) G) : intOfD [.int k] G Q := h
def chB (g : F2) (y z : D) (tc : DE) (σ : DSt) (G : DG) (Q : DK) : Prop := match z with
  | .bl true => tc σ G fun w G4 => g y w G4 Q
  | .bl false => Q (.bl false) G
  | _ => False
theorem s_chain {f g : F2} {ta tb tc : DE} {σ : DSt} {G : DG} {Q : DK} (h : ta σ G fun x G1 => tb σ G1 fun y G2 => f x y G2 fun z G3 => chB g y z tc σ G3 Q) : dChain f g ta tb tc σ G Q := h
theorem s_chB {g : F2} {y : D} {k : Bool} {tc : DE} {σ : DSt} {G : DG} {Q : DK} (h : br k (tc σ G fun w G4 => g y w G4 Q) (Q (.bl false) G)) : chB g y (.bl k) tc σ G Q := by cases k <;> exact h
section
variable {G : DG} {Q : DK} {xs : List D} {p : Addr} {s : Str} {k : Bool}
theorem s_isTN (h : Q (.bl false) G) : isD false (.tup xs) .non G Q := h
theorem s_isnTN (h : Q (.bl true) G) : isD true (.tup xs) .non G Q := h
theorem s_isRN (h : Q (.bl false) G) : isD false (.ref p) .non G Q := h
theorem s_isnRN (h : Q (.bl true) G) : isD true (.ref p) .non G Q := h
theorem s_isSN (h : Q (.bl false) G) : isD false (.str s) .non G Q := h
theorem s_isnSN (h : Q (.bl true) G) : isD true (.str s) .non G Q := h
theorem s_isBN (h : Q (.bl false) G) : isD false (.bl k) .non G Q := h
theorem s_isnBN (h : Q (.bl true) G) : isD true (.bl k) .non G Q := h
end
def enB (ds : List D) (G : DG) (R : List D → (DG → Prop) → DG → Prop) : Prop := match ds with
  | [.tup ys] => R (enumD ys) (fun _ => True) G
  | [.lis ys] => R (enumD ys) (fun _ => True) G
  | [.ref p] => match G p with
    | some (.lst ys) => R (enumD ys) (fun G' => G' p = some (.lst ys)) G
    | _ => False
  | _ => False
section
variable {σ : DSt} {G : DG} {t : DA} {R : List D → (DG → Prop) → DG → Prop} {xs : List D} {p : Addr}
theorem s_enum (h : t σ G fun xs G1 => enB xs G1 R) : diEnumerate t σ G R := h
theorem s_enT (h : R (enumD xs) (fun _ => True) G) : enB [.tup xs] G R := h
theorem s_enS (h : R (enumD xs) (fun _ => True) G) : enB [.lis xs] G R := h
theorem s_enL (e : G p = some (.lst xs)) (h : R (enumD xs) (fun G' => G' p = some (.lst xs)) G) : enB [.ref p] G R := by simp only [enB, e]; exact h
end
end FD

namespace FD
open PySem L2
/-! ### more steps -/
theorem ok_Z : EncOk D.int PyData.int := ⟨fun n G x => pyD_int, fun x y => by
  simp only [PyData.eqv]
  by_cases h : x = y
  · simp [h]
  · simp [h]⟩
theorem s_neTT {G : DG} {Q : DK} {xs ys : List D} {pd : PyData} (e1 : pyD 9 G (.tup xs) = some pd) (e2 : pyD 9 G (.tup ys) = some pd) (h : Q (.bl false) G) : neD (.tup xs) (.tup ys) G Q := by
  show py2 _ _ G _
  unfold py2
  rw [e1, e2]
  show Q (.bl (!PyData.eqv pd pd)) G
  rw [SeqAt.eqv_refl pd (pyD_ok G 9 _ pd e1).1]
  exact h
theorem s_neIS {G : DG} {Q : DK} {a : Int} {z : Str} (hz : PyData.strOk z = true) (k : Q (.bl true) G) : neD (.int a) (.str z) G Q := by
  show py2 _ _ G _
  unfold py2
  rw [show pyD 9 G (.int a) = some (.int a) from rfl, show pyD 9 G (.str z) = some (.str z) by simp [pyD, hz]]
  exact k
theorem s_sortZ {G : DG} {Q : DK} {p : Addr} {ns : List Int} (e : G p = some (.lst (ns.map D.int))) (k : ∀ (ns' : List Int) p, ns'.Perm ns → ns'.Pairwise (· ≤ ·) → G p = none → Q (.ref p) (up G p (.lst (ns'.map D.int)))) : sortedD [.ref p] G Q :=
  ⟨ns, by simp [lstD, e, intsD_map], fun ns' h1 h2 q hq => k ns' q h1 h2 hq⟩
theorem le_none {G G' : DG} {p : Addr} (l : Le G G') (h : G' p = none) : G p = none := by
  cases e : G p with
  | none => rfl
  | some o => rw [l p o e] at h; cases h
theorem le_reput {G G' : DG} {f : Addr} {o o' : O} (l : Le (up G f o) G') : Le (up G f o') (up G' f o') := fun b ob e => by
  by_cases h : b = f
  · subst h
    rw [up_same] at e ⊢
    exact e
  · rw [up_ne h] at e ⊢
    exact l b ob (by rw [up_ne h]; exact e)
end FD

namespace FD
open PySem L2
/-! ### instances of own classes -/
def FldOk (K : PySem.W.Frag) (n f : Str) : Prop := ∃ C, ClsAt K n C ∧ Cls K C ∧ NoAttr K C f
def putD (f : Str) (v : D) : List (Str × D) → List (Str × D)
  | [] => [(f, v)]
  | (g, x) :: r => if g = f then (g, v) :: r else (g, x) :: putD f v r
theorem lookup_rd {K : PySem.W.Frag} {H : Hp} {f : Str} : ∀ {fs : List (Str × D)} {fvs : List (Str × V)}, fvs.map (·.1) = fs.map (·.1) → RDs K H (fs.map (·.2)) (fvs.map (·.2)) → ∀ {d : D}, fs.lookup f = some d → ∃ v, fvs.lookup f = some v ∧ RD K H d v
  | [], fvs, _, _, d, h => by cases h
  | (g, x) :: fs, fvs, e, r, d, h => by
    cases fvs with
    | nil => simp at e
    | cons y ys =>
      obtain ⟨g', v⟩ := y
      simp only [List.map_cons, List.cons.injEq] at e
      obtain ⟨rfl, e⟩ := e
      obtain ⟨v', vs', ev, r1, r2⟩ := RDs.cons_inv (by simpa using r)
      simp only [List.map_cons, List.cons.injEq] at ev
      obtain ⟨rfl, rfl⟩ := ev
      by_cases hg : f = g'
      · subst hg
        rw [List.lookup_cons_self] at h ⊢
        cases h
        exact ⟨v, rfl, r1⟩
      · have hb : (f == g') = false := beq_eq_false_iff_ne.mpr hg
        rw [List.lookup_cons, hb] at h ⊢
        exact lookup_rd e r2 h
theorem lookup_none {f : Str} : ∀ {fs : List (Str × D)} {fvs : List (Str × V)}, fvs.map (·.1) = fs.map (·.1) → fs.lookup f = none → fvs.lookup f = none
  | [], fvs, e, _ => by
    cases fvs with
    | nil => rfl
    | cons y ys => simp at e
  | (g, x) :: fs, fvs, e, h => by
    cases fvs with
    | nil => simp at e
    | cons y ys =>
      obtain ⟨g', v⟩ := y
      simp only [List.map_cons, List.cons.injEq] at e
      obtain ⟨rfl, e⟩ := e
      by_cases hg : f = g'
      · subst hg
        rw [List.lookup_cons_self] at h
        cases h
      · have hb : (f == g') = false := beq_eq_false_iff_ne.mpr hg
        rw [List.lookup_cons, hb] at h ⊢
        exact lookup_none e h
theorem put_rd {K : PySem.W.Frag} {H : Hp} {f : Str} {d : D} {v : V} (rv : RD K H d v) : ∀ {fs : List (Str × D)} {fvs : List (Str × V)}, fvs.map (·.1) = fs.map (·.1) → RDs K H (fs.map (·.2)) (fvs.map (·.2)) → (putF f v fvs).map (·.1) = (putD f d fs).map (·.1) ∧ RDs K H ((putD f d fs).map (·.2)) ((putF f v fvs).map (·.2))
  | [], fvs, e, _ => by
    cases fvs with
    | nil => exact ⟨rfl, .cons rv .nil⟩
    | cons y ys => simp at e
  | (g, x) :: fs, fvs, e, r => by
    cases fvs with
    | nil => simp at e
    | cons y ys =>
      obtain ⟨g', u⟩ := y
      simp only [List.map_cons, List.cons.injEq] at e
      obtain ⟨rfl, e⟩ := e
      obtain ⟨v', vs', ev, r1, r2⟩ := RDs.cons_inv (by simpa using r)
      simp only [List.map_cons, List.cons.injEq] at ev
      obtain ⟨rfl, rfl⟩ := ev
      unfold putF putD
      by_cases hg : g' = f
      · rw [if_pos hg, if_pos hg]
        exact ⟨by simp [e], by simpa using RDs.cons rv r2⟩
      · rw [if_neg hg, if_neg hg]
        obtain ⟨a, b⟩ := put_rd (f := f) rv e r2
        exact ⟨by simp [a], by simpa using RDs.cons r1 b⟩
section
variable {X : Cx} {k : Nat} {Cn : Ct} {E : DX} {x m n f : Str} {p pos pos' apos : Pos} {e o value : Expr} {es : List Expr} {ta tv to : DE} {t : DA}
def insB (n : Str) (x : D) (G : DG) (R : List (Str × D) → Prop) : Prop := ∃ p fs, x = .ref p ∧ G p = some (.ins n fs) ∧ R fs
def dFld (n f : Str) (ta : DE) : DE := fun σ G Q => ta σ G fun x G1 => ∃ p fs v, x = .ref p ∧ G1 p = some (.ins n fs) ∧ fs.lookup f = some v ∧ Q v G1
theorem de_fld (c : FldOk X.K n f) (he : DPE X e ta) (hb : attributeBase e f X.env (eval e X.env) = eval e X.env := by rfl) : DPE X (.Attribute e f pos) (dFld n f ta) := by
  obtain ⟨ma, tta, pa, ra⟩ := he
  obtain ⟨C, hC, c1, c2⟩ := c
  refine ⟨fun σ G Q Q' h q => ma σ G _ _ (fun x G1 ⟨p, fs, v, a, b, l, q1⟩ => ⟨p, fs, v, a, b, l, h _ _ q1⟩) q, _, pe_fld pa hb, fun σ H σd G Q m s h => ?_⟩
  refine ra σ H σd G _ m s (ma _ _ _ _ (fun dx G1 ⟨p, fs, v, a, b, l, q1⟩ x H1 m1 r1 k1 => ?_) h)
  subst a
  cases r1
  obtain ⟨C', dx, fvs, hc', h1, h2, h3⟩ := m1 p _ b
  obtain rfl := hC.uniq hc'
  obtain ⟨u, hu, ru⟩ := lookup_rd h2 h3 l
  exact ⟨p, C, dx, fvs, u, rfl, h1, c1, c2, hu, q1 u H1 m1 ru k1⟩
def dSetF (n f : Str) (ta tv : DE) : DS := fun D σ G => tv σ G fun y G1 => ta σ G1 fun x G2 => ∃ p fs, x = .ref p ∧ G2 p = some (.ins n fs) ∧ fs.length < 1000 ∧ D.nx σ (up G2 p (.ins n (putD f y fs)))
theorem KT.upd_ins {K : PySem.W.Frag} {H : Hp} {p C dx : Addr} {fs : List (Str × V)} {u : HO} (h : H p = some (.ins C dx fs)) : KT K H (L2.upd H p u) := .upd_mut h (fun _ e => by cases e) (fun _ _ e => by cases e)
theorem ds_fld (c : FldOk X.K n f) (ha : DPE X o ta) (hv : DPE X value tv) (hs : swapsWith value (some (.Attribute o f pos')) pos.line X.env = pure false := by rfl) : DPS X (.Assign [.Attribute o f pos'] value pos) (dSetF n f ta tv) := by
  obtain ⟨ma, tta, pa, ra⟩ := ha
  obtain ⟨mv, ttv, pv, rv⟩ := hv
  obtain ⟨C, hC, c1, c2⟩ := c
  refine ⟨fun σ G D D' l q => mv σ G _ _ (fun y G1 q1 => ma σ G1 _ _ (fun x G2 ⟨p, fs, a, b, z, q2⟩ => ⟨p, fs, a, b, z, l.1 _ _ q2⟩) q1) q, _, ps_fld pa pv hs, fun σ H σd G D m s h => ?_⟩
  refine rv σ H σd G _ m s (mv _ _ _ _ (fun dy G1 h1 y H1 m1 r1 k1 => ra σ H1 σd G1 _ m1 (s.kt k1) (ma _ _ _ _ (fun dx G2 ⟨p, fs, a, b, z, q2⟩ x H2 m2 r2 k2 => ?_) h1)) h)
  subst a
  cases r2
  obtain ⟨C', dx, fvs, hc', h1, h2, h3⟩ := m2 p _ b
  obtain rfl := hC.uniq hc'
  have kk : KT X.K H2 (L2.upd H2 p (.ins C dx (putF f y fvs))) := .upd_ins h1
  obtain ⟨e1, e2⟩ := put_rd (f := f) (r1.kt k2) h2 h3
  refine ⟨p, C, dx, fvs, rfl, h1, c1, c2, ?_, q2 σ _ (m2.upd kk ⟨C, dx, _, hC, upd_same, e1, e2.kt kk⟩) (s.kt ((k1.trans k2).trans kk)) ((k1.trans k2).trans kk)⟩
  have := congrArg List.length h2
  simp at this
  omega
/-- a method of a class -/
def MethOk (P : Program) (w : World) (K : PySem.W.Frag) (mg : Str → Option Value) (base : Heap) (k : Nat) (n m : Str) (Cn : Ct) : Prop := ∃ C f fd ps, ClsAt K n C ∧ Cls K C ∧ Meth K C m f ∧ Binds K fd ps [] ∧ FK P w K mg base k f fd ps (spOf K Cn)
def tMethF (X : Cx) (C : Addr) (m : Str) (sp : Sp) (EL : XK) (ta : TE) (t : TA) : TE := fun σ H Q => ta σ H fun x H1 => ∃ a dx fs, x = .ref a ∧ H1 a = some (.ins C dx fs) ∧ fs.lookup m = none ∧ t σ H1 fun vs H2 => KT X.K X.H_0 H2 → sp (x :: vs) H2 Q EL
def dMeth (n m : Str) (Cn : Ct) (E : DX) (ta : DE) (t : DA) : DE := fun σ G Q => ta σ G fun x G1 => ∃ p fs, x = .ref p ∧ G1 p = some (.ins n fs) ∧ fs.lookup m = none ∧ t σ G1 fun ds G2 => UpC Cn (x :: ds) G2 Q E
theorem dMeth_mono (mo : MonoE to) (ma : MonoA t) : MonoE (dMeth n m Cn E to t) := fun σ G Q Q' h q => mo σ G _ _ (fun x G1 ⟨p, fs, a, b, c, z⟩ => ⟨p, fs, a, b, c, ma _ _ _ _ (fun ds G2 z2 => z2.mono h) z⟩) q
theorem dMeth_sim {C : Addr} {tto : TE} {tta : TA} {EL : XK} (hC : ClsAt X.K n C) (mo : MonoE to) (ma : MonoA t) (ro : ∀ σ H σd G Q, MH X.K G H → SR X.K H σd σ → to σd G (lf X.K H Q) → tto σ H Q) (ra : ∀ σ H σd G Q, MH X.K G H → SR X.K H σd σ → t σd G (lfA X.K H Q) → tta σ H Q) (he : ∀ H, KT X.K X.H_0 H → ∀ c fo G', E c fo G' → lfX X.K H EL c fo G') :
    ∀ σ H σd G Q, MH X.K G H → SR X.K H σd σ → dMeth n m Cn E to t σd G (lf X.K H Q) → tMethF X C m (spOf X.K Cn) EL tto tta σ H Q := fun σ H σd G Q mm s h =>
  ro σ H σd G _ mm s (mo _ _ _ _ (fun dx G1 ⟨p, fs, a, b, c, z⟩ x H1 m1 r1 k1 => by
    subst a
    cases r1
    obtain ⟨C', dx, fvs, hc', h1, h2, h3⟩ := m1 p _ b
    obtain rfl := hC.uniq hc'
    refine ⟨p, dx, fvs, rfl, h1, lookup_none h2 c, ra σ H1 σd G1 _ m1 (s.kt k1) (ma _ _ _ _ (fun ds G2 z2 vs H2 m2 r2 k2 k0 => ?_) z)⟩
    obtain ⟨Q0, E0, g1, g2, g3⟩ := z2
    exact ⟨.ref p :: ds, G2, Q0, E0, m2, r2.cons (.ref p), g1, fun d G' q => lf_kt (k1.trans k2) (g2 d G' q), fun c fo G' q => he H2 k0 c fo G' (g3 c fo G' q)⟩) h)
theorem de_meth {pl : Sem Bool} (F : MethOk X.prog X.w X.K X.mg X.base k n m Cn) (hr : Room k X.A) (hgd : X.A.guards = some []) (hE : PassD X E) (ho : DPE X o to) (ha : DPA X (e :: es) t)
    (hst : starEach (e :: es) X.env = (false, eval e X.env) :: starEach es X.env := by rfl) (hpl : (backTo pos (starEach es X.env)).any (·.1) = false := by rfl)
    (ht : eval (.Call (.Attribute o m apos) (e :: es) [] pos) X.env = (do
      let ov ← eval o X.env
      standAt apos.atName
      let (f, first) ← holding [ov] (getMethod ov m pl)
      callWith pos f first (backTo pos (starEach (e :: es) X.env)) (backToKw pos (keywordEach [] X.env))) := by rfl) :
    DPE X (.Call (.Attribute o m apos) (e :: es) [] pos) (dMeth n m Cn E to t) := by
  obtain ⟨ma, tta, pa, ra⟩ := ha
  obtain ⟨mo, tto, po, ro⟩ := ho
  obtain ⟨EL, hx, _, hE⟩ := hE
  obtain ⟨C, f, fd, ps, hC, c, hm, hb, F⟩ := F
  refine ⟨dMeth_mono mo ma, tMethF X C m (spOf X.K Cn) EL tto tta, ⟨fun pins s σ H Q I h => ?_⟩, dMeth_sim hC mo ma ro ra hE⟩
  refine PySem.W.methodCall_KW (pl := pl) (thn (po.run pins s σ H _ I h) fun u s1 ⟨x, H1, I1, rx, a, dx, fs, ex, ea, l, q⟩ => ?_) ht
  subst ex
  obtain rfl : u = Value.ref a := rx
  refine getmeth_ok I1 ea c hm l ?_
  refine PySem.W.callWith_K (first := [.ref a]) (h₀ := X.base) I.ok.mod.kin hm.kp (thn (pa.run pos pins s1 σ H1 _ I1 q) fun us s2 ⟨vs, H2, I2, r, q2⟩ => ⟨I2.kIn, ?_⟩) hst hpl
  exact run_fk (us := .ref a :: us) (vs := .ref a :: vs) F hr hgd hb hx I2 (.cons rfl r) (q2 (inv_kt I2))
theorem de_meth0 {pl : Sem Bool} (F : MethOk X.prog X.w X.K X.mg X.base k n m Cn) (hr : Room k X.A) (hgd : X.A.guards = some []) (hE : PassD X E) (ho : DPE X o to)
    (ht : eval (.Call (.Attribute o m apos) [] [] pos) X.env = (do
      let ov ← eval o X.env
      standAt apos.atName
      let (f, first) ← holding [ov] (getMethod ov m pl)
      callWith pos f first (backTo pos (starEach [] X.env)) (backToKw pos (keywordEach [] X.env))) := by rfl) :
    DPE X (.Call (.Attribute o m apos) [] [] pos) (dMeth n m Cn E to dNil) := by
  have ha : DPA X [] dNil := da_nil
  obtain ⟨mo, tto, po, ro⟩ := ho
  obtain ⟨EL, hx, _, hE⟩ := hE
  obtain ⟨C, f, fd, ps, hC, c, hm, hb, F⟩ := F
  refine ⟨dMeth_mono mo ha.mono, tMethF X C m (spOf X.K Cn) EL tto tNil, ⟨fun pins s σ H Q I h => ?_⟩, dMeth_sim hC mo ha.mono ro (fun σ H σd G Q m s h => h [] H m .nil .refl) hE⟩
  refine PySem.W.methodCall_KW (pl := pl) (thn (po.run pins s σ H _ I h) fun u s1 ⟨x, H1, I1, rx, a, dx, fs, ex, ea, l, q⟩ => ?_) ht
  subst ex
  obtain rfl : u = Value.ref a := rx
  refine getmeth_ok I1 ea c hm l ?_
  exact PySem.W.callWith_K0 (first := [.ref a]) I1.kIn hm.kp (run_fk (us := [.ref a]) (vs := [.ref a]) F hr hgd hb hx I1 (.cons rfl .nil) (q (inv_kt I1)))
/-- C(..) -/
def MakeOk (P : Program) (w : World) (K : PySem.W.Frag) (mg : Str → Option Value) (base : Heap) (k : Nat) (n : Str) (Cn : Ct) : Prop := ∃ C f fd ps, ClsAt K n C ∧ mg n = some (.ref C) ∧ Mk K C f ∧ Binds K fd ps [] ∧ FK P w K mg base k f fd ps (spOf K Cn)
def dMake (n : Str) (Cn : Ct) (E : DX) (t : DA) : DE := fun σ G Q => t σ G fun ds G1 => ∀ x, G1 x = none → UpC Cn (.ref x :: ds) (up G1 x (.ins n [])) (fun v G2 => v = .non ∧ Q (.ref x) G2) E
def tMakeF (X : Cx) (C : Addr) (sp : Sp) (EL : XK) (t : TA) : TE := fun σ H Q => t σ H fun vs H1 => ∀ x dx, H1 x = none → H1 dx = none → dx ≠ x → KT X.K X.H_0 (upd (upd H1 dx (.own x)) x (.ins C dx [])) →
  sp (.ref x :: vs) (upd (upd H1 dx (.own x)) x (.ins C dx [])) (fun v H2 => v = .non ∧ Q (.ref x) H2) EL
theorem run_makeF {C f : Addr} {fd : FuncData} {ps : List Str} {sp : Sp} {EL : XK} {pins : List (Addr × Obj)} {σ : St} {H : Hp} {s : Shared} {Q : VK} {us : List Value} {vs : List V} (M : Mk X.K C f) (F : FK X.prog X.w X.K X.mg X.base k f fd ps sp) (hr : Room (k + 1) X.A) (hg : X.A.guards = some []) (hb : Binds X.K fd ps [])
    (hx : Passes (L2.CX X.prog X.w) X EL) (I : L2.Inv X pins σ H s) (r : Vals vs us)
    (h : ∀ x dx, H x = none → H dx = none → dx ≠ x → KT X.K X.H_0 (upd (upd H dx (.own x)) x (.ins C dx [])) → sp (.ref x :: vs) (upd (upd H dx (.own x)) x (.ins C dx [])) (fun v H2 => v = .non ∧ Q (.ref x) H2) EL) :
    wpAny (model X.prog X.w) X.A (call (.ref C) us) (EP X pins σ Q) X.xe s := by
  have I2 := Inv.made (C := C) I
  have hq := h (s.heap.objs.size + 1) s.heap.objs.size (I.hok.fresh (Nat.le_succ _)) (I.hok.fresh (Nat.le_refl _)) (Nat.ne_of_lt (Nat.lt_succ_self _)) (inv_kt I2)
  have r2 : Vals (V.ref (s.heap.objs.size + 1) :: vs) (Value.ref (s.heap.objs.size + 1) :: us) := .cons rfl r
  have hl : (Value.ref (s.heap.objs.size + 1) :: us ++ []).length = ps.length := by
    have e := r2.length
    rw [F.len _ _ _ _ hq] at e
    rw [List.append_nil]
    exact e.symm
  have hb' := hb _ (Value.ref (s.heap.objs.size + 1) :: us) I2.kIn hl
  rw [List.append_nil] at hb'
  refine wpAny_call (make_map (f := f) I.kIn M.makes M.init (beq_iff_eq.mp M.fn) (codeAny_mono (F.run _ X.stack _ _ ⟨Value.ref (s.heap.objs.size + 1) :: us, []⟩ (Value.ref (s.heap.objs.size + 1) :: us) _ _ EL (hr.make C us []) ?_
    (I2.env0.make C us []) hb' r2 hq) fun r s' hq' => ?_))
  · exact hg
  cases r with
  | error e => exact hx pins σ _ _ e s' I2 hq'
  | ok fl =>
    cases fl with
    | ret u =>
      obtain ⟨v, H', I3, rv, ev, q3⟩ := I2.after hq'
      subst ev
      exact ⟨rv, ⟨V.ref (s.heap.objs.size + 1), H', I3, rfl, q3⟩⟩
    | next => exact False.elim hq'
    | brk => exact False.elim hq'
    | cont => exact False.elim hq'
theorem dMake_mono (ma : MonoA t) : MonoE (dMake n Cn E t) := fun σ G Q Q' h q => ma σ G _ _ (fun ds G1 z x hx => (z x hx).mono fun d G' w => ⟨w.1, h _ _ w.2⟩) q
theorem dMake_sim {C : Addr} {tta : TA} {EL : XK} (hC : ClsAt X.K n C) (ma : MonoA t) (ra : ∀ σ H σd G Q, MH X.K G H → SR X.K H σd σ → t σd G (lfA X.K H Q) → tta σ H Q) (he : ∀ H, KT X.K X.H_0 H → ∀ c fo G', E c fo G' → lfX X.K H EL c fo G') :
    ∀ σ H σd G Q, MH X.K G H → SR X.K H σd σ → dMake n Cn E t σd G (lf X.K H Q) → tMakeF X C (spOf X.K Cn) EL tta σ H Q := fun σ H σd G Q mm s h =>
  ra σ H σd G _ mm s (ma _ _ _ _ (fun ds G1 z vs H1 m1 r1 k1 x dx hx hdx ne k0 => by
    obtain ⟨Q0, E0, g1, g2, g3⟩ := z x (m1.fresh hx)
    have ka : KT X.K H1 (upd H1 dx (.own x)) := .upd_new hdx
    have hx' : upd H1 dx (.own x) x = none := by rw [upd_ne (Ne.symm ne)]; exact hx
    have kb : KT X.K (upd H1 dx (.own x)) (upd (upd H1 dx (.own x)) x (.ins C dx [])) := .upd_new hx'
    have m2 : MH X.K (up G1 x (.ins n [])) (upd (upd H1 dx (.own x)) x (.ins C dx [])) := (m1.new ka (m1.fresh hdx)).upd kb ⟨C, dx, [], hC, upd_same, rfl, .nil⟩
    refine ⟨.ref x :: ds, up G1 x (.ins n []), Q0, E0, m2, ((r1.kt ka).kt kb).cons (.ref x), g1, fun d G' q v H' m' r' k' => ?_, fun c fo G' q => he _ k0 c fo G' (g3 c fo G' q)⟩
    obtain ⟨ed, q2⟩ := g2 d G' q
    subst ed
    cases r'
    exact ⟨rfl, q2 (.ref x) H' m' (.ref x) (((k1.trans ka).trans kb).trans k')⟩) h)
theorem de_make (F : MakeOk X.prog X.w X.K X.mg X.base k n Cn) (hr : Room (k + 1) X.A) (hgd : X.A.guards = some []) (hE : PassD X E) (ha : DPA X (e :: es) t)
    (hg : Gl X n := by rfl) (hdb : (n == ("__debug__" : Str)) = false := by decide) (he : starEach (e :: es) X.env = (false, eval e X.env) :: starEach es X.env := by rfl) (hpl : (backTo pos (starEach es X.env)).any (·.1) = false := by rfl) :
    DPE X (.Call (.Name n p) (e :: es) [] pos) (dMake n Cn E t) := by
  obtain ⟨ma, tta, pa, ra⟩ := ha
  obtain ⟨EL, hx, _, hE⟩ := hE
  obtain ⟨C, f, fd, ps, hC, hm, M, hb, F⟩ := F
  refine ⟨dMake_mono ma, tMakeF X C (spOf X.K Cn) EL tta, ⟨fun pins s σ H Q I h => ?_⟩, dMake_sim hC ma ra hE⟩
  refine wpAny_Call_Name_kw (ld_glob I hg hm ?_ hdb)
  refine PySem.W.callWith_K (h₀ := X.base) I.ok.mod.kin M.kp (thn (pa.run pos pins s σ H _ I h) fun us s1 ⟨vs, H1, I1, r, q⟩ => ⟨I1.kIn, ?_⟩) he hpl
  exact run_makeF M F hr hgd hb hx I1 r q
theorem de_make0 (F : MakeOk X.prog X.w X.K X.mg X.base k n Cn) (hr : Room (k + 1) X.A) (hgd : X.A.guards = some []) (hE : PassD X E)
    (hg : Gl X n := by rfl) (hdb : (n == ("__debug__" : Str)) = false := by decide) : DPE X (.Call (.Name n p) [] [] pos) (dMake n Cn E dNil) := by
  have ha : DPA X [] dNil := da_nil
  obtain ⟨EL, hx, _, hE⟩ := hE
  obtain ⟨C, f, fd, ps, hC, hm, M, hb, F⟩ := F
  refine ⟨dMake_mono ha.mono, tMakeF X C (spOf X.K Cn) EL tNil, ⟨fun pins s σ H Q I h => ?_⟩, dMake_sim hC ha.mono (fun σ H σd G Q m s h => h [] H m .nil .refl) hE⟩
  refine wpAny_Call_Name_kw (ld_glob I hg hm ?_ hdb)
  exact PySem.W.callWith_K0 I.kIn M.kp (run_makeF (us := []) M F hr hgd hb hx I .nil h)
end
/-! ### constants of the program's top -/
section
variable {X : Cx} {x : Str} {pos : Pos}
theorem de_globI {i : Int} (h : ∃ t, X.mg x = some (.int i t)) (hg : Gl X x := by rfl) (hd : (x == ("__debug__" : Str)) = false := by decide) : DPE X (.Name x pos) (dC (.int i)) := let ⟨_, hm⟩ := h; de_glob hg hm (v := .int i) ⟨_, rfl⟩ (fun _ => .int _) hd
theorem de_globS {z : Str} (h : ∃ t, X.mg x = some (.str z t)) (hg : Gl X x := by rfl) (hd : (x == ("__debug__" : Str)) = false := by decide) : DPE X (.Name x pos) (dC (.str z)) := let ⟨_, hm⟩ := h; de_glob hg hm (v := .str z) ⟨_, rfl⟩ (fun _ => .str _) hd
end
/-! ### methods at their class -/
section
variable {P : Program} {w : World} {K : PySem.W.Frag} {mg : Str → Option Value} {base : Heap}
def MethAt (K : PySem.W.Frag) (n m q : Str) (st : Stmt) (ps : List Str) : Prop := ∃ C f fd, ClsAt K n C ∧ Cls K C ∧ Meth K C m f ∧ Fun K m q st f fd ∧ Binds K fd ps []
def MakeAt (K : PySem.W.Frag) (mg : Str → Option Value) (n q : Str) (st : Stmt) (ps : List Str) : Prop := ∃ C f fd, ClsAt K n C ∧ mg n = some (.ref C) ∧ Mk K C f ∧ Fun K "__init__" q st f fd ∧ Binds K fd ps []
theorem meth_ok {n m q : Str} {st : Stmt} {N ps : List Str} {k : Nat} {C : Ct} {T : DX → DS} (D : MethAt K n m q st ps) (S : FnScope N ps (defScope st)) (len : ∀ ds G Q E, C ds G Q E → ds.length = ps.length)
    (der : ∀ (f : Addr) (cdv : Value) (A : Around) (outer : List Env) (s : Shared) (H : Hp) (EL : XK) (E : DX), Room k (cx P w K mg base N q (defScope st) f cdv A outer s H EL).A → (cx P w K mg base N q (defScope st) f cdv A outer s H EL).A.guards = some [] →
      PassesOwn (model P w) (cx P w K mg base N q (defScope st) f cdv A outer s H EL).A (cx P w K mg base N q (defScope st) f cdv A outer s H EL).env (cx P w K mg base N q (defScope st) f cdv A outer s H EL).xe →
      PassD (cx P w K mg base N q (defScope st) f cdv A outer s H EL) E → DPSs (cx P w K mg base N q (defScope st) f cdv A outer s H EL) (defBody st) (T E))
    (run : ∀ ds G Q E, C ds G Q E → T E { nx := fun _ G' => DrK Q .non G', rt := DrK Q, bk := fun _ _ => False, ct := fun _ _ => False } (dstart N ds) G) : MethOk P w K mg base (k + 1) n m C := by
  obtain ⟨Ca, f, fd, hC, c, hm, F, hb⟩ := D
  exact ⟨Ca, f, fd, ps, hC, c, hm, hb, fk_ok F S len (der f) run⟩
theorem make_ok {n q : Str} {st : Stmt} {N ps : List Str} {k : Nat} {C : Ct} {T : DX → DS} (D : MakeAt K mg n q st ps) (S : FnScope N ps (defScope st)) (len : ∀ ds G Q E, C ds G Q E → ds.length = ps.length)
    (der : ∀ (f : Addr) (cdv : Value) (A : Around) (outer : List Env) (s : Shared) (H : Hp) (EL : XK) (E : DX), Room k (cx P w K mg base N q (defScope st) f cdv A outer s H EL).A → (cx P w K mg base N q (defScope st) f cdv A outer s H EL).A.guards = some [] →
      PassesOwn (model P w) (cx P w K mg base N q (defScope st) f cdv A outer s H EL).A (cx P w K mg base N q (defScope st) f cdv A outer s H EL).env (cx P w K mg base N q (defScope st) f cdv A outer s H EL).xe →
      PassD (cx P w K mg base N q (defScope st) f cdv A outer s H EL) E → DPSs (cx P w K mg base N q (defScope st) f cdv A outer s H EL) (defBody st) (T E))
    (run : ∀ ds G Q E, C ds G Q E → T E { nx := fun _ G' => DrK Q .non G', rt := DrK Q, bk := fun _ _ => False, ct := fun _ _ => False } (dstart N ds) G) : MakeOk P w K mg base (k + 1) n C := by
  obtain ⟨Ca, f, fd, hC, hm, M, F, hb⟩ := D
  exact ⟨Ca, f, fd, ps, hC, hm, M, hb, fk_ok F S len (der f) run⟩
end
/-! ### steps -/
section
variable {σ : DSt} {G : DG} {Q : DK} {n f m : Str} {fs : List (Str × D)} {p : Addr} {d : D} {ta tv to : DE} {t : DA} {E : DX} {Cn : Ct} {nx bk ct : DSt → DG → Prop} {rt : DK} {ds : List D}
def fldB (n f : Str) (x : D) (G : DG) (Q : DK) : Prop := ∃ p fs v, x = .ref p ∧ G p = some (.ins n fs) ∧ fs.lookup f = some v ∧ Q v G
theorem s_fld (h : ta σ G fun x G1 => fldB n f x G1 Q) : dFld n f ta σ G Q := h
theorem s_fldB (e : G p = some (.ins n fs)) (e2 : fs.lookup f = some d) (h : Q d G) : fldB n f (.ref p) G Q := ⟨p, fs, d, rfl, e, e2, h⟩
def setFB (n f : Str) (x y : D) (G : DG) (R : DG → Prop) : Prop := ∃ p fs, x = .ref p ∧ G p = some (.ins n fs) ∧ fs.length < 1000 ∧ R (up G p (.ins n (putD f y fs)))
theorem s_setF (h : tv σ G fun y G1 => ta σ G1 fun x G2 => setFB n f x y G2 fun G3 => nx σ G3) : dSetF n f ta tv ⟨nx, rt, bk, ct⟩ σ G := h
theorem s_setFB {R : DG → Prop} {fs' : List (Str × D)} (e : G p = some (.ins n fs)) (e2 : fs.length < 1000) (e3 : putD f d fs = fs') (h : R (up G p (.ins n fs'))) : setFB n f (.ref p) d G R := ⟨p, fs, rfl, e, e2, by rw [e3]; exact h⟩
def methB (n m : Str) (x : D) (G : DG) (A : Prop) : Prop := ∃ p fs, x = .ref p ∧ G p = some (.ins n fs) ∧ fs.lookup m = none ∧ A
theorem s_meth (h : to σ G fun x G1 => methB n m x G1 (t σ G1 fun ds G2 => UpC Cn (x :: ds) G2 Q E)) : dMeth n m Cn E to t σ G Q := h
theorem s_methB {A : Prop} (e : G p = some (.ins n fs)) (e2 : fs.lookup m = none) (h : A) : methB n m (.ref p) G A := ⟨p, fs, rfl, e, e2, h⟩
def makeB (n : Str) (Cn : Ct) (ds : List D) (G : DG) (Q : DK) (E : DX) : Prop := ∀ x, G x = none → UpC Cn (.ref x :: ds) (up G x (.ins n [])) (fun v G2 => v = .non ∧ Q (.ref x) G2) E
theorem s_make (h : t σ G fun ds G1 => makeB n Cn ds G1 Q E) : dMake n Cn E t σ G Q := h
theorem s_makeB (h : ∀ x, G x = none → UpC Cn (.ref x :: ds) (up G x (.ins n [])) (fun v G2 => v = .non ∧ Q (.ref x) G2) E) : makeB n Cn ds G Q E := h
end
end FD

namespace FD
open PySem L2
section
variable {X : Cx} {a b c e : Expr} {es rest : List Expr} {ta tb tc : DE} {pos : Pos}
theorem RDs.eraseIdx {K : PySem.W.Frag} {H : Hp} {xs : List D} {vs : List V} (r : RDs K H xs vs) (i : Nat) : RDs K H (xs.eraseIdx i) (vs.eraseIdx i) := by
  rw [List.eraseIdx_eq_take_drop_succ, List.eraseIdx_eq_take_drop_succ]
  exact (r.take i).append (r.drop (i + 1))
theorem de_popAt {o : Expr} {apos : Pos} {to : DE} {t : DA} (ho : DPE X o to) (ha : DPA X (e :: es) t)
    (hbase : attributeBase o "pop" X.env (eval o X.env) = eval o X.env := by rfl)
    (hfew : ((backTo pos (starEach (e :: es) X.env)).all (fun x => !x.1) && (backToKw pos (keywordEach [] X.env)).all (fun x => x.1.isSome)
      && decide ((e :: es).length + ([] : List Keyword).length + (if ([] : List Keyword).isEmpty then 0 else 1) < 30)) = true := by rfl)
    (hline : (apos.endLine == pos.line) = true := by rfl) (h1 : starEach (e :: es) X.env = (false, eval e X.env) :: starEach es X.env := by rfl) (hplain : (backTo pos (starEach es X.env)).any (·.1) = false := by rfl) :
    DPE X (.Call (.Attribute o "pop" apos) (e :: es) [] pos) (dMt popAtD to t) := de_mtL PySem.F.slot_list_pop PySem.F.type_list_pop mt_popAt
  (fun x xs G Q Q' h q => by
    unfold popAtD at q ⊢
    split at q
    · obtain ⟨zs, k, y, z1, z2, z3, z4, z5, z6⟩ := q
      exact ⟨zs, k, y, z1, z2, z3, z4, z5, h _ _ z6⟩
    · exact q)
  (fun H G x xs dx dxs Q m rx rs h => by
    unfold popAtD at h
    split at h
    · obtain ⟨zs, k, y, z1, z2, z3, z4, z5, z6⟩ := h
      cases rx
      obtain ⟨v, vs', rfl, r1, r2⟩ := rs.cons_inv
      have e := r2.nil_inv
      subst e
      cases r1
      obtain ⟨vs, g, r⟩ := m _ _ z1
      obtain ⟨u, h1, h2⟩ := r.get z5
      refine ⟨_, vs, _, k, u, rfl, rfl, g, z2, z3, by rw [← r.1]; exact z4, h1, ?_⟩
      exact z6 u _ (m.upd (.upd_lst g) (.new_lst (r.eraseIdx k) (.upd_lst g))) (h2.kt (.upd_lst g)) (.upd_lst g)
    · exact False.elim h) ho ha hbase hfew hline h1 hplain
/-! ### range, downwards -/
def downD (hi lo : Int) : List D := (List.range (hi - lo).toNat).map fun i => D.int (hi - (i : Nat))
/-- lo, lo + c, .. (n of them) -/
def stepD (lo c : Int) (n : Nat) : List D := (List.range n).map fun i => D.int (lo + (i : Nat) * c)
theorem stepD_down {hi lo : Int} : stepD hi (-1) (hi - lo).toNat = downD hi lo := by
  unfold stepD downD
  refine List.map_congr_left fun i _ => ?_
  congr 1
  omega
def diRange3 (t : DA) : DI := fun σ G R => t σ G fun xs G1 => match xs with
  | [.int i, .int j, .int c] => ∃ n, RgC i j c n ∧ R (stepD i c n) (fun _ => True) G1
  | _ => False
theorem itOk_step {K : PySem.W.Frag} {H1 : Hp} {lo c : Int} {n : Nat} {ok : DG → Prop} : ItOk K H1 (Itc lo c n) (stepD lo c n) ok := fun i H' G' k m o => by
  unfold stepD
  refine ⟨fun d h => ?_, fun h => ?_⟩
  · have hi : i < n := by
      have := (List.getElem?_eq_some_iff.mp h).1
      simpa using this
    rw [List.getElem?_map, List.getElem?_range hi] at h
    cases h
    refine ⟨hi, fun x H2 e => ?_⟩
    obtain ⟨rfl, rfl⟩ := e
    exact ⟨m, .refl, .int _⟩
  · have : n ≤ i := by simpa using h
    exact this
theorem di_range3 {tg : Expr} {t t' t'' : DE} {p pos : Pos} (hg : Gl X "range") (hm : X.mg "range" = none) (ha : DPE X a t) (hb : DPE X b t') (hc : DPE X c t'')
    (hs : starEach [a, b, c] X.env = (false, eval a X.env) :: starEach [b, c] X.env := by rfl) (hs2 : starEach [b, c] X.env = (false, eval b X.env) :: starEach [c] X.env := by rfl) (hs3 : starEach [c] X.env = (false, eval c X.env) :: starEach [] X.env := by rfl) (hpl : (backTo pos (starEach [b, c] X.env)).any (·.1) = false := by rfl) :
    DPI X tg (.Call (.Name "range" p) [a, b, c] [] pos) (diRange3 (dCons t (dCons t' (dCons t'' dNil)))) := by
  have hb' : DPA X [a, b, c] (dCons t (dCons t' (dCons t'' dNil))) := da_cons ha (da_cons hb (da_cons hc da_nil hs3) hs2) hs
  obtain ⟨ma, tta, pa, ra⟩ := hb'
  refine ⟨fun σ G R R' h q => ma σ G _ _ (fun x G1 z => ?_) q, iRng3 tta, pi_range3 hg hm pa hs hpl, fun σ H σd G R m s h => ra σ H σd G _ m s ?_⟩
  · split at z
    · obtain ⟨n, z1, z2⟩ := z
      exact ⟨n, z1, h _ _ _ z2⟩
    · exact z
  refine ma _ _ _ _ (fun xs G1 z vs H1 m1 r1 k1 => ?_) h
  split at z
  · obtain ⟨n, z1, z2⟩ := z
    obtain ⟨v, vs', rfl, a1, a2⟩ := r1.cons_inv
    obtain ⟨v2, vs2, rfl, a3, a4⟩ := a2.cons_inv
    obtain ⟨v3, vs3, rfl, a5, a6⟩ := a4.cons_inv
    have e := a6.nil_inv
    subst e
    cases a1; cases a3; cases a5
    exact ⟨_, _, _, n, rfl, z1, z2 _ H1 m1 k1 itOk_step⟩
  · exact False.elim z
end
section
variable {σ : DSt} {G : DG} {Q : DK} {p q : Addr} {xs : List D} {d : D} {ts : DA}
def rng3B (xs : List D) (G : DG) (R : List D → (DG → Prop) → DG → Prop) : Prop := match xs with
  | [.int i, .int j, .int c] => ∃ n, RgC i j c n ∧ R (stepD i c n) (fun _ => True) G
  | _ => False
theorem s_rng3 {R : List D → (DG → Prop) → DG → Prop} (h : ts σ G fun xs G1 => rng3B xs G1 R) : diRange3 ts σ G R := h
theorem s_rng3C {i j c : Int} {n : Nat} {R : List D → (DG → Prop) → DG → Prop} (e : RgC i j c n) (h : R (stepD i c n) (fun _ => True) G) : rng3B [.int i, .int j, .int c] G R := ⟨n, e, h⟩
theorem s_rng3B {i j : Int} {R : List D → (DG → Prop) → DG → Prop} (e : -(2 ^ 62) ≤ i ∧ i < 2 ^ 62 ∧ -(2 ^ 62) ≤ j ∧ j < 2 ^ 62) (h : R (downD i j) (fun _ => True) G) : rng3B [.int i, .int j, .int (-1)] G R := ⟨_, .neg e.1 e.2.1 e.2.2.1 e.2.2.2, by rw [stepD_down]; exact h⟩
theorem s_popAt0 (e : G p = some (.lst (d :: xs))) (h : Q d (up G p (.lst xs))) : popAtD (.ref p) [.int 0] G Q := by
  refine ⟨d :: xs, 0, d, e, by decide, by decide, ?_, rfl, h⟩
  unfold seqIndex?
  simp
end
theorem putD_new {f : Str} {v : D} : ∀ {fs : List (Str × D)}, fs.lookup f = none → putD f v fs = fs ++ [(f, v)]
  | [], _ => rfl
  | (g, x) :: r, h => by
    unfold putD
    by_cases e : f = g
    · subst e
      rw [List.lookup_cons_self] at h
      cases h
    · have hb : (f == g) = false := beq_eq_false_iff_ne.mpr e
      rw [List.lookup_cons, hb] at h
      rw [if_neg (Ne.symm e), putD_new h]
      rfl
theorem s_setFN {n f : Str} {d : D} {G : DG} {p : Addr} {R : DG → Prop} {fs : List (Str × D)} (e : G p = some (.ins n fs)) (e2 : fs.length < 1000) (e3 : fs.lookup f = none) (h : R (up G p (.ins n (fs ++ [(f, d)])))) : setFB n f (.ref p) d G R := s_setFB e e2 (putD_new e3) h
theorem lex_new' {ws : List Addr} {G G' : DG} {q : Addr} {o : O} (l : LeX ws G G') (h : G' q = none) : LeX ws G (up G' q o) := fun b ob hb e => up_nx (gne (l b ob hb e) h) (l b ob hb e)
theorem s_mid {t u : DS} {nx bk ct : DSt → DG → Prop} {rt : DK} {σ : DSt} {G : DG} (Mid : DSt → DG → Prop) (h1 : ∀ N, (∀ σ G G0, Le G0 G → Mid σ G0 → N σ G) → t ⟨N, rt, bk, ct⟩ σ G) (h2 : ∀ σ G, Mid σ G → u ⟨nx, rt, bk, ct⟩ σ G) : dSeq t u ⟨nx, rt, bk, ct⟩ σ G := h1 _ (fun σ G G0 l m => ⟨G0, l, h2 σ G0 m⟩)
end FD

namespace FD
open PySem L2
/-! ### a list of new lists -/
structure Lls (G G' : DG) (a : Addr) (cs : List Addr) (wss : List (List D)) : Prop where
  le : Le G G'
  ha : G' a = some (.lst (cs.map .ref))
  len : cs.length = wss.length
  nd : cs.Nodup
  ac : a ∉ cs
  at_ : ∀ (i : Nat) c ws, cs[i]? = some c → wss[i]? = some ws → G' c = some (.lst ws)
  fa : G a = none
  fc : ∀ c ∈ cs, G c = none
theorem Lls.new {G G' : DG} {a q : Addr} {cs : List Addr} {wss : List (List D)} {o : O} (h : Lls G G' a cs wss) (hq : G' q = none) : Lls G (up G' q o) a cs wss :=
  { h with
    le := fun b ob e => up_nx (gne (h.le b ob e) hq) (h.le b ob e), ha := up_nx (gne h.ha hq) h.ha
    at_ := fun i c ws e1 e2 => up_nx (gne (h.at_ i c ws e1 e2) hq) (h.at_ i c ws e1 e2) }
theorem Lls.free {G G' : DG} {a c : Addr} {cs : List Addr} {wss : List (List D)} (h : Lls G G' a cs wss) (hc : G' c = none) : G c = none ∧ c ≠ a ∧ c ∉ cs := by
  refine ⟨?_, fun e => ?_, fun m => ?_⟩
  · cases e : G c with
    | none => rfl
    | some o => rw [h.le c o e] at hc; cases hc
  · subst e
    rw [h.ha] at hc
    cases hc
  · obtain ⟨i, hi, e⟩ := List.mem_iff_getElem.mp m
    have := h.at_ i c (wss[i]'(h.len ▸ hi)) (by rw [List.getElem?_eq_getElem hi, e]) (List.getElem?_eq_getElem _)
    rw [hc] at this
    cases this
theorem Lls.more {G G' : DG} {a c : Addr} {cs : List Addr} {wss : List (List D)} {ws : List D} (h : Lls G G' a cs wss) (hc : G' c = none) : Lls G (up (up G' c (.lst ws)) a (.lst ((cs ++ [c]).map .ref))) a (cs ++ [c]) (wss ++ [ws]) := by
  have n := h.new (o := .lst ws) hc
  obtain ⟨gc, ca, hcc⟩ := h.free hc
  refine ⟨le_new h.fa n.le, up_same, by simp [h.len], ?_, by simp [h.ac, Ne.symm ca], fun i d ws' e1 e2 => ?_, h.fa, ?_⟩
  · rw [List.nodup_append]
    exact ⟨h.nd, by simp, fun u hu v hv => by simp at hv; subst hv; exact fun e => hcc (e ▸ hu)⟩
  · have hd := List.mem_of_getElem? e1
    refine up_nx (fun e => ?_) ?_
    · subst e
      simp [h.ac, Ne.symm ca] at hd
    · by_cases hi : i < cs.length
      · rw [List.getElem?_append_left hi] at e1
        rw [List.getElem?_append_left (h.len ▸ hi)] at e2
        exact n.at_ i d ws' e1 e2
      · have : i = cs.length := by
          have := (List.getElem?_eq_some_iff.mp e1).1
          simp at this
          omega
        subst this
        rw [List.getElem?_append_right (by omega)] at e1
        rw [h.len, List.getElem?_append_right (by omega)] at e2
        simp at e1 e2
        subst e1
        subst e2
        exact up_same
  · intro u hu
    simp at hu
    rcases hu with hu | rfl
    · exact h.fc u hu
    · exact gc
theorem Lls.put {G G' : DG} {a c : Addr} {cs : List Addr} {wss : List (List D)} {i : Nat} {ws : List D} (h : Lls G G' a cs wss) (hc : cs[i]? = some c) : Lls G (up G' c (.lst ws)) a cs (wss.set i ws) := by
  have hm := List.mem_of_getElem? hc
  refine { h with le := le_new (h.fc c hm) h.le, ha := up_nx (fun e => h.ac (e ▸ hm)) h.ha, len := by simp [h.len], at_ := fun j d vs e1 e2 => ?_ }
  by_cases e : j = i
  · subst e
    have hi := (List.getElem?_eq_some_iff.mp hc).1
    rw [List.getElem?_set_self (h.len ▸ hi)] at e2
    rw [hc] at e1
    cases e1
    cases e2
    exact up_same
  · rw [List.getElem?_set_ne (Ne.symm e)] at e2
    refine up_nx (fun z => ?_) (h.at_ j d vs e1 e2)
    subst z
    obtain ⟨l1, f1⟩ := List.getElem?_eq_some_iff.mp e1
    obtain ⟨l2, f2⟩ := List.getElem?_eq_some_iff.mp hc
    exact e ((List.getElem_inj (h₀ := l1) (h₁ := l2) h.nd).mp (f1.trans f2.symm))
theorem Lls.le_of {G G' : DG} {a : Addr} {cs : List Addr} {wss : List (List D)} (h : Lls G G' a cs wss) {G2 : DG} (l : Le G' G2) : Lls G G2 a cs wss :=
  { h with le := h.le.trans l, ha := l _ _ h.ha, at_ := fun i c ws e1 e2 => l _ _ (h.at_ i c ws e1 e2) }
theorem Lls.py {α β : Type} {G G' : DG} {a : Addr} {cs : List Addr} {xs : List (List β)} {enc : β → D} {encP : β → PyData} {n : Nat} (h : Lls G G' a cs (xs.map fun x => x.map enc)) (hpy : ∀ x, pyD (n + 1) G' (enc x) = some (encP x)) : pyD (n + 3) G' (.ref a) = some (.list (xs.map fun x => .list (x.map encP))) := by
  refine pyD_ref h.ha ?_
  have main : ∀ (cs : List Addr) (xs : List (List β)), cs.length = xs.length → (∀ (i : Nat) c x, cs[i]? = some c → xs[i]? = some x → G' c = some (.lst (x.map enc))) → pyAll (pyD (n + 2) G') (cs.map .ref) = some (xs.map fun x => PyData.list (x.map encP)) := by
    intro cs
    induction cs with
    | nil =>
      intro xs hl _
      cases xs with
      | nil => rfl
      | cons x xs => simp at hl
    | cons c cs ih =>
      intro xs hl hh
      cases xs with
      | nil => simp at hl
      | cons x xs =>
        refine pyAll_c (pyD_ref (hh 0 c x rfl rfl) (pyAll_map fun y _ => hpy y)) (ih xs (by simpa using hl) fun i c' x' e1 e2 => hh (i + 1) c' x' (by simpa using e1) (by simpa using e2))
  refine main cs xs (by simpa using h.len) fun i c x e1 e2 => h.at_ i c _ e1 (by rw [List.getElem?_map, e2]; rfl)
end FD

namespace FD
open PySem PyProof.Rows Srt SrtO
/-! ### sorted of a tuple of ints -/
section
variable {prog : Program} {w : World} {A : Around} {E : Value → Shared → Prop} {s : Shared}
/-- a tuple's items, gathered in a new list -/
theorem gather_tup {l : Addr} {o : Obj} {us : List Value} {k : Nat} {R : List Value → Shared → Prop} (hob : s.heap.get? l = some o) (hcl : o.cls = .type "tuple") (hdt : o.data = .seq us.toArray k) (hle : us.length ≤ sizeLine)
    (fin : R us { s with heap := (s.heap.push (seqObj "list" #[] 0)).update s.heap.objs.size (Obj.mapSeq fun zs => zs ++ us.toArray) }) : wpAny (model prog w) A (collect (.ref l)) R E s := by
  unfold collect
  apply wpAny_bind
  apply wpAny_runValue
  apply codeAny_builtin entry_proto_collect'
  change wpAny _ _ (do again (.builtin "list.__iadd__" ⟨[← newList [], .ref l], []⟩)) _ _ s
  apply wpAny_bind
  refine wpAny_newList ?_
  refine wpAny_pure ⟨Code.quiet_builtin _ (by decide +kernel), ?_⟩
  apply codeAny_builtin entry_list_iadd'
  have old : (s.heap.push (seqObj "list" #[] 0)).get? l = some o := Heap.get?_push_of_some _ hob
  have own : (s.heap.push (seqObj "list" #[] 0)).get? s.heap.objs.size = some (seqObj "list" #[] 0) := Heap.get?_push_size _ rfl
  change wpAny _ _ (Builtin.List.listExtendWith (.ref s.heap.objs.size) (.ref l) (.ref s.heap.objs.size)) _ _ { s with heap := s.heap.push (seqObj "list" #[] 0) }
  unfold Builtin.List.listExtendWith
  apply wpAny_bind
  refine wpAny_typeOf (T := "tuple") ⟨o, old, hcl⟩ ?_
  have yes : (Builtin.List.listSameRef (.ref s.heap.objs.size) (.ref l) || Value.type "tuple" == Value.type "list" || Value.type "tuple" == Value.type "tuple") = true := by simp
  rw [if_pos yes]
  apply wpAny_bind
  apply listItems_at old hdt
  apply wpAny_bind
  apply listItems_at (xs := #[]) (n := 0) own rfl
  rw [if_neg (by simp)]
  have fits : (#[] ++ us.toArray).size ≤ sizeLine + 1 := by simp only [Array.size_append, List.size_toArray, List.length_nil]; omega
  apply wpAny_bind
  refine listUpdate_at (xs := #[]) (n := 0) own rfl ?_ (Nat.zero_le _) fits
  apply wpAny_pure
  have e0 : ((#[] : Array Value) ++ us.toArray).toList = us := by simp
  have l2 := get?_update_seq own fun zs => zs ++ us.toArray
  refine wpAny_bind (wpAny_load l2 ?_)
  change wpAny _ _ (pure ((#[] : Array Value) ++ us.toArray).toList) R E _
  rw [e0]
  exact wpAny_pure fin
theorem sorted_tup {l : Addr} {o : Obj} {us : List Value} {k : Nat} {ns : List Int} {R : Value → Shared → Prop} (hob : s.heap.get? l = some o) (hcl : o.cls = .type "tuple") (hdt : o.data = .seq us.toArray k) (hle : us.length ≤ sizeLine) (hint : IntsAre us ns)
    (fin : ∀ out : List Value, Srtd ltIv out → Stb ltIv out us → R (.ref (s.heap.objs.size + 1)) { s with heap := sortedAll s.heap us out.toArray }) : wpAny (model prog w) A (call (.builtin "sorted") [.ref l]) R E s := by
  apply Calls.call_function_entry kind_sorted plain_sorted entry_sorted (args_sorted1 _)
  unfold Builtin.«sorted»
  apply wpAny_bind (m := checkCount "sorted" 1 1 _)
  apply wpAny_pure
  apply wpAny_bind
  apply gather_tup hob hcl hdt hle
  apply wpAny_bind
  refine wpAny_newList ?_ hle
  generalize hB : (s.heap.push (seqObj "list" #[] 0)).update s.heap.objs.size (Obj.mapSeq fun zs => zs ++ us.toArray) = B
  have size : B.objs.size = s.heap.objs.size + 1 := by rw [← hB, Heap.size_update, size_push']
  have here : (B.push (seqObj "list" us.toArray 0)).get? (s.heap.objs.size + 1) = some (seqObj "list" us.toArray 0) := by rw [← size]; exact Heap.get?_push_size _ rfl
  change wpAny _ _ _ _ _ { s with heap := B.push (seqObj "list" us.toArray 0) }
  rw [size]
  apply wpAny_bind
  apply wpAny_holding
  refine wpAny_call_entry slot_list_sort ⟨_, here, rfl⟩ entry_list_sort (list_sort_ord swo_int here hle (fun h2 => ints_sortable hint h2) fun out hs hb => ⟨_, rfl, ?_⟩) (args_list_sort _)
  refine wpAny_pure ⟨_, rfl, ?_⟩
  have := fin out hs hb
  unfold sortedAll at this
  rw [hB] at this
  exact this
end
end FD
namespace FD
open PySem L2
section
variable {X : Cx} {a b c e : Expr} {es rest : List Expr} {ta tb tc : DE} {pos : Pos}
def rSortTp (K : PySem.W.Frag) : List V → Hp → VK → Prop := fun vs H Q => ∃ (a : Addr) (ns : List Int), vs = [V.ref a] ∧ SqT K H a (ns.map V.int) ∧ ∀ (ms : List Int) (p : Addr), ms.Perm ns → ms.Pairwise (· ≤ ·) → H p = none → Q (.ref p) (upd H p (.lst (ms.map V.int)))
theorem cr_sortTp : CallR X (.builtin "sorted") (rSortTp X.K) := by
  intro pins s σ H vs us Q I r h
  obtain ⟨a, ns, rfl, hs, q⟩ := h
  obtain ⟨its, rv, ⟨o, h1, h2, k, h3⟩, hz⟩ := I.tuple hs
  obtain ⟨u, rfl, rx⟩ := vals1 r
  cases rx
  have hi := rv.ints
  refine sorted_tup h1 h2 h3 (by rw [← rv.length]; exact hz) hi fun out g1 g2 => ?_
  obtain ⟨k1, k2, k3⟩ := SrtO.ints_out hi g1 g2
  obtain ⟨ep, he'⟩ := PyProof.Rows.sortedAll_at s.heap its out.toArray
  have hlen : ((out.map SrtO.iv).map V.int).length ≤ sizeLine := by
    have e1 := k2.length_eq
    simp only [List.length_map] at hz e1 ⊢
    omega
  have I2 := I.laid (a := s.heap.objs.size + 1) (o := .lst ((out.map SrtO.iv).map V.int)) (t' := s.toks) (h' := PyProof.Rows.sortedAll s.heap its out.toArray) (fun _ _ => PyProof.Rows.sortedAll_old) (Nat.le_succ _) ⟨hlen, out, ep, vals_of_ints k1, he'⟩
  exact ⟨.ref _, _, I2, rfl, q _ _ k2 k3 (I.hok.fresh (Nat.le_succ _))⟩
def sortedTD : FL := fun xs G Q => match xs with
  | [x] => ∃ ns : List Int, x = .tup (ns.map .int) ∧ ∀ ms : List Int, ms.Perm ns → ms.Pairwise (· ≤ ·) → ∀ p, G p = none → Q (.ref p) (up G p (.lst (ms.map .int)))
  | _ => False
theorem de_sortedT {p : Pos} {t : DA} (hg : Gl X "sorted") (hm : X.mg "sorted" = none) (ha : DPA X (e :: es) t) (h1 : starEach (e :: es) X.env = (false, eval e X.env) :: starEach es X.env := by rfl) (h2 : ((backTo pos (starEach es X.env)).any fun x => x.fst) = false := by rfl) :
    DPE X (.Call (.Name "sorted" p) (e :: es) [] pos) (dCB sortedTD t) := de_callB cr_sortTp
  (fun xs G Q Q' h q => by
    unfold sortedTD at q ⊢
    split at q
    · obtain ⟨bs, z1, z2⟩ := q
      exact ⟨bs, z1, fun ns' a b p hp => h _ _ (z2 ns' a b p hp)⟩
    · exact q)
  (fun H G xs ds Q m r h => by
    unfold sortedTD at h
    split at h
    · obtain ⟨v, vs', rfl, r1, r2⟩ := r.cons_inv
      have e := r2.nil_inv
      subst e
      obtain ⟨bs, z1, z2⟩ := h
      subst z1
      cases r1 with
      | tup hs hl hi =>
        have ei := RDs.int_inv (K := X.K) (H := H) ⟨hl, hi⟩
        rw [ei] at hs
        exact ⟨_, bs, rfl, hs.t, fun ns' n a b hn => z2 ns' a b n (m.fresh hn) (.ref n) _ (m.upd (.upd_new hn) (.new_lst (.of_int ns') (.upd_new hn))) (.ref n) (.upd_new hn)⟩
    · exact False.elim h) hg hm (by decide +kernel) ha (by decide) (by decide) h1 h2
theorem s_sortT {G : DG} {Q : DK} {ns : List Int} (k : ∀ (ms : List Int) p, ms.Perm ns → ms.Pairwise (· ≤ ·) → G p = none → Q (.ref p) (up G p (.lst (ms.map D.int)))) : sortedTD [.tup (ns.map D.int)] G Q := ⟨ns, rfl, fun ms a b p hp => k ms p a b hp⟩
end
end FD

namespace FD
open PySem L2
/-! ### list.count of data -/
section
variable {X : Cx} {a b c e : Expr} {es rest : List Expr} {ta tb tc : DE} {pos : Pos}
def rCntD (K : PySem.W.Frag) : V → List V → Hp → VK → Prop := fun x xs H Q => ∃ v ds d, xs = [v] ∧ Dp K H x (.list ds) ∧ Dp K H v d ∧ SeqAt.shaped (.list ds) = true ∧ SeqAt.shaped d = true ∧ Q (.int ((ds.countP fun y => PyData.eqv y d : Nat) : Int)) H
theorem mt_cntD (hu : X.A.units + 65 < cLine) : MtR X "list.count" (rCntD X.K) := by
  intro pins s σ H x xs v us Q I rx rxs h
  obtain ⟨y, ds, d, rfl, hx, hy, sx, sy, q⟩ := h
  obtain ⟨u, rfl, ru⟩ := vals1 rxs
  obtain ⟨as, r1⟩ := Dp.reads I _ _ v hx rx
  obtain ⟨bs, r2⟩ := Dp.reads I d y u hy ru
  have room := PyProof.Rows.room_in_shaped (A := X.A) (xs := ds) sy hu
  have p1 := PyData.plain_of_canLay0 _ (SeqAt.canLay_of_shaped sx)
  have p2 := PyData.plain_of_canLay0 _ (SeqAt.canLay_of_shaped sy)
  cases r1 with
  | list h1 h2 h3 h4 => exact SeqAt.count_list_data ⟨_, h1, h2, _, h3⟩ h4 r2 p1 p2 room ⟨.int _, H, I.tok _, ⟨_, rfl⟩, q⟩
def countD : FM := fun x xs G Q => match xs with
  | [y] => match pyD 9 G x, pyD 9 G y with
    | some (.list ds), some d => Q (.int ((ds.countP fun z => PyData.eqv z d : Nat) : Int)) G
    | _, _ => False
  | _ => False
theorem de_count {o : Expr} {apos : Pos} {to : DE} {t : DA} (hu : X.A.units + 65 < cLine) (ho : DPE X o to) (ha : DPA X (e :: es) t)
    (hbase : attributeBase o "count" X.env (eval o X.env) = eval o X.env := by rfl)
    (hfew : ((backTo pos (starEach (e :: es) X.env)).all (fun x => !x.1) && (backToKw pos (keywordEach [] X.env)).all (fun x => x.1.isSome)
      && decide ((e :: es).length + ([] : List Keyword).length + (if ([] : List Keyword).isEmpty then 0 else 1) < 30)) = true := by rfl)
    (hline : (apos.endLine == pos.line) = true := by rfl) (h1 : starEach (e :: es) X.env = (false, eval e X.env) :: starEach es X.env := by rfl) (hplain : (backTo pos (starEach es X.env)).any (·.1) = false := by rfl) :
    DPE X (.Call (.Attribute o "count" apos) (e :: es) [] pos) (dMt countD to t) := de_mtL PySem.F.slot_list_count PySem.F.type_list_count (mt_cntD hu)
  (fun x xs G Q Q' h q => by
    unfold countD at q ⊢
    split at q
    · split at q
      · exact h _ _ q
      · exact q
    · exact q)
  (fun H G x xs dx dxs Q m rx rs h => by
    unfold countD at h
    split at h
    · split at h
      · rename_i ds d e1 e2
        obtain ⟨v, vs', rfl, r1, r2⟩ := rs.cons_inv
        have e := r2.nil_inv
        subst e
        exact ⟨v, ds, d, rfl, pyD_dp m 9 _ _ _ rx e1, pyD_dp m 9 _ _ d r1 e2, pyD_shaped e1 (by decide), pyD_shaped e2 (by decide), h (.int _) H m (.int _) .refl⟩
      · exact False.elim h
    · exact False.elim h) ho ha hbase hfew hline h1 hplain
theorem s_count {G : DG} {Q : DK} {x y : D} {ds : List PyData} {d : PyData} (e1 : pyD 9 G x = some (.list ds)) (e2 : pyD 9 G y = some d) (h : Q (.int ((ds.countP fun z => PyData.eqv z d : Nat) : Int)) G) : countD x [y] G Q := by
  unfold countD
  simp only [e1, e2]
  exact h
end
end FD

namespace FD
open PySem L2
/-! ### dicts by nested keys -/
theorem paired_of {α β : Type} {F : α → β → Prop} : ∀ {l₁ : List α} {l₂ : List β}, l₁.length = l₂.length → (∀ (i : Nat) a b, l₁[i]? = some a → l₂[i]? = some b → F a b) → Paired F l₁ l₂
  | [], [], _, _ => .nil
  | a :: l₁, b :: l₂, h, f => .cons (f 0 a b rfl rfl) (paired_of (by simpa using h) fun i x y e1 e2 => f (i + 1) x y (by simpa using e1) (by simpa using e2))
theorem paired_get {α β : Type} {F : α → β → Prop} : ∀ {l₁ : List α} {l₂ : List β}, Paired F l₁ l₂ → ∀ (i : Nat) a b, l₁[i]? = some a → l₂[i]? = some b → F a b
  | _, _, .nil, i, a, b, e, _ => by simp at e
  | _, _, .cons r _, 0, a, b, e1, e2 => by
    simp at e1 e2
    subst e1 e2
    exact r
  | _, _, .cons _ t, i + 1, a, b, e1, e2 => paired_get t i a b (by simpa using e1) (by simpa using e2)
section
variable {X : Cx} {pins : List (Addr × Obj)} {σ : St} {H : Hp} {s : Shared}
mutual
theorem nk_is (I : L2.Inv X pins σ H s) : ∀ (d : D) (k : NestedKey), nkD d = some k → ∀ (v : V) (u : Value), RD X.K H d v → RelV v u → NestedIs s.heap k u
  | .non, k, e, v, u, r, ru => by
    cases r
    simp only [nkD, Option.some.injEq] at e
    subst e
    cases (show u = Value.none from ru)
    exact .none
  | .int i, k, e, v, u, r, ru => by
    cases r
    simp only [nkD, Option.some.injEq] at e
    subst e
    obtain ⟨t, rfl⟩ := (show ∃ t, u = Value.int i t from ru)
    exact .int i t
  | .bl b, k, e, v, u, r, ru => by
    cases r
    simp only [nkD, Option.some.injEq] at e
    subst e
    cases (show u = Value.bool b from ru)
    exact .bool rfl
  | .str x, k, e, v, u, r, ru => by
    cases r
    simp only [nkD, Option.some.injEq] at e
    subst e
    obtain ⟨t, rfl⟩ := (show ∃ t, u = Value.str x t from ru)
    exact .text x t
  | .tup xs, k, e, v, u, r, ru => by
    simp only [nkD, Option.map_eq_some_iff] at e
    obtain ⟨ks, e1, rfl⟩ := e
    cases r with
    | tup h hl hi =>
      obtain ⟨its, r1, ⟨o, ho, hc, n, hd⟩, _⟩ := I.tuple h.t
      cases (show u = Value.ref _ from ru)
      exact .tup ho hc hd (by simpa using nk_all I xs ks e1 _ _ ⟨hl, hi⟩ r1)
  | .tpl xs, k, e, v, u, r, ru => by
    simp only [nkD, Option.map_eq_some_iff] at e
    obtain ⟨ks, e1, rfl⟩ := e
    cases r with
    | tpl h hl hi =>
      obtain ⟨its, r1, ⟨o, ho, hc, n, hd⟩, _⟩ := I.tuple h
      cases (show u = Value.ref _ from ru)
      exact .tup ho hc hd (by simpa using nk_all I xs ks e1 _ _ ⟨hl, hi⟩ r1)
  | .lis _, k, e, v, u, r, ru => by simp [nkD] at e
  | .ref _, k, e, v, u, r, ru => by simp [nkD] at e
  | .ty _, k, e, v, u, r, ru => by simp [nkD] at e
theorem nk_all (I : L2.Inv X pins σ H s) : ∀ (ds : List D) (ks : List NestedKey), nkDs ds = some ks → ∀ (vs : List V) (us : List Value), RDs X.K H ds vs → Vals vs us → NestedAll s.heap ks us
  | [], ks, e, vs, us, r, ru => by
    simp only [nkDs, Option.some.injEq] at e
    subst e
    cases r.nil_inv
    cases ru
    exact .nil
  | d :: ds, ks, e, vs, us, r, ru => by
    unfold nkDs at e
    obtain ⟨v, vs', rfl, r1, r2⟩ := r.cons_inv
    cases e1 : nkD d with
    | none => rw [e1] at e; simp at e
    | some k =>
      cases e2 : nkDs ds with
      | none => rw [e1, e2] at e; simp at e
      | some ks' =>
        rw [e1, e2] at e
        simp only [Option.some.injEq] at e
        subst e
        cases ru with
        | cons a b => exact .cons (nk_is I d k e1 _ _ r1 a) (nk_all I ds ks' e2 _ _ r2 b)
end
/-- what stands for one pair -/
def Rl (X : Cx) (H : Hp) (ow : Option World) (kv : D × D) (x : NestedKey × Addr × Value) : Prop := nkD kv.1 = some x.1 ∧ x.1.depth ≤ 8 ∧ RD X.K H kv.1 (.ref x.2.1) ∧ HashOk ow x.1 (x.1.hash X.w) ∧ ∃ v, RD X.K H kv.2 v ∧ RelV v x.2.2
theorem dic_fwd0 {a : Addr} {ow : Option World} {kvs : List (D × D)} {ks : List (NestedKey × Addr)} {vs : List V} (I : L2.Inv X pins σ H s) (hO : ∃ o es ep, s.heap.get? a = some o ∧ o.ExactDict ∧ o.data = .dict es ep ∧ dicP ow ks vs es.toList) (h1 : (a == sysModules) = false) (h2 : kvs.length ≤ sizeLine) (h3 : (ks.map (·.1)).Nodup) (h4 : kvs.length = ks.length)
    (h5 : ∀ (i : Nat) (kv : D × D) (k : NestedKey × Addr), kvs[i]? = some kv → ks[i]? = some k → nkD kv.1 = some k.1 ∧ k.1.depth ≤ 8 ∧ RD X.K H kv.1 (.ref k.2)) (h6 : RDs X.K H (kvs.map (·.2)) vs) (hw : ∀ w, ow = some w → w = X.w) :
    ∃ xs, s.heap.DictOfH (nestedKind X.prog X.w) a xs ∧ Paired (Rl X H ow) kvs xs := by
  obtain ⟨o, es, ep, e1, e2, e3, p1, p2, p3⟩ := hO
  have hlen : kvs.length = es.toList.length := by rw [h4, p1]
  have hk : ∀ (i : Nat) (e : DictEntry), es.toList[i]? = some e → ∃ k v kv, ks[i]? = some k ∧ vs[i]? = some v ∧ kvs[i]? = some kv := fun i e he => by
    have hi : i < es.toList.length := (List.getElem?_eq_some_iff.mp he).1
    exact ⟨ks[i]'(by omega), vs[i]'(by omega), kvs[i]'(by omega), List.getElem?_eq_getElem _, List.getElem?_eq_getElem _, List.getElem?_eq_getElem _⟩
  have hh : ∀ (k : NestedKey) (z : Int), HashOk ow k z → z = k.hash X.w := fun k z q => by
    cases ow with
    | none => exact q X.w
    | some w => rw [← hw w rfl]; exact q
  refine ⟨List.zipWith (fun (k : NestedKey × Addr) (e : DictEntry) => (k.1, k.2, e.val)) ks es.toList, ⟨o, es, ep, e1, e2, e3, ?_, ?_, ?_⟩, paired_of ?_ ?_⟩
  · refine List.ext_getElem? fun i => ?_
    cases he : es.toList[i]? with
    | none =>
      have hi := List.getElem?_eq_none_iff.mp he
      symm
      rw [List.getElem?_eq_none_iff]
      simp only [List.length_map, List.length_zipWith]
      omega
    | some e =>
      obtain ⟨k, v, kv, q1, q2, q3⟩ := hk i e he
      obtain ⟨b1, b2, b3⟩ := p3 i e k v he q1 q2
      rw [List.getElem?_map, List.getElem?_zipWith, q1, he]
      show some e = some (entryOfKey (nestedKind X.prog X.w) (k.1, k.2, e.val))
      congr 1
      obtain ⟨eh, ek, ev⟩ := e
      have c1 : eh = k.1.hash X.w := hh _ _ b1
      have c2 : ek = .ref k.2 := b2
      subst c1 c2
      rfl
  · intro x hx
    obtain ⟨i, hi⟩ := List.mem_iff_getElem?.mp hx
    rw [List.getElem?_zipWith] at hi
    cases he : es.toList[i]? with
    | none => rw [he] at hi; cases hk2 : ks[i]? <;> rw [hk2] at hi <;> simp at hi
    | some e =>
      obtain ⟨k, v, kv, q1, q2, q3⟩ := hk i e he
      rw [q1, he] at hi
      cases hi
      obtain ⟨c1, c2, c3⟩ := h5 i kv k q3 q1
      exact ⟨nk_is I _ _ c1 _ _ c3 rfl, c2⟩
  · have : (List.zipWith (fun (k : NestedKey × Addr) (e : DictEntry) => (k.1, k.2, e.val)) ks es.toList).map (·.1) = ks.map (·.1) := by
      refine List.ext_getElem? fun i => ?_
      rw [List.getElem?_map, List.getElem?_map, List.getElem?_zipWith]
      cases he : es.toList[i]? with
      | none =>
        have hi := List.getElem?_eq_none_iff.mp he
        have : ks[i]? = none := List.getElem?_eq_none_iff.mpr (by omega)
        rw [this]
        rfl
      | some e =>
        obtain ⟨k, v, kv, q1, q2, q3⟩ := hk i e he
        rw [q1]
        rfl
    rw [this]
    exact h3
  · simp only [List.length_zipWith]
    omega
  · intro i kv x e1' e2'
    rw [List.getElem?_zipWith] at e2'
    cases he : es.toList[i]? with
    | none => rw [he] at e2'; cases hk2 : ks[i]? <;> rw [hk2] at e2' <;> simp at e2'
    | some e =>
      obtain ⟨k, v, kv', q1, q2, q3⟩ := hk i e he
      rw [q1, he] at e2'
      cases e2'
      rw [e1'] at q3
      cases q3
      obtain ⟨c1, c2, c3⟩ := h5 i kv k e1' q1
      obtain ⟨b1, b2, b3⟩ := p3 i e k v he q1 q2
      refine ⟨c1, c2, c3, ?_, v, h6.2 i kv.2 v (by rw [List.getElem?_map, e1']; rfl) q2, b3⟩
      have := hh _ _ b1
      rw [this] at b1
      exact b1
theorem dic_fwd {a : Addr} {ow : Option World} {kvs : List (D × D)} (I : L2.Inv X pins σ H s) (m : MO X.K H a (.dic ow kvs)) (hw : ∀ w, ow = some w → w = X.w) :
    ∃ xs, s.heap.DictOfH (nestedKind X.prog X.w) a xs ∧ Paired (Rl X H ow) kvs xs ∧ (a == sysModules) = false ∧ kvs.length ≤ sizeLine ∧ Mut (H a) := by
  obtain ⟨ks, vs, h, h1, h2, h3, h4, h5, h6⟩ := m
  obtain ⟨z, _, _⟩ := I.hok a _ h
  obtain ⟨xs, q1, q2⟩ := dic_fwd0 I z h1 h2 h3 h4 h5 h6 hw
  exact ⟨xs, q1, q2, h1, h2, by rw [h]; exact True.intro⟩
theorem dif_fwd {a : Addr} {ow : Option World} {kvs : List (D × D)} (I : L2.Inv X pins σ H s) (m : MO X.K H a (.dif ow kvs)) (hw : ∀ w, ow = some w → w = X.w) :
    ∃ xs, s.heap.DictOfH (nestedKind X.prog X.w) a xs ∧ Paired (Rl X H ow) kvs xs ∧ (a == sysModules) = false ∧ kvs.length ≤ sizeLine := by
  obtain ⟨od, ks, vs, h, h1, h2, h3, h4, h5, h6⟩ := m
  obtain ⟨_, z, _, _⟩ := I.hok a _ h
  obtain ⟨xs, q1, q2⟩ := dic_fwd0 I z h1 h2 h3 h4 h5 h6 hw
  exact ⟨xs, q1, q2, h1, h2⟩
/-- such a dict, walked or not -/
def isDi (G : DG) (a : Addr) (kvs : List (D × D)) : Prop := G a = some (.dic none kvs) ∨ G a = some (.dif none kvs)
theorem di_fwd {G : DG} {a : Addr} {kvs : List (D × D)} (I : L2.Inv X pins σ H s) (m : MH X.K G H) (h : isDi G a kvs) :
    ∃ xs, s.heap.DictOfH (nestedKind X.prog X.w) a xs ∧ Paired (Rl X H none) kvs xs ∧ (a == sysModules) = false ∧ kvs.length ≤ sizeLine := by
  rcases h with h | h
  · obtain ⟨xs, q1, q2, q3, q4, _⟩ := dic_fwd I (m a _ h) (by intro w z; cases z)
    exact ⟨xs, q1, q2, q3, q4⟩
  · exact dif_fwd I (m a _ h) (by intro w z; cases z)
theorem dic_bwd {a : Addr} {ow : Option World} {kvs : List (D × D)} {xs : List (NestedKey × Addr × Value)} {h' : Heap} (dd : h'.DictOfH (nestedKind X.prog X.w) a xs) (P : Paired (Rl X H ow) kvs xs) (hs : (a == sysModules) = false) (hz : kvs.length ≤ sizeLine) :
    ∃ u : HO, Mut (some u) ∧ ObjOk X.prog X.w (upd H a u) h' a u ∧ (KT X.K H (upd H a u) → MO X.K (upd H a u) a (.dic ow kvs)) := by
  obtain ⟨o, es, ep, e1, e2, e3, e4, e5, e6⟩ := dd
  have hl := Paired.length P
  have : ∀ (l₁ : List (D × D)) (l₂ : List (NestedKey × Addr × Value)), Paired (Rl X H ow) l₁ l₂ → ∃ vs, RDs X.K H (l₁.map (·.2)) vs ∧ Vals vs (l₂.map (·.2.2)) := fun l₁ l₂ p => by
    induction p with
    | nil => exact ⟨[], .nil, .nil⟩
    | cons r _ ih =>
      obtain ⟨vs, q1, q2⟩ := ih
      obtain ⟨_, _, _, _, v, r1, r2⟩ := r
      exact ⟨v :: vs, .cons r1 q1, .cons r2 q2⟩
  obtain ⟨vs, q1, q2⟩ := this kvs xs P
  have hv := Paired.length q2
  rw [List.length_map] at hv
  refine ⟨dicO ow a (xs.map fun x => (x.1, x.2.1)) vs, True.intro, ⟨⟨o, es, ep, e1, e2, e3, by rw [e4]; simp, by simpa using hv, fun i e k v c1 c2 c3 => ?_⟩, ⟨o, e1⟩, fun h1 h2 ⟨o', es', ep', z1, z2⟩ k => ⟨o', es', ep', k _ z1, z2⟩⟩, fun kt => ⟨_, _, upd_same, hs, hz, by rw [List.map_map]; exact e6, by simpa using hl, fun i kv k c1 c2 => ?_, q1.kt kt⟩⟩
  · rw [e4, List.getElem?_map] at c1
    rw [List.getElem?_map] at c2
    cases ex : xs[i]? with
    | none => rw [ex] at c1; cases c1
    | some x =>
      rw [ex] at c1 c2
      cases c1
      cases c2
      have hi : i < kvs.length := by
        have := (List.getElem?_eq_some_iff.mp ex).1
        omega
      obtain ⟨_, _, _, b4, _⟩ := paired_get P i kvs[i] x (List.getElem?_eq_getElem _) ex
      exact ⟨b4, rfl, paired_get q2 i v x.2.2 c3 (by rw [List.getElem?_map, ex]; rfl)⟩
  · rw [List.getElem?_map] at c2
    cases ex : xs[i]? with
    | none => rw [ex] at c2; cases c2
    | some x =>
      rw [ex] at c2
      cases c2
      obtain ⟨b1, b2, b3, _⟩ := paired_get P i kv x c1 ex
      exact ⟨b1, b2, b3.kt kt⟩
end
/-! ### looking and laying -/
def lookN (k : NestedKey) : List (D × D) → Option D
  | [] => none
  | kv :: r => if nkD kv.1 = some k then some kv.2 else lookN k r
def putN (k : NestedKey) (y v : D) : List (D × D) → List (D × D)
  | [] => [(y, v)]
  | kv :: r => if nkD kv.1 = some k then (kv.1, v) :: r else kv :: putN k y v r
def dropN (k : NestedKey) : List (D × D) → List (D × D)
  | [] => []
  | kv :: r => if nkD kv.1 = some k then r else kv :: dropN k r
theorem look_at {X : Cx} {H : Hp} {ow : Option World} {k : NestedKey} : ∀ {kvs : List (D × D)} {xs : List (NestedKey × Addr × Value)}, Paired (Rl X H ow) kvs xs → match lookN k kvs, atKey xs k with
    | none, none => True
    | some d, some p => ∃ v, RD X.K H d v ∧ RelV v p.2
    | _, _ => False
  | _, _, .nil => by simp [lookN, atKey]
  | _, _, .cons (a := kv) (b := x) (l₂ := l2) r t => by
    have ih := look_at (k := k) t
    obtain ⟨r1, _, _, _, r2⟩ := r
    unfold lookN
    by_cases e : x.1 = k
    · rw [if_pos (by rw [r1, e])]
      have : atKey (x :: l2) k = some x.2 := by unfold atKey; rw [List.find?_cons_of_pos (by simpa using e)]; rfl
      rw [this]
      exact r2
    · rw [if_neg (by rw [r1]; simpa using e)]
      have : ∀ l, atKey (x :: l) k = atKey l k := fun l => by unfold atKey; rw [List.find?_cons_of_neg (by simpa using e)]
      rw [this]
      exact ih
theorem look_some {X : Cx} {H : Hp} {ow : Option World} {k : NestedKey} {kvs : List (D × D)} {xs : List (NestedKey × Addr × Value)} {d : D} (P : Paired (Rl X H ow) kvs xs) (h : lookN k kvs = some d) : ∃ p, atKey xs k = some p ∧ ∃ v, RD X.K H d v ∧ RelV v p.2 := by
  have := look_at (k := k) P
  rw [h] at this
  cases e : atKey xs k with
  | none => rw [e] at this; exact this.elim
  | some p => rw [e] at this; exact ⟨p, rfl, this⟩
theorem look_is {X : Cx} {H : Hp} {ow : Option World} {k : NestedKey} {kvs : List (D × D)} {xs : List (NestedKey × Addr × Value)} (P : Paired (Rl X H ow) kvs xs) : (atKey xs k).isSome = (lookN k kvs).isSome := by
  have := look_at (k := k) P
  cases h : lookN k kvs with
  | none =>
    rw [h] at this
    cases e : atKey xs k with
    | none => rfl
    | some p => rw [e] at this; exact this.elim
  | some d =>
    rw [h] at this
    cases e : atKey xs k with
    | none => rw [e] at this; exact this.elim
    | some p => rfl
theorem storedH_cons_eq {x : NestedKey × Addr × Value} {xs : List (NestedKey × Addr × Value)} {k : NestedKey} {a : Addr} {v : Value} (h : x.1 = k) (hn : k ∉ xs.map (·.1)) : storedH (x :: xs) k a v = (x.1, x.2.1, v) :: xs := by
  have : (atKey (x :: xs) k).isSome = true := by unfold atKey; rw [List.find?_cons_of_pos (by simpa using h)]; rfl
  unfold storedH
  rw [if_pos this, List.map_cons]
  congr 1
  · unfold putAt; rw [if_pos h]
  · conv => rhs; rw [← List.map_id xs]
    refine List.map_congr_left fun y hy => ?_
    unfold putAt
    rw [if_neg fun e => hn (List.mem_map.mpr ⟨y, hy, e⟩)]
    rfl
theorem storedH_cons_ne {x : NestedKey × Addr × Value} {xs : List (NestedKey × Addr × Value)} {k : NestedKey} {a : Addr} {v : Value} (h : x.1 ≠ k) : storedH (x :: xs) k a v = x :: storedH xs k a v := by
  have : atKey (x :: xs) k = atKey xs k := by unfold atKey; rw [List.find?_cons_of_neg (by simpa using h)]
  unfold storedH
  rw [this]
  split
  · rw [List.map_cons]
    congr 1
    unfold putAt; rw [if_neg h]
  · rfl
theorem put_at {X : Cx} {H : Hp} {ow : Option World} {k : NestedKey} {y d : D} {a : Addr} {v : V} {u : Value} (hy : nkD y = some k) (hd : k.depth ≤ 8) (ry : RD X.K H y (.ref a)) (hh : HashOk ow k (k.hash X.w)) (rd : RD X.K H d v) (rv : RelV v u) :
    ∀ {kvs : List (D × D)} {xs : List (NestedKey × Addr × Value)}, Paired (Rl X H ow) kvs xs → (xs.map (·.1)).Nodup → Paired (Rl X H ow) (putN k y d kvs) (storedH xs k a u)
  | _, _, .nil, _ => by
    show Paired _ [(y, d)] [(k, a, u)]
    exact .cons ⟨hy, hd, ry, hh, v, rd, rv⟩ .nil
  | _, _, .cons (a := kv) (b := x) (l₁ := l1) (l₂ := l2) r t, nd => by
    rw [List.map_cons, List.nodup_cons] at nd
    have hr := r
    obtain ⟨r1, r2, r3, r4, r5⟩ := r
    unfold putN
    by_cases e : x.1 = k
    · rw [if_pos (by rw [r1, e]), storedH_cons_eq e (by rw [← e]; exact nd.1)]
      exact .cons ⟨r1, r2, r3, r4, v, rd, rv⟩ t
    · rw [if_neg (by rw [r1]; simpa using e), storedH_cons_ne e]
      exact .cons hr (put_at hy hd ry hh rd rv t nd.2)
theorem putN_len {k : NestedKey} {y d : D} : ∀ {kvs : List (D × D)}, (putN k y d kvs).length ≤ kvs.length + 1
  | [] => by simp [putN]
  | kv :: r => by
    unfold putN
    split
    · simp
    · have := putN_len (k := k) (y := y) (d := d) (kvs := r)
      simp only [List.length_cons]
      omega
/-! ### keys that are ints or texts -/
def keyD : D → Option Key
  | .int i => some (.inl i)
  | .str x => some (.inr x)
  | _ => none
def lookK (k : Key) : List (Key × D) → Option D
  | [] => none
  | kv :: r => if kv.1 = k then some kv.2 else lookK k r
def putKD (kvs : List (Key × D)) (k : Key) (v : D) : List (Key × D) := if (kvs.any fun kv => decide (kv.1 = k)) = true then kvs.map fun kv => if kv.1 = k then (kv.1, v) else kv else kvs ++ [(k, v)]
theorem keyD_rd {K : PySem.W.Frag} {H : Hp} {y : D} {v : V} {k : Key} (r : RD K H y v) (h : keyD y = some k) : v = kV k := by
  cases r <;> simp [keyD] at h <;> subst h <;> rfl
theorem lookK_at {K : PySem.W.Frag} {H : Hp} {k : Key} : ∀ {kvs : List (Key × D)} {kvs' : List (Key × V)}, kvs'.map (·.1) = kvs.map (·.1) → RDs K H (kvs.map (·.2)) (kvs'.map (·.2)) → match lookK k kvs, valV kvs' k with
    | none, none => True
    | some d, some v => RD K H d v
    | _, _ => False
  | [], [], _, _ => True.intro
  | [], _ :: _, h, _ => by simp at h
  | _ :: _, [], h, _ => by simp at h
  | kv :: r, p :: r', h, rd => by
    simp only [List.map_cons, List.cons.injEq] at h
    obtain ⟨v, vs', e, r1, r2⟩ := RDs.cons_inv rd
    simp only [List.map_cons, List.cons.injEq] at e
    obtain ⟨rfl, rfl⟩ := e
    have ih := lookK_at (k := k) h.2 r2
    unfold lookK
    by_cases e : kv.1 = k
    · rw [if_pos e, valV_pos (h.1.trans e)]
      exact r1
    · rw [if_neg e, valV_neg fun z => e (h.1.symm.trans z)]
      exact ih
theorem putK_at {K : PySem.W.Frag} {H : Hp} {k : Key} {d : D} {v : V} (rv : RD K H d v) {kvs : List (Key × D)} {kvs' : List (Key × V)} (h : kvs'.map (·.1) = kvs.map (·.1)) (rd : RDs K H (kvs.map (·.2)) (kvs'.map (·.2))) : (putK kvs' k v).map (·.1) = (putKD kvs k d).map (·.1) ∧ RDs K H ((putKD kvs k d).map (·.2)) ((putK kvs' k v).map (·.2)) := by
  have any_eq : ∀ {l : List (Key × D)} {l' : List (Key × V)}, l'.map (·.1) = l.map (·.1) → (l.any fun kv => decide (kv.1 = k)) = l'.any fun kv => decide (kv.1 = k) := by
    intro l
    induction l with
    | nil => intro l' h; cases l' with | nil => rfl | cons _ _ => simp at h
    | cons x l ih =>
      intro l' h
      cases l' with
      | nil => simp at h
      | cons y l' =>
        simp only [List.map_cons, List.cons.injEq] at h
        rw [List.any_cons, List.any_cons, ih h.2, h.1]
  unfold putK putKD
  rw [any_eq h]
  split
  · clear any_eq
    induction kvs generalizing kvs' with
    | nil => cases kvs' with | nil => exact ⟨rfl, .nil⟩ | cons _ _ => simp at h
    | cons x l ih =>
      cases kvs' with
      | nil => simp at h
      | cons y l' =>
        simp only [List.map_cons, List.cons.injEq] at h
        obtain ⟨v0, vs', e, r1, r2⟩ := RDs.cons_inv rd
        simp only [List.map_cons, List.cons.injEq] at e
        obtain ⟨rfl, rfl⟩ := e
        rename_i hany
        have hi : ∀ {l : List (Key × D)} {l' : List (Key × V)}, l'.map (·.1) = l.map (·.1) → RDs K H (l.map (·.2)) (l'.map (·.2)) → (l'.map fun kv => if kv.1 = k then (kv.1, v) else kv).map (·.1) = (l.map fun kv => if kv.1 = k then (kv.1, d) else kv).map (·.1) ∧ RDs K H ((l.map fun kv => if kv.1 = k then (kv.1, d) else kv).map (·.2)) ((l'.map fun kv => if kv.1 = k then (kv.1, v) else kv).map (·.2)) := by
          intro l
          induction l with
          | nil => intro l' h _; cases l' with | nil => exact ⟨rfl, .nil⟩ | cons _ _ => simp at h
          | cons x l ih =>
            intro l' h rd
            cases l' with
            | nil => simp at h
            | cons y l' =>
              simp only [List.map_cons, List.cons.injEq] at h
              obtain ⟨v0, vs', e, r1, r2⟩ := RDs.cons_inv rd
              simp only [List.map_cons, List.cons.injEq] at e
              obtain ⟨rfl, rfl⟩ := e
              obtain ⟨i1, i2⟩ := ih h.2 r2
              simp only [List.map_cons, List.cons.injEq]
              by_cases e : x.1 = k
              · rw [if_pos e, if_pos (h.1.trans e)]
                exact ⟨⟨h.1, i1⟩, .cons rv i2⟩
              · rw [if_neg e, if_neg fun z => e (h.1.symm.trans z)]
                exact ⟨⟨h.1, i1⟩, .cons r1 i2⟩
        exact hi (l := x :: l) (l' := y :: l') (by simp [h.1, h.2]) rd
  · rw [List.map_append, List.map_append, List.map_append, List.map_append, h]
    exact ⟨rfl, rd.append (.cons rv .nil)⟩
/-! ### the readings -/
def isTupD (y : D) : Prop := (∃ xs, y = .tup xs) ∨ ∃ xs, y = .tpl xs
mutual
def plainK : NestedKey → Bool
  | .none => true
  | .num _ => true
  | .text _ => false
  | .tup ks => plainKs ks
def plainKs : List NestedKey → Bool
  | [] => true
  | k :: ks => plainK k && plainKs ks
end
mutual
theorem hash_plain (w w' : World) : ∀ k : NestedKey, plainK k = true → k.hash w = k.hash w'
  | .none, _ => rfl
  | .num _, _ => rfl
  | .text _, h => by simp [plainK] at h
  | .tup ks, h => by
    unfold plainK at h
    unfold NestedKey.hash
    rw [hashes_plain w w' ks h]
theorem hashes_plain (w w' : World) : ∀ ks : List NestedKey, plainKs ks = true → NestedKey.hashes w ks = NestedKey.hashes w' ks
  | [], _ => rfl
  | k :: ks, h => by
    unfold plainKs at h
    rw [Bool.and_eq_true] at h
    unfold NestedKey.hashes
    rw [hash_plain w w' k h.1, hashes_plain w w' ks h.2]
end
def hasIt (G : DG) (a : Addr) (y : D) (o : Option D) : Prop := (∃ kvs k, G a = some (.dK kvs) ∧ keyD y = some k ∧ lookK k kvs = o) ∨ ∃ kvs k, isDi G a kvs ∧ isTupD y ∧ nkD y = some k ∧ k.depth ≤ 8 ∧ lookN k kvs = o
def putIt (G : DG) (a : Addr) (y v : D) (G' : DG) : Prop := (∃ kvs k, G a = some (.dK kvs) ∧ keyD y = some k ∧ kvs.length < sizeLine ∧ G' = up G a (.dK (putKD kvs k v))) ∨ ∃ kvs k, G a = some (.dic none kvs) ∧ isTupD y ∧ nkD y = some k ∧ k.depth ≤ 8 ∧ plainK k = true ∧ kvs.length < sizeLine ∧ G' = up G a (.dic none (putN k y v kvs))
def getD : F2 := fun x y G Q => ∃ a v, x = .ref a ∧ hasIt G a y (some v) ∧ Q v G
def hasD (neg : Bool) : F2 := fun y x G Q => ∃ a o, x = .ref a ∧ hasIt G a y o ∧ Q (.bl (if neg = true then !o.isSome else o.isSome)) G
theorem getD_mono : MonoF2 getD := fun x y G Q Q' h ⟨a, v, e, i, q⟩ => ⟨a, v, e, i, h _ _ q⟩
theorem hasD_mono {neg : Bool} : MonoF2 (hasD neg) := fun x y G Q Q' h ⟨a, v, e, i, q⟩ => ⟨a, v, e, i, h _ _ q⟩
/-- a reading by data, as a reading of the hand layer -/
def r2D (K : PySem.W.Frag) (f : F2) : R2 := fun x y H Q => ∃ G dx dy, MH K G H ∧ RD K H dx x ∧ RD K H dy y ∧ f dx dy G (lf K H Q)
theorem r2D_sim {K : PySem.W.Frag} {f : F2} : Sim2 K (r2D K f) f := fun H G x y dx dy Q m rx ry h => ⟨G, dx, dy, m, rx, ry, h⟩
theorem isTup_ref {K : PySem.W.Frag} {H : Hp} {y : D} {v : V} (h : isTupD y) (r : RD K H y v) : ∃ b, v = .ref b := by
  rcases h with ⟨xs, rfl⟩ | ⟨xs, rfl⟩ <;> cases r <;> exact ⟨_, rfl⟩
section
variable {X : Cx} {a b c e o i value : Expr} {es rest : List Expr} {ta tb tc : DE} {pos pos' : Pos}
theorem room8 (hu : X.A.units + 64 < cLine) : (nestedKind X.prog X.w).room X.A.in1 := by
  show X.A.units + 1 + 8 < cLine
  omega
theorem dk_type {pins : List (Addr × Obj)} {σ : St} {H : Hp} {s : Shared} {G : DG} {p : Addr} {y : D} {oo : Option D} (I : L2.Inv X pins σ H s) (m : MH X.K G H) (h : hasIt G p y oo) : s.TypeIs (.ref p) "dict" := by
  rcases h with ⟨kvs, k, e, _⟩ | ⟨kvs, k, e, _⟩
  · obtain ⟨kvs', e1, _⟩ := m p _ e
    obtain ⟨_, _, vs, _, dd⟩ := dk_rd I.hok (.inl e1)
    exact dd.typeIs
  · obtain ⟨xs, dd, _⟩ := di_fwd I m e
    exact dd.typeIs
theorem get_ok {pins : List (Addr × Obj)} {σ : St} {H : Hp} {s : Shared} {G : DG} {p : Addr} {y d : D} {yv : V} {u : Value} {Q : VK} (hu : X.A.units + 64 < cLine) (I : L2.Inv X pins σ H s) (m : MH X.K G H) (h : hasIt G p y (some d)) (ry : RD X.K H y yv) (ru : RelV yv u) (q : lf X.K H Q d G) : wpAny (model X.prog X.w) X.A (getItem (.ref p) u) (EP X pins σ Q) X.xe s := by
  rcases h with ⟨kvs, k, e, hk, l⟩ | ⟨kvs, k, e, ht, hk, hd, l⟩
  · obtain ⟨kvs', e1, e2, e3⟩ := m p _ e
    have := lookK_at (k := k) e2 e3
    rw [l] at this
    cases ev : valV kvs' k with
    | none => rw [ev] at this; exact this.elim
    | some v =>
      rw [ev] at this
      exact d_getItem (v := v) (A := X.A) (by omega) I (.inl ⟨kvs', k, .inl e1, keyD_rd ry hk, ev.symm⟩) ru fun w' s' I' rw' => ⟨v, H, I', rw', q v H m this .refl⟩
  · obtain ⟨xs, dd, P, hs, hz⟩ := di_fwd I m e
    obtain ⟨pr, ep, v, rv, ru'⟩ := look_some P l
    obtain ⟨b, rfl⟩ := isTup_ref ht ry
    cases (show u = Value.ref b from ru)
    exact wpAny_getItem_heap (room8 hu) ⟨nk_is I y k hk _ _ ry rfl, hd⟩ dd ep ⟨v, H, I.tok _, ru', q v H m rv .refl⟩
theorem de_dget (hu : X.A.units + 64 < cLine) (ha : DPE X a ta) (hb : DPE X b tb) (hs : NoSl b := by exact fun _ _ => rfl) : DPE X (.Subscript a b pos) (dOp getD ta tb) := by
  obtain ⟨ma, tta, pa, ra⟩ := ha
  obtain ⟨mb, ttb, pb, rb⟩ := hb
  refine ⟨dOp_mono getD_mono ma mb, tOp (r2D X.K getD) tta ttb, ⟨fun pins s σ H Q I h => ?_⟩, dOp_run getD_mono r2D_sim ma mb ra rb⟩
  refine subD_of PySem.F.slot_dict_getitem.lookup hs (thn (pa.run pins s σ H _ I h) fun u s1 ⟨x, H1, I1, rx, q1⟩ => thn (pb.run pins s1 σ H1 _ I1 q1) fun iv s2 ⟨y, H2, I2, ry, G, dx, dy, m, rdx, rdy, p, d, ex, hi, q⟩ => ?_)
  subst ex
  cases rdx
  obtain rfl : u = Value.ref p := rx
  exact ⟨dk_type I2 m hi, get_ok hu I2 m hi rdy ry q⟩
theorem op_hasD {neg : Bool} (hu : X.A.units + 64 < cLine) : OpR X (compareOp (if neg = true then .NotIn else .In)) (r2D X.K (hasD neg)) := by
  intro pins s σ H x y v u Q I rx ry ⟨G, dx, dy, m, rdx, rdy, p, o, ex, hi, q⟩
  subst ex
  cases rdy
  obtain rfl : u = Value.ref p := ry
  have fin : ∀ s', L2.Inv X pins σ H s' → EP X pins σ Q (.bool (if neg = true then !o.isSome else o.isSome)) s' := fun s' I' => ⟨.bl (if neg = true then !o.isSome else o.isSome), H, I', rfl, q _ H m (.bl _) .refl⟩
  rcases hi with ⟨kvs, k, e, hk, l⟩ | ⟨kvs, k, e, ht, hk, hd, l⟩
  · obtain ⟨kvs', e1, e2, e3⟩ := m p _ e
    have := lookK_at (k := k) e2 e3
    rw [l] at this
    have hs : o.isSome = (valV kvs' k).isSome := by
      cases o <;> cases hv : valV kvs' k <;> rw [hv] at this <;> first | rfl | exact this.elim
    rw [hs] at fin
    cases neg with
    | true => exact d_notIn (by omega) I (.inl ⟨kvs', k, .inl e1, keyD_rd rdx hk, rfl⟩) rx fin
    | false => exact d_in (by omega) I (.inl ⟨kvs', k, .inl e1, keyD_rd rdx hk, rfl⟩) rx fin
  · obtain ⟨xs, dd, P, hs, hz⟩ := di_fwd I m e
    have hs' := look_is (k := k) P
    rw [l] at hs'
    rw [← hs'] at fin
    obtain ⟨b, rfl⟩ := isTup_ref ht rdx
    cases (show v = Value.ref b from rx)
    cases neg with
    | true => exact PyProof.Rows.wpAny_notIn_heap (room8 hu) ⟨nk_is I _ k hk _ _ rdx rfl, hd⟩ hs dd (fin _ (I.tok _))
    | false => exact wpAny_in_heap (room8 hu) ⟨nk_is I _ k hk _ _ rdx rfl, hd⟩ hs dd (fin _ (I.tok _))
theorem de_din (hu : X.A.units + 64 < cLine) (ha : DPE X a ta) (hb : DPE X b tb) (hk : behindInMarks .In b = false := by rfl) : DPE X (.Compare a [.In] [b] pos) (dOp (hasD false) ta tb) := de_cmpR (op_hasD (neg := false) hu) hasD_mono r2D_sim ha hb hk
theorem dt_din (hu : X.A.units + 64 < cLine) (ha : DPE X a ta) (hb : DPE X b tb) (hk : behindInMarks .In b = false := by rfl) : DPT X (.Compare a [.In] [b] pos) (dTest (dOp (hasD false) ta tb)) := dt_cmpR (op_hasD (neg := false) hu) hasD_mono r2D_sim ha hb hk
theorem de_dnotin (hu : X.A.units + 64 < cLine) (ha : DPE X a ta) (hb : DPE X b tb) (hk : behindInMarks .NotIn b = false := by rfl) : DPE X (.Compare a [.NotIn] [b] pos) (dOp (hasD true) ta tb) := de_cmpR (op_hasD (neg := true) hu) hasD_mono r2D_sim ha hb hk
theorem dt_dnotin (hu : X.A.units + 64 < cLine) (ha : DPE X a ta) (hb : DPE X b tb) (hk : behindInMarks .NotIn b = false := by rfl) : DPT X (.Compare a [.NotIn] [b] pos) (dTest (dOp (hasD true) ta tb)) := dt_cmpR (op_hasD (neg := true) hu) hasD_mono r2D_sim ha hb hk
/-- d[y] = v -/
def dDput (td ty tv : DE) : DS := fun D σ G => tv σ G fun v G1 => td σ G1 fun x G2 => ty σ G2 fun y G3 => ∃ a G4, x = .ref a ∧ putIt G3 a y v G4 ∧ D.nx σ G4
theorem put_ok {pins : List (Addr × Obj)} {σ : St} {H : Hp} {s : Shared} {G G' : DG} {p : Addr} {y d : D} {yv v : V} {u r : Value} {Q : Unit → Shared → Prop} (hu : X.A.units + 64 < cLine) (I : L2.Inv X pins σ H s) (m : MH X.K G H) (h : putIt G p y d G') (ry : RD X.K H y yv) (ru : RelV yv u) (rd : RD X.K H d v) (rv : RelV v r)
    (q : ∀ H' s', L2.Inv X pins σ H' s' → MH X.K G' H' → KT X.K H H' → Q () s') : wpAny (model X.prog X.w) X.A (setItem (.ref p) u r) Q X.xe s := by
  rcases h with ⟨kvs, k, e, hk, hl, rfl⟩ | ⟨kvs, k, e, ht, hk, hd, hp, hl, rfl⟩
  · obtain ⟨kvs', e1, e2, e3⟩ := m p _ e
    have hlen : kvs'.length = kvs.length := by simpa using congrArg List.length e2
    obtain ⟨c1, c2⟩ := putK_at (k := k) rd e2 e3
    have kk : KT X.K H (L2.upd H p (.dK (putK kvs' k v))) := .upd_mut e1 (fun _ e => by cases e) (fun _ _ e => by cases e)
    exact d_setItem (by omega) I (.inl ⟨kvs', k, e1, keyD_rd ry hk, by omega, rfl⟩) ru rv fun s' I' => q _ s' I' (m.upd kk ⟨_, upd_same, c1, c2.kt kk⟩) kk
  · obtain ⟨xs, dd, P, hs, hz, mu⟩ := dic_fwd I (m p _ e) (by intro w z; cases z)
    obtain ⟨b, rfl⟩ := isTup_ref ht ry
    cases (show u = Value.ref b from ru)
    have hlx := Paired.length P
    refine wpAny_setItem_heap (hsz := by omega) (room8 hu) ⟨nk_is I y k hk _ _ ry rfl, hd⟩ dd fun h' dd' hb => ?_
    have nd : (xs.map (·.1)).Nodup := let ⟨_, _, _, _, _, _, _, _, z⟩ := dd; z
    have P' := put_at hk hd ry (ow := none) (fun w => hash_plain _ _ k hp) rd rv P nd
    have hz' : (putN k y d kvs).length ≤ sizeLine := by have := putN_len (k := k) (y := y) (d := d) (kvs := kvs); omega
    obtain ⟨uo, mu', ob, mo⟩ := dic_bwd dd' P' hs hz'
    have kk : KT X.K H (L2.upd H p uo) := by
      cases hH : H p with
      | none => rw [hH] at mu; exact mu.elim
      | some w0 =>
        rw [hH] at mu
        exact .upd_mut hH (fun _ z => by rw [z] at mu; exact mu.elim) (fun _ _ z => by rw [z] at mu; exact mu.elim)
    have he : ∃ q, h'.get? p = some q := let ⟨q, _, _, hq, _⟩ := dd'; ⟨q, hq⟩
    exact q _ _ (I.write (x := p) (e := p) mu (.inl rfl) (fun b q hb' z => (hb.2 b hb').trans z) he ob) (m.upd kk (mo kk)) kk
theorem ds_dput {tv : DE} (hu : X.A.units + 64 < cLine) (ho : DPE X o ta) (hi : DPE X i tb) (hv : DPE X value tv) (hs : swapsWith value (some (.Subscript o i pos')) pos.line X.env = pure false := by rfl) : DPS X (.Assign [.Subscript o i pos'] value pos) (dDput ta tb tv) := by
  obtain ⟨ma, tta, pa, ra⟩ := ho
  obtain ⟨mb, ttb, pb, rb⟩ := hi
  obtain ⟨mv, ttv, pv, rv⟩ := hv
  refine ⟨fun σ G D D' l q => mv σ G _ _ (fun v G1 q1 => ma σ G1 _ _ (fun x G2 q2 => mb σ G2 _ _ (fun y G3 ⟨a, G4, h1, h2, q3⟩ => ⟨a, G4, h1, h2, l.1 _ _ q3⟩) q2) q1) q,
    fun D σ H => ttv σ H fun v H1 => tta σ H1 fun x H2 => ttb σ H2 fun y H3 => ∃ G d p dy G4, x = .ref p ∧ MH X.K G H3 ∧ RD X.K H3 d v ∧ RD X.K H3 dy y ∧ putIt G p dy d G4 ∧ ∀ H4, MH X.K G4 H4 → KT X.K H3 H4 → D.nx σ H4, ⟨fun pins s σ H D I h => ?_⟩, fun σ H σd G D m s h => ?_⟩
  · refine wpAny_Assign_Subscript (thn (pv.run pins s σ H _ I h) fun r s1 ⟨v, H1, I1, rv', q1⟩ => thn (pa.run pins s1 σ H1 _ I1 q1) fun u s2 ⟨x, H2, I2, rx, q2⟩ => thn (pb.run pins s2 σ H2 _ I2 q2) fun iv s3 ⟨y, H3, I3, ry, G, d, p, dy, G4, ex, m, rd, rdy, g, q3⟩ => ?_) hs
    subst ex
    obtain rfl : u = Value.ref p := rx
    exact put_ok hu I3 m g rdy ry rd rv' fun H4 s4 I4 m4 k4 => ⟨σ, H4, I4, q3 H4 m4 k4⟩
  · refine rv σ H σd G _ m s (mv _ _ _ _ (fun d G1 h1 v H1 m1 r1 k1 => ra σ H1 σd G1 _ m1 (s.kt k1) (ma _ _ _ _ (fun dx G2 h2 x H2 m2 r2 k2 => rb σ H2 σd G2 _ m2 (s.kt (k1.trans k2)) (mb _ _ _ _ (fun dy G3 ⟨p, G4, ex, g, q⟩ y H3 m3 r3 k3 => ?_) h2)) h1)) h)
    subst ex
    cases r2
    exact ⟨G3, d, p, dy, G4, rfl, m3, (r1.kt k2).kt k3, r3, g, fun H4 m4 k4 => q σ H4 m4 (s.kt ((k1.trans k2).trans (k3.trans k4))) ((k1.trans k2).trans (k3.trans k4))⟩
/-- {} -/
def dDicK : DE := fun _ G Q => ∀ p, G p = none → Q (.ref p) (up G p (.dK []))
def dDicN : DE := fun _ G Q => ∀ p, G p = none → Q (.ref p) (up G p (.dic none []))
theorem de_dicK : DPE X (.Dict [] [] pos) dDicK := ⟨fun σ G Q Q' h q p hp => h _ _ (q p hp), tDNewK, pe_dnewK, fun σ H σd G Q m s h p hp => by
  have kk : KT X.K H (L2.upd H p (.dK [])) := .upd_new hp
  exact h p (m.fresh hp) _ _ (m.upd kk ⟨[], upd_same, rfl, .nil⟩) (.ref p) kk⟩
theorem de_dicN : DPE X (.Dict [] [] pos) dDicN := by
  refine ⟨fun σ G Q Q' h q p hp => h _ _ (q p hp), fun σ H Q => ∀ p u, H p = none → (∀ G, MH X.K G H → MH X.K (up G p (.dic none [])) (upd H p u)) → KT X.K H (upd H p u) → Q (.ref p) (upd H p u), ⟨fun pins s σ H Q I h => ?_⟩, fun σ H σd G Q m s h p u hp hm kk => h p (m.fresh hp) _ _ (hm G m) (.ref p) kk⟩
  have dd : (s.heap.push { cls := .type "dict", data := .dict #[] }).DictOfH (nestedKind X.prog X.w) s.heap.objs.size [] := Heap.DictOfH.new s.heap
  have hb : (s.heap.objs.size == sysModules) = false := beq_eq_false_iff_ne.mpr (Ne.symm (Nat.ne_of_lt I.big))
  obtain ⟨u, mu, ob, mo⟩ := dic_bwd (X := X) (H := H) (ow := none) (kvs := []) dd .nil hb (Nat.zero_le _)
  have hn : H s.heap.objs.size = none := I.hok.fresh (Nat.le_refl _)
  have kk : KT X.K H (L2.upd H s.heap.objs.size u) := .upd_new hn
  exact wpAny_Dict_empty ⟨.ref s.heap.objs.size, _, I.laid (a := s.heap.objs.size) (o := u) (t' := s.toks) (fun _ _ q => Heap.get?_push_of_some _ q) (Nat.le_refl _) ob, rfl, h _ u hn (fun G m => m.upd kk (mo kk)) kk⟩
/-- len(d) -/
def sizeIt (G : DG) (a : Addr) (n : Nat) : Prop := (∃ kvs, G a = some (.dK kvs) ∧ kvs.length = n) ∨ ∃ kvs, isDi G a kvs ∧ kvs.length = n
def lenDicD : FL := fun xs G Q => ∃ a n, xs = [.ref a] ∧ sizeIt G a n ∧ Q (.int (n : Nat)) G
def rLD (K : PySem.W.Frag) (f : FL) : List V → Hp → VK → Prop := fun xs H Q => ∃ G ds, MH K G H ∧ RDs K H ds xs ∧ f ds G (lf K H Q)
theorem rLD_sim {K : PySem.W.Frag} {f : FL} : SimL K (rLD K f) f := fun H G xs ds Q m r h => ⟨G, ds, m, r, h⟩
theorem cr_lenDic : CallR X (.builtin "len") (rLD X.K lenDicD) := by
  intro pins s σ H xs us Q I r ⟨G, ds, m, rd, a, n, e, hs, q⟩
  subst e
  obtain ⟨v, vs', rfl, r1, r2⟩ := rd.cons_inv
  cases r2.nil_inv
  cases r1
  cases r with
  | cons ru rr =>
    cases rr
    cases (show _ = Value.ref a from ru)
    rcases hs with ⟨kvs, e, rfl⟩ | ⟨kvs, e, rfl⟩
    · obtain ⟨kvs', e1, e2, e3⟩ := m a _ e
      have hlen : kvs'.length = kvs.length := by simpa using congrArg List.length e2
      refine d_len I (.inl e1) fun t s' I' => ⟨.int kvs.length, H, I', ⟨t, by rw [hlen]⟩, q _ H m (.int _) .refl⟩
    · obtain ⟨xs, dd, P, hs, hz⟩ := di_fwd I m e
      have hlx := Paired.length P
      refine call_len_dictH hs dd (by rw [← hlx]; rw [sizeLine_eq] at hz; omega) ?_
      rw [← hlx]
      exact ⟨.int kvs.length, H, I.tok _, ⟨_, rfl⟩, q _ H m (.int _) .refl⟩
theorem lenDicD_mono : MonoFL lenDicD := fun xs G Q Q' h ⟨a, n, e, s, q⟩ => ⟨a, n, e, s, h _ _ q⟩
theorem de_lenDic {p : Pos} {t : DA} (hg : Gl X "len") (hm : X.mg "len" = none) (ha : DPA X (e :: es) t) (h1 : starEach (e :: es) X.env = (false, eval e X.env) :: starEach es X.env := by rfl) (h2 : ((backTo pos (starEach es X.env)).any fun x => x.fst) = false := by rfl) :
    DPE X (.Call (.Name "len" p) (e :: es) [] pos) (dCB lenDicD t) := de_callB cr_lenDic lenDicD_mono rLD_sim hg hm PySem.boot_len ha (by decide) (by decide) h1 h2
end
end FD

namespace FD
open PySem L2
/-! ### exceptions: raised, caught and kept -/
/-- a class of exceptions whose instances are asked for their kind -/
structure ExK (K : PySem.W.Frag) (n : Str) (C : Addr) : Prop where
  at_ : ClsAt K n C
  cl : (PySem.W.clsIn K C).isSome = true
  ga : PySem.W.findIn K (.ref C) "__getattribute__" = some (some (.builtin "BaseException.__getattribute__"))
  gg : PySem.W.findIn K (.ref C) "__getattr__" = some none
  sub : PySem.W.subIn K (.ref C) (.type "BaseException") = some true
  ca : PySem.W.findIn K (.ref C) "__class__" = some (some (.builtin "object.__class__"))
  gs : PySem.W.specialIn K (.builtin "object.__class__") "__get__" = some (some (.builtin "getset_descriptor.__get__"))
  tk : PySem.W.takesIn K (.builtin "object.__class__") = some true
  mr : PySem.W.mroIn K C (.type "object") = some true
  hd : PySem.W.hasDictIn K C = true
  ty : PySem.W.typeIn K (.ref C) = some (.type "type")
  kp : PySem.W.keepIn K (.ref C) = true
/-- .. without an __init__ of its own -/
def Ex0 (K : PySem.W.Frag) (mg : Str → Option Value) (n : Str) : Prop := ∃ C, ExK K n C ∧ mg n = some (.ref C) ∧ PySem.W.excIn K C [.type "ValueError", .type "Exception", .type "BaseException", .type "object"] "ValueError.__new__" = true
section
variable {X : Cx} {E : DX} {n m f x : Str} {j : Nat} {p p1 p2 pos pos2 pos' : Pos} {e o : Expr} {es : List Expr} {ta tv : DE} {t : DA}
def dRaise0 (n : Str) (E : DX) : DS := fun _ _ G => E n none G
theorem ds_raise0 (c : Ex0 X.K X.mg n) (hE : PassD X E) (hc : X.calm = true := by rfl) (hg : Gl X n := by rfl) (hdb : (n == ("__debug__" : Str)) = false := by decide) :
    DPS X (.Raise (some (.Call (.Name n p) [.Constant (.str m) j p2] [] pos)) none pos2) (dRaise0 n E) := by
  obtain ⟨C, k, hm, q⟩ := c
  obtain ⟨EL, hx, tk, hE⟩ := hE
  have P := ps_raise (pos := pos2) hc tk (pmk_own (m := m) (j := j) (p := p) (p2 := p2) (pos := pos) PySem.F.excBase_ValueError q hm k.kp (raises_own k.sub k.ty) hg hdb)
  refine ⟨fun σ G D D' l q => q, fun D σ H => KT X.K X.H_0 H → EL (.ref C) none H, ⟨fun pins s σ H D I h => P.run pins s σ H D I (h (inv_kt I))⟩, fun σ H σd G D m' s h k0 => ?_⟩
  exact hE H k0 n none G h C none H k.at_ m' .refl True.intro
/-! ### an __init__ of the form: FarError.__init__(self, text); self.f = f -/
def spInit (K : PySem.W.Frag) (f : Str) : Sp := fun vs H Q _ => ∃ (a C : Addr) (y : V), vs = [.ref a, y] ∧ OexC K C ∧ PySem.W.findIn K (.ref C) f = some none ∧ H a = some (exo a C none) ∧ ∀ dx, H dx = none → dx ≠ a → Q .non (upd (upd H dx (exd dx [(f, y)])) a (exo a C (some dx)))
theorem pe_farinit {F : Addr} {pl : Sem Bool} {tta : TA} {b : Str} (hg : Gl X b) (hm : X.mg b = some (.ref F)) (sg : PySem.W.specialIn X.K (.ref F) "__getattribute__" = some (some (.builtin "type.__getattribute__")))
    (rd : PySem.W.readsIn X.K F (.type "type") = true) (fc : PySem.W.findCls X.K (.ref F) (.type "type") "__init__" = some (.val (.builtin "ValueError.__init__"))) (ha : PA X (e :: es) tta)
    (hdb : (b == ("__debug__" : Str)) = false := by decide)
    (hc : eval (.Call (.Attribute (.Name b p1) "__init__" p2) (e :: es) [] pos) X.env = (do
      let ov ← eval (.Name b p1) X.env
      standAt p2.atName
      let (f, first) ← holding [ov] (getMethod ov "__init__" pl)
      callWith pos f first (backTo pos (starEach (e :: es) X.env)) (backToKw pos (keywordEach [] X.env))) := by rfl)
    (he : starEach (e :: es) X.env = (false, eval e X.env) :: starEach es X.env := by rfl) (hpl : (backTo pos (starEach es X.env)).any (·.1) = false := by rfl) :
    PE X (.Call (.Attribute (.Name b p1) "__init__" p2) (e :: es) [] pos) (tVeI X.K tta) := by
  refine ⟨fun pins s σ H Q I h => ?_⟩
  refine PySem.W.methodCall_KW (ld_glob I hg hm ?_ hdb) hc
  refine PySem.W.method_cls I.kIn sg (PySem.W.cls_value I.kIn rd fc rfl ?_)
  show wpAny _ _ (callWith pos (Value.builtin "ValueError.__init__") [] (backTo pos (starEach (e :: es) X.env)) []) _ _ _
  refine PyProof.Rows.callWith_method1 (thn (ha.run pos pins _ σ H _ (I.tok _) h) fun ws s1 hh => ?_) he hpl
  obtain ⟨vs, H1, I1, r1, a, C, ys, rfl, hl, T, ea, q⟩ := hh
  cases r1 with
  | @cons _ u0 _ ur ra rr =>
    obtain rfl : u0 = Value.ref a := ra
    refine oinit_ok T I1 ea ?_ fun s' J => ⟨.non, H1, J, rfl, q⟩
    rw [← Paired.length rr, sizeLine_eq]
    omega
end
/-- a class of exceptions with such an __init__, f its field -/
def Ex1 (P : Program) (w : World) (K : PySem.W.Frag) (mg : Str → Option Value) (base : Heap) (k : Nat) (n f : Str) : Prop := ∃ C fI fd, ExK K n C ∧ mg n = some (.ref C) ∧ OexC K C ∧ PySem.W.findIn K (.ref C) "__init__" = some (some (.ref fI)) ∧ PySem.W.typeIn K (.ref fI) = some (.type "function") ∧
  PySem.W.findIn K (.ref C) f = some none ∧ FnOk P w K mg base (L2.CX P w) k fI fd ["self", f] (spInit K f) ∧ Binds K fd ["self", f] []
section
variable {X : Cx} {E : DX} {n m f x : Str} {k j : Nat} {p p1 p2 pos pos2 pos' : Pos} {e o : Expr} {es : List Expr} {ta tv : DE} {t : DA}
def dRaise1 (n f : Str) (E : DX) (ta : DE) : DS := fun _ σ G => ta σ G fun d G1 => E n (some [(f, d)]) G1
theorem xd_keep {K : PySem.W.Frag} {H : Hp} {a dx C : Addr} {G : DG} {f : Str} {d : D} {y : V} (ha : H a = none) (hx : H dx = none) (hne : dx ≠ a) (m : MH K G H) (r : RD K H d y) :
    let H3 := upd (del (upd (upd (upd H a (exo a C none)) dx (exd dx [(f, y)])) a (exo a C (some dx))) a) dx (.xd [(f, y)])
    MH K G H3 ∧ KT K H H3 ∧ XO K H3 (some dx) (some [(f, d)]) := by
  intro H3
  have same : ∀ b, b ≠ a → b ≠ dx → H3 b = H b := fun b h1 h2 => by
    show upd (del _ a) dx _ b = H b
    rw [upd_ne h2, del_ne h1, upd_ne h1, upd_ne h2, upd_ne h1]
  have kt : KT K H H3 := ⟨fun b vs h => (same b (ne_of_none h ha) (ne_of_none h hx)).trans h, fun b o vs h => (same b (ne_of_none h ha) (ne_of_none h hx)).trans h, fun b o vs h => (same b (ne_of_none h ha) (ne_of_none h hx)).trans h⟩
  refine ⟨fun b ob h => (m b ob h).keep (same b (fun z => ?_) (fun z => ?_)) kt, kt, [(f, y)], upd_same, rfl, ?_⟩
  · rw [z, m.fresh ha] at h
    cases h
  · rw [z, m.fresh hx] at h
    cases h
  · exact .cons (r.kt kt) .nil
theorem ds_raise1 (c : Ex1 X.prog X.w X.K X.mg X.base k n f) (hr : Room (k + 1) X.A) (hE : PassD X E) (ha : DPE X e ta) (hc : X.calm = true := by rfl) (hg : Gl X n := by rfl) (hdb : (n == ("__debug__" : Str)) = false := by decide)
    (he : starEach [e] X.env = (false, eval e X.env) :: starEach [] X.env := by rfl) (hpl : (backTo pos (starEach [] X.env)).any (·.1) = false := by rfl) :
    DPS X (.Raise (some (.Call (.Name n p) [e] [] pos)) none pos2) (dRaise1 n f E ta) := by
  obtain ⟨C, fI, fd, kx, hm, T, iC, tI, ff, F1, hb⟩ := c
  obtain ⟨EL, hx, tk, hE⟩ := hE
  obtain ⟨ma, tta, pa, ra⟩ := ha
  have P := ps_raise (pos := pos2) hc tk (pmk_oex (p := p) (pos := pos) (dvs := []) T iC tI F1 hr hb .nil passL hg hm (pa_cons pa pa_nil he) hdb he hpl)
  refine ⟨fun σ G D D' l q => q, fun D σ H => KT X.K X.H_0 H → tMkO C (spInit X.K f) [] (tCons tta tNil) σ H fun cls d H' => EL cls d H', ⟨fun pins s σ H D I h => P.run pins s σ H D I (h (inv_kt I))⟩, fun σ H σd G D m s h k0 => ?_⟩
  refine ra σ H σd G _ m s (ma _ _ _ _ (fun d G1 q y H1 m1 r1 k1 => ?_) h)
  refine ⟨by show 1 ≤ 1000; decide, fun a ha => ⟨a, C, y, rfl, T, ff, upd_same, fun dx hx hne => ⟨rfl, dx, [(f, y)], upd_same, ?_, ?_, ?_⟩⟩⟩
  · rw [upd_ne hne, upd_same]
  · rw [upd_ne hne] at hx
    exact hx
  · rw [upd_ne hne] at hx
    obtain ⟨b1, b2, b3⟩ := xd_keep (C := C) (f := f) ha hx hne m1 r1
    exact hE H1 (k0.trans k1) n _ G1 q C (some dx) _ kx.at_ b1 b2 b3
end
theorem init_ok {P : Program} {w : World} {K : PySem.W.Frag} {mg : Str → Option Value} {base : Heap} {q f m : Str} {st : Stmt} {fI : Addr} {fd : FuncData} {k : Nat} (F : Fun K "__init__" q st fI fd) (S : FnScope ["self", f] ["self", f] (defScope st))
    (der : ∀ (cdv : Value) (A : Around) (outer : List Env) (s : Shared) (H : Hp) (EL : XK), PSs (cxOf (L2.CX P w) P w K mg base ["self", f] q (defScope st) fI cdv A outer s H EL) (defBody st) (tSeq (tDrop (tVeI K (tCons (tVar 0) (tCons (tC (.str m)) tNil)))) (tOst K f (tVar 0) (tVar 1)))) :
    FnOk P w K mg base (L2.CX P w) (k + 1) fI fd ["self", f] (spInit K f) := by
  obtain ⟨oc, od, kV, doc, pm, an, cdv, ct, osl, rfl, lk, hcd⟩ := F.ex
  refine fn_of lk hcd S (fun vs H Q E h => ?_) fun A outer s H vs Q E hr hsp => ⟨_, der cdv A outer s H E, ?_⟩
  · obtain ⟨a, C, y, rfl, _⟩ := h
    rfl
  · obtain ⟨a, C, y, rfl, T, ff, ea, h⟩ := hsp
    refine ⟨.ref a, rfl, ?_⟩
    refine ⟨a, C, [.str m], rfl, by show 1 ≤ 1000; decide, T, ea, ?_⟩
    exact ⟨y, rfl, .ref a, rfl, a, C, rfl, T, ff, .inl ⟨ea, fun dx hx hne => h dx hx hne⟩⟩
/-! ### try .. except X as e: c = e -/
section
variable {X : Cx} {pins : List (Addr × Obj)} {σ : St} {H : Hp} {s : Shared}
/-- an exception that was held is an object like others -/
theorem inv_track {a : Addr} {oe : Obj} {vs : Array Value} (I : L2.Inv X ((a, oe) :: pins) σ H s) (hn : X.s_0.heap.get? a = none) (hp : ∀ p ∈ X.pn ++ pins, p.1 ≠ a) (hc : ∀ x c, X.env.cells.lookup x = some c → c ≠ a) (hd : oe.data = .fields vs) :
    L2.Inv X pins σ (upd H a (excO a oe.cls oe.dict)) s := by
  obtain ⟨ha, na, nL, nF, _⟩ := I.pin (a, oe) (List.mem_append_right _ List.mem_cons_self)
  have ha' : s.heap.get? a = some oe := ha
  have na' : H a = none := na
  refine ⟨I.ok, I.os, I.bare, ⟨I.base.keep, I.base.slot, fun b o e n hx => ?_, I.base.there, fun b xs e => ?_, fun b o u e => ?_, fun b ps e => ?_⟩, I.loc, I.cell, ?_, fun x c e => ?_, fun p hp' => ?_, fun b ob e => ?_, I.len⟩
  · have hb : b ≠ a := fun z => by rw [z, hn] at e; cases e
    rw [upd_ne hb]
    exact I.base.free b o e n hx
  · have z := I.base.tups b xs e
    rw [upd_ne (ne_of_none z na')]
    exact z
  · have z := I.base.frzs b o u e
    rw [upd_ne (ne_of_none z na')]
    exact z
  · obtain ⟨more, z⟩ := I.base.tbls b ps e
    exact ⟨more, by rw [upd_ne (ne_of_none z na')]; exact z⟩
  · rw [upd_ne (Ne.symm nL)]
    exact I.free
  · rw [upd_ne (hc x c e)]
    exact I.freeC x c e
  · obtain ⟨h1, h2, h3, h4, h5⟩ := I.pin p (List.mem_append.mpr ((List.mem_append.mp hp').imp_right (List.mem_cons_of_mem _)))
    exact ⟨h1, by rw [upd_ne (hp p hp')]; exact h2, h3, h4, h5⟩
  · by_cases hb : b = a
    · subst hb
      rw [upd_same] at e
      cases e
      exact ⟨⟨oe, vs, ha', rfl, rfl, hd⟩, ⟨oe, ha'⟩, fun h1 h2 ⟨o', vs', z1, z2⟩ k => ⟨o', vs', k _ z1, z2⟩⟩
    · rw [upd_ne hb] at e
      refine (I.hok b ob e).stay (fun c u _ z => z) (fun c z => ?_) (fun c xs z => ?_)
      · rw [upd_ne (ne_of_none z na')]
        exact z
      · rw [upd_ne (ne_of_none z na')]
        exact z
end
/-- what the clause wishes of an exception of the body: slot i is e's, j that in which it is kept -/
def wKeep (K : PySem.W.Frag) (c : Value) (i j : Nat) (D : Ends) : WX := fun cls d σ H => PySem.W.exmOne K cls c = some true ∧ ∀ a, H a = none → D.nx (((σ.set i (some (.ref a))).set j (some (.ref a))).set i none) (upd H a (excO a cls d))
section
variable {X : Cx} {x n y : Str} {c : Value} {i j : Nat} {body : List Stmt} {np pos pos' p1 p2 p3 : Pos} {tb : WX → TS}
theorem ps_try_keep (hs : X.stack = X.env :: X.outer) (hf : X.env.frame = some X.env.locals) (hex : X.ex = []) (hN : X.N.Nodup) (hi : X.N[i]? = some n) (hj : X.N[j]? = some y) (hln : X.env.kindOf n = some .local) (hly : X.env.kindOf y = some .local) (hne : i ≠ j) (hc : Names X x c)
    (hsw : swapsWith (.Name n p2) (some (.Name y p1)) p3.line X.env = pure false) (hd1 : (n == ("__debug__" : Str)) = false) (hd2 : (n == ("__classdict__" : Str)) = false)
    (hb : ∀ (W : WX) (pn : List (Addr × Obj)) (xe : Value → Shared → Prop), Takes (X.tr pn xe) W → PassesOwn (model X.prog X.w) X.A X.env xe → PSs (X.tr pn xe) body (tb W)) :
    PS X (.Try body [.ExceptHandler (some (.Name x np)) (some n) [.Assign [.Name y p1] (.Name n p2) p3] pos'] [] [] pos) (fun D σ H => tb (wKeep X.K c i j D) D σ H) := by
  refine ⟨fun pins s σ H D I h => ?_⟩
  have ok := I.ok
  have frame : X.A.frames = some (X.env :: X.outer) := by rw [ok.frames, hs]
  refine wpAny_Try_except ?_
  refine wpAny_mono ((hb (wKeep X.K c i j D) (X.pn ++ pins) (fun e s₁ => wpAny (model X.prog X.w) X.A (noteFrame e X.env)
    (fun _ s₂ => wpAny (model X.prog X.w) X.A (setFlight e none)
      (fun _ s₃ => wpAny (model X.prog X.w) X.A (handleBy e X.env [.ExceptHandler (some (.Name x np)) (some n) [.Assign [.Name y p1] (.Name n p2) p3] pos']) (SP X pins D) X.xe s₃) X.xe s₂) X.xe s₁)
    (fun u s' met => ?_) PassesOwn.looking).run [] s σ H D (I.toTry _) h) (fun fl s1 q => ?_) (fun e s1 q => q)
  · obtain ⟨a, B, sI, pins', σ', H', cls, d, rfl, J', inB, upto, sky, na, os, ag, isIt, wish⟩ := met
    have J : L2.Inv X pins σ' H' sI := J'.ofTry ok
    rw [hs] at sky
    show wpAny (model X.prog X.w) X.A (noteFrame (.ref a) X.env) _ _ _
    have Ba : B.get? a = none := by
      rcases sky with ⟨_, z, _⟩ | z | z
      · exact z
      · exact z.2.1
      · exact z.2.1
    refine Sky.land Zc.steady frame hf sky fun h3 fl3 up3 => ?_
    have J3 : L2.Inv X pins σ' H' { s' with heap := h3 } := J.landed inB fl3.1 (upto.trans up3) os ag
    obtain ⟨oe3, vs3, at3, hz3, dt3⟩ := fl3.there
    have off : a ∉ frs (X.env :: X.outer) := fun hm => by
      obtain ⟨_, o', q, nf⟩ := fl3.2.2.1.mem hm
      rw [at3] at q
      cases q
      exact nf _ dt3
    have nL : a ≠ X.env.locals := fun z => off (List.mem_filterMap.mpr ⟨X.env, List.mem_cons_self, by rw [hf, z]⟩)
    have nF : a ∉ X.fs := fun hm => by
      obtain ⟨v, hv, q⟩ := List.mem_filterMap.mp hm
      exact off (List.mem_filterMap.mpr ⟨v, List.mem_cons_of_mem _ hv, q⟩)
    have new : sI.heap.get? a = none := by
      cases q : sI.heap.get? a with
      | none => rfl
      | some o =>
        have z := inB a o q (by rw [hs]; exact off)
        rw [Ba] at z
        cases z
    have S3 := J3.suite at3 dt3 na nL nF
    refine wpAny_handleBy_cons (codeAny_handlers_test ?_) (by intro q; cases q)
    have seen : PySem.W.Looks (model X.prog X.w) h3 (typeOf (.ref a)) cls := fun A Q E s k q => wpAny_typeOf_ref (k _ _ at3) (by rw [hz3.1]; exact q)
    have fits := PySem.W.exm_one (M := model X.prog X.w) J3.kIn seen isIt
    have named : ∀ {Q : Value → Shared → Prop} {E : Value → Shared → Prop}, Q c { s' with heap := h3 } → wpAny (model X.prog X.w) (X.A.mark (some (.ref a))) (eval (.Name x np) X.env) Q E { s' with heap := h3 } := fun {Q E} q => by
      rcases hc with ⟨hg, hdbg, hm | ⟨hm, hv, hnn⟩⟩
      · exact ld_glob (X := X.suite a ((a, oe3) :: (X.pn ++ pins))) S3 hg hm q hdbg
      · exact ld_blt (X := X.suite a ((a, oe3) :: (X.pn ++ pins))) S3 hg hm hv q hnn hdbg
    refine named (fits.here ?_)
    refine codeAny_handlers_suite_as ?_
    refine HandSPX.lands_againZ fl3 fun h4 fl4 up4 => ?_
    have J4 : L2.Inv X pins σ' H' { s' with heap := h4 } := J.landed inB fl4.1 ((upto.trans up3).trans up4) os ag
    obtain ⟨oe, vs4, at4, hz4, dt4⟩ := fl4.there
    have S4 := J4.suite at4 dt4 na nL nF
    refine store_ok (X := X.suite a ((a, oe) :: (X.pn ++ pins))) (v := .ref a) S4 hN hi (.inl hln) rfl (fun s5 S5 => ?_) (.inr hln)
    have hlen : i < σ'.length := by
      rw [J.len]
      exact (List.getElem?_eq_some_iff.mp hi).1
    have suite : PSs (X.suite a ((a, oe) :: (X.pn ++ pins))) [.Assign [.Name y p1] (.Name n p2) p3] (tAsg (tVar i) (gName j)) := pss_one (ps_set hN hj (.inl hly) (pe_var hi (.inl hln) hd1 hd2) hsw (.inr hly))
    refine wpAny_mono (suite.run [] s5 (σ'.set i (some (.ref a))) H' { nx := fun σ6 H6 => σ6 = (σ'.set i (some (.ref a))).set j (some (.ref a)) ∧ H6 = H', rt := fun _ _ => False, bk := fun _ _ => False, ct := fun _ _ => False } S5 ⟨.ref a, by rw [List.getElem?_set_self hlen], rfl, rfl⟩) (fun fl s6 q => ?_) (fun _ _ z => False.elim z)
    cases fl with
    | next =>
      obtain ⟨σ6, H6, S6, rfl, rfl⟩ := q
      have J6 : L2.Inv X ((a, oe) :: pins) ((σ'.set i (some (.ref a))).set j (some (.ref a))) H6 s6 :=
        ⟨ok, S6.os, S6.bare, S6.base, S6.loc, S6.cell, S6.free, S6.freeC, fun p hp => S6.pin p (List.mem_append_left _ (by
          rcases List.mem_append.mp hp with z | z
          · exact List.mem_cons_of_mem _ (List.mem_append_left _ z)
          · rcases List.mem_cons.mp z with z | z
            · rw [z]
              exact List.mem_cons_self
            · exact List.mem_cons_of_mem _ (List.mem_append_right _ z))), S6.hok, S6.len⟩
      refine gone_ok J6 hN hi hln fun s7 J7 => ?_
      have nb : X.s_0.heap.get? a = none := by
        cases q : X.s_0.heap.get? a with
        | none => rfl
        | some o =>
          by_cases hx : a ∈ X.ex
          · rw [hex] at hx
            cases hx
          · obtain ⟨o', z⟩ := J.base.there a o q hx
            rw [new] at z
            cases z
      have T := inv_track J7 nb (fun p hp z => by
        have := (J.pin p hp).1
        rw [z, new] at this
        cases this) (fun z c' hz hc' => by
        obtain ⟨v, o, q, _⟩ := J.cell z c' hz
        rw [hc', new] at q
        cases q) dt4
      rw [hz4.1, hz4.2] at T
      exact ⟨_, _, T, wish a na⟩
    | brk => exact q.elim fun _ z => z.elim fun _ z => z.2.elim
    | cont => exact q.elim fun _ z => z.elim fun _ z => z.2.elim
    | ret u => exact q.elim fun _ z => z.elim fun _ z => z.elim fun _ z => z.2.2.elim
  · cases fl with
    | next =>
      obtain ⟨σ1, H1, J1, q⟩ := q
      exact wpAny_execs_nil ⟨σ1, H1, J1.ofTry ok, q⟩
    | brk => exact let ⟨σ1, H1, J1, q⟩ := q; ⟨σ1, H1, J1.ofTry ok, q⟩
    | cont => exact let ⟨σ1, H1, J1, q⟩ := q; ⟨σ1, H1, J1.ofTry ok, q⟩
    | ret u => exact let ⟨v, σ1, H1, J1, r, q⟩ := q; ⟨v, σ1, H1, J1.ofTry ok, r, q⟩
end
/-! ### .. by data -/
def PassDS (X : Cx) (Hb : Hp) (ES : DSt → DX) : Prop := ∃ W : WX, Takes X W ∧ ∀ σd σ H, KT X.K Hb H → SR X.K H σd σ → ∀ c fo G', ES σd c fo G' → lfX X.K H (fun cls d H' => W cls d σ H') c fo G'
/-- an expression in a try's body: what it lets out is wished for at the slots -/
structure DPEx (X : Cx) (e : Expr) (t : (DSt → DX) → DE) : Prop where
  mono : ∀ (ES ES' : DSt → DX) σ G (Q Q' : DK), (∀ σ c fo G', ES σ c fo G' → ES' σ c fo G') → (∀ d G', Q d G' → Q' d G') → t ES σ G Q → t ES' σ G Q'
  run : ∀ pn xe Hb ES, PassDS (X.tr pn xe) Hb ES → ∃ tt, PE (X.tr pn xe) e tt ∧ ∀ σ H σd G Q, KT X.K Hb H → MH X.K G H → SR X.K H σd σ → t ES σd G (lf X.K H Q) → tt σ H Q
structure DPX (X : Cx) (sts : List Stmt) (t : (DSt → DX) → DS) : Prop where
  mono : ∀ (ES ES' : DSt → DX) D D' σ G, (∀ σ c fo G', ES σ c fo G' → ES' σ c fo G') → DEnds.Le D D' → t ES D σ G → t ES' D' σ G
  run : ∀ pn xe Hb ES, PassDS (X.tr pn xe) Hb ES → ∃ tt, PSs (X.tr pn xe) sts tt ∧ ∀ σ H σd G D, KT X.K Hb H → MH X.K G H → SR X.K H σd σ → t ES (lfE X.K H D) σd G → tt D σ H
section
variable {X : Cx} {k i j : Nat} {Cn : Ct} {E : DX} {x n y c m cn : Str} {p p1 p2 p3 pos pos2 pos' np apos : Pos} {e o cond : Expr} {es : List Expr} {ta to : DE} {t : DA} {tx : (DSt → DX) → DE} {tb tb2 : (DSt → DX) → DS} {tc : DTt} {body as bs : List Stmt}
theorem run_fkS {sp : Sp} {W : WX} {f : Addr} {fd : FuncData} {ps : List Str} {pins : List (Addr × Obj)} {σ : St} {H : Hp} {s : Shared} {Q : VK} {us : List Value} {vs : List V} (F : FK X.prog X.w X.K X.mg X.base k f fd ps sp) (hr : Room k X.A) (hg : X.A.guards = some []) (hb : Binds X.K fd ps []) (tk : Takes X W)
    (I : L2.Inv X pins σ H s) (r : Vals vs us) (h : sp vs H Q fun cls d H' => W cls d σ H') : wpAny (model X.prog X.w) X.A (call (.ref f) us) (EP X pins σ Q) X.xe s := by
  have hl : (us ++ []).length = ps.length := by
    rw [List.append_nil, ← r.length]
    exact F.len _ _ _ _ h
  have hb' := hb s us I.kIn hl
  rw [List.append_nil] at hb'
  refine wpAny_call (codeAny_mono (F.run X.A X.stack s H ⟨us, []⟩ us vs Q _ hr hg I.env0 hb' r h) fun r s' hq => ?_)
  cases r with
  | error e => exact tk e s' (XE.of_call I (fun _ _ _ h => h) hq)
  | ok fl =>
    cases fl with
    | ret u => exact I.after hq
    | next => exact False.elim hq
    | brk => exact False.elim hq
    | cont => exact False.elim hq
def dCallS (C : Ct) (t : DA) (ES : DSt → DX) : DE := fun σ G Q => t σ G fun ds G1 => UpC C ds G1 Q (ES σ)
theorem UpC.imp {C : Ct} {ds : List D} {G : DG} {Q Q' : DK} {E E' : DX} (h : ∀ d G', Q d G' → Q' d G') (he : ∀ c fo G', E c fo G' → E' c fo G') (u : UpC C ds G Q E) : UpC C ds G Q' E' := let ⟨Q0, E0, a, b, c⟩ := u; ⟨Q0, E0, a, fun d G' q => h _ _ (b d G' q), fun x y z q => he _ _ _ (c x y z q)⟩
theorem ex_fn (F : CallOk X.prog X.w X.K X.mg X.base k x Cn) (hr : Room k X.A) (hgd : X.A.guards = some []) (ha : ∀ pn xe, DPA (X.tr pn xe) (e :: es) t) (hg : Gl X x := by rfl) (hdb : (x == ("__debug__" : Str)) = false := by decide)
    (he : starEach (e :: es) X.env = (false, eval e X.env) :: starEach es X.env := by rfl) (hpl : (backTo pos (starEach es X.env)).any (·.1) = false := by rfl) : DPEx X (.Call (.Name x p) (e :: es) [] pos) (dCallS Cn t) := by
  obtain ⟨f, fd, ps, hm, hk, hb, F⟩ := F
  refine ⟨fun ES ES' σ G Q Q' h h' q => (ha [] fun _ _ => False).mono σ G _ _ (fun ds G1 z => z.imp h' (h σ)) q, fun pn xe Hb ES pass => ?_⟩
  obtain ⟨ma, tta, pa, ra⟩ := ha pn xe
  obtain ⟨W, tk, link⟩ := pass
  refine ⟨fun σ H Q => tta σ H fun vs H1 => spOf X.K Cn vs H1 Q fun cls d H' => W cls d σ H', ⟨fun pins s σ H Q I h => ?_⟩, fun σ H σd G Q kb m s h => ?_⟩
  · refine wpAny_Call_Name_kw (ld_glob I hg hm ?_ hdb)
    refine PySem.W.callWith_K (h₀ := X.base) I.ok.mod.kin hk (thn (pa.run pos pins s σ H _ I h) fun us s1 ⟨vs, H1, I1, r, q⟩ => ⟨I1.kIn, ?_⟩) he hpl
    exact run_fkS (X := X.tr pn xe) F hr hgd hb tk I1 r q
  · refine ra σ H σd G _ m s (ma _ _ _ _ (fun ds G1 z vs H1 m1 r1 k1 => ?_) h)
    obtain ⟨Q0, E0, h1, h2, h3⟩ := z
    exact ⟨ds, G1, Q0, E0, m1, r1, h1, fun d G' q => lf_kt k1 (h2 d G' q), fun c fo G' q => link σd σ H1 (kb.trans k1) (s.kt k1) c fo G' (h3 c fo G' q)⟩
theorem dx_expr (hx : DPEx X e tx) (hs : swapsWith e none pos.line X.env = pure false := by rfl) : DPX X [.Expr e pos] (fun ES => dDrop (tx ES)) := by
  refine ⟨fun ES ES' D D' σ G h l q => hx.mono ES ES' σ G _ _ h (fun d G' q => l.1 _ _ q) q, fun pn xe Hb ES pass => ?_⟩
  obtain ⟨tt, p, r⟩ := hx.run pn xe Hb ES pass
  refine ⟨tDrop tt, pss_one (ps_expr p hs), fun σ H σd G D kb m s h => ?_⟩
  exact r σ H σd G _ kb m s (hx.mono ES ES σd G _ _ (fun _ _ _ _ q => q) (fun d G' q v H' m' r' k' => q σ H' m' (s.kt k') k') h)
theorem dx_set (i : Nat) (hx : DPEx X e tx) (hN : X.N.Nodup) (hi : X.N[i]? = some x := by rfl) (hlx : Loc X.env.scope x := by first | exact .inl rfl | exact .inr rfl) (hs : swapsWith e (some (.Name x pos')) pos.line X.env = pure false := by rfl) (hf : X.fn x = true ∨ X.env.scope.names.lookup x = some .local := by first | exact .inl rfl | exact .inr rfl) :
    DPX X [.Assign [.Name x pos'] e pos] (fun ES => dAsg (tx ES) (dgName i)) := by
  refine ⟨fun ES ES' D D' σ G h l q => hx.mono ES ES' σ G _ _ h (fun d G' q => l.1 _ _ q) q, fun pn xe Hb ES pass => ?_⟩
  obtain ⟨tt, p, r⟩ := hx.run pn xe Hb ES pass
  refine ⟨tAsg tt (gName i), pss_one (ps_set hN hi hlx p hs hf), fun σ H σd G D kb m s h => ?_⟩
  exact r σ H σd G _ kb m s (hx.mono ES ES σd G _ _ (fun _ _ _ _ q => q) (fun d G' q v H' m' r' k' => q (σ.set i (some v)) H' m' ((s.kt k').set r' i) k') h)
theorem dx_if (hc : ∀ pn xe, DPT (X.tr pn xe) cond tc) (ha : DPX X as tb) (hb : DPX X bs tb2) : DPX X [.If cond as bs pos] (fun ES => dIf tc (tb ES) (tb2 ES)) := by
  refine ⟨fun ES ES' D D' σ G h l q => (hc [] fun _ _ => False).mono σ G _ _ (fun k G1 z => ?_) q, fun pn xe Hb ES pass => ?_⟩
  · cases k with
    | true => exact ha.mono ES ES' D D' σ G1 h l z
    | false => exact hb.mono ES ES' D D' σ G1 h l z
  · obtain ⟨mc, ttc, pc, rc⟩ := hc pn xe
    obtain ⟨tta, pa, ra⟩ := ha.run pn xe Hb ES pass
    obtain ⟨ttb, pb, rb⟩ := hb.run pn xe Hb ES pass
    refine ⟨_, pss_one (ps_if pc pa pb), fun σ H σd G D kb m s h => ?_⟩
    refine rc σ H σd G _ m s (mc _ _ _ _ (fun k G1 z H1 m1 k1 => ?_) h)
    cases k with
    | true => exact ra σ H1 σd G1 D (kb.trans k1) m1 (s.kt k1) (ha.mono ES ES _ _ σd G1 (fun _ _ _ _ q => q) (lfE_kt k1) z)
    | false => exact rb σ H1 σd G1 D (kb.trans k1) m1 (s.kt k1) (hb.mono ES ES _ _ σd G1 (fun _ _ _ _ q => q) (lfE_kt k1) z)
def isXd : O → Prop
  | .xd _ => True
  | _ => False
/-- behind an exception, kept -/
def kept (ns : List Str) (i j : Nat) (N : DSt → DG → Prop) : DSt → DX := fun σ n fo G => n ∈ ns ∧ ∀ a, G a = none → match fo with
  | none => N (((σ.set i (some (.ref a))).set j (some (.ref a))).set i none) (up G a (.exc n none))
  | some fs => ∀ dd, dd ≠ a → (∀ o, G dd = some o → isXd o) → N (((σ.set i (some (.ref a))).set j (some (.ref a))).set i none) (up (up G dd (.xd fs)) a (.exc n (some dd)))
theorem kept_mono {ns : List Str} {N N' : DSt → DG → Prop} (h : ∀ σ G, N σ G → N' σ G) : ∀ σ c fo G, kept ns i j N σ c fo G → kept ns i j N' σ c fo G := fun σ c fo G ⟨h1, h2⟩ => ⟨h1, fun a ha => by
  have := h2 a ha
  cases fo with
  | none => exact h _ _ this
  | some fs => exact fun dd h3 h4 => h _ _ (this dd h3 h4)⟩
def dTryK (ns : List Str) (i j : Nat) (tb : (DSt → DX) → DS) : DS := fun D σ G => tb (kept ns i j D.nx) D σ G
/-- the classes that an except clause takes -/
def CatchAll (X : Cx) (x : Str) (ns : List Str) : Prop := ∃ c, Names X x c ∧ ∀ n ∈ ns, ∀ C, ClsAt X.K n C → PySem.W.exmOne X.K (.ref C) c = some true
def CatchK (K : PySem.W.Frag) (mg : Str → Option Value) (x : Str) (ns : List Str) : Prop := ∃ C, mg x = some (.ref C) ∧ ∀ n ∈ ns, ∀ C', ClsAt K n C' → PySem.W.exmOne K (.ref C') (.ref C) = some true
theorem catch_of {ns : List Str} (h : CatchK X.K X.mg cn ns) (hg : Gl X cn := by rfl) (hd : (cn == ("__debug__" : Str)) = false := by decide) : CatchAll X cn ns := let ⟨C, hm, a⟩ := h; ⟨.ref C, ⟨hg, hd, .inl hm⟩, a⟩
theorem xd_at {K : PySem.W.Frag} {G : DG} {H : Hp} {dd : Addr} {fvs : List (Str × V)} (m : MH K G H) (h : H dd = some (.xd fvs)) (o : O) (e : G dd = some o) : isXd o := by
  have q := m dd o e
  cases o with
  | lst xs => obtain ⟨vs, h1, _⟩ := q; rw [h] at h1; cases h1
  | ins n fs => obtain ⟨C, dx, fvs, _, h1, _⟩ := q; rw [h] at h1; cases h1
  | dK kvs => obtain ⟨kvs', h1, _⟩ := q; rw [h] at h1; cases h1
  | dif kvs => obtain ⟨_, _, _, h1, _⟩ := q; rw [h] at h1; cases h1
  | dic ow kvs => obtain ⟨_, _, h1, _⟩ := q; rw [h] at h1; cases h1
  | exc n od => obtain ⟨_, _, h1⟩ := q; rw [h] at h1; cases h1
  | xd fs => exact True.intro
  | tab x => obtain ⟨_, _, _, h1, _⟩ := q; rw [h] at h1; cases h1
theorem MH.over {K : PySem.W.Frag} {G : DG} {H : Hp} {p : Addr} {o : O} (m : MH K G H) (h : MO K H p o) : MH K (up G p o) H := fun a x e => by
  by_cases z : a = p
  · subst z
    rw [up_same] at e
    cases e
    exact h
  · rw [up_ne z] at e
    exact m a x e
theorem ds_tryK (i j : Nat) {ns : List Str} (hb : DPX X body tb) (ca : CatchAll X cn ns) (hN : X.N.Nodup) (hs : X.stack = X.env :: X.outer := by rfl) (hf : X.env.frame = some X.env.locals := by rfl) (hex : X.ex = [] := by rfl) (hi : X.N[i]? = some n := by rfl) (hj : X.N[j]? = some y := by rfl) (hln : X.env.kindOf n = some .local := by rfl) (hly : X.env.kindOf y = some .local := by rfl) (hne : i ≠ j := by decide)
    (hsw : swapsWith (.Name n p2) (some (.Name y p1)) p3.line X.env = pure false := by rfl) (hd1 : (n == ("__debug__" : Str)) = false := by decide) (hd2 : (n == ("__classdict__" : Str)) = false := by decide) :
    DPS X (.Try body [.ExceptHandler (some (.Name cn np)) (some n) [.Assign [.Name y p1] (.Name n p2) p3] pos'] [] [] pos) (dTryK ns i j tb) := by
  obtain ⟨cv, hc, all⟩ := ca
  let tbh : WX → TS := fun W D σ H => ∃ ES Hb σd G, (∀ σd σ H, KT X.K Hb H → SR X.K H σd σ → ∀ c fo G', ES σd c fo G' → lfX X.K H (fun cls d H' => W cls d σ H') c fo G') ∧ KT X.K Hb H ∧ MH X.K G H ∧ SR X.K H σd σ ∧ tb ES (lfE X.K H D) σd G
  have P := ps_try_keep (pos := pos) (pos' := pos') (np := np) (tb := tbh) hs hf hex hN hi hj hln hly hne hc hsw hd1 hd2 (body := body) fun W pn xe tk po => ⟨fun pins s σ H D I ⟨ES, Hb, σd, G, link, kb, m, sr, h⟩ => by
    obtain ⟨tt, p, r⟩ := hb.run pn xe Hb ES ⟨W, tk, link⟩
    exact p.run pins s σ H D I (r σ H σd G D kb m sr h)⟩
  refine ⟨fun σ G D D' l q => hb.mono _ _ D D' σ G (kept_mono l.1) l q, fun D σ H => ∃ σd G, MH X.K G H ∧ SR X.K H σd σ ∧ dTryK ns i j tb (lfE X.K H D) σd G, ⟨fun pins s σ H D I ⟨σd, G, m, sr, h⟩ => P.run pins s σ H D I ?_⟩, fun σ H σd G D m s h => ⟨σd, G, m, s, h⟩⟩
  refine ⟨kept ns i j (lfE X.K H D).nx, H, σd, G, fun σd' σ' H1 k1 s1 n' fo G' q C d H' hC m' k' xo => ?_, .refl, m, sr, h⟩
  obtain ⟨hn, q⟩ := q
  refine ⟨all n' hn C hC, fun a na => ?_⟩
  have q := q a (m'.fresh na)
  have kk : KT X.K H' (L2.upd H' a (excO a (.ref C) d)) := .upd_new na
  have ss : ∀ {σd : DSt} {σ : St}, SR X.K H1 σd σ → SR X.K (L2.upd H' a (excO a (.ref C) d)) (((σd.set i (some (.ref a))).set j (some (.ref a))).set i none) (((σ.set i (some (.ref a))).set j (some (.ref a))).set i none) := fun s => (((s.kt (k'.trans kk)).set (.ref a) i).set (.ref a) j).forget i none
  cases fo with
  | none =>
    cases d with
    | some d => exact xo.elim
    | none => exact q _ _ (m'.upd kk ⟨C, hC, upd_same⟩) (ss s1) (k1.trans (k'.trans kk))
  | some fs =>
    cases d with
    | none => exact xo.elim
    | some dd =>
      obtain ⟨fvs, e1, e2, e3⟩ := xo
      have hdd : dd ≠ a := ne_of_none e1 na
      exact q dd hdd (xd_at m' e1) _ _ ((m'.over (p := dd) (o := .xd fs) ⟨fvs, e1, e2, e3⟩).upd kk ⟨C, hC, upd_same⟩) (ss s1) (k1.trans (k'.trans kk))
end
/-! ### what kind a kept exception is; its field -/
def isKind (n m : Str) : Bool := m == n || (m == ("FarError" : Str) || m == ("ValueError" : Str))
def odOk (G : DG) : Option Addr → Prop
  | none => True
  | some dd => ∃ fs, G dd = some (.xd fs)
def ClsVal (mg : Str → Option Value) (m : Str) (v : V) (u : Value) : Prop := (∃ C, v = .ref C ∧ u = .ref C ∧ mg m = some (.ref C)) ∨ ∃ T, v = .ty T ∧ u = .type T ∧ mg m = none ∧ bootBuiltins m = some (.type T) ∧ m ≠ "__name__"
def IsK (K : PySem.W.Frag) (mg : Str → Option Value) (ns : List Str) (m : Str) : Prop := ∃ v u, ClsVal mg m v u ∧ ∀ n ∈ ns, ∀ C, ClsAt K n C → PySem.W.kitOne K (.ref C) u = some (isKind n m)
def ExAll (K : PySem.W.Frag) (ns : List Str) : Prop := ∀ n ∈ ns, ∃ C, ExK K n C
theorem exc_inst {X : Cx} {pins : List (Addr × Obj)} {σ : St} {H : Hp} {s : Shared} {G : DG} {a : Addr} {n : Str} {od : Option Addr} {C : Addr} (I : L2.Inv X pins σ H s) (m : MH X.K G H) (ha : G a = some (.exc n od)) (ho : odOk G od) (k : ClsAt X.K n C) : ∃ oe ob, PySem.W.InstAt s.heap a oe C ob ∧ oe.dict = od := by
  obtain ⟨C', hC, e⟩ := m a _ ha
  obtain rfl := k.uniq hC
  obtain ⟨⟨oe, vs, h1, h2, h3, h4⟩, _, _⟩ := I.hok a _ e
  have no : PySem.W.notCls oe = true := by unfold PySem.W.notCls; rw [h4] <;> rfl
  cases od with
  | none => exact ⟨oe, none, ⟨h1, h2, no, by rw [h3]; exact True.intro⟩, h3⟩
  | some dd =>
    obtain ⟨fs, hd⟩ := ho
    obtain ⟨fvs, e1, _⟩ := m dd _ hd
    obtain ⟨mA, hns, _⟩ := I.hok dd _ e1
    obtain ⟨ob, hob, _⟩ := lookIn_ns hns
    exact ⟨oe, some ob, ⟨h1, h2, no, by rw [h3]; exact hob⟩, h3⟩
section
variable {X : Cx} {ns ms : List Str} {m f : Str} {e : Expr} {es : List Expr} {ta : DE} {p p2 pos : Pos}
def dIsX (ns ms : List Str) (ta : DE) : DE := fun σ G Q => ta σ G fun x G1 => ∃ a n od, x = .ref a ∧ n ∈ ns ∧ G1 a = some (.exc n od) ∧ odOk G1 od ∧ Q (.bl (ms.any (isKind n))) G1
theorem dIsX_mono (ma : MonoE ta) : MonoE (dIsX ns ms ta) := fun σ G Q Q' h q => ma σ G _ _ (fun x G1 ⟨a, n, od, h1, h2, h3, h4, z⟩ => ⟨a, n, od, h1, h2, h3, h4, h _ _ z⟩) q
theorem cls_pe {v : V} {u : Value} (h : ClsVal X.mg m v u) (hg : Gl X m) (hd : (m == ("__debug__" : Str)) = false) : PE X (.Name m p) (tC v) := by
  rcases h with ⟨C, rfl, rfl, hm⟩ | ⟨T, rfl, rfl, hm, hv, hn⟩
  · exact pe_glob hg hm rfl hd
  · exact pe_bltn hg hm hv rfl hn hd
theorem cls_u {mg : Str → Option Value} {v : V} {u u' : Value} (h : ClsVal mg m v u) (r : RelV v u') : u' = u := by
  rcases h with ⟨C, rfl, rfl, hm⟩ | ⟨T, rfl, rfl, hm, hv, hn⟩
  · exact r
  · exact r
def rIsX (K : PySem.W.Frag) (ns ms : List Str) (c : V → Hp → Prop) : List V → Hp → VK → Prop := fun xs H Q => ∃ G a n od cv, xs = [.ref a, cv] ∧ c cv H ∧ MH K G H ∧ n ∈ ns ∧ G a = some (.exc n od) ∧ odOk G od ∧ Q (.bl (ms.any (isKind n))) H
theorem de_is1 (ea : ExAll X.K ns) (k : IsK X.K X.mg ns m) (hg : Gl X "isinstance") (hm : X.mg "isinstance" = none) (ha : DPE X e ta) (hgm : Gl X m := by rfl) (hd : (m == ("__debug__" : Str)) = false := by decide)
    (h1 : starEach [e, .Name m p2] X.env = [(false, eval e X.env), (false, eval (.Name m p2) X.env)] := by rfl) (h2 : starEach [.Name m p2] X.env = [(false, eval (.Name m p2) X.env)] := by rfl) (h3 : ((backTo pos (starEach [.Name m p2] X.env)).any fun x => x.fst) = false := by rfl) :
    DPE X (.Call (.Name "isinstance" p) [e, .Name m p2] [] pos) (dIsX ns [m] ta) := by
  obtain ⟨ma, tta, pa, ra⟩ := ha
  obtain ⟨v, u, cv, kit⟩ := k
  have hc : CallR X (.builtin "isinstance") (rIsX X.K ns [m] fun c _ => c = v) := by
    intro pins s σ H xs us Q I r ⟨G, a, n, od, c, e1, e2, mh, hn, hx, ho, q⟩
    subst e1 e2
    cases r with
    | cons r1 rr =>
      cases rr with
      | cons r2 rr =>
        cases rr
        cases (show _ = Value.ref a from r1)
        obtain rfl := cls_u cv r2
        obtain ⟨C, kx⟩ := ea n hn
        obtain ⟨oe, ob, J, _⟩ := exc_inst I mh hx ho kx.at_
        have ek := kit n hn C kx.at_
        refine PySem.W.kia_one (PySem.W.kitx_exc kx.cl kx.ga kx.gg kx.sub kx.ca kx.gs kx.tk kx.mr) I.kIn J ek (fun z => nomatch z) fun tk => ⟨.bl ([m].any (isKind n)), H, I.tok _, ?_, q⟩
        show Value.bool (isKind n m) = Value.bool ([m].any (isKind n))
        simp
  refine ⟨dIsX_mono ma, _, pe_callB hc hg hm PyProof.Rows.Boot.«isinstance» (pa_cons pa (pa_cons (cls_pe cv hgm hd) pa_nil h2) (by rw [h1, h2])) (by decide) (by decide) (by rw [h1, h2]) h3, fun σ H σd G Q mh s h => ?_⟩
  refine ra σ H σd G _ mh s (ma _ _ _ _ (fun x G1 z y H1 m1 r1 k1 => ?_) h)
  obtain ⟨a, n, od, rfl, hn, hx, ho, q⟩ := z
  cases r1
  exact ⟨G1, a, n, od, v, rfl, rfl, m1, hn, hx, ho, q _ H1 m1 (.bl _) k1⟩
/-- the classes of a tuple -/
def ClsArgs (X : Cx) (ns : List Str) (es : List Expr) (ms : List Str) : Prop := ∃ (vs : List V) (us : List Value), PA X es (fun _ H Q => Q vs H) ∧ vs.length = ms.length ∧ (∀ us', Vals vs us' → us' = us) ∧ ∀ n ∈ ns, ∀ C, ClsAt X.K n C → PySem.W.kitAny X.K (.ref C) us = some (ms.any (isKind n))
theorem ca_nil : ClsArgs X ns [] [] := ⟨[], [], pa_nil, rfl, fun us' r => by cases r; rfl, fun _ _ _ _ => rfl⟩
theorem ca_cons (k : IsK X.K X.mg ns m) (r : ClsArgs X ns es ms) (hgm : Gl X m := by rfl) (hd : (m == ("__debug__" : Str)) = false := by decide) (h1 : starEach (.Name m p :: es) X.env = (false, eval (.Name m p) X.env) :: starEach es X.env := by rfl) : ClsArgs X ns (.Name m p :: es) (m :: ms) := by
  obtain ⟨v, u, cv, kit⟩ := k
  obtain ⟨vs, us, pa, hl, hu, kits⟩ := r
  refine ⟨v :: vs, u :: us, pa_cons (cls_pe cv hgm hd) pa h1, by simp [hl], fun us' r => ?_, fun n hn C hC => ?_⟩
  · cases r with
    | cons r1 rr =>
      rw [cls_u cv r1, hu _ rr]
  · unfold PySem.W.kitAny
    rw [kit n hn C hC, List.any_cons]
    cases isKind n m with
    | true => rfl
    | false => rw [Bool.false_or]; exact kits n hn C hC
theorem de_isN {x1} (ea : ExAll X.K ns) (k : ClsArgs X ns es ms) (hms : ms.length ≤ 100) (hg : Gl X "isinstance") (hm : X.mg "isinstance" = none) (ha : DPE X e ta)
    (h1 : starEach [e, .Tuple es x1 p2] X.env = [(false, eval e X.env), (false, eval (.Tuple es x1 p2) X.env)] := by rfl) (h2 : starEach [.Tuple es x1 p2] X.env = [(false, eval (.Tuple es x1 p2) X.env)] := by rfl) (h3 : ((backTo pos (starEach [.Tuple es x1 p2] X.env)).any fun x => x.fst) = false := by rfl) :
    DPE X (.Call (.Name "isinstance" p) [e, .Tuple es x1 p2] [] pos) (dIsX ns ms ta) := by
  obtain ⟨ma, tta, pa, ra⟩ := ha
  obtain ⟨vs, us, pcs, hl, hu, kits⟩ := k
  have hc : CallR X (.builtin "isinstance") (rIsX X.K ns ms fun c H => ∃ tp o, c = .ref tp ∧ H tp = some (.frz o (.tup vs))) := by
    intro pins s σ H xs ws Q I r ⟨G, a, n, od, c, e1, ⟨tp, o, e2, htp⟩, mh, hn, hx, ho, q⟩
    subst e1 e2
    cases r with
    | cons r1 rr =>
      cases rr with
      | cons r2 rr =>
        cases rr
        cases (show _ = Value.ref a from r1)
        cases (show _ = Value.ref tp from r2)
        obtain ⟨C, kx⟩ := ea n hn
        obtain ⟨oe, ob, J, _⟩ := exc_inst I mh hx ho kx.at_
        obtain ⟨its, rv, ⟨o2, g1, g2, nn, g3⟩, _⟩ := I.tuple (.inl (.inr ⟨o, htp⟩) : SqT X.K H tp vs)
        obtain rfl := hu its rv
        obtain ⟨oc, odd, oda, osl⟩ := o2
        dsimp only at g2 g3
        subst g2 g3
        exact PySem.W.kia_tup (PySem.W.kitx_exc kx.cl kx.ga kx.gg kx.sub kx.ca kx.gs kx.tk kx.mr) I.kIn J g1 (kits n hn C kx.at_) (fun z => nomatch z) fun tk => ⟨.bl (ms.any (isKind n)), H, I.tok _, rfl, q⟩
  refine ⟨dIsX_mono ma, _, pe_callB hc hg hm PyProof.Rows.Boot.«isinstance» (pa_cons pa (pa_cons (pe_tupP pcs) pa_nil h2) (by rw [h1, h2])) (by decide) (by decide) (by rw [h1, h2]) h3, fun σ H σd G Q mh s h => ?_⟩
  refine ra σ H σd G _ mh s (ma _ _ _ _ (fun x G1 z y H1 m1 r1 k1 => ?_) h)
  obtain ⟨a, n, od, rfl, hn, hx, ho, q⟩ := z
  cases r1
  refine ⟨by rw [sizeLine_eq]; omega, fun tp o hp hd => ?_⟩
  have kk : KT X.K H1 (L2.upd H1 tp (.frz o (.tup vs))) := .upd_new hp
  exact ⟨G1, a, n, od, .ref tp, rfl, ⟨tp, o, rfl, upd_same⟩, m1.new kk (m1.fresh hp), hn, hx, ho, q _ _ (m1.new kk (m1.fresh hp)) (.bl _) (k1.trans kk)⟩
/-- e.f of a kept exception -/
def dXf (n f : Str) (ta : DE) : DE := fun σ G Q => ta σ G fun x G1 => ∃ a dd fs v, x = .ref a ∧ G1 a = some (.exc n (some dd)) ∧ G1 dd = some (.xd fs) ∧ fs.lookup f = some v ∧ Q v G1
theorem de_xf {n : Str} (kx : ∃ C, ExK X.K n C ∧ PySem.W.findIn X.K (.ref C) f = some none) (ha : DPE X e ta) (hb : attributeBase e f X.env (eval e X.env) = eval e X.env := by rfl) : DPE X (.Attribute e f pos) (dXf n f ta) := by
  obtain ⟨ma, tta, pa, ra⟩ := ha
  obtain ⟨C, kx, hno⟩ := kx
  refine ⟨fun σ G Q Q' h q => ma σ G _ _ (fun x G1 ⟨a, dd, fs, v, h1, h2, h3, h4, z⟩ => ⟨a, dd, fs, v, h1, h2, h3, h4, h _ _ z⟩) q,
    fun σ H Q => tta σ H fun x H1 => ∃ G a dd fvs v, x = .ref a ∧ MH X.K G H1 ∧ G a = some (.exc n (some dd)) ∧ odOk G (some dd) ∧ H1 dd = some (.xd fvs) ∧ fvs.lookup f = some v ∧ Q v H1, ⟨fun pins s σ H Q I h => ?_⟩, fun σ H σd G Q mh s h => ?_⟩
  · refine attr_of hb (thn (pa.run pins s σ H _ I h) fun u s1 hh => ?_)
    obtain ⟨x, H1, I1, rx, G, a, dd, fvs, v, rfl, mh, hx, ho, hd, l, q⟩ := hh
    obtain rfl : u = Value.ref a := rx
    obtain ⟨oe, ob, J, hdict⟩ := exc_inst I1 mh hx ho kx.at_
    obtain ⟨mA, hns, hr⟩ := I1.hok dd _ hd
    obtain ⟨od, ho1, hl⟩ := lookIn_ns hns
    obtain ⟨u, hu, ru⟩ := RelO.some_of (v := v) (o := mA f) (by rw [← l]; exact hr f)
    have hob : ob = some od := by
      have := J.dict
      rw [hdict] at this
      cases ob with
      | none => exact this.elim
      | some o2 =>
        have z : s1.heap.get? dd = some o2 := this
        rw [ho1] at z
        cases z
        rfl
    subst hob
    exact HandSPX.exc_get I1.kIn J kx.ga kx.gg kx.sub (PySem.W.findObj_own kx.hd hno rfl (by rw [hl, hu])) (handed_of ru) ⟨v, H1, I1.tok _, ru, q⟩
  · refine ra σ H σd G _ mh s (ma _ _ _ _ (fun x G1 z y H1 m1 r1 k1 => ?_) h)
    obtain ⟨a, dd, fs, v, rfl, hx, hd, hl, q⟩ := z
    cases r1
    obtain ⟨fvs, e1, e2, e3⟩ := m1 dd _ hd
    obtain ⟨w, e4, rw'⟩ := lookup_rd e2 e3 hl
    exact ⟨G1, a, dd, fvs, w, rfl, m1, hx, ⟨fs, hd⟩, e1, e4, q w H1 m1 rw' k1⟩
end
/-! ### facts of the classes -/
theorem cl_of {K : PySem.W.Frag} {C : Addr} (h : PySem.W.hasDictIn K C = true) : (PySem.W.clsIn K C).isSome = true := by
  obtain ⟨cd, hc, _⟩ := PySem.W.any_some h
  rw [hc]
  rfl
theorem kit_of {K : PySem.W.Frag} {Cn Cm : Addr} {k : Bool} (h1 : PySem.W.hasDictIn K Cm = true) (h2 : PySem.W.typeIn K (.ref Cm) = some (.type "type")) (h3 : PySem.W.subIn K (.ref Cn) (.ref Cm) = some k) (h4 : PySem.W.subIn K (.ref Cn) (.ref Cn) = some true) : PySem.W.kitOne K (.ref Cn) (.ref Cm) = some k := by
  unfold PySem.W.kitOne
  by_cases e : Cn = Cm
  · subst e
    rw [h3] at h4
    cases h4
    rw [if_pos (beq_self_eq_true _)]
  · rw [if_neg (fun z => e (Value.ref.inj (beq_iff_eq.mp z)))]
    show (if ((PySem.W.clsIn K Cm).isSome && PySem.W.typeIn K (.ref Cm) == some (.type "type")) = true then PySem.W.subIn K (.ref Cn) (.ref Cm) else none) = some k
    rw [if_pos (by rw [cl_of h1, h2]; rfl)]
    exact h3
theorem kit_ve {K : PySem.W.Frag} {C : Addr} (h : PySem.W.subIn K (.ref C) (.type "ValueError") = some true) : PySem.W.kitOne K (.ref C) (.type "ValueError") = some true := by
  unfold PySem.W.kitOne
  rw [if_neg (by intro z; cases (beq_iff_eq.mp z))]
  show (if PySem.W.kitMeta "ValueError" = true then PySem.W.subIn K (.ref C) (.type "ValueError") else none) = some true
  rw [if_pos (by decide +kernel)]
  exact h
theorem exm_of {K : PySem.W.Frag} {C D : Addr} (h0 : PySem.W.subIn K (.ref D) (.type "BaseException") = some true) (h1 : PySem.W.hasDictIn K D = true) (h2 : PySem.W.typeIn K (.ref D) = some (.type "type")) (h3 : PySem.W.subIn K (.ref C) (.ref D) = some true) : PySem.W.exmOne K (.ref C) (.ref D) = some true := by
  unfold PySem.W.exmOne
  rw [if_pos (by rw [h0]; rfl)]
  show (if ((PySem.W.clsIn K D).isSome && PySem.W.typeIn K (.ref D) == some (.type "type")) = true then PySem.W.subIn K (.ref C) (.ref D) else none) = some true
  rw [if_pos (by rw [cl_of h1, h2]; rfl)]
  exact h3
/-! ### steps -/
section
variable {σ : DSt} {G : DG} {Q : DK} {E : DX} {n f : Str} {ns ms : List Str} {i j : Nat} {a dd : Addr} {od : Option Addr} {ta tb tc : DE} {t : DA} {C : Ct} {ES : DSt → DX} {nx bk ct : DSt → DG → Prop} {rt : DK} {De : DEnds} {tx : (DSt → DX) → DS} {d : D} {fs : List (Str × D)}
theorem s_raise0 (h : E n none G) : dRaise0 n E De σ G := h
theorem s_raise1 (h : ta σ G fun d G1 => E n (some [(f, d)]) G1) : dRaise1 n f E ta De σ G := h
theorem s_tryK (h : tx (kept ns i j nx) ⟨nx, rt, bk, ct⟩ σ G) : dTryK ns i j tx ⟨nx, rt, bk, ct⟩ σ G := h
theorem s_callS (h : t σ G fun ds G1 => UpC C ds G1 Q (ES σ)) : dCallS C t ES σ G Q := h
def isXB (ns ms : List Str) (x : D) (G : DG) (Q : DK) : Prop := ∃ a n od, x = .ref a ∧ n ∈ ns ∧ G a = some (.exc n od) ∧ odOk G od ∧ Q (.bl (ms.any (isKind n))) G
theorem s_isX (h : ta σ G fun x G1 => isXB ns ms x G1 Q) : dIsX ns ms ta σ G Q := h
theorem s_isXB {k : Bool} (e : G a = some (.exc n od)) (hn : n ∈ ns) (ho : odOk G od) (hk : ms.any (isKind n) = k) (h : Q (.bl k) G) : isXB ns ms (.ref a) G Q := ⟨a, n, od, rfl, hn, e, ho, by rw [hk]; exact h⟩
def xfB (n f : Str) (x : D) (G : DG) (Q : DK) : Prop := ∃ a dd fs v, x = .ref a ∧ G a = some (.exc n (some dd)) ∧ G dd = some (.xd fs) ∧ fs.lookup f = some v ∧ Q v G
theorem s_xf (h : ta σ G fun x G1 => xfB n f x G1 Q) : dXf n f ta σ G Q := h
theorem s_xfB (e : G a = some (.exc n (some dd))) (e2 : G dd = some (.xd fs)) (e3 : fs.lookup f = some d) (h : Q d G) : xfB n f (.ref a) G Q := ⟨a, dd, fs, d, rfl, e, e2, e3, h⟩
end
section
variable {σ : DSt} {G : DG} {Q : DK} {a : Addr} {y d : D} {kvs : List (D × D)} {k : NestedKey} {kks : List (Key × D)} {kk : Key} {ta tb tc : DE} {nx bk ct : DSt → DG → Prop} {rt : DK} {neg : Bool} {o : Option D} {R : DG → Prop}
theorem s_dicK (h : ∀ p, G p = none → Q (.ref p) (up G p (.dK []))) : dDicK σ G Q := h
theorem s_dicN (h : ∀ p, G p = none → Q (.ref p) (up G p (.dic none []))) : dDicN σ G Q := h
theorem s_getN (e : G a = some (.dic none kvs)) (ht : isTupD y) (hk : nkD y = some k) (hd : k.depth ≤ 8) (hl : lookN k kvs = some d) (h : Q d G) : getD (.ref a) y G Q := ⟨a, d, rfl, .inr ⟨kvs, k, .inl e, ht, hk, hd, hl⟩, h⟩
theorem s_getK (e : G a = some (.dK kks)) (hk : keyD y = some kk) (hl : lookK kk kks = some d) (h : Q d G) : getD (.ref a) y G Q := ⟨a, d, rfl, .inl ⟨kks, kk, e, hk, hl⟩, h⟩
theorem s_hasN (e : G a = some (.dic none kvs)) (ht : isTupD y) (hk : nkD y = some k) (hd : k.depth ≤ 8) (h : Q (.bl (if neg = true then !(lookN k kvs).isSome else (lookN k kvs).isSome)) G) : hasD neg y (.ref a) G Q := ⟨a, _, rfl, .inr ⟨kvs, k, .inl e, ht, hk, hd, rfl⟩, h⟩
theorem s_hasK (e : G a = some (.dK kks)) (hk : keyD y = some kk) (h : Q (.bl (if neg = true then !(lookK kk kks).isSome else (lookK kk kks).isSome)) G) : hasD neg y (.ref a) G Q := ⟨a, _, rfl, .inl ⟨kks, kk, e, hk, rfl⟩, h⟩
def dputB (x y v : D) (G : DG) (R : DG → Prop) : Prop := ∃ a G4, x = .ref a ∧ putIt G a y v G4 ∧ R G4
theorem s_dput (h : tc σ G fun v G1 => ta σ G1 fun x G2 => tb σ G2 fun y G3 => dputB x y v G3 fun G4 => nx σ G4) : dDput ta tb tc ⟨nx, rt, bk, ct⟩ σ G := h
theorem s_dputN (e : G a = some (.dic none kvs)) (ht : isTupD y) (hk : nkD y = some k) (hd : k.depth ≤ 8) (hp : plainK k = true) (hl : kvs.length < 100000) (h : R (up G a (.dic none (putN k y d kvs)))) : dputB (.ref a) y d G R := ⟨a, _, rfl, .inr ⟨kvs, k, e, ht, hk, hd, hp, Nat.lt_of_lt_of_le hl (by decide), rfl⟩, h⟩
theorem s_dputK (e : G a = some (.dK kks)) (hk : keyD y = some kk) (hl : kks.length < 100000) (h : R (up G a (.dK (putKD kks kk d)))) : dputB (.ref a) y d G R := ⟨a, _, rfl, .inl ⟨kks, kk, e, hk, Nat.lt_of_lt_of_le hl (by decide), rfl⟩, h⟩
theorem s_lenN (e : G a = some (.dic none kvs)) (h : Q (.int (kvs.length : Nat)) G) : lenDicD [.ref a] G Q := ⟨a, _, rfl, .inr ⟨kvs, .inl e, rfl⟩, h⟩
theorem s_getF (e : G a = some (.dif none kvs)) (ht : isTupD y) (hk : nkD y = some k) (hd : k.depth ≤ 8) (hl : lookN k kvs = some d) (h : Q d G) : getD (.ref a) y G Q := ⟨a, d, rfl, .inr ⟨kvs, k, .inr e, ht, hk, hd, hl⟩, h⟩
theorem s_hasF (e : G a = some (.dif none kvs)) (ht : isTupD y) (hk : nkD y = some k) (hd : k.depth ≤ 8) (h : Q (.bl (if neg = true then !(lookN k kvs).isSome else (lookN k kvs).isSome)) G) : hasD neg y (.ref a) G Q := ⟨a, _, rfl, .inr ⟨kvs, k, .inr e, ht, hk, hd, rfl⟩, h⟩
theorem s_lenF (e : G a = some (.dif none kvs)) (h : Q (.int (kvs.length : Nat)) G) : lenDicD [.ref a] G Q := ⟨a, _, rfl, .inr ⟨kvs, .inr e, rfl⟩, h⟩
theorem s_lenK (e : G a = some (.dK kks)) (h : Q (.int (kks.length : Nat)) G) : lenDicD [.ref a] G Q := ⟨a, _, rfl, .inl ⟨kks, e, rfl⟩, h⟩
end
end FD

namespace FD
open PySem L2
/-! ### methods of a built-in kind, by what is known of the receiver -/
section
variable {X : Cx} {a b c e o : Expr} {es rest : List Expr} {ta tb tc to : DE} {t : DA} {pos apos cpos : Pos} {name : Str} {T id : String} {r : V → List V → Hp → VK → Prop} {f : FM}
def TyOk (X : Cx) (T : String) (ty : V → Hp → Prop) : Prop := ∀ (pins : List (Addr × Obj)) (σ : St) (H : Hp) (s : Shared) (x : V) (v : Value), L2.Inv X pins σ H s → RelV x v → ty x H → s.TypeIs v T ∧ ∀ a, v = .ref a → ∃ ob, s.heap.get? a = some ob ∧ ob.dict = none
def tBX (ty : V → Hp → Prop) (r : V → List V → Hp → VK → Prop) (to : TE) (t : TA) : TE := fun σ H Q => to σ H fun x H1 => ty x H1 ∧ t σ H1 fun xs H2 => r x xs H2 Q
theorem pe_bx {ty : V → Hp → Prop} {tto : TE} {tta : TA} (kd : TyOk X T ty) (pl : PlainAttrs T) (slot : Slot T name id) (hty : typeOf (.builtin id) = pure (.type "method_descriptor")) (hm : MtR X id r) (ho : PE X o tto) (ha : PA X (e :: es) tta)
    (hbase : attributeBase o name X.env (eval o X.env) = eval o X.env := by rfl)
    (hfew : ((backTo cpos (starEach (e :: es) X.env)).all (fun x => !x.1) && (backToKw cpos (keywordEach [] X.env)).all (fun x => x.1.isSome)
      && decide ((e :: es).length + ([] : List Keyword).length + (if ([] : List Keyword).isEmpty then 0 else 1) < 30)) = true := by rfl)
    (hline : (apos.endLine == cpos.line) = true := by rfl) (hs : starEach (e :: es) X.env = (false, eval e X.env) :: starEach es X.env := by rfl) (hplain : (backTo cpos (starEach es X.env)).any (·.1) = false := by rfl) :
    PE X (.Call (.Attribute o name apos) (e :: es) [] cpos) (tBX ty r tto tta) := by
  refine ⟨fun pins s σ H Q I h => ?_⟩
  refine wpAny_Call_method_late hbase hfew hline rfl (thn (ho.run pins s σ H _ I h) fun v s1 hh => ?_)
  obtain ⟨x, H1, I1, r1, hk, q1⟩ := hh
  obtain ⟨h1, h2⟩ := kd pins σ H1 s1 x v I1 r1 hk
  refine ⟨T, id, pl, slot, hty, h1, h2, ?_⟩
  have run := ha.run cpos pins s1 σ H1 _ I1 q1
  rw [hs] at run ⊢
  refine Calls.callWith_builtin (by show (false || (backTo cpos (starEach es X.env)).any (·.1)) = false; rw [hplain] <;> rfl) (Calls.evalArgs_plain ?_)
  exact thn run fun us s2 hh2 => by
    obtain ⟨vs, H2, I2, r2, q2⟩ := hh2
    exact hm pins s2 σ H2 x vs v us Q I2 r1 r2 q2
/-- the receiver is of a kind -/
def dMx (cond : D → DG → Prop) (f : FM) (to : DE) (t : DA) : DE := fun σ G Q => to σ G fun x G1 => cond x G1 ∧ t σ G1 fun xs G2 => f x xs G2 Q
theorem de_mx {ty : V → Hp → Prop} {cond : D → DG → Prop} (kd : TyOk X T ty) (kc : ∀ H G d x, MH X.K G H → RD X.K H d x → cond d G → ty x H) (pl : PlainAttrs T) (slot : Slot T name id) (hty : typeOf (.builtin id) = pure (.type "method_descriptor")) (hm : MtR X id r) (hf : MonoFM f) (hs : SimM X.K r f) (ho : DPE X o to) (ha : DPA X (e :: es) t)
    (hbase : attributeBase o name X.env (eval o X.env) = eval o X.env := by rfl)
    (hfew : ((backTo pos (starEach (e :: es) X.env)).all (fun x => !x.1) && (backToKw pos (keywordEach [] X.env)).all (fun x => x.1.isSome)
      && decide ((e :: es).length + ([] : List Keyword).length + (if ([] : List Keyword).isEmpty then 0 else 1) < 30)) = true := by rfl)
    (hline : (apos.endLine == pos.line) = true := by rfl) (h1 : starEach (e :: es) X.env = (false, eval e X.env) :: starEach es X.env := by rfl) (hplain : (backTo pos (starEach es X.env)).any (·.1) = false := by rfl) :
    DPE X (.Call (.Attribute o name apos) (e :: es) [] pos) (dMx cond f to t) := by
  obtain ⟨mo, tto, po, ro⟩ := ho
  obtain ⟨ma, tta, pa, ra⟩ := ha
  refine ⟨fun σ G Q Q' h q => mo σ G _ _ (fun x G1 q1 => ⟨q1.1, ma σ G1 _ _ (fun xs G2 q2 => hf x xs G2 Q Q' h q2) q1.2⟩) q, _, pe_bx kd pl slot hty hm po pa hbase hfew hline h1 hplain, fun σ H σd G Q m s h => ?_⟩
  refine ro σ H σd G _ m s (mo _ _ _ _ (fun dx G1 q1 x H1 m1 r1 k1 => ?_) h)
  refine ⟨kc H1 G1 dx x m1 r1 q1.1, ra σ H1 σd G1 _ m1 (s.kt k1) (ma _ _ _ _ (fun dxs G2 q2 xs H2 m2 r2 k2 => ?_) q1.2)⟩
  exact hs H2 G2 x xs dx dxs Q m2 (r1.kt k2) r2 (hf _ _ _ _ _ (fun d G' z => lf_kt (k1.trans k2) z) q2)
/-! ### tuple.index -/
def isTp (x : D) (_ : DG) : Prop := ∃ xs, x = .tup xs
def tpV (K : PySem.W.Frag) (x : V) (H : Hp) : Prop := ∃ a vs, x = .ref a ∧ SqP K H a vs
theorem tp_ok : TyOk X "tuple" (tpV X.K) := fun pins σ H s x v I r h => by
  obtain ⟨a, vs, rfl, hs⟩ := h
  cases (show v = Value.ref a from r)
  obtain ⟨its, rv, ⟨o, ho, hc, n, hd⟩, _⟩ := I.tuple hs.t
  refine ⟨⟨o, ho, hc⟩, fun b e => ?_⟩
  cases e
  rcases hs with ⟨o', h1, h2⟩ | ⟨o', _, _, h1, _, h2, _⟩
  · exact ⟨o', (I.hok a _ h1).1, h2⟩
  · exact ⟨o', I.kIn a o' h1, h2⟩
def rIndexT (K : PySem.W.Frag) : V → List V → Hp → VK → Prop := fun x xs H Q => ∃ (a : Addr) (y : V) (d : PyData) (ds : List PyData) (j : Nat) (z : PyData), x = V.ref a ∧ xs = [y] ∧ Dp K H (V.ref a) (.tuple ds) ∧ Dp K H y d ∧
  SeqAt.shaped (.tuple ds) = true ∧ SeqAt.shaped d = true ∧ ds[j]? = some z ∧ PyData.eqv z d = true ∧ (∀ (m : Nat) (z' : PyData), m < j → ds[m]? = some z' → PyData.eqv z' d = false) ∧ Q (.int (j : Nat)) H
theorem mt_indexT (hu : X.A.units + 65 < cLine) : MtR X "tuple.index" (rIndexT X.K) := by
  intro pins s σ H x xs v us Q I rx rxs h
  obtain ⟨a, y, d, ds, j, z, rfl, rfl, hl, hy, sl, sd, hz, hzj, hno, q⟩ := h
  cases rx
  obtain ⟨uy, rfl, ry⟩ := vals1 rxs
  obtain ⟨bs, r1⟩ := Dp.reads I d y uy hy ry
  have lay : PyData.canLayAll0 ds = true := SeqAt.canLay_of_shaped sl
  have room : X.A.units + 1 + min (PyData.depthAll ds) d.depth < cLine := PyProof.Rows.room_in_shaped sd hu
  cases hl with
  | tup hs ha =>
    obtain ⟨its, rv, ⟨⟨cls, dd, data, sls⟩, ho, hc, n, hdt⟩, hlen⟩ := I.tuple hs
    simp only at hc hdt
    subst hc hdt
    obtain ⟨as, h4⟩ := Dp.readsAll I ds _ its ha rv
    have hn : its.length = ds.length := SeqAt.ReadsAll.length ds its as h4
    have hmap : its.map (SeqAt.readOf s.heap) = ds := SeqAt.readsAll_map ds its as lay h4
    obtain ⟨hjd, _⟩ := List.getElem?_eq_some_iff.mp hz
    have hj : j < its.toArray.size := by
      rw [List.size_toArray]
      omega
    have seen : ∀ (m : Nat) (hm : m < its.toArray.size) (z' : PyData), ds[m]? = some z' → SeqAt.readOf s.heap its.toArray[m] = z' := fun m hm z' hz' => by
      have hm2 : m < its.length := by simpa using hm
      rw [← hmap, List.getElem?_map, List.getElem?_eq_getElem hm2] at hz'
      simpa using hz'
    refine call_meets PySem.F.slot_tuple_index ⟨_, ho, rfl⟩ PySem.F.entry_tuple_index (PySem.F.args_tuple_index_2 _ _) (TI.tuple_indexAt a its.toArray n dd sls uy (fun u => PyData.eqv (SeqAt.readOf s.heap u) d) j hj ?_ ?_)
      ⟨ho, SeqAt.items_eqAt (vs := its.toArray) (show ReadsAll s.heap its.toArray.toList ds as from h4) r1 lay (SeqAt.canLay_of_shaped sd) room, ⟨.int (j : Nat), H, I.tok _, ⟨_, rfl⟩, q⟩⟩
    · show PyData.eqv (SeqAt.readOf s.heap its.toArray[j]) d = true
      rw [seen j hj z hz]
      exact hzj
    · intro m hm hmj
      have hm3 : m < ds.length := by omega
      show PyData.eqv (SeqAt.readOf s.heap its.toArray[m]) d = false
      rw [seen m hm _ (List.getElem?_eq_getElem hm3)]
      exact hno m _ hmj (List.getElem?_eq_getElem hm3)
def indexTD : FM := fun x xs G Q => ∃ y ds d j z, xs = [y] ∧ pyD 9 G x = some (.tuple ds) ∧ pyD 9 G y = some d ∧ ds[j]? = some z ∧ PyData.eqv z d = true ∧ (∀ (m : Nat) (z' : PyData), m < j → ds[m]? = some z' → PyData.eqv z' d = false) ∧ Q (.int (j : Nat)) G
theorem de_indexT (hu : X.A.units + 65 < cLine) (ho : DPE X o to) (ha : DPA X (e :: es) t)
    (hbase : attributeBase o "index" X.env (eval o X.env) = eval o X.env := by rfl)
    (hfew : ((backTo pos (starEach (e :: es) X.env)).all (fun x => !x.1) && (backToKw pos (keywordEach [] X.env)).all (fun x => x.1.isSome)
      && decide ((e :: es).length + ([] : List Keyword).length + (if ([] : List Keyword).isEmpty then 0 else 1) < 30)) = true := by rfl)
    (hline : (apos.endLine == pos.line) = true := by rfl) (h1 : starEach (e :: es) X.env = (false, eval e X.env) :: starEach es X.env := by rfl) (hplain : (backTo pos (starEach es X.env)).any (·.1) = false := by rfl) :
    DPE X (.Call (.Attribute o "index" apos) (e :: es) [] pos) (dMx isTp indexTD to t) :=
  de_mx tp_ok (fun H G d x m r h => by
    obtain ⟨xs, rfl⟩ := h
    cases r with
    | tup hs _ _ => exact ⟨_, _, rfl, hs⟩) PySem.F.plainAttrs_tuple PySem.F.slot_tuple_index PySem.F.type_tuple_index (mt_indexT hu)
    (fun x xs G Q Q' h ⟨y, ds, d, j, z, a1, a2, a3, a4, a5, a6, q⟩ => ⟨y, ds, d, j, z, a1, a2, a3, a4, a5, a6, h _ _ q⟩)
    (fun H G x xs dx dxs Q m rx rs ⟨y, ds, d, j, z, a1, a2, a3, a4, a5, a6, q⟩ => by
      subst a1
      obtain ⟨v, vs', rfl, r1, r2⟩ := rs.cons_inv
      cases r2.nil_inv
      have hp := pyD_dp m 9 _ _ _ rx a2
      cases hp with
      | tup hs ha => exact ⟨_, v, d, ds, j, z, rfl, rfl, .tup hs ha, pyD_dp m 9 _ _ _ r1 a3, pyD_shaped a2 (by decide), pyD_shaped a3 (by decide), a4, a5, a6, q _ H m (.int _) .refl⟩)
    ho ha hbase hfew hline h1 hplain
theorem s_mx {σ : DSt} {G : DG} {Q : DK} {cond : D → DG → Prop} (h : to σ G fun x G1 => cond x G1 ∧ t σ G1 fun xs G2 => f x xs G2 Q) : dMx cond f to t σ G Q := h
/-! ### sorted of a list of pairs of ints -/
abbrev encPI (p : Int × Int) : D := .tup [.int p.1, .int p.2]
def lexLe (p q : Int × Int) : Prop := p.1 < q.1 ∨ (p.1 = q.1 ∧ p.2 ≤ q.2)
def sortedPD : FL := fun xs G Q => ∃ (a : Addr) (ps : List (Int × Int)), xs = [.ref a] ∧ G a = some (.lst (ps.map encPI)) ∧ ∀ (qs : List (Int × Int)) (p : Addr), qs.Perm ps → qs.Pairwise lexLe → G p = none → Q (.ref p) (up G p (.lst (qs.map encPI)))
theorem rd_pair {K : PySem.W.Frag} {H : Hp} {p : Int × Int} {v : V} (r : RD K H (encPI p) v) : ∃ a, v = .ref a ∧ SqT K H a [.int p.1, .int p.2] := by
  cases r with
  | @tup a _ vs h hl hi =>
    refine ⟨a, rfl, ?_⟩
    obtain ⟨v1, vs1, rfl, r1, r2⟩ := RDs.cons_inv (xs := [.int p.2]) ⟨hl, hi⟩
    obtain ⟨v2, vs2, rfl, r3, r4⟩ := r2.cons_inv
    cases r4.nil_inv
    cases r1
    cases r3
    exact h.t
theorem cr_sortedPD : CallR X (.builtin "sorted") (rLD X.K sortedPD) := by
  classical
  intro pins s σ H xs us Q I r ⟨G, ds, m, rd, a, ps, e, hG, q⟩
  subst e
  obtain ⟨v, vs', rfl, r1, r2⟩ := rd.cons_inv
  cases r2.nil_inv
  cases r1
  obtain ⟨u, rfl, ru⟩ := vals1 r
  cases (show u = Value.ref a from ru)
  obtain ⟨vs, hH, rds⟩ := m a _ hG
  obtain ⟨its, rv, hl, hz⟩ := I.list (.inl (.inl hH) : SqL X.K H a vs)
  have one : ∀ (i : Nat) (u : Value), its[i]? = some u → ∃ p v, ps[i]? = some p ∧ vs[i]? = some v ∧ RD X.K H (encPI p) v ∧ RelV v u := fun i u hu => by
    have hi : i < its.length := (List.getElem?_eq_some_iff.mp hu).1
    have h1 := rds.1
    rw [List.length_map] at h1
    have h2 := rv.length
    have e1 : ps[i]? = some (ps[i]'(by omega)) := List.getElem?_eq_getElem _
    have e2 : vs[i]? = some (vs[i]'(by omega)) := List.getElem?_eq_getElem _
    refine ⟨_, _, e1, e2, rds.2 i _ _ (by rw [List.getElem?_map, e1]; rfl) e2, ?_⟩
    obtain ⟨u', q1, q2⟩ := rv.get e2
    rw [hu] at q1
    cases q1
    exact q2
  have pair : ∀ u ∈ its, ∃ p : Int × Int, Srt.IsPair s.heap u p.1 p.2 ∧ ∃ b, u = .ref b ∧ RD X.K H (encPI p) (.ref b) := fun u hu => by
    obtain ⟨i, hi⟩ := List.mem_iff_getElem?.mp hu
    obtain ⟨p, v, _, _, rp, ru⟩ := one i u hi
    obtain ⟨b, rfl, hs⟩ := rd_pair rp
    cases (show u = Value.ref b from ru)
    obtain ⟨jt, rj, ⟨o, ho, hc, n, hd⟩, _⟩ := I.tuple hs
    obtain ⟨u1, u2, rfl, ri, rk⟩ := vals2 rj
    obtain ⟨t1, rfl⟩ := ri
    obtain ⟨t2, rfl⟩ := rk
    exact ⟨p, ⟨b, o, t1, t2, n, rfl, ho, hc, hd⟩, b, rfl, rp⟩
  let k : Value → Int × Int := fun u => if h : ∃ p : Int × Int, Srt.IsPair s.heap u p.1 p.2 ∧ ∃ b, u = .ref b ∧ RD X.K H (encPI p) (.ref b) then h.choose else (0, 0)
  have hk : ∀ u ∈ its, Srt.IsPair s.heap u (k u).1 (k u).2 ∧ ∃ b, u = .ref b ∧ RD X.K H (encPI (k u)) (.ref b) := fun u hu => by
    have h := pair u hu
    have e : k u = h.choose := dif_pos h
    rw [e]
    exact h.choose_spec
  have uniq : ∀ {p p' : Int × Int} {v : V}, RD X.K H (encPI p) v → RD X.K H (encPI p') v → p = p' := fun {p p' v} h1 h2 => by
    obtain ⟨b, rfl, s1⟩ := rd_pair h1
    obtain ⟨b', e, s2⟩ := rd_pair h2
    cases e
    have := I.tuple_inj s1 s2
    simp only [List.cons.injEq, V.int.injEq, and_true] at this
    exact Prod.ext this.1 this.2
  have hks : its.map k = ps := by
    refine List.ext_getElem? fun i => ?_
    rw [List.getElem?_map]
    cases hu : its[i]? with
    | none =>
      have h1 := rds.1
      rw [List.length_map] at h1
      have h2 := rv.length
      have h3 := List.getElem?_eq_none_iff.mp hu
      symm
      rw [Option.map_none]
      exact List.getElem?_eq_none_iff.mpr (by omega)
    | some u =>
      obtain ⟨p, v, e1, _, rp, ru⟩ := one i u hu
      obtain ⟨_, b, rfl, rk⟩ := hk u (List.mem_of_getElem? hu)
      obtain ⟨b', rfl, _⟩ := rd_pair rp
      cases (show Value.ref b = Value.ref b' from ru)
      rw [e1, Option.map_some, uniq rk rp]
  refine SrtO.sorted_pairsO (k := k) hl.isList (by rw [← rv.length]; exact hz) (fun u hu => (hk u hu).1) fun h' d out h1 h2 kp hd hn => ?_
  obtain ⟨n, hn⟩ := hn
  have mem : ∀ u ∈ out, u ∈ its := fun u hu => h2.perm.mem_iff.mp hu
  have hv : ∀ (l : List Value), (∀ u ∈ l, u ∈ its) → ∃ ws, Vals ws l ∧ RDs X.K H ((l.map k).map encPI) ws := fun l => by
    induction l with
    | nil => exact fun _ => ⟨[], .nil, .nil⟩
    | cons u l ih =>
      intro hm
      obtain ⟨ws, w1, w2⟩ := ih fun u hu => hm u (List.mem_cons_of_mem _ hu)
      obtain ⟨_, b, rfl, rk⟩ := hk u (hm _ List.mem_cons_self)
      exact ⟨.ref b :: ws, .cons rfl w1, .cons rk w2⟩
  obtain ⟨ws, w1, w2⟩ := hv out mem
  have hfr := I.hok.fresh hd
  have kk : KT X.K H (L2.upd H d (.lst ws)) := .upd_new hfr
  have hlen : ws.length ≤ sizeLine := by
    rw [w1.length, h2.len, ← rv.length]
    exact hz
  refine ⟨.ref d, upd H d (.lst ws), I.laid (t' := s.toks) kp hd ⟨hlen, out, n, w1, hn⟩, rfl, q (out.map k) d ?_ ?_ (m.fresh hfr) _ _ (m.upd kk ⟨ws, upd_same, w2.kt kk⟩) (.ref d) kk⟩
  · rw [← hks]
    exact h2.perm.map k
  · rw [List.pairwise_map]
    refine h1.imp fun {u w} z => ?_
    have := SrtO.lexB_no.mp z
    unfold lexLe
    omega
theorem sortedPD_mono : MonoFL sortedPD := fun xs G Q Q' h ⟨a, ps, e, s, q⟩ => ⟨a, ps, e, s, fun qs p h1 h2 h3 => h _ _ (q qs p h1 h2 h3)⟩
theorem de_sortedP {p : Pos} {t : DA} (hg : Gl X "sorted") (hm : X.mg "sorted" = none) (ha : DPA X (e :: es) t) (h1 : starEach (e :: es) X.env = (false, eval e X.env) :: starEach es X.env := by rfl) (h2 : ((backTo pos (starEach es X.env)).any fun x => x.fst) = false := by rfl) :
    DPE X (.Call (.Name "sorted" p) (e :: es) [] pos) (dCB sortedPD t) := de_callB cr_sortedPD sortedPD_mono rLD_sim hg hm PyProof.Rows.Boot.«sorted» ha (by decide) (by decide) h1 h2
end
end FD

namespace FD
open PySem PyProof.Rows Srt SrtO
/-! ### sorted of what a dict has as its keys, pairs of ints -/
section
variable {prog : Program} {w : World} {A : Around} {E : Value → Shared → Prop} {s : Shared}
/-- what a dict's keys are, gathered; the heap has grown -/
theorem gather_src {T : String} {r d : Addr} {n : Nat} {P : Nat → Value → Prop} {OK : Heap → Prop} {R : List Value → Shared → Prop} (K : PySem.W.KdlSrc prog w T r d n P OK) (calm : A.handled = none) (good : OK s.heap) (fits : n ≤ sizeLine)
    (fin : ∀ (h' : Heap) (tk : Nat) (got : Array Value), (∀ b o, s.heap.get? b = some o → h'.get? b = some o) → s.heap.objs.size < h'.objs.size → ItemsOf P got n → R got.toList { s with heap := h', toks := tk }) :
    wpAny (model prog w) A (collect (.ref r)) R E s := by
  have lt := K.there _ good
  unfold collect
  apply wpAny_bind
  apply wpAny_runValue
  apply codeAny_builtin entry_proto_collect'
  rw [Around.under_plainId PySem.F.plain_proto_collect _]
  change wpAny _ A.in1 (do again (.builtin "list.__iadd__" ⟨[← newList [], .ref r], []⟩)) _ _ s
  apply wpAny_bind
  refine wpAny_newObj_type ?_
  refine wpAny_pure ⟨PySem.plainId_quiet PySem.F.plain_list_iadd _, codeAny_builtin entry_list_iadd' ?_⟩
  rw [Around.under_plainId PySem.F.plain_list_iadd _]
  have own : (s.heap.push { cls := .type "list", data := .seq ([] : List Value).toArray }).get? s.heap.objs.size = some { cls := .type "list", data := .seq #[] } := Heap.get?_push_size _ rfl
  change wpAny _ A.in1 (Builtin.List.listExtendWith (.ref s.heap.objs.size) (.ref r) (.ref s.heap.objs.size)) _ _ _
  have long := PySem.W.kdl_extend (A := A) (s := { s with heap := s.heap.push { cls := .type "list", data := .seq ([] : List Value).toArray } })
    (R := fun (q : Result) (s' : Shared) => ∃ (h' : Heap) (tk : Nat) (got : Array Value) (c' : Nat), q = .ok (.ret (.ref s.heap.objs.size)) ∧ s' = { s with heap := h', toks := tk } ∧ (∀ b o, s.heap.get? b = some o → h'.get? b = some o) ∧
      h'.get? s.heap.objs.size = some { cls := .type "list", dict := none, data := .seq got c', slots := #[] } ∧ ItemsOf P got n)
    K calm (K.keep _ _ good fun b _ o e => Heap.get?_push_of_some _ e) s.heap.objs.size (Nat.ne_of_gt lt.1) (Nat.ne_of_gt lt.2) (.ref s.heap.objs.size) 0 own
    (fun h' tk got c' hk z1 z2 => ⟨h', tk, got, c', rfl, rfl, fun b o e => hk b o (Nat.ne_of_lt (Heap.lt_size e)) (Heap.get?_push_of_some _ e), z1, z2⟩) fits
  refine wpAny_mono long (fun last s' x => ?_) fun e s' x => ?_
  · cases last with
    | done f =>
      obtain ⟨h', tk, got, c', e, rfl, hk, z1, z2⟩ := x
      cases e
      change wpAny _ A (load s.heap.objs.size >>= _) _ _ _
      exact wpAny_bind (wpAny_load z1 (wpAny_pure (fin h' tk got hk (Heap.lt_size z1) z2)))
    | again c₁ =>
      refine ⟨x.1, codeAny_mono x.2 fun q s₂ y => ?_⟩
      obtain ⟨h', tk, got, c', rfl, rfl, hk, z1, z2⟩ := y
      change wpAny _ A (load s.heap.objs.size >>= _) _ _ _
      exact wpAny_bind (wpAny_load z1 (wpAny_pure (fin h' tk got hk (Heap.lt_size z1) z2)))
  · obtain ⟨_, _, _, _, z, _⟩ := x
    cases z
theorem sorted_src {T : String} {r d : Addr} {n : Nat} {P : Nat → Value → Prop} {OK : Heap → Prop} {k : Value → Int × Int} {Q : Value → Shared → Prop} (K : PySem.W.KdlSrc prog w T r d n P OK) (hh : A.handled = none) (hok : OK s.heap) (hn : n ≤ sizeLine) (hp : ∀ i v, P i v → IsPair s.heap v (k v).1 (k v).2)
    (h : ∀ (h' : Heap) (tk : Nat) (D : Addr) (vs out : List Value), vs.length = n → (∀ (j : Nat) v, vs[j]? = some v → P j v) → Srtd (fun v u => lexB (k v) (k u)) out → Stb (fun v u => lexB (k v) (k u)) out vs → (∀ b o, s.heap.get? b = some o → h'.get? b = some o) → s.heap.objs.size ≤ D → (∃ m, h'.get? D = some (seqObj "list" out.toArray m)) → Q (.ref D) { s with heap := h', toks := tk }) :
    wpAny (model prog w) A (call (.builtin "sorted") [.ref r]) Q E s := by
  apply Calls.call_function_entry kind_sorted plain_sorted entry_sorted (args_sorted1 _)
  unfold Builtin.«sorted»
  apply wpAny_bind (m := checkCount "sorted" 1 1 _)
  apply wpAny_pure
  apply wpAny_bind
  refine gather_src (A := A.in1) K hh hok hn fun h1 tk acc hk grown hacc => ?_
  have hl : acc.toList.length = n := by rw [Array.length_toList]; exact hacc.1
  have hP : ∀ (j : Nat) v, acc.toList[j]? = some v → P j v := fun j v e => hacc.2 j v (by rw [← Array.getElem?_toList]; exact e)
  generalize acc.toList = vs at hl hP
  have le : s.heap.objs.size ≤ h1.objs.size := by omega
  apply wpAny_bind
  refine wpAny_newList ?_ (by rw [hl]; exact hn)
  have here : (h1.push (seqObj "list" vs.toArray 0)).get? h1.objs.size = some (seqObj "list" vs.toArray 0) := Heap.get?_push_size _ rfl
  have keep : ∀ b o, s.heap.get? b = some o → b ≠ h1.objs.size ∧ (h1.push (seqObj "list" vs.toArray 0)).get? b = some o := fun b o e => ⟨Nat.ne_of_lt (Heap.lt_size (hk b o e)), Heap.get?_push_of_some _ (hk b o e)⟩
  change wpAny _ _ _ _ _ { s with heap := h1.push (seqObj "list" vs.toArray 0), toks := tk }
  apply wpAny_bind
  apply wpAny_holding
  refine wpAny_call_entry slot_list_sort ⟨_, here, rfl⟩ entry_list_sort (list_sort_ord (swo_lex k) here (by rw [hl]; exact hn) (fun h2 => ?_) fun out hs hb => ⟨_, rfl, ?_⟩) (args_list_sort _)
  · refine pairs_sortableO (by omega) (fun v hm => ?_) fun o e => ?_
    · obtain ⟨j, hj⟩ := List.mem_iff_getElem?.mp hm
      exact (hp j v (hP j v hj)).keeps fun b o e _ => (keep b o e).2
    · have e' : some o = some (seqObj "list" vs.toArray 0) := e.symm.trans here
      cases e'
      intro c
      exact absurd (Value.type.inj c) (by decide)
  · refine wpAny_pure ⟨_, rfl, ?_⟩
    refine h _ tk h1.objs.size vs out hl hP hs hb (fun b o e => ?_) le ?_
    · rw [sortedHeap_old (keep b o e).1 (Heap.lt_size (keep b o e).2)]
      exact (keep b o e).2
    · exact sortedHeap_at here
end
end FD
namespace FD
open PySem L2
section
variable {X : Cx} {a b c e o : Expr} {es rest : List Expr} {ta tb tc to : DE} {t : DA} {pos apos cpos : Pos}
theorem dic_raw {pins : List (Addr × Obj)} {σ : St} {H : Hp} {s : Shared} {G : DG} {p : Addr} {kvs : List (D × D)} (I : L2.Inv X pins σ H s) (m : MH X.K G H) (hp : G p = some (.dic none kvs)) :
    ∃ es ep xs, s.heap.DictRaw p es ep ∧ es.size = kvs.length ∧ (p == sysModules) = false ∧ kvs.length ≤ sizeLine ∧ Paired (Rl X H none) kvs xs ∧ ∀ (i : Nat) (hi : i < es.size), ∃ kv x, kvs[i]? = some kv ∧ xs[i]? = some x ∧ Rl X H none kv x ∧ es[i].key = .ref x.2.1 ∧ es[i].val = x.2.2 := by
  obtain ⟨xs, ⟨o, es, ep, h1, h2, h3, h4, h5, h6⟩, P, hs, hz, mu⟩ := dic_fwd I (m p _ hp) (by intro w z; cases z)
  have hl := Paired.length P
  have hes : es.size = xs.length := by
    have := congrArg List.length h4
    simpa using this
  refine ⟨es, ep, xs, ⟨o, h1, h2, h3⟩, by omega, hs, hz, P, fun i hi => ?_⟩
  have e1 : kvs[i]? = some (kvs[i]'(by omega)) := List.getElem?_eq_getElem _
  have e2 : xs[i]? = some (xs[i]'(by omega)) := List.getElem?_eq_getElem _
  have e3 : es.toList[i]? = (xs.map (entryOfKey (nestedKind X.prog X.w)))[i]? := by rw [h4]
  rw [List.getElem?_map, e2, Array.getElem?_toList, Array.getElem?_eq_getElem hi] at e3
  have e4 : es[i] = entryOfKey (nestedKind X.prog X.w) (xs[i]'(by omega)) := Option.some.inj e3
  refine ⟨_, _, e1, e2, paired_get P i _ _ e1 e2, ?_, ?_⟩
  · rw [e4]; rfl
  · rw [e4]; rfl
/-- sorted(d), d's keys pairs of ints -/
def sortedDicD : FL := fun xs G Q => ∃ (a : Addr) (kvs : List (D × D)) (ps : List (Int × Int)), xs = [.ref a] ∧ G a = some (.dic none kvs) ∧ kvs.map (·.1) = ps.map encPI ∧ ∀ (qs : List (Int × Int)) (p : Addr), qs.Perm ps → qs.Pairwise lexLe → G p = none → Q (.ref p) (up G p (.lst (qs.map encPI)))
theorem cr_sortedDic (hc : X.calm = true) : CallR X (.builtin "sorted") (rLD X.K sortedDicD) := by
  classical
  intro pins s σ H xs us Q I r ⟨G, ds, m, rd, a, kvs, ps, e, hG, hkp, q⟩
  subst e
  obtain ⟨v, vs', rfl, r1, r2⟩ := rd.cons_inv
  cases r2.nil_inv
  cases r1
  obtain ⟨u, rfl, ru⟩ := vals1 r
  cases (show u = Value.ref a from ru)
  obtain ⟨es, ep, ys, raw, hes, hsys, hz, P, at_⟩ := dic_raw I m hG
  have hpl : ps.length = kvs.length := by
    have := congrArg List.length hkp
    simpa using this.symm
  have key : ∀ (i : Nat) (hi : i < es.size), ∃ p b, ps[i]? = some p ∧ es[i].key = .ref b ∧ RD X.K H (encPI p) (.ref b) := fun i hi => by
    obtain ⟨kv, x, e1, e2, rl, e3, _⟩ := at_ i hi
    have e4 : ps[i]? = some (ps[i]'(by omega)) := List.getElem?_eq_getElem _
    have e5 : (kvs.map (·.1))[i]? = (ps.map encPI)[i]? := by rw [hkp]
    rw [List.getElem?_map, List.getElem?_map, e1, e4] at e5
    refine ⟨_, _, e4, e3, ?_⟩
    have e6 : kv.1 = encPI (ps[i]'(by omega)) := Option.some.inj e5
    rw [← e6]
    exact rl.2.2.1
  have uniq : ∀ {p p' : Int × Int} {v : V}, RD X.K H (encPI p) v → RD X.K H (encPI p') v → p = p' := fun {p p' v} h1 h2 => by
    obtain ⟨b, rfl, s1⟩ := rd_pair h1
    obtain ⟨b', e, s2⟩ := rd_pair h2
    cases e
    have := I.tuple_inj s1 s2
    simp only [List.cons.injEq, V.int.injEq, and_true] at this
    exact Prod.ext this.1 this.2
  let k : Value → Int × Int := fun u => if h : ∃ p : Int × Int, ∃ b, u = .ref b ∧ RD X.K H (encPI p) (.ref b) then h.choose else (0, 0)
  have hk : ∀ (p : Int × Int) b, RD X.K H (encPI p) (.ref b) → k (.ref b) = p := fun p b rp => by
    have h : ∃ p : Int × Int, ∃ b', Value.ref b = .ref b' ∧ RD X.K H (encPI p) (.ref b') := ⟨p, b, rfl, rp⟩
    have e : k (.ref b) = h.choose := dif_pos h
    rw [e]
    obtain ⟨b', e', r'⟩ := h.choose_spec
    cases e'
    exact uniq r' rp
  have isP : ∀ (p : Int × Int) b, RD X.K H (encPI p) (.ref b) → Srt.IsPair s.heap (.ref b) p.1 p.2 := fun p b rp => by
    obtain ⟨b', e', hs⟩ := rd_pair rp
    cases e'
    obtain ⟨jt, rj, ⟨o, ho, hc, n, hd⟩, _⟩ := I.tuple hs
    obtain ⟨u1, u2, rfl, ri, rk⟩ := vals2 rj
    obtain ⟨t1, rfl⟩ := ri
    obtain ⟨t2, rfl⟩ := rk
    exact ⟨b, o, t1, t2, n, rfl, ho, hc, hd⟩
  refine sorted_src (k := k) (PySem.KdlSrc.rawDict hsys) (I.ok.hd hc) raw (by omega) (fun i v ⟨hi, hv⟩ => ?_) fun h' tk d vs out hl hP h1 h2 kp hd hn => ?_
  · obtain ⟨p, b, _, e2, rp⟩ := key i hi
    rw [hv, e2, hk p b rp]
    exact isP p b rp
  · obtain ⟨n, hn⟩ := hn
    have hvs : ∀ (i : Nat) u, vs[i]? = some u → ∃ p b, ps[i]? = some p ∧ u = .ref b ∧ RD X.K H (encPI p) (.ref b) := fun i u hu => by
      obtain ⟨hi, hv⟩ := hP i u hu
      obtain ⟨p, b, e1, e2, rp⟩ := key i hi
      exact ⟨p, b, e1, by rw [hv, e2], rp⟩
    have hks : vs.map k = ps := by
      refine List.ext_getElem? fun i => ?_
      rw [List.getElem?_map]
      cases hu : vs[i]? with
      | none =>
        have h3 := List.getElem?_eq_none_iff.mp hu
        symm
        rw [Option.map_none]
        exact List.getElem?_eq_none_iff.mpr (by omega)
      | some u =>
        obtain ⟨p, b, e1, rfl, rp⟩ := hvs i u hu
        rw [e1, Option.map_some, hk p b rp]
    have mem : ∀ u ∈ out, ∃ p b, u = .ref b ∧ RD X.K H (encPI p) (.ref b) := fun u hu => by
      obtain ⟨i, hi⟩ := List.mem_iff_getElem?.mp (h2.perm.mem_iff.mp hu)
      obtain ⟨p, b, _, e, rp⟩ := hvs i u hi
      exact ⟨p, b, e, rp⟩
    have hv : ∀ (l : List Value), (∀ u ∈ l, ∃ p b, u = .ref b ∧ RD X.K H (encPI p) (.ref b)) → ∃ ws, Vals ws l ∧ RDs X.K H ((l.map k).map encPI) ws := fun l => by
      induction l with
      | nil => exact fun _ => ⟨[], .nil, .nil⟩
      | cons u l ih =>
        intro hm
        obtain ⟨ws, w1, w2⟩ := ih fun u hu => hm u (List.mem_cons_of_mem _ hu)
        obtain ⟨p, b, rfl, rp⟩ := hm u List.mem_cons_self
        refine ⟨.ref b :: ws, .cons rfl w1, .cons ?_ w2⟩
        show RD X.K H (encPI (k (.ref b))) (.ref b)
        rw [hk p b rp]
        exact rp
    obtain ⟨ws, w1, w2⟩ := hv out mem
    have hfr := I.hok.fresh hd
    have kk : KT X.K H (L2.upd H d (.lst ws)) := .upd_new hfr
    have hlen : ws.length ≤ sizeLine := by
      rw [w1.length, h2.len]
      omega
    refine ⟨.ref d, upd H d (.lst ws), I.laid kp hd ⟨hlen, out, n, w1, hn⟩, rfl, q (out.map k) d ?_ ?_ (m.fresh hfr) _ _ (m.upd kk ⟨ws, upd_same, w2.kt kk⟩) (.ref d) kk⟩
    · rw [← hks]
      exact h2.perm.map k
    · rw [List.pairwise_map]
      refine h1.imp fun {u w} z => ?_
      have := SrtO.lexB_no.mp z
      unfold lexLe
      omega
theorem sortedDicD_mono : MonoFL sortedDicD := fun xs G Q Q' h ⟨a, kvs, ps, e, s, z, q⟩ => ⟨a, kvs, ps, e, s, z, fun qs p h1 h2 h3 => h _ _ (q qs p h1 h2 h3)⟩
theorem de_sortedDic {p : Pos} {t : DA} (hc : X.calm = true) (hg : Gl X "sorted") (hm : X.mg "sorted" = none) (ha : DPA X (e :: es) t) (h1 : starEach (e :: es) X.env = (false, eval e X.env) :: starEach es X.env := by rfl) (h2 : ((backTo pos (starEach es X.env)).any fun x => x.fst) = false := by rfl) :
    DPE X (.Call (.Name "sorted" p) (e :: es) [] pos) (dCB sortedDicD t) := de_callB (cr_sortedDic hc) sortedDicD_mono rLD_sim hg hm PyProof.Rows.Boot.«sorted» ha (by decide) (by decide) h1 h2
theorem list_of {α : Type} : ∀ (n : Nat) (P : Nat → α → Prop), (∀ i, i < n → ∃ x, P i x) → ∃ l : List α, l.length = n ∧ ∀ (i : Nat) x, l[i]? = some x → P i x
  | 0, P, _ => ⟨[], rfl, fun i x e => by simp at e⟩
  | n + 1, P, h => by
    obtain ⟨l, h1, h2⟩ := list_of n P fun i hi => h i (by omega)
    obtain ⟨x, hx⟩ := h n (by omega)
    refine ⟨l ++ [x], by simp [h1], fun i y e => ?_⟩
    by_cases hi : i < l.length
    · rw [List.getElem?_append_left hi] at e
      exact h2 i y e
    · rw [List.getElem?_append_right (by omega)] at e
      have e0 : i - l.length = 0 := by
        cases hz : i - l.length with
        | zero => rfl
        | succ m => rw [hz] at e; simp at e
      rw [e0] at e
      have : i = n := by omega
      subst this
      simp at e
      subst e
      exact hx
/-- dict(pairs), the keys unlike -/
abbrev encKV (kv : D × D) : D := .tup [kv.1, kv.2]
def dictPD : FL := fun xs G Q => ∃ (a : Addr) (kvs : List (D × D)) (ks : List NestedKey), xs = [.ref a] ∧ G a = some (.lst (kvs.map encKV)) ∧ kvs.length = ks.length ∧ (∀ (i : Nat) (kv : D × D) (k : NestedKey), kvs[i]? = some kv → ks[i]? = some k → isTupD kv.1 ∧ nkD kv.1 = some k ∧ k.depth ≤ 8 ∧ plainK k = true) ∧ ks.Nodup ∧ kvs.length ≤ 100000 ∧
  ∀ p, G p = none → Q (.ref p) (up G p (.dic none kvs))
theorem cr_dictP (hc : X.calm = true) (hu : X.A.units + 64 < cLine) : CallR X (.type "dict") (rLD X.K dictPD) := by
  classical
  intro pins s σ H xs us Q I r ⟨G, ds, m, rd, a, kvs, ks, e, hG, hl, hk, nd, hz, q⟩
  subst e
  obtain ⟨v, vs', rfl, r1, r2⟩ := rd.cons_inv
  cases r2.nil_inv
  cases r1
  obtain ⟨u, rfl, ru⟩ := vals1 r
  cases (show u = Value.ref a from ru)
  obtain ⟨vs, hH, rds⟩ := m a _ hG
  obtain ⟨its, rv, pl, hzz⟩ := I.list (.inl (.inl hH) : SqL X.K H a vs)
  obtain ⟨o, n, ho, ocl, odn, odt⟩ := pl
  have l1 := rds.1
  rw [List.length_map] at l1
  have l2 := rv.length
  -- each item
  have one : ∀ i : Nat, i < kvs.length → ∃ (T b : Addr) (vv : V) (val : Value) (kv : D × D) (k : NestedKey), its[i]? = some (.ref T) ∧ PairAt s.heap T (.ref b) val ∧ kvs[i]? = some kv ∧ ks[i]? = some k ∧ RD X.K H kv.1 (.ref b) ∧ RD X.K H kv.2 vv ∧ RelV vv val := fun i hi => by
    have e1 : kvs[i]? = some kvs[i] := List.getElem?_eq_getElem hi
    have e2 : vs[i]? = some (vs[i]'(by omega)) := List.getElem?_eq_getElem _
    have e3 : ks[i]? = some (ks[i]'(by omega)) := List.getElem?_eq_getElem _
    have rp := rds.2 i (encKV kvs[i]) _ (by rw [List.getElem?_map, e1]; rfl) e2
    obtain ⟨u, hu, ru⟩ := rv.get e2
    obtain ⟨kt, kn, _, _⟩ := hk i _ _ e1 e3
    generalize vs[i]'(by omega) = vi at *
    cases rp with
    | @tup T _ ws h hl' hi' =>
      obtain ⟨v1, ws1, rfl, q1, q2⟩ := RDs.cons_inv (xs := [kvs[i].2]) ⟨hl', hi'⟩
      obtain ⟨v2, ws2, rfl, q3, q4⟩ := q2.cons_inv
      cases q4.nil_inv
      obtain ⟨b, rfl⟩ := isTup_ref kt q1
      obtain ⟨jt, rj, ⟨o2, ho2, hc2, n2, hd2⟩, _⟩ := I.tuple h.t
      obtain ⟨u1, u2, rfl, ri, rk⟩ := vals2 rj
      cases (show u1 = Value.ref b from ri)
      cases (show u = Value.ref T from ru)
      exact ⟨T, b, v2, u2, _, _, hu, .inl ⟨o2, ho2, hc2, n2, hd2⟩, e1, e3, q1, q3, rk⟩
  obtain ⟨l, ll, lp⟩ := list_of kvs.length (fun i (x : Addr × Addr × V × Value × (D × D) × NestedKey) => its[i]? = some (.ref x.1) ∧ PairAt s.heap x.1 (.ref x.2.1) x.2.2.2.1 ∧ kvs[i]? = some x.2.2.2.2.1 ∧ ks[i]? = some x.2.2.2.2.2 ∧ RD X.K H x.2.2.2.2.1.1 (.ref x.2.1) ∧ RD X.K H x.2.2.2.2.1.2 x.2.2.1 ∧ RelV x.2.2.1 x.2.2.2.1) fun i hi => by
    obtain ⟨T, b, vv, val, kv, k, z⟩ := one i hi
    exact ⟨(T, b, vv, val, kv, k), z⟩
  have P := PairArg.list (prog := X.prog) (w := X.w) a its.toArray (fun j => (l[j]?.map (·.1)).getD 0) (l.map fun x => (Value.ref x.2.1, x.2.2.2.1))
  have ok : PlainSeq "list" s.heap a its.toArray ∧ PairItems s.heap its.toArray (fun j => (l[j]?.map (·.1)).getD 0) (l.map fun x => (Value.ref x.2.1, x.2.2.2.1)) := by
    refine ⟨⟨o, n, ho, ocl, odn, odt⟩, by simp; omega, fun j k v e => ?_⟩
    rw [List.getElem?_map] at e
    cases el : l[j]? with
    | none => rw [el] at e; cases e
    | some x =>
      rw [el] at e
      cases e
      obtain ⟨z1, z2, _⟩ := lp j x el
      have eT : (fun j => (l[j]?.map (·.1)).getD 0) j = x.1 := by
        show (l[j]?.map (·.1)).getD 0 = x.1
        rw [el]
        rfl
      rw [eT]
      refine ⟨?_, z2⟩
      rw [← Array.getElem?_toList]
      exact z1
  have ksl : l.map (fun x => x.2.2.2.2.2) = ks := by
    refine List.ext_getElem? fun i => ?_
    rw [List.getElem?_map]
    cases el : l[i]? with
    | none =>
      have := List.getElem?_eq_none_iff.mp el
      rw [Option.map_none]
      symm
      exact List.getElem?_eq_none_iff.mpr (by omega)
    | some x =>
      obtain ⟨_, _, _, z, _⟩ := lp i x el
      rw [z]
      rfl
  have kvl : l.map (fun x => x.2.2.2.2.1) = kvs := by
    refine List.ext_getElem? fun i => ?_
    rw [List.getElem?_map]
    cases el : l[i]? with
    | none =>
      have := List.getElem?_eq_none_iff.mp el
      rw [Option.map_none]
      symm
      exact List.getElem?_eq_none_iff.mpr (by omega)
    | some x =>
      obtain ⟨_, _, z, _⟩ := lp i x el
      rw [z]
      rfl
  have his : ∀ x ∈ l, (nestedKind X.prog X.w).is s.heap x.2.2.2.2.2 x.2.1 := fun x hx => by
    obtain ⟨i, hi⟩ := List.mem_iff_getElem?.mp hx
    obtain ⟨_, _, z1, z2, z3, _⟩ := lp i x hi
    obtain ⟨_, k2, k3, _⟩ := hk i _ _ z1 z2
    exact ⟨nk_is I _ _ k2 _ _ z3 rfl, k3⟩
  have nd2 : ((l.map fun x => (x.2.2.2.2.2, x.2.1, x.2.2.2.1)).map (·.1)).Nodup := by
    rw [List.map_map]
    have : l.map ((fun x : NestedKey × Addr × Value => x.1) ∘ fun x => (x.2.2.2.2.2, x.2.1, x.2.2.2.1)) = ks := ksl
    rw [this]
    exact nd
  refine call_dict_pairsH (knd := nestedKind X.prog X.w) (ps := l.map fun x => (x.2.2.2.2.2, x.2.1, x.2.2.2.1)) P (I.ok.hd hc) ?_ ok ?_ ?_ ?_ fun h' tk dd keep => ?_
  · show X.A.units + 1 + 1 + 8 < cLine
    omega
  · refine ⟨by simp, fun i key v e => ?_⟩
    have e' : (l.map fun x => (Value.ref x.2.1, x.2.2.2.1))[i]? = some (key, v) := e
    rw [List.getElem?_map] at e'
    cases el : l[i]? with
    | none => rw [el] at e'; cases e'
    | some x =>
      rw [el] at e'
      cases e'
      exact ⟨_, _, by rw [List.getElem?_map, el]; rfl, rfl⟩
  · intro h' hk' x hx
    obtain ⟨y, hy, rfl⟩ := List.mem_map.mp hx
    obtain ⟨z1, z2⟩ := his y hy
    refine ⟨NestedIs.at (fun b ob ws n' hb _ => hk' b ob (Nat.ne_of_lt (Heap.lt_size hb)) (by simp) hb) _ _ z1, z2⟩
  · rw [List.length_map, ll]
    exact szL hz
  · rw [storedAllH_nil_of_nodup _ nd2] at dd
    have PP : Paired (Rl X H none) kvs (l.map fun x => (x.2.2.2.2.2, x.2.1, x.2.2.2.1)) := by
      refine paired_of (by rw [List.length_map]; omega) fun i kv x e1 e2 => ?_
      rw [List.getElem?_map] at e2
      cases el : l[i]? with
      | none => rw [el] at e2; cases e2
      | some y =>
        rw [el] at e2
        cases e2
        obtain ⟨_, _, z1, z2, z3, z4, z5⟩ := lp i y el
        rw [e1] at z1
        cases z1
        obtain ⟨_, k2, k3, k4⟩ := hk i _ _ e1 z2
        exact ⟨k2, k3, z3, fun w => hash_plain _ _ _ k4, _, z4, z5⟩
    have hb : (s.heap.objs.size == sysModules) = false := beq_eq_false_iff_ne.mpr (Ne.symm (Nat.ne_of_lt I.big))
    obtain ⟨uo, mu, ob, mo⟩ := dic_bwd dd PP hb (szL hz)
    have hfr : H s.heap.objs.size = none := I.hok.fresh (Nat.le_refl _)
    have kk : KT X.K H (L2.upd H s.heap.objs.size uo) := .upd_new hfr
    exact ⟨.ref _, _, I.laid (fun b ob' e => keep b ob' (by simp) e) (Nat.le_refl _) ob, rfl, q _ (m.fresh hfr) _ _ (m.upd kk (mo kk)) (.ref _) kk⟩
theorem dictPD_mono : MonoFL dictPD := fun xs G Q Q' h ⟨a, kvs, ks, a1, a2, a3, a4, a5, a6, q⟩ => ⟨a, kvs, ks, a1, a2, a3, a4, a5, a6, fun p hp => h _ _ (q p hp)⟩
theorem de_dictP {p : Pos} {t : DA} (hc : X.calm = true) (hu : X.A.units + 64 < cLine) (hg : Gl X "dict") (hm : X.mg "dict" = none) (ha : DPA X (e :: es) t) (h1 : starEach (e :: es) X.env = (false, eval e X.env) :: starEach es X.env := by rfl) (h2 : ((backTo pos (starEach es X.env)).any fun x => x.fst) = false := by rfl) :
    DPE X (.Call (.Name "dict" p) (e :: es) [] pos) (dCB dictPD t) := de_callTy (cr_dictP hc hu) dictPD_mono rLD_sim hg hm PyProof.Rows.Boot.«dict» ha (by decide) (by decide) h1 h2
end
end FD

namespace FD
open PySem L2
/-! ### list(range(..)) -/
def lrB (xs : List D) (G : DG) (Q : DK) : Prop := match xs with
  | [.int b] => RgOk 0 b ∧ ∀ q, G q = none → Q (.ref q) (up G q (.lst (rangeD 0 b)))
  | [.int a, .int b] => RgOk a b ∧ ∀ q, G q = none → Q (.ref q) (up G q (.lst (rangeD a b)))
  | _ => False
def dListRange (t : DA) : DE := fun σ G Q => t σ G fun xs G1 => lrB xs G1 Q
theorem lrB_mono {xs : List D} {G : DG} {Q Q' : DK} (h : ∀ d G', Q d G' → Q' d G') (q : lrB xs G Q) : lrB xs G Q' := by
  unfold lrB at q ⊢
  split at q
  · exact ⟨q.1, fun p hp => h _ _ (q.2 p hp)⟩
  · exact ⟨q.1, fun p hp => h _ _ (q.2 p hp)⟩
  · exact q
theorem dListRange_mono {t : DA} (m : MonoA t) : MonoE (dListRange t) := fun σ G Q Q' h q => m _ _ _ _ (fun xs G1 z => lrB_mono h z) q
theorem rd_rg {K : PySem.W.Frag} {H : Hp} {a b : Int} : RDs K H (rangeD a b) (rgV a b) := by
  unfold rangeD rgV
  refine ⟨by simp, fun i x v e1 e2 => ?_⟩
  rw [List.getElem?_map] at e1 e2
  cases e : (List.range (b - a).toNat)[i]? with
  | none => rw [e] at e1; cases e1
  | some n =>
    rw [e] at e1 e2
    cases e1
    cases e2
    exact .int _
section
variable {X : Cx} {a b : Expr} {ta tb : DE}
theorem lr_go {H H1 : Hp} {G1 : DG} {i j : Int} {Q : VK} (m : MH X.K G1 H1) (k1 : KT X.K H H1) (h : ∀ q, G1 q = none → lf X.K H Q (.ref q) (up G1 q (.lst (rangeD i j)))) : ∀ q, H1 q = none → Q (.ref q) (L2.upd H1 q (.lst (rgV i j))) := fun q hq =>
  h q (m.fresh hq) (.ref q) _ (m.upd (.upd_new hq) ⟨_, upd_same, rd_rg⟩) (.ref q) (k1.trans (.upd_new hq))
theorem de_listRange1 {p p2 pos pos2 : Pos} (hg : Gl X "list") (hm : X.mg "list" = none) (hg2 : Gl X "range") (hm2 : X.mg "range" = none) (hc : X.calm = true) (ha : DPE X a ta)
    (n1 : starEach [a] X.env = (false, eval a X.env) :: starEach [] X.env := by rfl)
    (n2 : starEach [.Call (.Name "range" p2) [a] [] pos2] X.env = (false, eval (.Call (.Name "range" p2) [a] [] pos2) X.env) :: starEach [] X.env := by rfl) :
    DPE X (.Call (.Name "list" p) [.Call (.Name "range" p2) [a] [] pos2] [] pos) (dListRange (dCons ta dNil)) := by
  obtain ⟨ma, tta, pa, ra⟩ := ha
  refine ⟨dListRange_mono (fun σ G Q Q' h q => ma _ _ _ _ (fun d G1 z => h _ _ z) q), tLstRg (tRg1 tta), pe_listRg hc hg hm (prg_1 hg2 hm2 pa n1) n2, fun σ H σd G Q m s h => ra σ H σd G _ m s (ma _ _ _ _ (fun d G1 z v H1 m1 r1 k1 => ?_) h)⟩
  have z : lrB [d] G1 (lf X.K H Q) := z
  cases d with
  | int i =>
    cases r1
    exact ⟨i, rfl, z.1, lr_go m1 k1 z.2⟩
  | _ => exact False.elim z
theorem de_listRange2 {p p2 pos pos2 : Pos} (hg : Gl X "list") (hm : X.mg "list" = none) (hg2 : Gl X "range") (hm2 : X.mg "range" = none) (hc : X.calm = true) (ha : DPE X a ta) (hb : DPE X b tb)
    (n1 : starEach [a, b] X.env = (false, eval a X.env) :: starEach [b] X.env := by rfl) (n3 : starEach [b] X.env = (false, eval b X.env) :: starEach [] X.env := by rfl) (hp : (backTo pos2 (starEach [b] X.env)).any (·.1) = false := by rfl)
    (n2 : starEach [.Call (.Name "range" p2) [a, b] [] pos2] X.env = (false, eval (.Call (.Name "range" p2) [a, b] [] pos2) X.env) :: starEach [] X.env := by rfl) :
    DPE X (.Call (.Name "list" p) [.Call (.Name "range" p2) [a, b] [] pos2] [] pos) (dListRange (dCons ta (dCons tb dNil))) := by
  obtain ⟨ma, tta, pa, ra⟩ := ha
  obtain ⟨mb, ttb, pb, rb⟩ := hb
  refine ⟨dListRange_mono (fun σ G Q Q' h q => ma _ _ _ _ (fun d G1 z => mb _ _ _ _ (fun d G2 z => h _ _ z) z) q), tLstRg (tRg2 tta ttb), pe_listRg hc hg hm (prg_2 hg2 hm2 pa pb n1 n3 hp) n2, fun σ H σd G Q m s h => ra σ H σd G _ m s (ma _ _ _ _ (fun d G1 z v H1 m1 r1 k1 => ?_) h)⟩
  refine rb σ H1 σd G1 _ m1 (s.kt k1) (mb _ _ _ _ (fun d2 G2 z v2 H2 m2 r2 k2 => ?_) z)
  have z : lrB [d, d2] G2 (lf X.K H Q) := z
  cases d with
  | int i =>
    cases d2 with
    | int j =>
      cases r1
      cases r2
      exact ⟨i, j, rfl, rfl, z.1, lr_go m2 (k1.trans k2) z.2⟩
    | _ => exact False.elim z
  | _ => exact False.elim z
end
section
variable {ts : DA} {σ : DSt} {G : DG} {Q : DK} {p : Addr} {xs : List D} {d : D}
theorem s_lr (h : ts σ G fun xs G1 => lrB xs G1 Q) : dListRange ts σ G Q := h
theorem s_lr1 {b : Int} (e : 0 ≤ b ∧ b ≤ 16777216) (h : ∀ q, G q = none → Q (.ref q) (up G q (.lst (rangeD 0 b)))) : lrB [.int b] G Q := ⟨.of_le (by omega) e.2 (by omega) e.1, h⟩
theorem s_lr2 {a b : Int} (e : 0 ≤ a ∧ a ≤ 16777216 ∧ 0 ≤ b ∧ b ≤ 16777216) (h : ∀ q, G q = none → Q (.ref q) (up G q (.lst (rangeD a b)))) : lrB [.int a, .int b] G Q := ⟨.of_le e.1 e.2.2.2 e.2.1 e.2.2.1, h⟩
/-- the item at a place is taken out -/
theorem s_popAtW {k : Nat} (e : G p = some (.lst xs)) (hk : xs[k]? = some d) (hx : xs.length < 1000000) (h : Q d (up G p (.lst (xs.eraseIdx k)))) : popAtD (.ref p) [.int (k : Nat)] G Q := by
  have hk2 := (List.getElem?_eq_some_iff.mp hk).1
  refine ⟨xs, k, d, e, by omega, by omega, ?_, hk, h⟩
  unfold seqIndex?
  simp
  omega
end
end FD

namespace FD
open PySem L2
/-! ### list.index of data, dict.get -/
section
variable {X : Cx} {a b c e o : Expr} {es rest : List Expr} {ta tb tc to : DE} {t : DA} {pos apos cpos : Pos}
def rIndexL (K : PySem.W.Frag) : V → List V → Hp → VK → Prop := fun x xs H Q => ∃ (y : V) (d : PyData) (ds : List PyData), xs = [y] ∧ Dp K H x (.list ds) ∧ Dp K H y d ∧ SeqAt.shaped (.list ds) = true ∧ SeqAt.shaped d = true ∧ ds.length ≤ sizeLine ∧ true ∈ (ds.map fun z => PyData.eqv z d) ∧ Q (.int ((ds.map fun z => PyData.eqv z d).idxOf true : Nat)) H
theorem mt_indexL (hu : X.A.units + 65 < cLine) : MtR X "list.index" (rIndexL X.K) := by
  intro pins s σ H x xs v us Q I rx rxs h
  obtain ⟨y, d, ds, rfl, hl, hy, sl, sd, hz, hin, q⟩ := h
  obtain ⟨uy, rfl, ry⟩ := vals1 rxs
  obtain ⟨as, r1⟩ := Dp.reads I _ _ v hl rx
  obtain ⟨bs, r2⟩ := Dp.reads I d y uy hy ry
  have lay : PyData.canLayAll0 ds = true := SeqAt.canLay_of_shaped sl
  have room : X.A.units + 1 + min (PyData.depthAll ds) d.depth < cLine := PyProof.Rows.room_in_shaped sd hu
  cases r1 with
  | @list p o vs n _ as' h1 h2 h3 h4 =>
    have hn : vs.toList.length = ds.length := SeqAt.ReadsAll.length ds vs.toList _ h4
    have hmap : vs.toList.map (SeqAt.readOf s.heap) = ds := SeqAt.readsAll_map ds vs.toList _ lay h4
    refine SeqAt.call_list_index (α := Bool) (ks := ds.map fun z => PyData.eqv z d) (k := true) (vs := vs.toList) ⟨_, h1, h2, n, by rw [h3]⟩ ⟨by rw [List.length_map]; exact hn, fun j e1 e2 => ?_⟩ (by rw [List.length_map]; exact hz) hin ⟨.int _, H, I.tok _, ⟨_, rfl⟩, q⟩
    have hj : j < ds.length := by rw [List.length_map] at e2; exact e2
    have e3 : SeqAt.readOf s.heap vs.toList[j] = ds[j] := by
      have := congrArg (fun l => l[j]?) hmap
      simp only [List.getElem?_map, List.getElem?_eq_getElem e1, List.getElem?_eq_getElem hj, Option.map_some, Option.some.injEq] at this
      exact this
    have key := SeqAt.items_eqAt (A := X.A) (vs := vs) h4 r2 lay (SeqAt.canLay_of_shaped sd) room vs.toList[j] (by rw [← Array.mem_toList_iff]; exact List.getElem_mem e1)
    rw [e3] at key
    have e4 : decide ((ds.map fun z => PyData.eqv z d)[j] = true) = PyData.eqv ds[j] d := by simp
    rw [e4]
    exact key
def indexLD : FM := fun x xs G Q => ∃ y ds d, xs = [y] ∧ pyD 9 G x = some (.list ds) ∧ pyD 9 G y = some d ∧ ds.length ≤ sizeLine ∧ true ∈ (ds.map fun z => PyData.eqv z d) ∧ Q (.int ((ds.map fun z => PyData.eqv z d).idxOf true : Nat)) G
theorem de_indexL (hu : X.A.units + 65 < cLine) (ho : DPE X o to) (ha : DPA X (e :: es) t)
    (hbase : attributeBase o "index" X.env (eval o X.env) = eval o X.env := by rfl)
    (hfew : ((backTo pos (starEach (e :: es) X.env)).all (fun x => !x.1) && (backToKw pos (keywordEach [] X.env)).all (fun x => x.1.isSome)
      && decide ((e :: es).length + ([] : List Keyword).length + (if ([] : List Keyword).isEmpty then 0 else 1) < 30)) = true := by rfl)
    (hline : (apos.endLine == pos.line) = true := by rfl) (h1 : starEach (e :: es) X.env = (false, eval e X.env) :: starEach es X.env := by rfl) (hplain : (backTo pos (starEach es X.env)).any (·.1) = false := by rfl) :
    DPE X (.Call (.Attribute o "index" apos) (e :: es) [] pos) (dMt indexLD to t) := de_mtL PySem.F.slot_list_index PySem.F.type_list_index (mt_indexL hu)
  (fun x xs G Q Q' h ⟨y, ds, d, a1, a2, a3, a4, a5, q⟩ => ⟨y, ds, d, a1, a2, a3, a4, a5, h _ _ q⟩)
  (fun H G x xs dx dxs Q m rx rs ⟨y, ds, d, a1, a2, a3, a4, a5, q⟩ => by
    subst a1
    obtain ⟨v, vs', rfl, r1, r2⟩ := rs.cons_inv
    have e := r2.nil_inv
    subst e
    exact ⟨v, d, ds, rfl, pyD_dp m 9 _ _ _ rx a2, pyD_dp m 9 _ _ d r1 a3, pyD_shaped a2 (by decide), pyD_shaped a3 (by decide), a4, a5, q (.int _) H m (.int _) .refl⟩) ho ha hbase hfew hline h1 hplain
theorem s_indexLE {α : Type} [DecidableEq α] {enc : α → D} {encP : α → PyData} (ok : EncOk enc encP) {G : DG} {Q : DK} {p : Addr} {xs : List α} {x : α} (e : G p = some (.lst (xs.map enc))) (hz : xs.length ≤ 100000) (hx : x ∈ xs) (h : Q (.int (xs.idxOf x : Nat)) G) : indexLD (.ref p) [enc x] G Q := by
  have e1 : ((xs.map encP).map fun z => PyData.eqv z (encP x)) = xs.map fun z => decide (z = x) := by
    rw [List.map_map]
    refine List.map_congr_left fun z _ => ?_
    exact ok.2 z x
  have e2 : ∀ xs : List α, x ∈ xs → (xs.map fun z => decide (z = x)).idxOf true = xs.idxOf x := by
    intro xs
    induction xs with
    | nil => intro h; cases h
    | cons y ys ih =>
      intro h
      rw [List.map_cons, List.idxOf_cons, List.idxOf_cons]
      by_cases hy : y = x
      · simp [hy]
      · rcases List.mem_cons.mp h with z | z
        · exact absurd z.symm hy
        · have h1 : (decide (y = x) == true) = false := by simp [hy]
          have h2 : (y == x) = false := by simpa using hy
          rw [h1, h2, ih z]
  refine ⟨enc x, xs.map encP, encP x, rfl, ok.pyRef (n := 4) e, ok.py 5 G x, by rw [List.length_map]; exact szL hz, ?_, ?_⟩
  · rw [e1]
    exact List.mem_map.mpr ⟨x, hx, by simp⟩
  · rw [e1, e2 xs hx]
    exact h
/-! ### dict.get with a default -/
def isDc (x : D) (G : DG) : Prop := ∃ a kvs, x = .ref a ∧ G a = some (.dic none kvs)
def dcV (K : PySem.W.Frag) (x : V) (H : Hp) : Prop := ∃ a kvs, x = .ref a ∧ MO K H a (.dic none kvs)
theorem dc_ok : TyOk X "dict" (dcV X.K) := fun pins σ H s x v I r h => by
  obtain ⟨a, kvs, rfl, mo⟩ := h
  cases (show v = Value.ref a from r)
  obtain ⟨xs, dd, _⟩ := dic_fwd I mo (by intro w z; cases z)
  refine ⟨dd.typeIs, fun b e => ?_⟩
  cases e
  obtain ⟨o, es, ep, e1, e2, _⟩ := dd
  exact ⟨o, e1, e2.2.1⟩
def getmD : FM := fun x xs G Q => ∃ a kvs k y z, x = .ref a ∧ xs = [y, z] ∧ G a = some (.dic none kvs) ∧ isTupD y ∧ nkD y = some k ∧ k.depth ≤ 8 ∧ Q ((lookN k kvs).getD z) G
def rGetm (K : PySem.W.Frag) : V → List V → Hp → VK → Prop := fun x xs H Q => ∃ G a kvs k y z yv zv, x = .ref a ∧ xs = [yv, zv] ∧ MH K G H ∧ G a = some (.dic none kvs) ∧ RD K H y yv ∧ RD K H z zv ∧ isTupD y ∧ nkD y = some k ∧ k.depth ≤ 8 ∧ lf K H Q ((lookN k kvs).getD z) G
theorem mt_getm (hu : X.A.units + 64 < cLine) : MtR X "dict.get" (rGetm X.K) := by
  intro pins s σ H x xs v us Q I rx rxs h
  obtain ⟨G, p, kvs, k, y, z, yv, zv, rfl, rfl, m, e, ry, rz, ht, hk, hd, q⟩ := h
  obtain ⟨b, rfl⟩ := isTup_ref ht ry
  cases (show v = Value.ref p from rx)
  cases rxs with
  | cons r1 r2 =>
    cases r2 with
    | cons r3 r4 =>
      cases r4
      rename_i u1 u2
      cases (show u1 = Value.ref b from r1)
      obtain ⟨xs, dd, P, hs, hz, _⟩ := dic_fwd I (m p _ e) (by intro w z; cases z)
      refine call_meetsIn PySem.F.slot_dict_get dd.typeIs PySem.F.entry_dict_get (PySem.F.args_dict_get_3 _ _ _) (meetsH_dict_get_default (nestedKind X.prog X.w) p b hs u2) ⟨?_, k, xs, ⟨nk_is I y k hk _ _ ry rfl, hd⟩, dd, ?_⟩
      · show X.A.units + 1 + 8 < cLine
        omega
      · cases hl : lookN k kvs with
        | none =>
          have : atKey xs k = none := by
            have := look_is (k := k) P
            rw [hl] at this
            cases e : atKey xs k with
            | none => rfl
            | some p => rw [e] at this; cases this
          rw [this]
          rw [hl] at q
          exact ⟨zv, H, I.tok _, r3, q zv H m rz .refl⟩
        | some d =>
          obtain ⟨pr, ep, v, rv, ru'⟩ := look_some P hl
          rw [ep]
          rw [hl] at q
          exact ⟨v, H, I.tok _, ru', q v H m rv .refl⟩
theorem de_getm (hu : X.A.units + 64 < cLine) (ho : DPE X o to) (ha : DPA X (e :: es) t)
    (hbase : attributeBase o "get" X.env (eval o X.env) = eval o X.env := by rfl)
    (hfew : ((backTo pos (starEach (e :: es) X.env)).all (fun x => !x.1) && (backToKw pos (keywordEach [] X.env)).all (fun x => x.1.isSome)
      && decide ((e :: es).length + ([] : List Keyword).length + (if ([] : List Keyword).isEmpty then 0 else 1) < 30)) = true := by rfl)
    (hline : (apos.endLine == pos.line) = true := by rfl) (h1 : starEach (e :: es) X.env = (false, eval e X.env) :: starEach es X.env := by rfl) (hplain : (backTo pos (starEach es X.env)).any (·.1) = false := by rfl) :
    DPE X (.Call (.Attribute o "get" apos) (e :: es) [] pos) (dMx isDc getmD to t) :=
  de_mx dc_ok (fun H G d x m r h => by
    obtain ⟨a, kvs, rfl, e⟩ := h
    cases r
    exact ⟨_, kvs, rfl, m _ _ e⟩) PySem.F.plainAttrs_dict PySem.F.slot_dict_get PySem.F.type_dict_get (mt_getm hu)
    (fun x xs G Q Q' h ⟨a, kvs, k, y, z, a1, a2, a3, a4, a5, a6, q⟩ => ⟨a, kvs, k, y, z, a1, a2, a3, a4, a5, a6, h _ _ q⟩)
    (fun H G x xs dx dxs Q m rx rs ⟨a, kvs, k, y, z, a1, a2, a3, a4, a5, a6, q⟩ => by
      subst a1 a2
      cases rx
      obtain ⟨v, vs', rfl, r1, r2⟩ := rs.cons_inv
      obtain ⟨v2, vs2, rfl, r3, r4⟩ := r2.cons_inv
      cases r4.nil_inv
      exact ⟨G, a, kvs, k, y, z, v, v2, rfl, rfl, m, a3, r1, r3, a4, a5, a6, q⟩) ho ha hbase hfew hline h1 hplain
theorem s_getm {G : DG} {Q : DK} {a : Addr} {kvs : List (D × D)} {k : NestedKey} {y z : D} (e : G a = some (.dic none kvs)) (ht : isTupD y) (hk : nkD y = some k) (hd : k.depth ≤ 8) (h : Q ((lookN k kvs).getD z) G) : getmD (.ref a) [y, z] G Q := ⟨a, kvs, k, y, z, rfl, rfl, e, ht, hk, hd, h⟩
end
/-! ### a comprehension inside a comprehension -/
structure BlkF (F : Str × NameKind → Str × NameKind) : Prop where
  fst : ∀ p, (F p).1 = p.1
  fre : ∀ p, p.2 = .free → (F p).2 = .free ∨ (F p).2 = .cell
  oth : ∀ p, p.2 ≠ .free → (F p).2 = p.2
theorem look_map {F : Str × NameKind → Str × NameKind} (hF : BlkF F) (y : Str) : ∀ L : List (Str × NameKind), (L.map F).lookup y = none ∧ L.lookup y = none ∨ ∃ k, L.lookup y = some k ∧ (L.map F).lookup y = some (F (y, k)).2
  | [] => .inl ⟨rfl, rfl⟩
  | p :: L => by
    obtain ⟨n, k⟩ := p
    rw [List.map_cons]
    have e1 := hF.fst (n, k)
    by_cases h : y = n
    · subst h
      refine .inr ⟨k, by simp [List.lookup], ?_⟩
      have : F (y, k) = (y, (F (y, k)).2) := Prod.ext e1 rfl
      rw [this]
      simp [List.lookup]
    · have h' : (y == n) = false := by simpa using h
      have e2 : ((n, k) :: L).lookup y = L.lookup y := by simp [List.lookup, h']
      have e3 : (F (n, k) :: L.map F).lookup y = (L.map F).lookup y := by
        have : F (n, k) = (n, (F (n, k)).2) := Prod.ext e1 rfl
        rw [this]
        simp [List.lookup, h']
      rw [e2, e3]
      exact look_map hF y L
theorem blkC_map {N : List Str} {kd : ScopeKind} {L : List (Str × NameKind)} {F : Str × NameKind → Str × NameKind} {b1 b2 : Bool} {x : _} {scope : Scope} {own : List (Str × Nat)} (hF : BlkF F) (h : blkC N ⟨kd, L, b1, b2, x⟩ scope own = true) : blkC N ⟨kd, L.map F, b1, b2, x⟩ scope own = true := by
  unfold blkC at h ⊢
  simp only [Bool.and_eq_true] at h ⊢
  obtain ⟨h1, h2⟩ := h
  refine ⟨h1, ?_⟩
  rw [List.all_eq_true] at h2 ⊢
  intro y hy
  have q := h2 y hy
  obtain ⟨n, nk⟩ := y
  cases nk with
  | free =>
    have q' : (match L.lookup n with | some NameKind.cell => true | some NameKind.free => true | _ => false) = true := q
    show (match (L.map F).lookup n with | some NameKind.cell => true | some NameKind.free => true | _ => false) = true
    rcases look_map hF n L with ⟨_, z⟩ | ⟨k, z1, z2⟩
    · rw [z] at q'
      cases q'
    · rw [z1] at q'
      rw [z2]
      cases k with
      | free => rcases hF.fre (n, .free) rfl with w | w <;> rw [w]
      | cell => rw [hF.oth (n, .cell) (fun z => by cases z)]
      | _ => cases q'
  | _ => exact q
theorem blkF_rel (env : Env) : BlkF (fun (n, k) => if (k == NameKind.free && env.scope.kind == .function && env.kindOf n == some .cell) then (n, NameKind.cell) else (n, k)) := by
  refine ⟨fun p => ?_, fun p h => ?_, fun p h => ?_⟩
  · obtain ⟨n, k⟩ := p
    show (if (k == NameKind.free && env.scope.kind == .function && env.kindOf n == some .cell) = true then (n, NameKind.cell) else (n, k)).1 = n
    split <;> rfl
  · obtain ⟨n, k⟩ := p
    show (if (k == NameKind.free && env.scope.kind == .function && env.kindOf n == some .cell) = true then (n, NameKind.cell) else (n, k)).2 = .free ∨ (if (k == NameKind.free && env.scope.kind == .function && env.kindOf n == some .cell) = true then (n, NameKind.cell) else (n, k)).2 = .cell
    split
    · exact .inr rfl
    · exact .inl h
  · obtain ⟨n, k⟩ := p
    show (if (k == NameKind.free && env.scope.kind == .function && env.kindOf n == some .cell) = true then (n, NameKind.cell) else (n, k)).2 = k
    split
    · rename_i z
      rw [Bool.and_eq_true, Bool.and_eq_true] at z
      exact absurd (eq_of_beq z.1.1) h
    · rfl
theorem blkC_rel {N : List Str} {sc scope : Scope} {env : Env} {own : List (Str × Nat)} (h : blkC N sc scope own = true) : blkC N (relabel sc env) scope own = true := by
  obtain ⟨kd, L, b1, b2, x⟩ := sc
  exact blkC_map (blkF_rel env) h
end FD

namespace FD
open PySem L2
/-! ### zip of two lists; facts about a new cell -/
theorem new_l {G H : DG} {c : Addr} {o : O} (e : up G c o = H) (hc : G c = none) : Le G H := e ▸ le_new hc (.refl _)
theorem new_g {G H : DG} {c : Addr} {o : O} (e : up G c o = H) : H c = some o := e ▸ up_same
def zipD (xs ys : List D) : List D := (xs.zip ys).map fun p => D.tpl [p.1, p.2]
theorem zipD_get {xs ys : List D} {i : Nat} {d : D} (h : (zipD xs ys)[i]? = some d) : ∃ x y, xs[i]? = some x ∧ ys[i]? = some y ∧ d = .tpl [x, y] := by
  unfold zipD at h
  rw [List.getElem?_map] at h
  cases e : (xs.zip ys)[i]? with
  | none => rw [e] at h; cases h
  | some z =>
    rw [e] at h
    cases h
    have := List.getElem?_zip_eq_some.mp e
    exact ⟨z.1, z.2, this.1, this.2, rfl⟩
theorem zipD_length {xs ys : List D} : (zipD xs ys).length = min xs.length ys.length := by simp [zipD]
def zpB (zs : List D) (G1 : DG) (R : List D → (DG → Prop) → DG → Prop) : Prop := match zs with
  | [.ref p, .ref q] => match G1 p, G1 q with
    | some (.lst xs), some (.lst ys) => R (zipD xs ys) (fun G' => G' p = some (.lst xs) ∧ G' q = some (.lst ys)) G1
    | _, _ => False
  | _ => False
def diZip (t : DA) : DI := fun σ G R => t σ G fun zs G1 => zpB zs G1 R
theorem zpB_inv {zs : List D} {G1 : DG} {R : List D → (DG → Prop) → DG → Prop} (h : zpB zs G1 R) : ∃ p q xs ys, zs = [.ref p, .ref q] ∧ G1 p = some (.lst xs) ∧ G1 q = some (.lst ys) ∧ R (zipD xs ys) (fun G' => G' p = some (.lst xs) ∧ G' q = some (.lst ys)) G1 := by
  unfold zpB at h
  split at h
  · split at h
    · rename_i p q xs ys e1 e2
      exact ⟨_, _, _, _, rfl, e1, e2, h⟩
    · exact False.elim h
  · exact False.elim h
theorem two_rd {K : PySem.W.Frag} {H : Hp} {T : Addr} {x y : V} {d e : D} (hT : H T = none) (r : RD K H d x) (r' : RD K H e y) : RD K (upd H T (.tup [x, y])) (.tpl [d, e]) (.ref T) := by
  refine .tpl (vs := [x, y]) (.inl (.inl (upd_same ..))) rfl fun k z v hy hv => ?_
  match k with
  | 0 => cases hy; cases hv; exact r.kt (.upd_new hT)
  | 1 => cases hy; cases hv; exact r'.kt (.upd_new hT)
  | k + 2 => cases hy
theorem itOk_zp {K : PySem.W.Frag} {H1 : Hp} {p q : Addr} {xs ys : List D} {ok : DG → Prop} (h : ∀ G' H', KT K H1 H' → MH K G' H' → ok G' → (∃ vs, SqL K H' p vs ∧ RDs K H' xs vs) ∧ ∃ vs, SqL K H' q vs ∧ RDs K H' ys vs) : ItOk K H1 (Itz K p q) (zipD xs ys) ok := fun i H' G' k m o => by
  obtain ⟨⟨vs, hq, r⟩, ⟨us, hq2, r2⟩⟩ := h G' H' k m o
  refine ⟨fun d hd => ?_, fun hl => ⟨vs, us, hq, hq2, ?_⟩⟩
  · obtain ⟨x, y, hx, hy, rfl⟩ := zipD_get hd
    obtain ⟨v, h1, h2⟩ := r.get hx
    obtain ⟨u, h3, h4⟩ := r2.get hy
    refine ⟨⟨vs, us, v, u, hq, hq2, h1, h3⟩, fun w H'' z => ?_⟩
    obtain ⟨T, a, b, rfl, hT, rfl, e, e2⟩ := z
    have e := e vs hq
    have e2 := e2 us hq2
    rw [h1] at e
    rw [h3] at e2
    cases e
    cases e2
    exact ⟨m.new (.upd_new hT) (m.fresh hT), .upd_new hT, two_rd hT h2 h4⟩
  · rw [zipD_length, r.1, r2.1] at hl
    omega
theorem di_zip {X : Cx} {e e2 : Expr} {t : DA} {p pos tpos : Pos} {elts : List Expr} {kk : Nat} (hg : Gl X "zip") (hm : X.mg "zip" = none) (ha : DPA X [e, e2] t)
    (hs : starEach [e, e2] X.env = (false, eval e X.env) :: starEach [e2] X.env := by rfl) (hpl : (backTo pos (starEach [e2] X.env)).any (·.1) = false := by rfl) :
    DPI X (.Tuple elts kk tpos) (.Call (.Name "zip" p) [e, e2] [] pos) (diZip t) := by
  obtain ⟨ma, tta, pa, ra⟩ := ha
  refine ⟨fun σ G R R' h q => ma σ G _ _ (fun xs G1 z => ?_) q, _, pi_zip hg hm pa hs hpl, fun σ H σd G R m s h => ra σ H σd G _ m s (ma _ _ _ _ (fun ds G1 z vs H1 m1 r1 k1 => ?_) h)⟩
  · obtain ⟨p, q, xs, ys, rfl, e1, e2, z⟩ := zpB_inv z
    simp only [zpB, e1, e2]
    exact h _ _ _ z
  · obtain ⟨p, q, xs, ys, rfl, e1, e2, z⟩ := zpB_inv z
    obtain ⟨v, vs', rfl, a1, a2⟩ := r1.cons_inv
    obtain ⟨v2, vs2, rfl, a3, a4⟩ := a2.cons_inv
    have e := a4.nil_inv
    subst e
    cases a1
    cases a3
    obtain ⟨vs, g, r⟩ := m1 _ _ e1
    obtain ⟨us, g2, r2⟩ := m1 _ _ e2
    refine ⟨p, q, vs, us, rfl, SqL.of g, SqL.of g2, z _ H1 m1 k1 (itOk_zp fun G' H' k' m' o => ?_)⟩
    obtain ⟨vs', g', r'⟩ := m' _ _ o.1
    obtain ⟨us', g2', r2'⟩ := m' _ _ o.2
    exact ⟨⟨vs', SqL.of g', r'⟩, ⟨us', SqL.of g2', r2'⟩⟩
theorem s_zip {t : DA} {σ : DSt} {G : DG} {R : List D → (DG → Prop) → DG → Prop} (h : t σ G fun zs G1 => zpB zs G1 R) : diZip t σ G R := h
theorem s_zipL {p q : Addr} {xs ys : List D} {G : DG} {R : List D → (DG → Prop) → DG → Prop} (e1 : G p = some (.lst xs)) (e2 : G q = some (.lst ys)) (h : R (zipD xs ys) (fun G' => G' p = some (.lst xs) ∧ G' q = some (.lst ys)) G) : zpB [.ref p, .ref q] G R := by
  simp only [zpB, e1, e2]
  exact h
end FD

namespace FD
open PySem L2
/-! ### a dict by nested keys, walked by its keys: it is locked and stays so -/
def Itn (ow : Option World) (d : Addr) (od : Obj) (ks : List (NestedKey × Addr)) (vs : List V) : It :=
  ⟨fun i H => H d = some (.frz od (dicO ow d ks vs)) ∧ i < ks.length, fun i H x H' => H' = H ∧ ∃ k : NestedKey × Addr, ks[i]? = some k ∧ x = .ref k.2, fun i H => H d = some (.frz od (dicO ow d ks vs)) ∧ ks.length ≤ i⟩
section
variable {X : Cx} {pins : List (Addr × Obj)} {σ : St} {H : Hp} {s : Shared} {ow : Option World} {d : Addr} {od : Obj} {ks : List (NestedKey × Addr)} {vs : List V}
theorem frz_dic (I : L2.Inv X pins σ H s) (h : H d = some (.frz od (dicO ow d ks vs))) : s.heap.get? d = some od ∧ od.ExactDict ∧ ∃ es ep, od.data = .dict es ep ∧ es.size = ks.length ∧ ∀ (i : Nat) k, ks[i]? = some k → ∃ en : DictEntry, es[i]? = some en ∧ en.key = .ref k.2 := by
  obtain ⟨hg, ⟨o, es, ep, e1, e2, e3, p1, p2, p3⟩, _⟩ := I.hok d _ h
  rw [hg] at e1
  cases e1
  refine ⟨hg, e2, es, ep, e3, by rw [← p1]; exact Array.length_toList.symm, fun i k hk => ?_⟩
  have hi := (List.getElem?_eq_some_iff.mp hk).1
  have h1 : i < es.toList.length := by omega
  have h2 : i < vs.length := by omega
  have := p3 i _ k _ (List.getElem?_eq_getElem h1) hk (List.getElem?_eq_getElem h2)
  refine ⟨es.toList[i], ?_, this.2.1⟩
  rw [← Array.getElem?_toList, List.getElem?_eq_getElem h1]
end
theorem turn_n {P : Program} {w : World} {K : PySem.W.Frag} {tg : Expr} {ow : Option World} {d : Addr} {od : Obj} {ks : List (NestedKey × Addr)} {vs : List V} {es : Array DictEntry} {ep : Nat} (it : Addr) (hod : od.data = .dict es ep) :
    Turn P w K tg (Itn ow d od ks vs) [it] it (fun i h => h.IsKeyIter it d i ks.length ep) := by
  refine ⟨List.mem_singleton.mpr rfl, fun i h st b hb => ?_, fun i h h' st k => st.at fun oi e => k it (List.mem_singleton.mpr rfl) oi e, ?_, ?_, fun A i s Q E st h => ?_⟩
  · obtain rfl := List.mem_singleton.mp hb
    obtain ⟨oi, q1, q2, q3⟩ := st
    exact ⟨oi, q1, fun v z => by rw [q3] at z; cases z⟩
  · intro X' x1 x2 x3 ca i pn s σ H E I hf st go
    subst x1 x2 x3
    obtain ⟨g1, g2⟩ := go
    obtain ⟨f0, f1, _, f3, f4, f5⟩ := hf it (List.mem_singleton.mpr rfl)
    obtain ⟨c1, c2, es', ep', c3, c4, c5⟩ := frz_dic I g1
    rw [hod] at c3
    cases c3
    have hk := List.getElem?_eq_getElem g2
    obtain ⟨en, n1, n2⟩ := c5 i _ hk
    refine next_key_item st c1 hod c4 n1 fun h' st' sb => ?_
    have J : L2.Inv X' pn σ H { s with heap := h' } := I.turned (t' := s.toks) (fun b ob hb e => (sb.2 b hb).trans e) f0 f1 f3 f4 f5
    obtain ⟨oi, q1, q2, q3⟩ := id st'
    refine ⟨en.key, rfl, go_of (s := { s with heap := h' }) q1 q2 q3 (by decide) ?_⟩
    exact ⟨.ref ks[i].2, H, J, n2, ⟨rfl, _, hk, rfl⟩, st', fun b hb => (hf b hb).1⟩
  · intro X' x1 x2 x3 ca i pn s σ H E I hf st go
    subst x1 x2 x3
    obtain ⟨g1, g2⟩ := go
    obtain ⟨f0, f1, _, f3, f4, f5⟩ := hf it (List.mem_singleton.mpr rfl)
    obtain ⟨c1, c2, es', ep', c3, c4, c5⟩ := frz_dic I g1
    rw [hod] at c3
    cases c3
    exact next_key_end (I.ok.hd ca) st c1 hod c4 g2 fun h' eb =>
      ⟨rfl, I.turned (t' := s.toks) (fun b ob hb e => eb b ob hb e) f0 f1 f3 f4 f5⟩
  · have ty := st.typeIs (s := s)
    refine wpAny_pyIter_slot ty F.slot_dict_keyiterator_iter ?_
    refine wpAny_call_entry F.slot_dict_keyiterator_iter ty F.entry_dict_keyiterator_iter ?_ (F.args_dict_keyiterator_iter_1 _)
    exact wpAny_pure ⟨_, rfl, "dict_keyiterator", _, ty, F.slot_dict_keyiterator_next.lookup, h⟩
def iDic (td : TE) : TI := fun σ H R => td σ H fun x H1 => ∃ d, x = .ref d ∧ (d == sysModules) = false ∧
  ((∃ ow ks vs, H1 d = some (dicO ow d ks vs) ∧ ∀ od, R (Itn ow d od ks vs) (L2.upd H1 d (.frz od (dicO ow d ks vs)))) ∨ ∃ ow od ks vs, H1 d = some (.frz od (dicO ow d ks vs)) ∧ R (Itn ow d od ks vs) H1)
theorem pi_dic {X : Cx} {tg e : Expr} {td : TE} (he : PE X e td) : PI X tg e (iDic td) := by
  refine ⟨fun pins s σ H R I h => thn (he.run pins s σ H _ I h) fun u s1 ⟨x, H1, I1, rx, d, ex, hs, q⟩ => ?_⟩
  subst ex
  obtain rfl : u = Value.ref d := rx
  have fin : ∀ ow od ks vs H2, L2.Inv X pins σ H2 s1 → H2 d = some (.frz od (dicO ow d ks vs)) → R (Itn ow d od ks vs) H2 → wpAny (model X.prog X.w) X.A (pyIter (.ref d)) (PIE X pins σ tg R) X.xe s1 := by
    intro ow od ks vs H2 I2 h2 r
    obtain ⟨c1, c2, es, ep, c3, c4, c5⟩ := frz_dic I2 h2
    refine iter_keys hs c1 c2 c3 (pi_one (tk := s1.toks) I2 _ (turn_n _ c3) ⟨_, Heap.get?_push_size _ rfl, rfl, ?_⟩ r)
    rw [c4]
    rfl
  rcases q with ⟨ow, ks, vs, h1, r⟩ | ⟨ow, od, ks, vs, h1, r⟩
  · obtain ⟨od, I2⟩ := I1.lock h1 True.intro
    exact fin ow od ks vs _ I2 upd_same (r od)
  · exact fin ow od ks vs _ I1 h1 r
def dicB (x : D) (G : DG) (R : List D → (DG → Prop) → DG → Prop) : Prop := ∃ d ow kvs, x = .ref d ∧ (G d = some (.dic ow kvs) ∨ G d = some (.dif ow kvs)) ∧ R (kvs.map (·.1)) (fun _ => True) (up G d (.dif ow kvs))
def diDic (t : DE) : DI := fun σ G R => t σ G fun x G1 => dicB x G1 R
theorem itOk_n {K : PySem.W.Frag} {H1 : Hp} {ow : Option World} {d : Addr} {od : Obj} {ks : List (NestedKey × Addr)} {vs : List V} {kvs : List (D × D)} {ok : DG → Prop} (h : H1 d = some (.frz od (dicO ow d ks vs))) (hl : kvs.length = ks.length)
    (h5 : ∀ (i : Nat) (kv : D × D) (k : NestedKey × Addr), kvs[i]? = some kv → ks[i]? = some k → nkD kv.1 = some k.1 ∧ k.1.depth ≤ 8 ∧ RD K H1 kv.1 (.ref k.2)) : ItOk K H1 (Itn ow d od ks vs) (kvs.map (·.1)) ok := fun i H' G' k m o => by
  have h' := k.lis _ _ _ h
  refine ⟨fun y hy => ?_, fun hn => ⟨h', by rw [List.length_map] at hn; omega⟩⟩
  have hi : i < kvs.length := by
    have := (List.getElem?_eq_some_iff.mp hy).1
    rwa [List.length_map] at this
  rw [List.getElem?_map, List.getElem?_eq_getElem hi] at hy
  cases hy
  refine ⟨⟨h', by omega⟩, fun x H'' z => ?_⟩
  obtain ⟨rfl, kk, hk, rfl⟩ := z
  exact ⟨m, .refl, ((h5 i _ kk (List.getElem?_eq_getElem hi) hk).2.2).kt k⟩
theorem di_dic {X : Cx} {tg l : Expr} {ta : DE} (ha : DPE X l ta) : DPI X tg l (diDic ta) := by
  obtain ⟨ma, tta, pa, ra⟩ := ha
  refine ⟨fun σ G R R' h q => ma σ G _ _ (fun x G1 ⟨d, ow, kvs, e, i, z⟩ => ⟨d, ow, kvs, e, i, h _ _ _ z⟩) q, _, pi_dic pa, fun σ H σd G R m s h => ra σ H σd G _ m s (ma _ _ _ _ (fun x G1 ⟨d, ow, kvs, e, i, z⟩ v H1 m1 r1 k1 => ?_) h)⟩
  subst e
  cases r1
  refine ⟨d, rfl, ?_⟩
  rcases i with i | i
  · obtain ⟨ks, vs, h, h1, h2, h3, h4, h5, h6⟩ := m1 d _ i
    refine ⟨h1, .inl ⟨ow, ks, vs, h, fun od => ?_⟩⟩
    have kk : KT X.K H1 (L2.upd H1 d (.frz od (dicO ow d ks vs))) := .upd_mut h (fun _ e => by cases e) (fun _ _ e => by cases e)
    have h5' := fun i kv k e1 e2 => let ⟨b1, b2, b3⟩ := h5 i kv k e1 e2; (⟨b1, b2, b3.kt kk⟩ : nkD kv.1 = some k.1 ∧ k.1.depth ≤ 8 ∧ RD X.K (L2.upd H1 d (.frz od (dicO ow d ks vs))) kv.1 (.ref k.2))
    exact z _ _ (m1.upd kk ⟨od, ks, vs, upd_same, h1, h2, h3, h4, h5', h6.kt kk⟩) (k1.trans kk) (itOk_n upd_same h4 h5')
  · obtain ⟨od, ks, vs, h, h1, h2, h3, h4, h5, h6⟩ := m1 d _ i
    refine ⟨h1, .inr ⟨ow, od, ks, vs, h, z _ _ ?_ k1 (itOk_n h h4 h5)⟩⟩
    have : up G1 d (.dif ow kvs) = G1 := by
      funext b
      by_cases e : b = d
      · rw [e, up_same, i]
      · exact up_ne e
    rw [this]
    exact m1
theorem s_isnBB {a b : Bool} {G : DG} {Q : DK} (h : Q (.bl (!decide (a = b))) G) : isD true (.bl a) (.bl b) G Q := h
theorem s_isBBz {a b : Bool} {G : DG} {Q : DK} (h : Q (.bl (decide (a = b))) G) : isD false (.bl a) (.bl b) G Q := h
theorem s_diD {t : DE} {σ : DSt} {G : DG} {R : List D → (DG → Prop) → DG → Prop} (h : t σ G fun x G1 => dicB x G1 R) : diDic t σ G R := h
theorem s_diN {d : Addr} {ow : Option World} {kvs : List (D × D)} {G : DG} {R : List D → (DG → Prop) → DG → Prop} (e : G d = some (.dic ow kvs)) (h : R (kvs.map (·.1)) (fun _ => True) (up G d (.dif ow kvs))) : dicB (.ref d) G R := ⟨d, ow, kvs, rfl, .inl e, h⟩
theorem s_diF {d : Addr} {ow : Option World} {kvs : List (D × D)} {G : DG} {R : List D → (DG → Prop) → DG → Prop} (e : G d = some (.dif ow kvs)) (h : R (kvs.map (·.1)) (fun _ => True) G) : dicB (.ref d) G R := by
  refine ⟨d, ow, kvs, rfl, .inr e, ?_⟩
  have : up G d (.dif ow kvs) = G := by
    funext b
    by_cases z : b = d
    · rw [z, up_same, e]
    · exact up_ne z
  rw [this]
  exact h
end FD

namespace FD
open PySem L2
/-! ### sorted(set(list)) of pairs of small numbers -/
def ltP (a b : Nat × Nat) : Prop := a.1 < b.1 ∨ (a.1 = b.1 ∧ a.2 < b.2)
def prI (t : Nat × Nat) : List Int := [(t.1 : Int), (t.2 : Int)]
theorem prI_inj {t u : Nat × Nat} (h : prI t = prI u) : t = u := by
  unfold prI at h
  have h1 : (t.1 : Int) = u.1 := by injection h
  have h2 : (t.2 : Int) = u.2 := by
    injection h with _ h
    injection h
  exact Prod.ext (by omega) (by omega)
def bkP (ns : List Int) : Nat × Nat := match ns with
  | [x, y] => (x.toNat, y.toNat)
  | _ => (0, 0)
theorem bkP_pr (t : Nat × Nat) : bkP (prI t) = t := rfl
theorem ks_of {K : PySem.W.Frag} {H : Hp} : ∀ {l : List (Nat × Nat)} {vs : List V}, RDs K H (l.map encNN) vs → ∃ ks : List (Addr × List Int), vs = (ks.map fun p => V.ref p.1) ∧ ks.length = l.length ∧ (∀ p ∈ ks, ∃ t ∈ l, p.2 = prI t ∧ RD K H (encNN t) (.ref p.1)) ∧ ∀ t ∈ l, ∃ p ∈ ks, p.2 = prI t
  | [], vs, r => by
    cases r.nil_inv
    exact ⟨[], rfl, rfl, by simp, by simp⟩
  | t :: l, vs, r => by
    obtain ⟨v, vs', rfl, r1, r2⟩ := RDs.cons_inv (by simpa using r)
    obtain ⟨ks, e, h1, h2, h3⟩ := ks_of r2
    have : ∃ a, v = .ref a := by
      cases r1
      exact ⟨_, rfl⟩
    obtain ⟨a, rfl⟩ := this
    refine ⟨(a, prI t) :: ks, by rw [e]; rfl, by simp [h1], fun p hp => ?_, fun u hu => ?_⟩
    · rcases List.mem_cons.mp hp with z | z
      · subst z
        exact ⟨t, by simp, rfl, r1⟩
      · obtain ⟨u, hu, q⟩ := h2 p z
        exact ⟨u, by simp [hu], q⟩
    · rcases List.mem_cons.mp hu with z | z
      · subst z
        exact ⟨(a, prI u), by simp, rfl⟩
      · obtain ⟨p, hp, q⟩ := h3 u z
        exact ⟨p, by simp [hp], q⟩
theorem sq_of {K : PySem.W.Frag} {H : Hp} {t : Nat × Nat} {a : Addr} (r : RD K H (encNN t) (.ref a)) : SqT K H a ((prI t).map V.int) := by
  cases r with
  | @tup _ _ vs h hl hi =>
    have e : vs = (prI t).map V.int := RDs.int_inv (ns := prI t) (K := K) (H := H) ⟨hl, hi⟩
    rw [← e]
    exact h.t
theorem code_lt {t u : Nat × Nat} (b1 : t.1 < 64 ∧ t.2 < 64) (b2 : u.1 < 64 ∧ u.2 < 64) (h : TS.code 64 (prI t) ≤ TS.code 64 (prI u)) (ne : t ≠ u) : ltP t u := by
  have := pair_lt h (fun z => ne (prI_inj z)) (by omega) (by omega) (by omega) (by omega)
  rcases this with z | ⟨z1, z2⟩
  · exact .inl (by omega)
  · exact .inr ⟨by omega, by omega⟩
def dSortSet (ta : DE) : DE := fun σ G Q => ta σ G fun x G1 => ∃ (a : Addr) (l : List (Nat × Nat)), x = .ref a ∧ G1 a = some (.lst (l.map encNN)) ∧ l.length < 64 ∧ (∀ t ∈ l, t.1 < 64 ∧ t.2 < 64) ∧
  ∀ (l' : List (Nat × Nat)) q, l'.Pairwise ltP → (∀ t, t ∈ l' ↔ t ∈ l) → G1 q = none → Q (.ref q) (up G1 q (.lst (l'.map encNN)))
section
variable {X : Cx} {e : Expr} {ta : DE} {pos pos2 p p2 : Pos}
theorem de_sortSet (hc : X.calm = true) (hu : X.A.units + 64 < cLine) (hg : Gl X "sorted") (hm : X.mg "sorted" = none) (hg2 : Gl X "set") (hm2 : X.mg "set" = none) (ha : DPE X e ta)
    (h1 : starEach [.Call (.Name "set" p2) [e] [] pos2] X.env = (false, eval (.Call (.Name "set" p2) [e] [] pos2) X.env) :: starEach [] X.env := by rfl) (h2 : ((backTo pos (starEach [] X.env)).any fun x => x.fst) = false := by rfl)
    (h3 : starEach [e] X.env = (false, eval e X.env) :: starEach [] X.env := by rfl) (h4 : ((backTo pos2 (starEach [] X.env)).any fun x => x.fst) = false := by rfl) :
    DPE X (.Call (.Name "sorted" p) [.Call (.Name "set" p2) [e] [] pos2] [] pos) (dSortSet ta) := by
  obtain ⟨ma, tta, pa, ra⟩ := ha
  refine ⟨fun σ G Q Q' h q => ma σ G _ _ (fun x G1 ⟨a, l, a1, a2, a3, a4, a5⟩ => ⟨a, l, a1, a2, a3, a4, fun l' q b1 b2 b3 => h _ _ (a5 l' q b1 b2 b3)⟩) q, _,
    pe_callB (cr_sortedT hc) hg hm (by decide +kernel) (pa_cons (hs := h1) (pe_callTy (cr_setOfT hc hu) hg2 hm2 (by decide +kernel) (pa_cons (hs := h3) pa pa_nil) (by decide) (by decide) h3 h4) pa_nil) (by decide) (by decide) h1 h2, fun σ H σd G Q m s h => ?_⟩
  refine ra σ H σd G _ m s (ma _ _ _ _ (fun x G1 ⟨a, l, a1, a2, a3, a4, a5⟩ v H1 m1 r1 k1 => ?_) h)
  subst a1
  cases r1
  obtain ⟨vs, g, r⟩ := m1 a _ a2
  obtain ⟨ks, rfl, c1, c2, c3⟩ := ks_of r
  refine ⟨a, ks, rfl, SqL.of g, fun p hp => ?_, by omega, fun b L hb d1 d2 => ?_⟩
  · obtain ⟨t, _, e, r⟩ := c2 p hp
    rw [e]
    exact sq_of r
  have k2 : KT X.K H1 (L2.upd H1 b (SetTO X.prog X.w b L)) := .upd_new hb
  have m2 := m1.new k2 (m1.fresh hb)
  refine ⟨b, L, 2, 64, rfl, upd_same, fun p hp => ?_, by omega, fun p hp => ?_, fun L' q pm nd few pw hq => ?_⟩
  · obtain ⟨t, _, e, r⟩ := c2 p (d1 p hp)
    rw [e]
    exact sq_of (r.kt k2)
  · obtain ⟨t, ht, e, r⟩ := c2 p (d1 p hp)
    rw [e]
    have := a4 t ht
    refine ⟨rfl, fun z hz => ?_⟩
    simp only [prI, List.mem_cons, List.not_mem_nil, or_false] at hz
    omega
  have hq1 : H1 q = none := by
    by_cases z : q = b
    · rw [z]
      exact hb
    · rw [upd_ne z] at hq
      exact hq
  have k3 : KT X.K (L2.upd H1 b (SetTO X.prog X.w b L)) (L2.upd (L2.upd H1 b (SetTO X.prog X.w b L)) q (.lst (L'.map fun q => V.ref q.1))) := .upd_new hq
  have each : ∀ p ∈ L', ∃ t ∈ l, p.2 = prI t ∧ RD X.K H1 (encNN t) (.ref p.1) := fun p hp => c2 p (d1 p (pm.mem_iff.mp hp))
  have hback : ∀ p ∈ L', p.2 = prI (bkP p.2) ∧ bkP p.2 ∈ l := fun p hp => by
    obtain ⟨t, ht, e, _⟩ := each p hp
    rw [e, bkP_pr]
    exact ⟨rfl, ht⟩
  refine a5 (L'.map fun p => bkP p.2) q ?_ (fun t => ⟨fun ht => ?_, fun ht => ?_⟩) (m1.fresh hq1) _ _ (m2.upd k3 (MO.new_lst ?_ k3)) (.ref q) (k1.trans (k2.trans k3))
  · rw [List.pairwise_map]
    have nd' : L'.Pairwise fun q r => q.2 ≠ r.2 := List.pairwise_map.mp nd
    refine List.Pairwise.imp_of_mem (R := fun q r => TS.code 64 q.2 ≤ TS.code 64 r.2 ∧ q.2 ≠ r.2) (fun {x y} hx hy z => ?_) (pw.and nd')
    obtain ⟨e1, f1⟩ := hback x hx
    obtain ⟨e2, f2⟩ := hback y hy
    refine code_lt (a4 _ f1) (a4 _ f2) (by rw [← e1, ← e2]; exact z.1) fun w => z.2 ?_
    rw [e1, e2, w]
  · obtain ⟨p, hp, rfl⟩ := List.mem_map.mp ht
    exact (hback p hp).2
  · obtain ⟨p, hp, e⟩ := c3 t ht
    obtain ⟨y, hy, e2⟩ := List.mem_map.mp (d2 p hp)
    exact List.mem_map.mpr ⟨y, pm.mem_iff.mpr hy, by rw [e2, e, bkP_pr]⟩
  · refine ⟨by simp, fun i x v e1 e2 => ?_⟩
    rw [List.map_map, List.getElem?_map] at e1
    rw [List.getElem?_map] at e2
    cases hL : L'[i]? with
    | none => rw [hL] at e1; cases e1
    | some y =>
      rw [hL] at e1 e2
      cases e1
      cases e2
      have hy := List.mem_of_getElem? hL
      obtain ⟨t, ht, e, r⟩ := each y hy
      show RD _ _ (encNN (bkP y.2)) _
      rw [e, bkP_pr]
      exact r.kt k2
theorem s_sortSet {σ : DSt} {G : DG} {Q : DK} (h : ta σ G fun x G1 => ∃ (a : Addr) (l : List (Nat × Nat)), x = .ref a ∧ G1 a = some (.lst (l.map encNN)) ∧ l.length < 64 ∧ (∀ t ∈ l, t.1 < 64 ∧ t.2 < 64) ∧
  ∀ (l' : List (Nat × Nat)) q, l'.Pairwise ltP → (∀ t, t ∈ l' ↔ t ∈ l) → G1 q = none → Q (.ref q) (up G1 q (.lst (l'.map encNN)))) : dSortSet ta σ G Q := h
end
end FD

namespace FD
open PySem L2
/-! ### list[::-1] -/
def revLD (x : D) (G : DG) (Q : DK) : Prop := match x with
  | .lis xs => ∀ n, G n = none → Q (.ref n) (up G n (.lst xs.reverse))
  | .ref p => match G p with
    | some (.lst xs) => ∀ n, G n = none → Q (.ref n) (up G n (.lst xs.reverse))
    | _ => False
  | _ => False
theorem revLD_mono {x : D} {G : DG} {Q Q' : DK} (h : ∀ d G', Q d G' → Q' d G') (q : revLD x G Q) : revLD x G Q' := by
  cases x with
  | lis xs => exact fun n hn => h _ _ (q n hn)
  | ref p =>
    unfold revLD at q ⊢
    simp only at q ⊢
    cases e : G p with
    | none => rw [e] at q; exact q
    | some o =>
      rw [e] at q
      cases o <;> first | exact q | exact fun n hn => h _ _ (q n hn)
  | _ => exact q
theorem RDs.rev {K : PySem.W.Frag} {H : Hp} {xs : List D} {vs : List V} (r : RDs K H xs vs) : RDs K H xs.reverse vs.reverse := by
  have hl := r.1
  refine ⟨by rw [List.length_reverse, List.length_reverse]; exact hl, fun i d v e1 e2 => ?_⟩
  have hi : i < xs.length := by
    have := (List.getElem?_eq_some_iff.mp e1).1
    rwa [List.length_reverse] at this
  rw [List.getElem?_reverse hi] at e1
  rw [List.getElem?_reverse (by omega), ← hl] at e2
  exact r.2 _ d v e1 e2
def dRevL (te : DE) : DE := fun σ G Q => te σ G fun x G1 => revLD x G1 Q
theorem revLD_sim {K : PySem.W.Frag} {H : Hp} {G : DG} {x : V} {d : D} {Q : VK} (m : MH K G H) (rx : RD K H d x) (h : revLD d G (lf K H Q)) : ∃ a xs, x = .ref a ∧ SqL K H a xs ∧ ∀ p, H p = none → Q (.ref p) (upd H p (.lst xs.reverse)) := by
  unfold revLD at h
  split at h
  · cases rx with
    | @lis p _ vs hs hl hi' =>
      have r : RDs K H _ vs := ⟨hl, hi'⟩
      exact ⟨_, vs, rfl, hs.l, fun n hn => h n (m.fresh hn) (.ref n) _ (m.upd (.upd_new hn) (.new_lst r.rev (.upd_new hn))) (.ref n) (.upd_new hn)⟩
  · cases rx
    split at h
    · rename_i e
      obtain ⟨vs, g, r⟩ := m _ _ e
      exact ⟨_, vs, rfl, SqL.of g, fun n hn => h n (m.fresh hn) (.ref n) _ (m.upd (.upd_new hn) (.new_lst r.rev (.upd_new hn))) (.ref n) (.upd_new hn)⟩
    · exact False.elim h
  · exact False.elim h
theorem de_revL {X : Cx} {e : Expr} {ta : DE} {k : Nat} {p1 p2 p3 pos : Pos} (ha : DPE X e ta) : DPE X (.Subscript e (.Slice none none (some (.UnaryOp .USub (.Constant (.int 1) k p1) p2)) p3) pos) (dRevL ta) := by
  obtain ⟨ma, tta, pa, ra⟩ := ha
  refine ⟨fun σ G Q Q' h q => ma σ G _ _ (fun x G1 q1 => revLD_mono h q1) q, _, pe_revL pa, fun σ H σd G Q m s h => ?_⟩
  exact ra σ H σd G _ m s (ma _ _ _ _ (fun x G1 h1 v H1 m1 r1 k1 => revLD_sim m1 r1 (revLD_mono (fun d G' z => lf_kt k1 z) h1)) h)
theorem s_revL {te : DE} {σ : DSt} {G : DG} {Q : DK} (h : te σ G fun x G1 => revLD x G1 Q) : dRevL te σ G Q := h
theorem s_revLB {G : DG} {Q : DK} {p : Addr} {xs : List D} (e : G p = some (.lst xs)) (h : ∀ n, G n = none → Q (.ref n) (up G n (.lst xs.reverse))) : revLD (.ref p) G Q := by
  simp only [revLD, e]
  exact h
end FD

namespace FD
open PySem L2
/-! ### {k: v, ..}: keys ints or texts -/
def mergeKD (kvs more : List (Key × D)) : List (Key × D) := more.foldl (fun acc kv => putKD acc kv.1 kv.2) kvs
theorem mergeK_at {K : PySem.W.Frag} {H : Hp} : ∀ {more : List (Key × D)} {more' : List (Key × V)} {kvs : List (Key × D)} {kvs' : List (Key × V)}, more'.map (·.1) = more.map (·.1) → RDs K H (more.map (·.2)) (more'.map (·.2)) → kvs'.map (·.1) = kvs.map (·.1) → RDs K H (kvs.map (·.2)) (kvs'.map (·.2)) →
    (mergeK kvs' more').map (·.1) = (mergeKD kvs more).map (·.1) ∧ RDs K H ((mergeKD kvs more).map (·.2)) ((mergeK kvs' more').map (·.2))
  | [], [], _, _, _, _, h, r => ⟨h, r⟩
  | [], _ :: _, _, _, e, _, _, _ => by simp at e
  | _ :: _, [], _, _, e, _, _, _ => by simp at e
  | p :: more, p' :: more', kvs, kvs', e, rm, h, r => by
    rw [List.map_cons, List.map_cons] at e rm
    injection e with e1 e2
    obtain ⟨v, vs', ev, r1, r2⟩ := RDs.cons_inv rm
    injection ev with ev1 ev2
    subst ev1 ev2
    obtain ⟨h1, h2⟩ := putK_at (k := p.1) r1 h r
    show (mergeK (putK kvs' p'.1 p'.2) more').map (·.1) = (mergeKD (putKD kvs p.1 p.2) more).map (·.1) ∧ RDs K H ((mergeKD (putKD kvs p.1 p.2) more).map (·.2)) ((mergeK (putK kvs' p'.1 p'.2) more').map (·.2))
    rw [show p'.1 = p.1 from e1]
    exact mergeK_at e2 r2 h1 h2
def dPairs : List (DE × DE) → DSt → DG → (List (Key × D) → DG → Prop) → Prop
  | [], _, G, Q => Q [] G
  | (tk, tv) :: r, σ, G, Q => tk σ G fun x G1 => tv σ G1 fun y G2 => dPairs r σ G2 fun kvs G3 => ∃ k, keyD x = some k ∧ Q ((k, y) :: kvs) G3
structure DPPs (X : Cx) (pos : Pos) (keys : List (Option Expr)) (values : List Expr) (trs : List (DE × DE)) : Prop where
  mono : ∀ σ G (Q Q' : List (Key × D) → DG → Prop), (∀ d G', Q d G' → Q' d G') → dPairs trs σ G Q → dPairs trs σ G Q'
  run : ∃ tts, PPs X pos keys values tts ∧ ∀ σ H σd G (Q : List (V × V) → Hp → Prop), MH X.K G H → SR X.K H σd σ →
    dPairs trs σd G (fun kvs G' => ∀ (kvs' : List (Key × V)) H', MH X.K G' H' → kvs'.map (·.1) = kvs.map (·.1) → RDs X.K H' (kvs.map (·.2)) (kvs'.map (·.2)) → KT X.K H H' → Q (kvs'.map fun kv => (kV kv.1, kv.2)) H') → tPairs tts σ H Q
section
variable {X : Cx} {pos : Pos} {keys : List (Option Expr)} {values : List Expr} {trs : List (DE × DE)} {k v : Expr} {tk tv : DE}
theorem dpps_nil : DPPs X pos [] [] [] := ⟨fun σ G Q Q' h q => h _ _ q, [], pps_nil, fun σ H σd G Q m s h => h [] H m rfl .nil .refl⟩
theorem dpps_cons (hk : DPE X k tk) (hv : DPE X v tv) (hr : DPPs X pos keys values trs) : DPPs X pos (some k :: keys) (v :: values) ((tk, tv) :: trs) := by
  obtain ⟨mk, ttk, pk, rk⟩ := hk
  obtain ⟨mv, ttv, pv, rv⟩ := hv
  obtain ⟨mr, ttr, pr, rr⟩ := hr
  refine ⟨fun σ G Q Q' h q => mk σ G _ _ (fun x G1 q1 => mv σ G1 _ _ (fun y G2 q2 => mr σ G2 _ _ (fun kvs G3 ⟨k, e, q3⟩ => ⟨k, e, h _ _ q3⟩) q2) q1) q, _, pps_cons pk pv pr, fun σ H σd G Q m s h => ?_⟩
  refine rk σ H σd G _ m s (mk _ _ _ _ (fun x G1 h1 xv H1 m1 r1 k1 => rv σ H1 σd G1 _ m1 (s.kt k1) (mv _ _ _ _ (fun y G2 h2 yv H2 m2 r2 k2 => rr σ H2 σd G2 _ m2 ((s.kt k1).kt k2) (mr _ _ _ _ (fun kvs G3 h3 kvs' H3 m3 e3 r3 k3 => ?_) h2)) h1)) h)
  obtain ⟨kk, ek, q⟩ := h3
  have ex := keyD_rd ((r1.kt k2).kt k3) ek
  subst ex
  exact q ((kk, yv) :: kvs') H3 m3 (by rw [List.map_cons, List.map_cons, e3]) (RDs.cons (r2.kt k3) r3) ((k1.trans k2).trans k3)
def dDisp (trs : List (DE × DE)) : DE := fun σ G Q => ∀ p, G p = none → dPairs trs σ (up G p (.dK [])) fun kvs G2 => G2 p = some (.dK []) ∧ kvs.length ≤ 15 ∧ Q (.ref p) (up G2 p (.dK (mergeKD [] kvs)))
theorem de_disp (h : DPPs X pos keys values trs) (hall : keys.all (·.isSome) = true := by rfl) (hl : keys.length = values.length := by rfl) (h0 : keys ≠ [] := by simp) (h15 : keys.length ≤ 15 := by decide) : DPE X (.Dict keys values pos) (dDisp trs) := by
  obtain ⟨mr, ttr, pr, rr⟩ := h
  refine ⟨fun σ G Q Q' hh q p hp => mr _ _ _ _ (fun kvs G2 ⟨a, b, c⟩ => ⟨a, b, hh _ _ c⟩) (q p hp), _, pe_disp pr hall hl h0 h15, fun σ H σd G Q m s hq p hp => ?_⟩
  have kk : KT X.K H (L2.upd H p (.dK [])) := .upd_new hp
  have m1 : MH X.K (up G p (.dK [])) (L2.upd H p (.dK [])) := m.upd kk ⟨[], upd_same, rfl, .nil⟩
  refine rr σ _ σd _ _ m1 (s.kt kk) (mr _ _ _ _ (fun kvs G2 h2 kvs' H2 m2 e2 r2 k2 => ?_) (hq p (m.fresh hp)))
  obtain ⟨g1, g2, g3⟩ := h2
  obtain ⟨ks0, f1, f2, _⟩ := m2 _ _ g1
  have hk0 : ks0 = [] := by
    cases ks0 with
    | nil => rfl
    | cons a l => simp at f2
  subst hk0
  obtain ⟨c1, c2⟩ := mergeK_at (kvs := []) (kvs' := []) e2 r2 rfl .nil
  have kk2 : KT X.K H2 (L2.upd H2 p (.dK (mergeK [] kvs'))) := .upd_mut f1 (fun _ e => by cases e) (fun _ _ e => by cases e)
  refine ⟨f1, kvs', rfl, ?_, g3 _ _ (m2.upd kk2 ⟨_, upd_same, c1, c2.kt kk2⟩) (.ref p) ((kk.trans k2).trans kk2)⟩
  have := congrArg List.length e2
  rw [List.length_map, List.length_map] at this
  omega
theorem s_disp {σ : DSt} {G : DG} {Q : DK} (h : ∀ p, G p = none → dPairs trs σ (up G p (.dK [])) fun kvs G2 => G2 p = some (.dK []) ∧ kvs.length ≤ 15 ∧ Q (.ref p) (up G2 p (.dK (mergeKD [] kvs)))) : dDisp trs σ G Q := h
theorem s_prc {σ : DSt} {G : DG} {Q : List (Key × D) → DG → Prop} (h : tk σ G fun x G1 => tv σ G1 fun y G2 => dPairs trs σ G2 fun kvs G3 => ∃ k, keyD x = some k ∧ Q ((k, y) :: kvs) G3) : dPairs ((tk, tv) :: trs) σ G Q := h
theorem s_prn {σ : DSt} {G : DG} {Q : List (Key × D) → DG → Prop} (h : Q [] G) : dPairs [] σ G Q := h
end
end FD

namespace FD
open PySem L2
/-! ### a field as one of several targets -/
section
variable {X : Cx} {C : Addr} {n f m cn : Str} {k : Nat} {Cn : Ct} {o : Expr} {pos pos' np apos : Pos} {ta : DE}
def gFldH (K : PySem.W.Frag) (ta : TE) (f : Str) : TG := fun y σ H Q => ta σ H fun x H2 => ∃ a C dx fs, x = .ref a ∧ H2 a = some (.ins C dx fs) ∧ Cls K C ∧ NoAttr K C f ∧ fs.length < 1000 ∧ Q σ (L2.upd H2 a (.ins C dx (putF f y fs)))
theorem pg_fldH {ta : TE} (ha : PE X o ta) : PG X (.Attribute o f pos) (gFldH X.K ta f) := by
  refine ⟨fun pins s σ H v u Q I r h => ?_⟩
  rw [PySem.assign_Attribute]
  refine wpAny_bind (wpAny_holding (thn (ha.run pins s σ H _ I h) fun ov s1 ⟨x, H1, I1, r1, a, C, dx, fs, ex, ea, c, n, l, q⟩ => ?_))
  subst ex
  obtain rfl : ov = Value.ref a := r1
  refine wpAny_bind (wpAny_standAt (wpAny_bind (wpAny_holding (setattr_ok I1 ea c n l r fun s3 I3 => ?_))))
  exact wpAny_release ⟨σ, _, I3, q⟩
def dgFld (n f : Str) (ta : DE) : DTg := fun y σ G Q => ta σ G fun x G1 => setFB n f x y G1 fun G2 => Q σ G2
theorem dg_fld (c : FldOk X.K n f) (ha : DPE X o ta) : DPG X (.Attribute o f pos) (dgFld n f ta) := by
  obtain ⟨ma, tta, pa, ra⟩ := ha
  obtain ⟨C, hC, c1, c2⟩ := c
  refine ⟨fun d σ G Q Q' h q => ma σ G _ _ (fun x G1 ⟨p, fs, a, b, z, q2⟩ => ⟨p, fs, a, b, z, h _ _ q2⟩) q, _, pg_fldH pa, fun d v σ H σd G Q m s r h => ?_⟩
  refine ra σ H σd G _ m s (ma _ _ _ _ (fun dx G2 ⟨p, fs, a, b, z, q2⟩ x H2 m2 r2 k2 => ?_) h)
  subst a
  cases r2
  obtain ⟨C', dx, fvs, hc', h1, h2, h3⟩ := m2 p _ b
  obtain rfl := hC.uniq hc'
  have kk : KT X.K H2 (L2.upd H2 p (.ins C dx (putF f v fvs))) := .upd_ins h1
  obtain ⟨e1, e2⟩ := put_rd (f := f) (r.kt k2) h2 h3
  refine ⟨p, C, dx, fvs, rfl, h1, c1, c2, ?_, q2 σ _ (m2.upd kk ⟨C, dx, _, hC, upd_same, e1, e2.kt kk⟩) (s.kt (k2.trans kk)) (k2.trans kk)⟩
  have := congrArg List.length h2
  simp at this
  omega
theorem s_gFld {σ : DSt} {G : DG} {d : D} {QS : DSt → DG → Prop} (h : ta σ G fun x G1 => setFB n f x d G1 fun G2 => QS σ G2) : dgFld n f ta d σ G QS := h
/-! ### try .. except C: without a name -/
def dTryP (ns : List Str) (tb : (DSt → DX) → DS) (th : DS) : DS := fun D σ G => tb (fun σ n fo G => n ∈ ns ∧ th D σ G) D σ G
theorem ds_tryP {ns : List Str} {tb : (DSt → DX) → DS} {th : DS} {body suite : List Stmt} {b₀ : Stmt} (hb : DPX X body tb) (hsu : ∀ a pn, DPSs (X.suite a pn) (b₀ :: suite) th) (ca : CatchAll X cn ns) (hs : X.stack = X.env :: X.outer := by rfl) (hf : X.env.frame = some X.env.locals := by rfl) :
    DPS X (.Try body [.ExceptHandler (some (.Name cn np)) none (b₀ :: suite) pos'] [] [] pos) (dTryP ns tb th) := by
  obtain ⟨cv, hc, all⟩ := ca
  have mth := fun (σ : DSt) G D D' l q => (hsu 0 []).mono σ G D D' l q
  let tbh : WX → TS := fun W D σ H => ∃ ES Hb σd G, (∀ σd σ H, KT X.K Hb H → SR X.K H σd σ → ∀ c fo G', ES σd c fo G' → lfX X.K H (fun cls d H' => W cls d σ H') c fo G') ∧ KT X.K Hb H ∧ MH X.K G H ∧ SR X.K H σd σ ∧ tb ES (lfE X.K H D) σd G
  let ts : Addr → Value → Option Addr → TS := fun _ _ _ D σ H => ∃ σd G, MH X.K G H ∧ SR X.K H σd σ ∧ th (lfE X.K H D) σd G
  have P := ps_try_only (pos := pos) (pos' := pos') (np := np) (X := X) (x := cn) (c := cv) (tb := tbh) (ts := ts) (Wout := fun _ _ _ _ => False) (b₀ := b₀) (suite := suite) (body := body) hs hf hc
    (fun u s x => by obtain ⟨_, _, _, _, _, _, _, _, _, _, _, _, _, _, _, _, w⟩ := x; exact w.elim)
    (fun W pn xe tk po => ⟨fun pins s σ H D I ⟨ES, Hb, σd, G, link, kb, m, sr, h⟩ => by
      obtain ⟨tt, p, r⟩ := hb.run pn xe Hb ES ⟨W, tk, link⟩
      exact p.run pins s σ H D I (r σ H σd G D kb m sr h)⟩)
    (fun a oe cls d pn hz hd => by
      obtain ⟨_, tt, p, r⟩ := hsu a ((a, oe) :: pn)
      exact ⟨fun pins s σ H D I ⟨σd, G, m, sr, h⟩ => p.run pins s σ H D I (r σ H σd G D m sr h)⟩)
  refine ⟨fun σ G D D' l q => hb.mono _ _ D D' σ G (fun σ c fo G ⟨h1, h2⟩ => ⟨h1, mth _ _ _ _ l h2⟩) l q, fun D σ H => ∃ σd G, MH X.K G H ∧ SR X.K H σd σ ∧ dTryP ns tb th (lfE X.K H D) σd G, ⟨fun pins s σ H D I ⟨σd, G, m, sr, h⟩ => P.run pins s σ H D I ?_⟩, fun σ H σd G D m s h => ⟨σd, G, m, s, h⟩⟩
  refine ⟨fun σ n fo G => n ∈ ns ∧ th (lfE X.K H D) σ G, H, σd, G, fun σd' σ' H1 k1 s1 n' fo G' q C d H' hC m' k' xo => ?_, .refl, m, sr, h⟩
  obtain ⟨hn, q⟩ := q
  exact ⟨true, all n' hn C hC, fun _ a na => ⟨σd', G', m', s1.kt k', mth _ _ _ _ (lfE_kt (k1.trans k')) q⟩, fun e => by cases e⟩
theorem s_tryP {ns : List Str} {tb : (DSt → DX) → DS} {th : DS} {nx : DSt → DG → Prop} {rt : DK} {bk ct : DSt → DG → Prop} {σ : DSt} {G : DG} (h : tb (fun σ n fo G => n ∈ ns ∧ th ⟨nx, rt, bk, ct⟩ σ G) ⟨nx, rt, bk, ct⟩ σ G) : dTryP ns tb th ⟨nx, rt, bk, ct⟩ σ G := h
/-! ### o.m() in a try's body -/
def dMethS0 (n m : Str) (Cn : Ct) (ta : DE) (ES : DSt → DX) : DE := fun σ G Q => ta σ G fun x G1 => ∃ p fs, x = .ref p ∧ G1 p = some (.ins n fs) ∧ fs.lookup m = none ∧ UpC Cn [x] G1 Q (ES σ)
theorem ex_meth0 {to : DE} (F : MethOk X.prog X.w X.K X.mg X.base k n m Cn) (hr : Room k X.A) (hgd : X.A.guards = some []) (ho : ∀ pn xe, DPE (X.tr pn xe) o to) {pl : Sem Bool}
    (ht : eval (.Call (.Attribute o m apos) [] [] pos) X.env = (do
      let ov ← eval o X.env
      standAt apos.atName
      let (f, first) ← holding [ov] (getMethod ov m pl)
      callWith pos f first (backTo pos (starEach [] X.env)) (backToKw pos (keywordEach [] X.env))) := by rfl) :
    DPEx X (.Call (.Attribute o m apos) [] [] pos) (dMethS0 n m Cn to) := by
  obtain ⟨C, f, fd, ps, hC, c, hm, hb, F⟩ := F
  refine ⟨fun ES ES' σ G Q Q' h h' q => (ho [] fun _ _ => False).mono σ G _ _ (fun x G1 ⟨p, fs, a, b, l, z⟩ => ⟨p, fs, a, b, l, z.imp h' (h σ)⟩) q, fun pn xe Hb ES pass => ?_⟩
  obtain ⟨mo, tto, po, ro⟩ := ho pn xe
  obtain ⟨W, tk, link⟩ := pass
  refine ⟨fun σ H Q => tto σ H fun x H1 => ∃ a dx fs, x = .ref a ∧ H1 a = some (.ins C dx fs) ∧ fs.lookup m = none ∧ spOf X.K Cn [x] H1 Q fun cls d H' => W cls d σ H', ⟨fun pins s σ H Q I h => ?_⟩, fun σ H σd G Q kb mm s h => ?_⟩
  · refine PySem.W.methodCall_KW (pl := pl) (thn (po.run pins s σ H _ I h) fun u s1 ⟨x, H1, I1, rx, a, dx, fs, ex, ea, l, q⟩ => ?_) ht
    subst ex
    obtain rfl : u = Value.ref a := rx
    refine getmeth_ok I1 ea c hm l ?_
    exact PySem.W.callWith_K0 (first := [.ref a]) I1.kIn hm.kp (run_fkS (X := X.tr pn xe) (us := [.ref a]) (vs := [.ref a]) F hr hgd hb tk I1 (.cons rfl .nil) q)
  · refine ro σ H σd G _ mm s (mo _ _ _ _ (fun dx G1 ⟨p, fs, a, b, l, z⟩ x H1 m1 r1 k1 => ?_) h)
    subst a
    cases r1
    obtain ⟨C', dx, fvs, hc', h1, h2, h3⟩ := m1 p _ b
    obtain rfl := hC.uniq hc'
    obtain ⟨Q0, E0, g1, g2, g3⟩ := z
    exact ⟨p, dx, fvs, rfl, h1, lookup_none h2 l, [.ref p], G1, Q0, E0, m1, .cons (.ref p) .nil, g1, fun d G' q => lf_kt k1 (g2 d G' q), fun c fo G' q => link σd σ H1 (kb.trans k1) (s.kt k1) c fo G' (g3 c fo G' q)⟩
theorem s_methS0 {to : DE} {ES : DSt → DX} {σ : DSt} {G : DG} {Q : DK} (h : to σ G fun x G1 => methB n m x G1 (UpC Cn [x] G1 Q (ES σ))) : dMethS0 n m Cn to ES σ G Q := h
/-! ### x == []: a list of any things -/
def rEqL : R2 := fun x y H Q => ∃ p q xs, x = .ref p ∧ y = .ref q ∧ H p = some (.lst xs) ∧ H q = some (.lst []) ∧ Q (.bl (decide (xs.length = 0))) H
theorem op_eqL (hu : X.A.units + 64 < cLine) : OpR X (compareOp .Eq) rEqL := by
  intro pins s σ H x y v u Q I rx ry h
  obtain ⟨p, q, xs, rfl, rfl, hp, hq, z⟩ := h
  obtain rfl : v = Value.ref p := rx
  obtain rfl : u = Value.ref q := ry
  obtain ⟨_, its, n, _, hl, e1⟩ := I.lstM hp
  obtain ⟨_, its2, n2, _, hl2, e2⟩ := I.lstM hq
  have h2 : its2 = [] := List.eq_nil_of_length_eq_zero hl2.symm
  subst h2
  by_cases c : xs.length = 0
  · have h1 : its = [] := List.eq_nil_of_length_eq_zero (by omega)
    subst h1
    refine PySem.SeqAt.eq_listAt (e := fun _ => true) (PySem.IsL.isList e1) (PySem.IsL.isList e2) rfl (by omega) (fun j h1 _ => absurd h1 (by simp)) ⟨.bl _, H, I, rfl, ?_⟩
    rw [decide_eq_true c] at z
    exact z
  · refine PySem.SeqAt.eq_list_lengthsAt (PySem.IsL.isList e1) (PySem.IsL.isList e2) ?_ (by omega) ⟨.bl _, H, I, rfl, ?_⟩
    · simp
      intro z
      subst z
      exact c (by simpa using hl)
    · rw [decide_eq_false c] at z
      exact z
def eqLD : F2 := fun x y G Q => ∃ p q xs, x = .ref p ∧ y = .ref q ∧ G p = some (.lst xs) ∧ G q = some (.lst []) ∧ Q (.bl (decide (xs.length = 0))) G
theorem eqLD_mono : MonoF2 eqLD := fun x y G Q Q' h ⟨p, q, xs, a, b, c, d, z⟩ => ⟨p, q, xs, a, b, c, d, h _ _ z⟩
theorem eqLD_sim {K : PySem.W.Frag} : Sim2 K rEqL eqLD := fun H G x y dx dy Q m rx ry ⟨p, q, xs, a, b, c, d, z⟩ => by
  subst a b
  cases rx; cases ry
  obtain ⟨vs, h1, r1⟩ := m _ _ c
  obtain ⟨ws, h2, r2⟩ := m _ _ d
  cases r2.nil_inv
  exact ⟨p, q, vs, rfl, rfl, h1, h2, by rw [← r1.1]; exact z _ _ m (.bl _) .refl⟩
theorem de_eqL {a b : Expr} {ta tb : DE} (hu : X.A.units + 64 < cLine) (ha : DPE X a ta) (hb : DPE X b tb) : DPE X (.Compare a [.Eq] [b] pos) (dOp eqLD ta tb) := de_cmpR (op_eqL hu) eqLD_mono eqLD_sim ha hb (nomark _)
theorem dt_eqL {a b : Expr} {ta tb : DE} (hu : X.A.units + 64 < cLine) (ha : DPE X a ta) (hb : DPE X b tb) : DPT X (.Compare a [.Eq] [b] pos) (dTest (dOp eqLD ta tb)) := dt_cmpR (op_eqL hu) eqLD_mono eqLD_sim ha hb (nomark _)
theorem s_eqL {G : DG} {Q : DK} {p q : Addr} {xs : List D} (e : G p = some (.lst xs)) (e2 : G q = some (.lst [])) (h : Q (.bl (decide (xs.length = 0))) G) : eqLD (.ref p) (.ref q) G Q := ⟨p, q, xs, rfl, rfl, e, e2, h⟩
end
end FD

namespace FD
open PySem L2
/-! ### dicts by nested keys with texts in them: their hashes hang on the world w -/
def isDw (w : World) (G : DG) (a : Addr) (kvs : List (D × D)) : Prop := G a = some (.dic (some w) kvs) ∨ G a = some (.dif (some w) kvs)
def hasW (w : World) (G : DG) (a : Addr) (y : D) (o : Option D) : Prop := ∃ kvs k, isDw w G a kvs ∧ isTupD y ∧ nkD y = some k ∧ k.depth ≤ 8 ∧ lookN k kvs = o
def putW (w : World) (G : DG) (a : Addr) (y v : D) (G' : DG) : Prop := ∃ kvs k, G a = some (.dic (some w) kvs) ∧ isTupD y ∧ nkD y = some k ∧ k.depth ≤ 8 ∧ kvs.length < sizeLine ∧ G' = up G a (.dic (some w) (putN k y v kvs))
def getWD (w : World) : F2 := fun x y G Q => ∃ a v, x = .ref a ∧ hasW w G a y (some v) ∧ Q v G
def hasWD (w : World) (neg : Bool) : F2 := fun y x G Q => ∃ a o, x = .ref a ∧ hasW w G a y o ∧ Q (.bl (if neg = true then !o.isSome else o.isSome)) G
theorem getWD_mono {w : World} : MonoF2 (getWD w) := fun x y G Q Q' h ⟨a, v, e, i, q⟩ => ⟨a, v, e, i, h _ _ q⟩
theorem hasWD_mono {w : World} {neg : Bool} : MonoF2 (hasWD w neg) := fun x y G Q Q' h ⟨a, v, e, i, q⟩ => ⟨a, v, e, i, h _ _ q⟩
section
variable {X : Cx} {w : World} {a b c e o i value : Expr} {es rest : List Expr} {ta tb tc : DE} {pos pos' : Pos}
theorem dw_fwd {pins : List (Addr × Obj)} {σ : St} {H : Hp} {s : Shared} {G : DG} {a : Addr} {kvs : List (D × D)} (ew : X.w = w) (I : L2.Inv X pins σ H s) (m : MH X.K G H) (h : isDw w G a kvs) :
    ∃ xs, s.heap.DictOfH (nestedKind X.prog X.w) a xs ∧ Paired (Rl X H (some w)) kvs xs ∧ (a == sysModules) = false ∧ kvs.length ≤ sizeLine := by
  have hw : ∀ w', some w = some w' → w' = X.w := fun w' z => by cases z; exact ew.symm
  rcases h with h | h
  · obtain ⟨xs, q1, q2, q3, q4, _⟩ := dic_fwd I (m a _ h) hw
    exact ⟨xs, q1, q2, q3, q4⟩
  · exact dif_fwd I (m a _ h) hw
theorem de_wget (ew : X.w = w) (hu : X.A.units + 64 < cLine) (ha : DPE X a ta) (hb : DPE X b tb) (hs : NoSl b := by exact fun _ _ => rfl) : DPE X (.Subscript a b pos) (dOp (getWD w) ta tb) := by
  obtain ⟨ma, tta, pa, ra⟩ := ha
  obtain ⟨mb, ttb, pb, rb⟩ := hb
  refine ⟨dOp_mono getWD_mono ma mb, tOp (r2D X.K (getWD w)) tta ttb, ⟨fun pins s σ H Q I h => ?_⟩, dOp_run getWD_mono r2D_sim ma mb ra rb⟩
  refine subD_of PySem.F.slot_dict_getitem.lookup hs (thn (pa.run pins s σ H _ I h) fun u s1 ⟨x, H1, I1, rx, q1⟩ => thn (pb.run pins s1 σ H1 _ I1 q1) fun iv s2 ⟨y, H2, I2, ry, G, dx, dy, m, rdx, rdy, p, d, ex, hi, q⟩ => ?_)
  subst ex
  cases rdx
  obtain rfl : u = Value.ref p := rx
  obtain ⟨kvs, k, e, ht, hk, hd, l⟩ := hi
  obtain ⟨xs, dd, P, hs, hz⟩ := dw_fwd ew I2 m e
  obtain ⟨pr, ep, v, rv, ru'⟩ := look_some P l
  obtain ⟨b, rfl⟩ := isTup_ref ht rdy
  cases (show iv = Value.ref b from ry)
  exact ⟨dd.typeIs, wpAny_getItem_heap (room8 hu) ⟨nk_is I2 _ k hk _ _ rdy rfl, hd⟩ dd ep ⟨v, H2, I2.tok _, ru', q v H2 m rv .refl⟩⟩
theorem op_hasW {neg : Bool} (ew : X.w = w) (hu : X.A.units + 64 < cLine) : OpR X (compareOp (if neg = true then .NotIn else .In)) (r2D X.K (hasWD w neg)) := by
  intro pins s σ H x y v u Q I rx ry ⟨G, dx, dy, m, rdx, rdy, p, o, ex, hi, q⟩
  subst ex
  cases rdy
  obtain rfl : u = Value.ref p := ry
  have fin : ∀ s', L2.Inv X pins σ H s' → EP X pins σ Q (.bool (if neg = true then !o.isSome else o.isSome)) s' := fun s' I' => ⟨.bl (if neg = true then !o.isSome else o.isSome), H, I', rfl, q _ H m (.bl _) .refl⟩
  obtain ⟨kvs, k, e, ht, hk, hd, l⟩ := hi
  obtain ⟨xs, dd, P, hs, hz⟩ := dw_fwd ew I m e
  have hs' := look_is (k := k) P
  rw [l] at hs'
  rw [← hs'] at fin
  obtain ⟨b, rfl⟩ := isTup_ref ht rdx
  cases (show v = Value.ref b from rx)
  cases neg with
  | true => exact PyProof.Rows.wpAny_notIn_heap (room8 hu) ⟨nk_is I _ k hk _ _ rdx rfl, hd⟩ hs dd (fin _ (I.tok _))
  | false => exact wpAny_in_heap (room8 hu) ⟨nk_is I _ k hk _ _ rdx rfl, hd⟩ hs dd (fin _ (I.tok _))
theorem de_win (ew : X.w = w) (hu : X.A.units + 64 < cLine) (ha : DPE X a ta) (hb : DPE X b tb) (hk : behindInMarks .In b = false := by rfl) : DPE X (.Compare a [.In] [b] pos) (dOp (hasWD w false) ta tb) := de_cmpR (op_hasW (neg := false) ew hu) hasWD_mono r2D_sim ha hb hk
theorem dt_win (ew : X.w = w) (hu : X.A.units + 64 < cLine) (ha : DPE X a ta) (hb : DPE X b tb) (hk : behindInMarks .In b = false := by rfl) : DPT X (.Compare a [.In] [b] pos) (dTest (dOp (hasWD w false) ta tb)) := dt_cmpR (op_hasW (neg := false) ew hu) hasWD_mono r2D_sim ha hb hk
theorem de_wnotin (ew : X.w = w) (hu : X.A.units + 64 < cLine) (ha : DPE X a ta) (hb : DPE X b tb) (hk : behindInMarks .NotIn b = false := by rfl) : DPE X (.Compare a [.NotIn] [b] pos) (dOp (hasWD w true) ta tb) := de_cmpR (op_hasW (neg := true) ew hu) hasWD_mono r2D_sim ha hb hk
theorem dt_wnotin (ew : X.w = w) (hu : X.A.units + 64 < cLine) (ha : DPE X a ta) (hb : DPE X b tb) (hk : behindInMarks .NotIn b = false := by rfl) : DPT X (.Compare a [.NotIn] [b] pos) (dTest (dOp (hasWD w true) ta tb)) := dt_cmpR (op_hasW (neg := true) ew hu) hasWD_mono r2D_sim ha hb hk
/-- d[y] = v -/
def dWput (w : World) (td ty tv : DE) : DS := fun D σ G => tv σ G fun v G1 => td σ G1 fun x G2 => ty σ G2 fun y G3 => ∃ a G4, x = .ref a ∧ putW w G3 a y v G4 ∧ D.nx σ G4
theorem wput_ok {pins : List (Addr × Obj)} {σ : St} {H : Hp} {s : Shared} {G G' : DG} {p : Addr} {y d : D} {yv v : V} {u r : Value} {Q : Unit → Shared → Prop} (ew : X.w = w) (hu : X.A.units + 64 < cLine) (I : L2.Inv X pins σ H s) (m : MH X.K G H) (h : putW w G p y d G') (ry : RD X.K H y yv) (ru : RelV yv u) (rd : RD X.K H d v) (rv : RelV v r)
    (q : ∀ H' s', L2.Inv X pins σ H' s' → MH X.K G' H' → KT X.K H H' → Q () s') : wpAny (model X.prog X.w) X.A (setItem (.ref p) u r) Q X.xe s := by
  obtain ⟨kvs, k, e, ht, hk, hd, hl, rfl⟩ := h
  obtain ⟨xs, dd, P, hs, hz, mu⟩ := dic_fwd I (m p _ e) (by intro w' z; cases z; exact ew.symm)
  obtain ⟨b, rfl⟩ := isTup_ref ht ry
  cases (show u = Value.ref b from ru)
  have hlx := Paired.length P
  refine wpAny_setItem_heap (hsz := by omega) (room8 hu) ⟨nk_is I y k hk _ _ ry rfl, hd⟩ dd fun h' dd' hb => ?_
  have nd : (xs.map (·.1)).Nodup := let ⟨_, _, _, _, _, _, _, _, z⟩ := dd; z
  have P' := put_at hk hd ry (ow := some w) (by rw [ew]; rfl) rd rv P nd
  have hz' : (putN k y d kvs).length ≤ sizeLine := by have := putN_len (k := k) (y := y) (d := d) (kvs := kvs); omega
  obtain ⟨uo, mu', ob, mo⟩ := dic_bwd dd' P' hs hz'
  have kk : KT X.K H (L2.upd H p uo) := by
    cases hH : H p with
    | none => rw [hH] at mu; exact mu.elim
    | some w0 =>
      rw [hH] at mu
      exact .upd_mut hH (fun _ z => by rw [z] at mu; exact mu.elim) (fun _ _ z => by rw [z] at mu; exact mu.elim)
  have he : ∃ q, h'.get? p = some q := let ⟨q, _, _, hq, _⟩ := dd'; ⟨q, hq⟩
  exact q _ _ (I.write (x := p) (e := p) mu (.inl rfl) (fun b q hb' z => (hb.2 b hb').trans z) he ob) (m.upd kk (mo kk)) kk
theorem ds_wput {tv : DE} (ew : X.w = w) (hu : X.A.units + 64 < cLine) (ho : DPE X o ta) (hi : DPE X i tb) (hv : DPE X value tv) (hs : swapsWith value (some (.Subscript o i pos')) pos.line X.env = pure false := by rfl) : DPS X (.Assign [.Subscript o i pos'] value pos) (dWput w ta tb tv) := by
  obtain ⟨ma, tta, pa, ra⟩ := ho
  obtain ⟨mb, ttb, pb, rb⟩ := hi
  obtain ⟨mv, ttv, pv, rv⟩ := hv
  refine ⟨fun σ G D D' l q => mv σ G _ _ (fun v G1 q1 => ma σ G1 _ _ (fun x G2 q2 => mb σ G2 _ _ (fun y G3 ⟨a, G4, h1, h2, q3⟩ => ⟨a, G4, h1, h2, l.1 _ _ q3⟩) q2) q1) q,
    fun D σ H => ttv σ H fun v H1 => tta σ H1 fun x H2 => ttb σ H2 fun y H3 => ∃ G d p dy G4, x = .ref p ∧ MH X.K G H3 ∧ RD X.K H3 d v ∧ RD X.K H3 dy y ∧ putW w G p dy d G4 ∧ ∀ H4, MH X.K G4 H4 → KT X.K H3 H4 → D.nx σ H4, ⟨fun pins s σ H D I h => ?_⟩, fun σ H σd G D m s h => ?_⟩
  · refine wpAny_Assign_Subscript (thn (pv.run pins s σ H _ I h) fun r s1 ⟨v, H1, I1, rv', q1⟩ => thn (pa.run pins s1 σ H1 _ I1 q1) fun u s2 ⟨x, H2, I2, rx, q2⟩ => thn (pb.run pins s2 σ H2 _ I2 q2) fun iv s3 ⟨y, H3, I3, ry, G, d, p, dy, G4, ex, m, rd, rdy, g, q3⟩ => ?_) hs
    subst ex
    obtain rfl : u = Value.ref p := rx
    exact wput_ok ew hu I3 m g rdy ry rd rv' fun H4 s4 I4 m4 k4 => ⟨σ, H4, I4, q3 H4 m4 k4⟩
  · refine rv σ H σd G _ m s (mv _ _ _ _ (fun d G1 h1 v H1 m1 r1 k1 => ra σ H1 σd G1 _ m1 (s.kt k1) (ma _ _ _ _ (fun dx G2 h2 x H2 m2 r2 k2 => rb σ H2 σd G2 _ m2 (s.kt (k1.trans k2)) (mb _ _ _ _ (fun dy G3 ⟨p, G4, ex, g, q⟩ y H3 m3 r3 k3 => ?_) h2)) h1)) h)
    subst ex
    cases r2
    exact ⟨G3, d, p, dy, G4, rfl, m3, (r1.kt k2).kt k3, r3, g, fun H4 m4 k4 => q σ H4 m4 (s.kt ((k1.trans k2).trans (k3.trans k4))) ((k1.trans k2).trans (k3.trans k4))⟩
/-- {} -/
def dDicW (w : World) : DE := fun _ G Q => ∀ p, G p = none → Q (.ref p) (up G p (.dic (some w) []))
theorem new_dicW {pins : List (Addr × Obj)} {σ : St} {H : Hp} {s : Shared} (I : L2.Inv X pins σ H s) (w : World) : ∃ u : HO, Mut (some u) ∧ H s.heap.objs.size = none ∧ KT X.K H (L2.upd H s.heap.objs.size u) ∧ (∀ G, MH X.K G H → MH X.K (up G s.heap.objs.size (.dic (some w) [])) (L2.upd H s.heap.objs.size u)) ∧
    L2.Inv X pins σ (L2.upd H s.heap.objs.size u) { s with heap := s.heap.push { cls := .type "dict", data := .dict #[] } } := by
  have dd : (s.heap.push { cls := .type "dict", data := .dict #[] }).DictOfH (nestedKind X.prog X.w) s.heap.objs.size [] := Heap.DictOfH.new s.heap
  have hb : (s.heap.objs.size == sysModules) = false := beq_eq_false_iff_ne.mpr (Ne.symm (Nat.ne_of_lt I.big))
  obtain ⟨u, mu, ob, mo⟩ := dic_bwd (X := X) (H := H) (ow := some w) (kvs := []) dd .nil hb (Nat.zero_le _)
  have hn : H s.heap.objs.size = none := I.hok.fresh (Nat.le_refl _)
  have kk : KT X.K H (L2.upd H s.heap.objs.size u) := .upd_new hn
  exact ⟨u, mu, hn, kk, fun G m => m.upd kk (mo kk), I.laid (a := s.heap.objs.size) (o := u) (t' := s.toks) (fun _ _ q => Heap.get?_push_of_some _ q) (Nat.le_refl _) ob⟩
theorem de_dicW : DPE X (.Dict [] [] pos) (dDicW w) := by
  refine ⟨fun σ G Q Q' h q p hp => h _ _ (q p hp), fun σ H Q => ∀ p u, H p = none → (∀ G, MH X.K G H → MH X.K (up G p (.dic (some w) [])) (upd H p u)) → KT X.K H (upd H p u) → Q (.ref p) (upd H p u), ⟨fun pins s σ H Q I h => ?_⟩, fun σ H σd G Q m s h p u hp hm kk => h p (m.fresh hp) _ _ (hm G m) (.ref p) kk⟩
  obtain ⟨u, mu, hn, kk, hm, J⟩ := new_dicW I w
  exact wpAny_Dict_empty ⟨.ref s.heap.objs.size, _, J, rfl, h _ u hn hm kk⟩
/-- {k: v} -/
theorem dict_one {prog : Program} {w : World} {κ : Type} [DecidableEq κ] {knd : HeapKind prog w κ} {A : Around} {E : Value → Shared → Prop} {s : Shared} {env : Env} {k v : Expr} {pos : Pos} {Q : Value → Shared → Prop} (hu : knd.room A)
    (h : wpAny (model prog w) A (eval k env) (fun kv s1 => wpAny (model prog w) A (eval v env) (fun vv s2 => ∃ b kk, kv = .ref b ∧ knd.is s2.heap kk b ∧ s2.heap.DictOfH knd s.heap.objs.size [] ∧
      ∀ h' tk, h'.DictOfH knd s.heap.objs.size [(kk, b, vv)] → Heap.SameBut s.heap.objs.size s2.heap h' → Q (.ref s.heap.objs.size) { s2 with heap := h', toks := tk }) E s1) E { s with heap := s.heap.push { cls := .type "dict", data := .dict #[] } }) :
    wpAny (model prog w) A (eval (.Dict [some k] [v] pos) env) Q E s := by
  rw [PySem.arm_eval_Dict, zip_pairTrees [some k] [v] env pos rfl rfl, dictDisplay_pairs (pairTrees [some k] [v] env pos) (by simp [pairTrees]) (by simp [pairTrees])]
  refine wpAny_bind (wpAny_standAt (wpAny_bind (wpAny_subDictH (knd := knd) hu (by simp [pairTrees]) ?_)))
  refine pairTrees_cons_walk (wpAny_mono h (fun kv s1 h1 => wpAny_mono h1 (fun vv s2 q => pairTrees_nil_walk ?_) fun _ _ e => e) fun _ _ e => e)
  obtain ⟨b, kk, e, hi, dd, q⟩ := q
  exact ⟨[(kk, b, vv)], ⟨e, rfl, hi, trivial⟩, dd, fun h' tk d' sb => wpAny_pure (q h' tk d' sb)⟩
def dWone (w : World) (tk tv : DE) : DE := fun σ G Q => ∀ p, G p = none → tk σ (up G p (.dic (some w) [])) fun y G1 => tv σ G1 fun v G2 => G2 p = some (.dic (some w) []) ∧ ∃ k, isTupD y ∧ nkD y = some k ∧ k.depth ≤ 8 ∧ Q (.ref p) (up G2 p (.dic (some w) [(y, v)]))
theorem de_wone {k v : Expr} {tk tv : DE} (ew : X.w = w) (hu : X.A.units + 64 < cLine) (hk : DPE X k tk) (hv : DPE X v tv) : DPE X (.Dict [some k] [v] pos) (dWone w tk tv) := by
  obtain ⟨mk, ttk, pk, rk⟩ := hk
  obtain ⟨mv, ttv, pv, rv⟩ := hv
  refine ⟨fun σ G Q Q' h q p hp => mk _ _ _ _ (fun y G1 q1 => mv _ _ _ _ (fun v G2 ⟨a, k, b, c, d, z⟩ => ⟨a, k, b, c, d, h _ _ z⟩) q1) (q p hp),
    fun σ H Q => ∀ p u, H p = none → (∀ G, MH X.K G H → MH X.K (up G p (.dic (some w) [])) (upd H p u)) → KT X.K H (upd H p u) → ttk σ (upd H p u) fun y H1 => ttv σ H1 fun v H2 => ∃ G2 dy dv kk, MH X.K G2 H2 ∧ RD X.K H2 dy y ∧ RD X.K H2 dv v ∧ G2 p = some (.dic (some w) []) ∧ isTupD dy ∧ nkD dy = some kk ∧ kk.depth ≤ 8 ∧
      ∀ H3, MH X.K (up G2 p (.dic (some w) [(dy, dv)])) H3 → KT X.K H2 H3 → Q (.ref p) H3, ⟨fun pins s σ H Q I h => ?_⟩, fun σ H σd G Q m s h p u hp hm kt => ?_⟩
  · obtain ⟨u0, mu, hn, kt, hm, J⟩ := new_dicW I w
    have h0 := h _ u0 hn hm kt
    refine dict_one (knd := nestedKind X.prog X.w) (show X.A.units + 8 < cLine by omega) (thn (pk.run pins _ σ _ _ J h0) fun yv s1 ⟨y, H1, I1, ry, q1⟩ => thn (pv.run pins s1 σ H1 _ I1 q1) fun vv s2 ⟨v, H2, I2, rv', G2, dy, dv, kk, m2, r1, r2, g, ht, hkk, hd, q⟩ => ?_)
    obtain ⟨b, rfl⟩ := isTup_ref ht r1
    cases (show yv = Value.ref b from ry)
    obtain ⟨xs, dd, P, hs, hz, mu2⟩ := dic_fwd I2 (m2 _ _ g) (by intro w' z; cases z; exact ew.symm)
    cases P
    refine ⟨b, kk, rfl, ⟨nk_is I2 dy kk hkk _ _ r1 rfl, hd⟩, dd, fun h' tk dd' hb => ?_⟩
    have P' : Paired (Rl X H2 (some w)) [(dy, dv)] [(kk, b, vv)] := .cons ⟨hkk, hd, r1, by rw [ew]; rfl, v, r2, rv'⟩ .nil
    obtain ⟨uo, mu', ob, mo⟩ := dic_bwd dd' P' hs (by rw [sizeLine_eq]; simp)
    have k2 : KT X.K H2 (L2.upd H2 s.heap.objs.size uo) := by
      cases hH : H2 s.heap.objs.size with
      | none => rw [hH] at mu2; exact mu2.elim
      | some w0 =>
        rw [hH] at mu2
        exact .upd_mut hH (fun _ z => by rw [z] at mu2; exact mu2.elim) (fun _ _ z => by rw [z] at mu2; exact mu2.elim)
    have he : ∃ q, h'.get? s.heap.objs.size = some q := let ⟨q, _, _, hq, _⟩ := dd'; ⟨q, hq⟩
    have J2 := I2.write (t' := tk) (x := s.heap.objs.size) (e := s.heap.objs.size) mu2 (.inl rfl) (fun b q hb' z => (hb.2 b hb').trans z) he ob
    exact ⟨.ref s.heap.objs.size, _, J2, rfl, q _ (m2.upd k2 (mo k2)) k2⟩
  · refine rk σ _ σd _ _ (hm G m) (s.kt kt) (mk _ _ _ _ (fun dy G1 h1 y H1 m1 r1 k1 => rv σ H1 σd G1 _ m1 ((s.kt kt).kt k1) (mv _ _ _ _ (fun dv G2 ⟨g, kk, a, b, c, z⟩ v H2 m2 r2 k2 => ?_) h1)) (h p (m.fresh hp)))
    exact ⟨G2, dy, dv, kk, m2, r1.kt k2, r2, g, a, b, c, fun H3 m3 k3 => z _ H3 m3 (.ref p) ((kt.trans k1).trans (k2.trans k3))⟩
/-- len(d) -/
def lenWD (w : World) : FL := fun xs G Q => ∃ a kvs, xs = [.ref a] ∧ isDw w G a kvs ∧ Q (.int (kvs.length : Nat)) G
theorem lenWD_mono {w : World} : MonoFL (lenWD w) := fun xs G Q Q' h ⟨a, n, e, s, q⟩ => ⟨a, n, e, s, h _ _ q⟩
theorem cr_lenW (ew : X.w = w) : CallR X (.builtin "len") (rLD X.K (lenWD w)) := by
  intro pins s σ H xs us Q I r ⟨G, ds, m, rd, a, kvs, e, hs, q⟩
  subst e
  obtain ⟨v, vs', rfl, r1, r2⟩ := rd.cons_inv
  cases r2.nil_inv
  cases r1
  cases r with
  | cons ru rr =>
    cases rr
    cases (show _ = Value.ref a from ru)
    obtain ⟨xs, dd, P, hs, hz⟩ := dw_fwd ew I m hs
    have hlx := Paired.length P
    refine call_len_dictH hs dd (by rw [← hlx]; rw [sizeLine_eq] at hz; omega) ?_
    rw [← hlx]
    exact ⟨.int kvs.length, H, I.tok _, ⟨_, rfl⟩, q _ H m (.int _) .refl⟩
theorem de_lenW {p : Pos} {t : DA} (ew : X.w = w) (hg : Gl X "len") (hm : X.mg "len" = none) (ha : DPA X (e :: es) t) (h1 : starEach (e :: es) X.env = (false, eval e X.env) :: starEach es X.env := by rfl) (h2 : ((backTo pos (starEach es X.env)).any fun x => x.fst) = false := by rfl) :
    DPE X (.Call (.Name "len" p) (e :: es) [] pos) (dCB (lenWD w) t) := de_callB (cr_lenW ew) lenWD_mono rLD_sim hg hm PySem.boot_len ha (by decide) (by decide) h1 h2
end
section
variable {w : World} {σ : DSt} {G : DG} {Q : DK} {a : Addr} {y d : D} {kvs : List (D × D)} {k : NestedKey} {ta tb tc : DE} {nx bk ct : DSt → DG → Prop} {rt : DK} {neg : Bool} {R : DG → Prop}
theorem s_dicW (h : ∀ p, G p = none → Q (.ref p) (up G p (.dic (some w) []))) : dDicW w σ G Q := h
theorem s_getW (e : isDw w G a kvs) (ht : isTupD y) (hk : nkD y = some k) (hd : k.depth ≤ 8) (hl : lookN k kvs = some d) (h : Q d G) : getWD w (.ref a) y G Q := ⟨a, d, rfl, ⟨kvs, k, e, ht, hk, hd, hl⟩, h⟩
theorem s_hasW (e : isDw w G a kvs) (ht : isTupD y) (hk : nkD y = some k) (hd : k.depth ≤ 8) (h : Q (.bl (if neg = true then !(lookN k kvs).isSome else (lookN k kvs).isSome)) G) : hasWD w neg y (.ref a) G Q := ⟨a, _, rfl, ⟨kvs, k, e, ht, hk, hd, rfl⟩, h⟩
def wputB (w : World) (x y v : D) (G : DG) (R : DG → Prop) : Prop := ∃ a G4, x = .ref a ∧ putW w G a y v G4 ∧ R G4
theorem s_wput (h : tc σ G fun v G1 => ta σ G1 fun x G2 => tb σ G2 fun y G3 => wputB w x y v G3 fun G4 => nx σ G4) : dWput w ta tb tc ⟨nx, rt, bk, ct⟩ σ G := h
theorem s_wputB (e : G a = some (.dic (some w) kvs)) (ht : isTupD y) (hk : nkD y = some k) (hd : k.depth ≤ 8) (hl : kvs.length < sizeLine) (h : R (up G a (.dic (some w) (putN k y d kvs)))) : wputB w (.ref a) y d G R := ⟨a, _, rfl, ⟨kvs, k, e, ht, hk, hd, hl, rfl⟩, h⟩
def woneB (w : World) (p : Addr) (y v : D) (G : DG) (Q : DK) : Prop := G p = some (.dic (some w) []) ∧ ∃ k, isTupD y ∧ nkD y = some k ∧ k.depth ≤ 8 ∧ Q (.ref p) (up G p (.dic (some w) [(y, v)]))
theorem s_wone (h : ∀ p, G p = none → ta σ (up G p (.dic (some w) [])) fun y G1 => tb σ G1 fun v G2 => woneB w p y v G2 Q) : dWone w ta tb σ G Q := h
theorem s_woneB (e : G a = some (.dic (some w) [])) (ht : isTupD y) (hk : nkD y = some k) (hd : k.depth ≤ 8) (h : Q (.ref a) (up G a (.dic (some w) [(y, d)]))) : woneB w a y d G Q := ⟨e, k, ht, hk, hd, h⟩
theorem s_lenW (e : isDw w G a kvs) (h : Q (.int (kvs.length : Nat)) G) : lenWD w [.ref a] G Q := ⟨a, kvs, rfl, e, h⟩
end
end FD

namespace FD
open PySem L2
/-! ### list(reversed(list)) -/
section
open PySem.Spec PyProof.Rows
variable {prog : Program} {w : World} {A : Around} {E : Value → Shared → Prop} {s : Shared}
theorem ext_rev {R : Result → Shared → Prop} {it l S : Addr} {items : Array Value} {c₀ : Nat} (noH : A.handled = none) (ri : s.heap.IsRevIter it l ((items.size : Int) - 1)) (il : s.heap.IsList l items) (dl : l ≠ it) (small : items.size ≤ sizeLine) (dS : S ≠ it) (dS2 : S ≠ l)
    (hS : s.heap.get? S = some { cls := .type "list", data := .seq #[] c₀ })
    (fin : ∀ h' tk acc c', (∀ b o, b ≠ S → b ≠ it → s.heap.get? b = some o → h'.get? b = some o) → h'.get? S = some { cls := .type "list", dict := none, data := .seq acc c', slots := #[] } → ItemsOf (fun i v => items[items.size - 1 - i]? = some v) acc items.size → R (.ok (.ret .none)) { s with heap := h', toks := tk }) :
    wpAny (model prog w) A.in1 (Builtin.List.listExtendWith (.ref S) (.ref it) .none) (fun fl t => match fl with | .done f => R (.ok f) t | .again c => c.quiet = true ∧ codeAny (model prog w) A c R t) (fun e t => R (.error e) t) s := by
  have ty : s.TypeIs (.ref it) "list_reverseiterator" := Heap.IsRevIter.typeIs (s := s) ri
  have ns : Builtin.List.listSameRef (.ref S) (.ref it) = false := by simp [Builtin.List.listSameRef, dS]
  have off : S ∉ [it, l] := by simp [dS, dS2]
  unfold Builtin.List.listExtendWith; refine wpAny_bind (wpAny_typeOf ty ?_); rw [if_neg (by rw [ns]; decide)]
  refine wpAny_bind (wpAny_pyIter_revIter ri ?_); refine wpAny_bind (wpAny_holding ?_)
  unfold Builtin.List.listLengthHint; refine wpAny_bind (wpAny_specialOf ty RT.nolen_lri ?_)
  show wpAny _ _ (specialOf (Value.ref it) (Str.ofString "__length_hint__") >>= _) _ _ s; refine wpAny_bind (wpAny_specialOf ty RT.hint_lri ?_)
  generalize eid : ("list_reverseiterator.__length_hint__" : String) = idn; wp_delta
  have sp : splitId idn = some ("list_reverseiterator", "__length_hint__") := by subst eid; decide +kernel
  rw [sp]; subst eid
  refine wpAny_bind (wpAny_isInstance (b := true) ty (by rw [isSubtype_type]; kernel_rfl) (wpAny_pure ?_)); rw [if_neg (by decide)]
  have z0 : ((items.size : Nat) : Int) - 1 - ((0 : Nat) : Int) = (items.size : Int) - 1 := by omega
  have walk := (Walks.listRev (prog := prog) (w := w) (A := A.in1) noH it l dl items).toS
  refine wpAny_pure ⟨plainId_quiet F.plain_extend_loop _, codeAny_extend_loopS walk small S off .none items.size 0 _ _ _ rfl (Nat.zero_le _) ⟨Nat.zero_le _, by rw [z0]; exact ri, il⟩ hS (ItemsOf.nil _) fun t acc c hm hS' ha => ?_⟩
  rw [Moved.eq_with hm]; refine fin t.heap t.toks acc c (fun b o n1 n2 e => hm.heap b o (fun hmem => ?_) e) hS' ha
  rcases List.mem_cons.mp hmem with z | z
  · exact n1 z
  · exact n2 (List.mem_singleton.mp z)
theorem call_list_rev {it l : Addr} {items : Array Value} {Q : Value → Shared → Prop} (noH : A.handled = none) (ri : s.heap.IsRevIter it l ((items.size : Int) - 1)) (il : s.heap.IsList l items) (dl : l ≠ it) (small : items.size ≤ sizeLine)
    (hQ : ∀ h' tk acc c', (∀ b o, b ≠ it → s.heap.get? b = some o → h'.get? b = some o) → h'.get? s.heap.objs.size = some { cls := .type "list", dict := none, data := .seq acc c', slots := #[] } → ItemsOf (fun i v => items[items.size - 1 - i]? = some v) acc items.size → Q (.ref s.heap.objs.size) { s with heap := h', toks := tk }) :
    wpAny (model prog w) A (call (.type "list") [.ref it]) Q E s := by
  refine callType_codes (Q₁ := fun ob t => ob = .ref s.heap.objs.size ∧ t = { s with heap := s.heap.push { cls := .type "list", data := .seq #[] } }) F.called_list (F.typeCall_list_1 _) F.entry_list_init (code_list_new _ ⟨rfl, rfl⟩) fun ob t ht => ?_
  obtain ⟨rfl, rfl⟩ := ht
  obtain ⟨oi, hoi, _⟩ := id ri
  obtain ⟨ol, hol, _⟩ := id il
  have d1 : s.heap.objs.size ≠ it := Nat.ne_of_gt (Heap.lt_size hoi)
  have d2 : s.heap.objs.size ≠ l := Nat.ne_of_gt (Heap.lt_size hol)
  have at0 : (s.heap.push { cls := .type "list", data := .seq #[] }).get? s.heap.objs.size = some { cls := .type "list", data := .seq #[] } := Heap.get?_push_size _ rfl
  have pu : ∀ b o, s.heap.get? b = some o → (s.heap.push { cls := .type "list", data := .seq #[] }).get? b = some o := fun b o e => Heap.get?_push_of_some _ e
  refine ⟨⟨_, at0, rfl⟩, F.args_list_init_2 _ _, ?_⟩
  show wpAny _ _ (do let old ← Builtin.List.listItems (.ref s.heap.objs.size); Builtin.List.listUpdate (.ref s.heap.objs.size) (fun _ => #[]); letGo old.toList.reverse; Builtin.List.listExtendWith (.ref s.heap.objs.size) (.ref it) .none) _ _ _
  refine wpAny_bind ?_
  unfold Builtin.List.listItems; refine wpAny_bind (wpAny_seqItems at0 rfl (wpAny_pure ?_))
  show wpAny _ _ (updateSeq s.heap.objs.size (fun _ => #[]) >>= fun _ => letGo (#[] : Array Value).toList.reverse >>= fun _ => Builtin.List.listExtendWith (.ref s.heap.objs.size) (.ref it) .none) _ _ _
  refine wpAny_bind (wpAny_updateSeq at0 rfl ?_)
  have at2 := Heap.get?_update_self (Obj.mapSeq (fun _ => (#[] : Array Value))) at0 rfl
  have oth : ∀ b o, b ≠ s.heap.objs.size → s.heap.get? b = some o → ((s.heap.push { cls := .type "list", data := .seq #[] }).update s.heap.objs.size (Obj.mapSeq (fun _ => (#[] : Array Value)))).get? b = some o := fun b o n e => (Heap.get?_update_other _ _ (Ne.symm n)).trans (pu b o e)
  refine wpAny_bind (wpAny_letGo ?_)
  refine ext_rev (s := { s with heap := (s.heap.push { cls := .type "list", data := .seq #[] }).update s.heap.objs.size (Obj.mapSeq (fun _ => (#[] : Array Value))) }) noH (ri.at fun o e => oth _ o (Ne.symm d1) e) ?_ dl small d1 d2 at2 fun h' tk acc c hk hS' ha => ?_
  · exact il.at fun o e => oth _ o (Ne.symm d2) e
  · exact ⟨rfl, hQ h' tk acc c (fun b o n e => hk b o (Nat.ne_of_lt (Heap.lt_size e)) n (oth b o (Nat.ne_of_lt (Heap.lt_size e)) e)) hS' ha⟩
end
section
open PySem.Spec PyProof.Rows
variable {X : Cx} {e : Expr} {te : TE} {ta : DE} {p p2 pos pos2 : Pos}
def tLstRev (K : PySem.W.Frag) (te : TE) : TE := fun σ H Q => te σ H fun v H1 => ∃ (a : Addr) (xs : List V), v = .ref a ∧ SqL K H1 a xs ∧ ∀ q, H1 q = none → Q (.ref q) (L2.upd H1 q (.lst xs.reverse))
theorem pe_lstRev (hc : X.calm = true) (hg : Gl X "list") (hm : X.mg "list" = none) (hg2 : Gl X "reversed") (hm2 : X.mg "reversed" = none) (he : PE X e te)
    (n1 : starEach [e] X.env = (false, eval e X.env) :: starEach [] X.env) (n2 : starEach [.Call (.Name "reversed" p2) [e] [] pos2] X.env = (false, eval (.Call (.Name "reversed" p2) [e] [] pos2) X.env) :: starEach [] X.env) :
    PE X (.Call (.Name "list" p) [.Call (.Name "reversed" p2) [e] [] pos2] [] pos) (tLstRev X.K te) := by
  refine ⟨fun pins s σ H Q I h => ?_⟩
  refine Call_ (ld_blt I hg hm boot_list (PyProof.Rows.callWith_type1 (args_cons (Call_ (ld_blt I hg2 hm2 PyProof.Rows.boot_reversed (PyProof.Rows.callWith_type1 (args_cons (thn (he.run pins s σ H _ I h) fun u t ⟨v, H1, I1, r1, q1⟩ => args_nil ?_) n1) n1 rfl))) n2) n2 rfl))
  obtain ⟨a, xs, ev, hq, q⟩ := q1
  subst ev
  obtain rfl : u = Value.ref a := r1
  obtain ⟨its, rv, p', hz⟩ := I1.list hq
  refine call_reversed_list p'.isList (args_nil ?_)
  have il := p'.isList
  obtain ⟨ol, hol, _⟩ := id il
  have small : its.toArray.size ≤ sizeLine := by rw [List.size_toArray, ← rv.length]; exact hz
  refine call_list_rev (s := { t with heap := t.heap.push (revObj a ((its.toArray.size : Int) - 1)) }) (I1.ok.hd hc) ⟨_, Heap.get?_push_size _ rfl, rfl, rfl⟩ (il.push _) (Nat.ne_of_lt (Heap.lt_size hol)) small fun h' tk acc c hk hn hi => ?_
  have big : t.heap.objs.size ≤ (t.heap.push (revObj a ((its.toArray.size : Int) - 1))).objs.size := by simp [Heap.push]
  refine ⟨.ref _, L2.upd H1 _ (.lst xs.reverse), I1.laid (t' := tk) (fun b o e => hk b o (Nat.ne_of_lt (Heap.lt_size e)) (Heap.get?_push_of_some _ e)) big (show ObjOk X.prog X.w _ _ _ (.lst xs.reverse) from ⟨by rw [List.length_reverse]; exact hz, acc.toList, c, RT.vals_rev rv hi, ?_⟩), rfl, q _ (I1.hok.fresh big)⟩
  rw [Array.toArray_toList]
  exact hn
def revLB (x : D) (G : DG) (Q : DK) : Prop := ∃ a xs, x = .ref a ∧ G a = some (.lst xs) ∧ ∀ q, G q = none → Q (.ref q) (up G q (.lst xs.reverse))
def dListRev (ta : DE) : DE := fun σ G Q => ta σ G fun x G1 => revLB x G1 Q
theorem rds_rev {K : PySem.W.Frag} {H : Hp} {xs : List D} {vs : List V} (r : RDs K H xs vs) : RDs K H xs.reverse vs.reverse := by
  refine ⟨by simp [r.1], fun i x v h1 h2 => ?_⟩
  have hl := r.1
  by_cases hi : i < xs.length
  · rw [List.getElem?_reverse hi] at h1
    rw [List.getElem?_reverse (by omega), ← hl] at h2
    exact r.2 _ x v h1 h2
  · rw [List.getElem?_eq_none (by simpa using hi)] at h1
    cases h1
theorem de_listRev (hg : Gl X "list") (hm : X.mg "list" = none) (hg2 : Gl X "reversed") (hm2 : X.mg "reversed" = none) (hc : X.calm = true) (ha : DPE X e ta)
    (n1 : starEach [e] X.env = (false, eval e X.env) :: starEach [] X.env := by rfl) (n2 : starEach [.Call (.Name "reversed" p2) [e] [] pos2] X.env = (false, eval (.Call (.Name "reversed" p2) [e] [] pos2) X.env) :: starEach [] X.env := by rfl) :
    DPE X (.Call (.Name "list" p) [.Call (.Name "reversed" p2) [e] [] pos2] [] pos) (dListRev ta) := by
  obtain ⟨ma, tta, pa, ra⟩ := ha
  refine ⟨fun σ G Q Q' h q => ma _ _ _ _ (fun d G1 ⟨a, xs, e, l, z⟩ => ⟨a, xs, e, l, fun p hp => h _ _ (z p hp)⟩) q, _, pe_lstRev hc hg hm hg2 hm2 pa n1 n2, fun σ H σd G Q m s h => ra σ H σd G _ m s (ma _ _ _ _ (fun d G1 ⟨a, xs, e, l, z⟩ v H1 m1 r1 k1 => ?_) h)⟩
  subst e
  cases r1
  obtain ⟨vs, h1, r⟩ := m1 a _ l
  exact ⟨a, vs, rfl, SqL.of h1, fun q hq => z q (m1.fresh hq) (.ref q) _ (m1.upd (.upd_new hq) ⟨_, L2.upd_same, (rds_rev r).kt (.upd_new hq)⟩) (.ref q) (k1.trans (.upd_new hq))⟩
theorem s_listRev {σ : DSt} {G : DG} {Q : DK} (h : ta σ G fun x G1 => revLB x G1 Q) : dListRev ta σ G Q := h
theorem s_revLB2 {G : DG} {Q : DK} {a : Addr} {xs : List D} (e : G a = some (.lst xs)) (h : ∀ q, G q = none → Q (.ref q) (up G q (.lst xs.reverse))) : revLB (.ref a) G Q := ⟨a, xs, rfl, e, h⟩
end
end FD

namespace FD
open PySem L2
/-! ### sum and min of a tuple of whole numbers -/
section
open PySem.Spec PyProof.Rows
variable {prog : Program} {w : World} {A : Around} {E : Value → Shared → Prop} {s : Shared} {l : Addr} {xs : Array (Int × Tok)} {its : List Value} {ns : List Int} {Q : Value → Shared → Prop}
theorem iter_tupI {R : Value → Shared → Prop} (ht : s.heap.IsTuple l (intItems xs))
    (h : ∀ t : Shared, t = { s with heap := s.heap.push { cls := .type "tuple_iterator", data := .fields #[.ref l, .int 0 0] } } → (t.heap.IsTupleIter s.heap.objs.size l 0 ∧ t.heap.IsTuple l (intItems xs)) → (∀ b ∈ [s.heap.objs.size, l], b < t.heap.objs.size) → l ≠ s.heap.objs.size → R (.ref s.heap.objs.size) t) :
    wpAny (model prog w) A (pyIter (.ref l)) R E s := by
  have lt : l < s.heap.objs.size := let ⟨_, e, _⟩ := ht; Heap.lt_size e
  refine wpAny_pyIter_tuple ht (h _ rfl ⟨⟨_, Heap.get?_push_size _ rfl, rfl, rfl⟩, ht.push _⟩ (fun b hb => ?_) (Nat.ne_of_lt lt))
  simp only [List.mem_cons, List.not_mem_nil, or_false] at hb
  show b < (s.heap.push _).objs.size; rw [Heap.size_push]
  rcases hb with rfl | rfl
  · exact Nat.lt_succ_self _
  · exact Nat.lt_succ_of_lt lt
theorem kept_tup {h' : Heap} (hk : ∀ b o, b ∉ [s.heap.objs.size] → (s.heap.push { cls := .type "tuple_iterator", data := .fields #[.ref l, .int 0 0] }).get? b = some o → h'.get? b = some o) (b : Addr) (o : Obj) (e : s.heap.get? b = some o) : h'.get? b = some o :=
  hk b o (fun z => absurd (Heap.lt_size e) (by rw [List.mem_singleton.mp z]; exact Nat.lt_irrefl _)) (Heap.get?_push_of_some _ e)
theorem sum_tup (hh : A.handled = none) (hl : s.heap.IsTuple l its.toArray) (hi : IntsAre its ns) (h : ∀ h' tk t', (∀ b o, s.heap.get? b = some o → h'.get? b = some o) → Q (.int ns.sum t') { s with heap := h', toks := tk }) : wpAny (model prog w) A (call (.builtin "sum") [.ref l]) Q E s := by
  obtain ⟨ys, e⟩ := hi.allInts.items
  have hn : numsOf (intItems ys).toList = ns := e ▸ hi.numsOf
  rw [nums_intItems] at hn; rw [e] at hl
  refine call_sum_walkG (iter_tupI hl fun t et st hb hne => ?_)
  subst et
  refine ⟨_, _, _, _, _, _, numAt ys, rfl, Walks.tuple (A := A.in1) hh _ l hne (intItems ys), st, hb, fun _ _ => intItems_at, fun h' tk t' hk => ?_⟩
  have z := h h' tk t' (kept_tup hk)
  have e2 : (intItems ys).size = ys.size := by simp [intItems]
  rw [e2, preSum_eq, List.take_of_length_le (by simp), hn]
  exact z
theorem min_tup (hh : A.handled = none) (hl : s.heap.IsTuple l its.toArray) (hi : IntsAre its ns) (hne : 0 < ns.length) (h : ∀ h' tk M t', (∀ b o, s.heap.get? b = some o → h'.get? b = some o) → M ∈ ns → (∀ a, a ∈ ns → M ≤ a) → Q (.int M t') { s with heap := h', toks := tk }) : wpAny (model prog w) A (call (.builtin "min") [.ref l]) Q E s := by
  obtain ⟨ys, e⟩ := hi.allInts.items
  have hn : numsOf (intItems ys).toList = ns := e ▸ hi.numsOf
  rw [nums_intItems] at hn; subst hn; rw [e] at hl
  have pos : 0 < ys.size := by simpa using hne
  refine call_min_walk (iter_tupI hl fun t et st hb hne => ?_)
  subst et
  refine ⟨_, _, _, _, _, _, _, rfl, Walks.tuple (A := A.in1) hh _ l hne (intItems ys), st, hb, by simpa [intItems] using pos, CmpOf.ints_lt (numAt ys) (fun _ _ => intItems_at), fun v h' tk hP hk => ?_⟩
  have hP' : (intItems ys)[argBest (fun i j => decide (numAt ys i < numAt ys j)) (ys.size - 1)]? = some v := by simpa [intItems] using hP
  obtain ⟨t, rfl⟩ := intItems_at hP'
  obtain ⟨h1, h2⟩ := argBest_lt (numAt ys) (ys.size - 1)
  refine h h' tk _ t (kept_tup hk) ?_ fun a ha => ?_
  · rw [numAt_eq]; exact PySem.getD_mem (by rw [List.length_map, Array.length_toList]; omega)
  · obtain ⟨j, hj, rfl⟩ := mem_getD ha
    rw [List.length_map, Array.length_toList] at hj; rw [← numAt_eq]
    exact h2 j (by omega)
end
section
variable {X : Cx} {e : Expr} {es : List Expr} {pos : Pos}
def rSumT (K : PySem.W.Frag) : List V → Hp → VK → Prop := fun vs H Q => ∃ (a : Addr) (ns : List Int), vs = [V.ref a] ∧ SqT K H a (ns.map V.int) ∧ Q (.int ns.sum) H
def rMinT (K : PySem.W.Frag) : List V → Hp → VK → Prop := fun vs H Q => ∃ (a : Addr) (ns : List Int), vs = [V.ref a] ∧ SqT K H a (ns.map V.int) ∧ 0 < ns.length ∧ ∀ m, m ∈ ns → (∀ y, y ∈ ns → m ≤ y) → Q (.int m) H
theorem cr_sumT (hc : X.calm = true) : CallR X (.builtin "sum") (rSumT X.K) := by
  intro pins s σ H vs us Q I r ⟨a, ns, ev, hs, q⟩
  subst ev
  obtain ⟨its, rv, hl, _⟩ := I.tuple hs
  rw [Vals.ref1 r]
  exact sum_tup (I.ok.hd hc) hl rv.ints fun h' tk t' hk => ⟨.int _, H, I.kept hk, ⟨_, rfl⟩, q⟩
theorem cr_minT (hc : X.calm = true) : CallR X (.builtin "min") (rMinT X.K) := by
  intro pins s σ H vs us Q I r ⟨a, ns, ev, hs, hne, q⟩
  subst ev
  obtain ⟨its, rv, hl, _⟩ := I.tuple hs
  rw [Vals.ref1 r]
  exact min_tup (I.ok.hd hc) hl rv.ints hne fun h' tk m t' hk h1 h2 => ⟨.int _, H, I.kept hk, ⟨_, rfl⟩, q m h1 h2⟩
def sumTD : FL := fun xs G Q => ∃ ns : List Int, xs = [.tup (ns.map .int)] ∧ Q (.int ns.sum) G
def minTD : FL := fun xs G Q => ∃ ns : List Int, xs = [.tup (ns.map .int)] ∧ 0 < ns.length ∧ ∀ m, m ∈ ns → (∀ y, y ∈ ns → m ≤ y) → Q (.int m) G
theorem tupI_ok {K : PySem.W.Frag} {H : Hp} {ns : List Int} {xs : List V} (r : RDs K H [.tup (ns.map D.int)] xs) : ∃ a, xs = [V.ref a] ∧ SqT K H a (ns.map V.int) := by
  obtain ⟨v, vs', rfl, r1, r2⟩ := r.cons_inv
  cases r2.nil_inv
  cases r1 with
  | tup hs hl hi =>
    have := RDs.int_inv ⟨hl, hi⟩
    subst this
    exact ⟨_, rfl, hs.t⟩
theorem de_sumT {p : Pos} {t : DA} (hc : X.calm = true) (hg : Gl X "sum") (hm : X.mg "sum" = none) (ha : DPA X (e :: es) t) (h1 : starEach (e :: es) X.env = (false, eval e X.env) :: starEach es X.env := by rfl) (h2 : ((backTo pos (starEach es X.env)).any fun x => x.fst) = false := by rfl) :
    DPE X (.Call (.Name "sum" p) (e :: es) [] pos) (dCB sumTD t) := de_callB (cr_sumT hc) (fun xs G Q Q' h ⟨ns, e, q⟩ => ⟨ns, e, h _ _ q⟩)
  (fun H G xs ds Q m r ⟨ns, e, q⟩ => by
    subst e
    obtain ⟨a, rfl, hs⟩ := tupI_ok r
    exact ⟨a, ns, rfl, hs, q _ _ m (.int _) .refl⟩) hg hm (by decide +kernel) ha (by decide) (by decide) h1 h2
theorem de_minT {p : Pos} {t : DA} (hc : X.calm = true) (hg : Gl X "min") (hm : X.mg "min" = none) (ha : DPA X (e :: es) t) (h1 : starEach (e :: es) X.env = (false, eval e X.env) :: starEach es X.env := by rfl) (h2 : ((backTo pos (starEach es X.env)).any fun x => x.fst) = false := by rfl) :
    DPE X (.Call (.Name "min" p) (e :: es) [] pos) (dCB minTD t) := de_callB (cr_minT hc) (fun xs G Q Q' h ⟨ns, e, l, q⟩ => ⟨ns, e, l, fun m a b => h _ _ (q m a b)⟩)
  (fun H G xs ds Q m r ⟨ns, e, l, q⟩ => by
    subst e
    obtain ⟨a, rfl, hs⟩ := tupI_ok r
    exact ⟨a, ns, rfl, hs, l, fun k h1 h2 => q k h1 h2 _ _ m (.int _) .refl⟩) hg hm (by decide +kernel) ha (by decide) (by decide) h1 h2
theorem s_sumT {ns : List Int} {G : DG} {Q : DK} (h : Q (.int ns.sum) G) : sumTD [.tup (ns.map .int)] G Q := ⟨ns, rfl, h⟩
theorem s_minT {ns : List Int} {G : DG} {Q : DK} (l : 0 < ns.length) (h : ∀ m, m ∈ ns → (∀ y, y ∈ ns → m ≤ y) → Q (.int m) G) : minTD [.tup (ns.map .int)] G Q := ⟨ns, rfl, l, h⟩
theorem encN_int (ns : List Nat) : ns.map encN = (ns.map fun n : Nat => (n : Int)).map D.int := by rw [List.map_map]; rfl
end
end FD

namespace FD
/-! ### sorted(dict), its keys texts -/
section
open PySem PySem.W PyProof.Rows
def srtT (ks : List Str) : List Str := ks.mergeSort (dataLe false PyData.str)
theorem le_anti {x y : Str} (h1 : dataLe false PyData.str x y = true) (h2 : dataLe false PyData.str y x = true) : x = y := by
  have z1 : (listOrd itemOrd).blt (keyToks (.str y)) (keyToks (.str x)) = false := by simpa [dataLe, sortLe] using h1
  have z2 : (listOrd itemOrd).blt (keyToks (.str x)) (keyToks (.str y)) = false := by simpa [dataLe, sortLe] using h2
  have e := (listOrd itemOrd).total _ _ z2 z1
  simp only [keyToks, List.cons.injEq, Sum.inr.injEq, and_true] at e
  obtain ⟨⟨a⟩⟩ := x
  obtain ⟨⟨b⟩⟩ := y
  simp only at e
  rw [e]
theorem le_tot : TotalLe (dataLe false PyData.str) := sortLe_total _ _ _
theorem srtT_perm (ks : List Str) : (srtT ks).Perm ks := List.mergeSort_perm _ _
theorem srtT_sorted (ks : List Str) : (srtT ks).Pairwise fun a b => dataLe false PyData.str a b = true := sort_pairwise le_tot ks
theorem srtT_eq {ks ls : List Str} (h : ks.Perm ls) : srtT ks = srtT ls :=
  ((srtT_perm ks).trans (h.trans (srtT_perm ls).symm)).eq_of_pairwise (fun a b _ _ h1 h2 => le_anti h1 h2) (srtT_sorted ks) (srtT_sorted ls)
variable {prog : Program} {w : World} {A : Around} {E : Value → Shared → Prop} {s : Shared}
theorem sorted_srcT {T : String} {r d : Addr} {P : Nat → Value → Prop} {OK : Heap → Prop} {ks : List Str} {n : Nat} {Q : Value → Shared → Prop} (en : n = ks.length) (K : KdlSrc prog w T r d n P OK) (hh : A.handled = none) (hok : OK s.heap) (hn : ks.length ≤ sizeLine) (hu : A.units + 64 < cLine) (hp : ∀ i v, P i v → ∃ k t, ks[i]? = some k ∧ v = .str k t)
    (h : ∀ (h' : Heap) (tk : Nat) (D : Addr) (out : List Value), EachIs (fun v k => ∃ t, v = Value.str k t) out (srtT ks) → (∀ b o, s.heap.get? b = some o → h'.get? b = some o) → s.heap.objs.size ≤ D → (∃ m, h'.get? D = some (seqObj "list" out.toArray m)) → Q (.ref D) { s with heap := h', toks := tk }) :
    wpAny (model prog w) A (call (.builtin "sorted") [.ref r]) Q E s := by
  apply Calls.call_function_entry kind_sorted plain_sorted entry_sorted (args_sorted1 _)
  unfold Builtin.«sorted»
  apply wpAny_bind (m := checkCount "sorted" 1 1 _)
  apply wpAny_pure
  apply wpAny_bind
  refine gather_src (A := A.in1) K hh hok (en ▸ hn) fun h1 tk acc hk grown hacc => ?_
  have hl : acc.toList.length = ks.length := by rw [Array.length_toList, ← en]; exact hacc.1
  have hP : ∀ (j : Nat) v, acc.toList[j]? = some v → P j v := fun j v e => hacc.2 j v (by rw [← Array.getElem?_toList]; exact e)
  generalize acc.toList = vs at hl hP
  have le : s.heap.objs.size ≤ h1.objs.size := by omega
  have each : ∀ (vs : List Value) (ks : List Str), vs.length = ks.length → (∀ (j : Nat) v, vs[j]? = some v → ∃ k t, ks[j]? = some k ∧ v = .str k t) → EachIs (fun v k => ∃ t, v = Value.str k t) vs ks := by
    intro vs
    induction vs with
    | nil => intro ks hl _; cases ks with | nil => exact .nil | cons _ _ => simp at hl
    | cons v vs ih =>
      intro ks hl hh
      cases ks with
      | nil => simp at hl
      | cons k ks =>
        obtain ⟨k', t, e1, e2⟩ := hh 0 v rfl
        simp at e1
        subst e1
        exact .cons ⟨t, e2⟩ (ih ks (by simpa using hl) fun j v e => hh (j + 1) v (by simpa using e))
  have ev := each vs ks hl fun j v e => hp j v (hP j v e)
  apply wpAny_bind
  refine wpAny_newList ?_ (by rw [hl]; exact hn)
  have here : (h1.push (seqObj "list" vs.toArray 0)).get? h1.objs.size = some (seqObj "list" vs.toArray 0) := Heap.get?_push_size _ rfl
  have keep : ∀ b o, s.heap.get? b = some o → b ≠ h1.objs.size ∧ (h1.push (seqObj "list" vs.toArray 0)).get? b = some o := fun b o e => ⟨Nat.ne_of_lt (Heap.lt_size (hk b o e)), Heap.get?_push_of_some _ (hk b o e)⟩
  change wpAny _ _ _ _ _ { s with heap := h1.push (seqObj "list" vs.toArray 0), toks := tk }
  apply wpAny_bind
  apply wpAny_holding
  refine list_sort_data (bs := ks) (enc := PyData.str) (R := fun v k => ∃ t, v = Value.str k t) here ev (ev.mono fun v k ⟨t, e⟩ => ⟨[], by rw [e]; exact .str _ _, by simp⟩) (fun d hd d' hd' => ?_) (.inr fun d hd => ?_) hn (fun k _ => ?_) fun out ho eo => ?_
  · obtain ⟨k, _, rfl⟩ := List.mem_map.mp hd
    obtain ⟨k', _, rfl⟩ := List.mem_map.mp hd'
    rfl
  · obtain ⟨k, _, rfl⟩ := List.mem_map.mp hd
    exact ⟨by simp, by simp⟩
  · show A.units + 1 + 1 + (PyData.str k).depth < cLine
    simp only [PyData.depth]
    omega
  · refine wpAny_pure ⟨_, rfl, ?_⟩
    refine h _ tk h1.objs.size out eo (fun b o e => ?_) le (sortedHeap_at here)
    rw [sortedHeap_old (keep b o e).1 (Heap.lt_size (keep b o e).2)]
    exact (keep b o e).2
end
open PySem L2
section
variable {X : Cx} {e : Expr} {es : List Expr} {pos : Pos}
theorem pairs_get {prog : Program} {w : World} {κ : Type} [DecidableEq κ] {knd : PySem.KeyKind prog w κ} {es : List DictEntry} {kvs : List (κ × Value)} (h : Pairs knd es kvs) : ∀ {i : Nat} {e : DictEntry}, es[i]? = some e → ∃ kv, kvs[i]? = some kv ∧ knd.is kv.1 e.key = true := by
  induction h with
  | nil => intro i e h; simp at h
  | cons h1 h2 _ ih =>
    intro i e h
    cases i with
    | zero =>
      simp at h
      subst h
      exact ⟨_, rfl, h1⟩
    | succ i => exact ih (by simpa using h)
def sortedKTD : FL := fun xs G Q => ∃ (a : Addr) (kks : List (Key × D)) (ks : List Str), xs = [.ref a] ∧ G a = some (.dK kks) ∧ kks.map (·.1) = ks.map Sum.inr ∧ ∀ p, G p = none → Q (.ref p) (up G p (.lst ((srtT ks).map D.str)))
theorem cr_sortedKT (hc : X.calm = true) (hu : X.A.units + 64 < cLine) : CallR X (.builtin "sorted") (rLD X.K sortedKTD) := by
  intro pins s σ H xs us Q I r ⟨G, ds, m, rd, a, kks, ks, e, hG, hkk, q⟩
  subst e
  obtain ⟨v, vs', rfl, r1, r2⟩ := rd.cons_inv
  cases r2.nil_inv
  cases r1
  obtain ⟨u, rfl, ru⟩ := vals1 r
  cases (show u = Value.ref a from ru)
  obtain ⟨kvs', e1, e2, e3⟩ := m a _ hG
  obtain ⟨hz, hsys, vs, kv, o, es, ep, h1, h2, h3, h4, h5, h6⟩ := dk_rd I.hok (.inl e1)
  have hl1 := Paired.length kv
  have hl2 : es.toList.length = vs.length := h5.length
  have hl3 : kvs'.length = ks.length := by
    have z1 := congrArg List.length e2
    have z2 := congrArg List.length hkk
    simp at z1 z2
    omega
  have hes : es.size = ks.length := by
    have := Array.length_toList (xs := es)
    omega
  have K := PySem.KdlSrc.rawDict (prog := X.prog) (w := X.w) (d := a) (es := es) (ep := ep) hsys
  refine sorted_srcT (ks := ks) hes K (I.ok.hd hc) ⟨o, h1, h2, h3⟩ (by omega) hu (fun i v ⟨hi, hv⟩ => ?_) fun h' tk d out eo kp hd hn => ?_
  · have ei : es.toList[i]? = some es[i] := by rw [Array.getElem?_toList]; exact Array.getElem?_eq_getElem hi
    obtain ⟨kv1, e5, e6⟩ := pairs_get h5 ei
    have hi2 : i < kvs'.length := by omega
    have e7 := paired_get kv i _ kv1 (List.getElem?_eq_getElem hi2) e5
    have e8 : (kvs'.map (·.1))[i]? = (ks.map Sum.inr)[i]? := by rw [e2, hkk]
    rw [List.getElem?_map, List.getElem?_map, List.getElem?_eq_getElem hi2, List.getElem?_eq_getElem (show i < ks.length by omega)] at e8
    simp only [Option.map_some, Option.some.injEq] at e8
    rw [← e7.1, e8] at e6
    rcases keyIs_shape (k := Sum.inr (ks[i]'(by omega))) (v := es[i].key) e6 with ⟨_, _, z, _⟩ | ⟨x, t, z1, z2⟩
    · cases z
    · cases z1
      exact ⟨_, t, List.getElem?_eq_getElem _, hv.trans z2⟩
  · obtain ⟨n, hn⟩ := hn
    have hfr := I.hok.fresh hd
    have kk : KT X.K H (L2.upd H d (.lst ((srtT ks).map V.str))) := .upd_new hfr
    have hv : Vals ((srtT ks).map V.str) out := by
      clear hn
      generalize srtT ks = l at eo
      induction eo with
      | nil => exact .nil
      | cons h1 _ ih => exact .cons h1 ih
    refine ⟨.ref d, L2.upd H d (.lst ((srtT ks).map V.str)), I.laid kp hd ⟨?_, out, n, hv, hn⟩, rfl, q d (m.fresh hfr) _ _ (m.upd kk ⟨_, upd_same, (RDs.of_str _).kt kk⟩) (.ref d) kk⟩
    rw [List.length_map, (srtT_perm ks).length_eq]
    omega
theorem sortedKTD_mono : MonoFL sortedKTD := fun xs G Q Q' h ⟨a, kvs, ps, e, s, z, q⟩ => ⟨a, kvs, ps, e, s, z, fun p h1 => h _ _ (q p h1)⟩
theorem de_sortedKT {p : Pos} {t : DA} (hc : X.calm = true) (hu : X.A.units + 64 < cLine) (hg : Gl X "sorted") (hm : X.mg "sorted" = none) (ha : DPA X (e :: es) t) (h1 : starEach (e :: es) X.env = (false, eval e X.env) :: starEach es X.env := by rfl) (h2 : ((backTo pos (starEach es X.env)).any fun x => x.fst) = false := by rfl) :
    DPE X (.Call (.Name "sorted" p) (e :: es) [] pos) (dCB sortedKTD t) := de_callB (cr_sortedKT hc hu) sortedKTD_mono rLD_sim hg hm PyProof.Rows.Boot.«sorted» ha (by decide) (by decide) h1 h2
theorem s_sortKT {G : DG} {Q : DK} {a : Addr} {kks : List (Key × D)} {ks : List Str} (e : G a = some (.dK kks)) (e2 : kks.map (·.1) = ks.map Sum.inr) (h : ∀ p, G p = none → Q (.ref p) (up G p (.lst ((srtT ks).map D.str)))) : sortedKTD [.ref a] G Q := ⟨a, kks, ks, rfl, e, e2, h⟩
end
end FD

namespace FD
open PySem L2
/-! ### text.count(text) -/
section
variable {X : Cx} {e : Expr} {es : List Expr} {pos : Pos}
def isSt (x : D) (_ : DG) : Prop := ∃ a, x = .str a
theorem st_ok : TyOk X "str" (fun x _ => ∃ a, x = V.str a) := fun pins σ H s x v I r h => by
  obtain ⟨a, rfl⟩ := h
  obtain ⟨t, rfl⟩ := r
  exact ⟨typeIs_str _ _ _, fun _ e => nomatch e⟩
def countSD : FM := fun x xs G Q => ∃ a b, x = .str a ∧ xs = [.str b] ∧ Q (.int (Txt.count a b)) G
theorem de_countS {o : Expr} {apos : Pos} {to : DE} {t : DA} (ho : DPE X o to) (ha : DPA X (e :: es) t)
    (hbase : attributeBase o "count" X.env (eval o X.env) = eval o X.env := by rfl)
    (hfew : ((backTo pos (starEach (e :: es) X.env)).all (fun x => !x.1) && (backToKw pos (keywordEach [] X.env)).all (fun x => x.1.isSome)
      && decide ((e :: es).length + ([] : List Keyword).length + (if ([] : List Keyword).isEmpty then 0 else 1) < 30)) = true := by rfl)
    (hline : (apos.endLine == pos.line) = true := by rfl) (h1 : starEach (e :: es) X.env = (false, eval e X.env) :: starEach es X.env := by rfl) (hplain : (backTo pos (starEach es X.env)).any (·.1) = false := by rfl) :
    DPE X (.Call (.Attribute o "count" apos) (e :: es) [] pos) (dMx isSt countSD to t) := de_mx st_ok (fun H G d x m r h => by
    obtain ⟨a, rfl⟩ := h
    cases r
    exact ⟨_, rfl⟩) PySem.F.plainAttrs_str PySem.F.slot_str_count PySem.F.type_str_count mt_count
  (fun x xs G Q Q' h ⟨a, b, e1, e2, q⟩ => ⟨a, b, e1, e2, h _ _ q⟩)
  (fun H G x xs dx dxs Q m rx rs h => by
    obtain ⟨a, b, rfl, rfl, q⟩ := h
    obtain ⟨v, vs', rfl, r1, r2⟩ := rs.cons_inv
    have e := r2.nil_inv
    subst e
    cases rx
    cases r1
    exact ⟨a, b, rfl, rfl, q (.int _) H m (.int _) .refl⟩) ho ha hbase hfew hline h1 hplain
theorem s_countS {G : DG} {Q : DK} {a b : Str} (h : Q (.int (Txt.count a b)) G) : countSD (.str a) [.str b] G Q := ⟨a, b, rfl, rfl, h⟩
theorem s_isSt {G : DG} {a : Str} {P : Prop} (h : P) : isSt (.str a) G ∧ P := ⟨⟨a, rfl⟩, h⟩
end
/-! ### shown texts of low codes -/
section
open PyProof.Rows
def Lw (d : PyData) : Prop := ∀ k, 116 < k → k ∉ d.shown.cps.toList
theorem lw_int (i : Int) : Lw (.int i) := fun k hk => shown_int_free' ⟨by omega, .inr (by omega)⟩ i
theorem lw_none : Lw .none := fun k hk => by
  rw [PyData.shown_none]
  have e : (("None" : String) : Str).cps.toList = [78, 111, 110, 101] := by decide
  rw [e]
  intro hm
  simp only [List.mem_cons, List.not_mem_nil, or_false] at hm
  omega
theorem lw_lost : Lw (.str "lost") := fun k hk => by
  have e : (PyData.str (Str.ofString "lost")).shown.cps.toList = [39, 108, 111, 115, 116, 39] := by decide +kernel
  rw [e]
  intro hm
  simp only [List.mem_cons, List.not_mem_nil, or_false] at hm
  omega
theorem cnt_list {k : Nat} (hk : 116 < k) (xs : List PyData) : cnt k (PyData.list xs).shown.cps.toList = (xs.map fun d => cnt k d.shown.cps.toList).sum := by
  rw [PyData.shown_list, cps_toList_append, cps_toList_append, cnt_append, cnt_append, cnt_join_sum, signs_sep, signs_lbrack, signs_rbrack,
    cnt_none k [91] (by simp; omega), cnt_none k [93] (by simp; omega), cnt_none k [44, 32] (by simp; omega), shownAll_eq_map, List.map_map]
  simp [Function.comp_def]
theorem cnt_pair {k : Nat} (hk : 116 < k) (x y : PyData) : cnt k (PyData.tuple [x, y]).shown.cps.toList = cnt k x.shown.cps.toList + cnt k y.shown.cps.toList := by
  rw [PyData.shown_tuple, cps_toList_append, cps_toList_append, cnt_append, cnt_append, cnt_join_sum, signs_sep, signs_lparen, signs_tuple_end,
    cnt_none k [40] (by simp; omega), cnt_none k [44, 32] (by simp; omega), if_neg (by simp), cnt_none k [41] (by simp; omega), shownAll_eq_map, List.map_map]
  simp [Function.comp_def]
theorem lw_list {xs : List PyData} (h : ∀ x ∈ xs, Lw x) : Lw (.list xs) := fun k hk => by
  rw [PyData.shown_list, mem_cps_append, mem_cps_append, mem_join, signs_sep, signs_lbrack, signs_rbrack]
  rintro ((z | ⟨t, ht, z⟩ | ⟨_, z⟩) | z)
  · simp at z
    omega
  · exact shownAll_free (fun x hx => h x hx k hk) t ht z
  · simp at z
    omega
  · simp at z
    omega
theorem lw_pair {x y : PyData} (hx : Lw x) (hy : Lw y) : Lw (.tuple [x, y]) := fun k hk => by
  rw [PyData.shown_tuple, mem_cps_append, mem_cps_append, mem_join, signs_sep, signs_lparen, signs_tuple_end, if_neg (by simp)]
  rintro ((z | ⟨t, ht, z⟩ | ⟨_, z⟩) | z)
  · simp at z
    omega
  · refine shownAll_free (xs := [x, y]) (fun d hd => ?_) t ht z
    simp only [List.mem_cons, List.not_mem_nil, or_false] at hd
    rcases hd with rfl | rfl
    · exact hx k hk
    · exact hy k hk
  · simp at z
    omega
  · simp at z
    omega
theorem Lw.cnt0 {d : PyData} (h : Lw d) {k : Nat} (hk : 116 < k) : cnt k d.shown.cps.toList = 0 := cnt_none _ _ (h k hk)
theorem Lw.ok {d : PyData} (h : Lw d) : PyData.strOk d.shown = true := by
  unfold PyData.strOk
  rw [← Array.all_toList, List.all_eq_true]
  intro c hc
  rw [decide_eq_true_eq]
  rcases Nat.lt_or_ge c 1114112 with z | z
  · exact z
  · exact absurd hc (h c (by omega))
theorem cnt_sum0 {xs : List PyData} {k : Nat} (h : ∀ x ∈ xs, cnt k x.shown.cps.toList = 0) : (xs.map fun d => cnt k d.shown.cps.toList).sum = 0 := by
  induction xs with
  | nil => rfl
  | cons x xs ih => rw [List.map_cons, List.sum_cons, h x (by simp), ih fun y hy => h y (List.mem_cons_of_mem _ hy)]; rfl
theorem sum_snoc (l : List Int) (x : Int) : (l ++ [x]).sum = l.sum + x := by simp
end
/-! ### lists of texts -/
theorem pyD_strs {n : Nat} {G : DG} {p : Addr} {ts : List Str} (e : G p = some (.lst (ts.map D.str))) (h : ∀ t ∈ ts, PyData.strOk t = true) : pyD (n + 1) G (.ref p) = some (.list (ts.map PyData.str)) := pyD_ref e (pyAll_map fun x hx => by
  have := h x hx
  cases n <;> simp [pyD, this])
theorem eqvAll_strs : ∀ ts us : List Str, PyData.eqvAll (ts.map PyData.str) (us.map PyData.str) = decide (ts = us)
  | [], [] => by simp [PyData.eqvAll]
  | [], _ :: _ => by simp [PyData.eqvAll]
  | _ :: _, [] => by simp [PyData.eqvAll]
  | x :: xs, y :: ys => by
    rw [List.map_cons, List.map_cons, PyData.eqvAll, eqvAll_strs xs ys]
    by_cases e : x = y <;> by_cases e2 : xs = ys <;> simp [e, e2, PyData.eqv]
theorem s_neTx {G : DG} {Q : DK} {p q : Addr} {ts us : List Str} (e : G p = some (.lst (ts.map D.str))) (e2 : G q = some (.lst (us.map D.str))) (h1 : ∀ t ∈ ts, PyData.strOk t = true) (h2 : ∀ t ∈ us, PyData.strOk t = true) (k : Q (.bl (!decide (ts = us))) G) : neD (.ref p) (.ref q) G Q := by
  show py2 _ _ G _
  unfold py2
  rw [pyD_strs (n := 8) e h1, pyD_strs (n := 8) e2 h2]
  simp only [PyData.eqv, eqvAll_strs]
  exact k
end FD

namespace FD
open PySem L2
/-! ### list.reverse() -/
section
variable {X : Cx}
theorem RDs.rvs {K : PySem.W.Frag} {H : Hp} : ∀ {xs : List D} {vs : List V}, RDs K H xs vs → RDs K H xs.reverse vs.reverse
  | [], vs, r => by
    have e := r.nil_inv
    subst e
    exact .nil
  | x :: xs, vs, r => by
    obtain ⟨v, vs', rfl, r1, r2⟩ := r.cons_inv
    rw [List.reverse_cons, List.reverse_cons]
    exact r2.rvs.append (.cons r1 .nil)
def reverseD : FM := fun x xs G Q => match x, xs with
  | .ref p, [] => ∃ zs, G p = some (.lst zs) ∧ Q .non (up G p (.lst zs.reverse))
  | _, _ => False
theorem de_reverse {o : Expr} {apos pos : Pos} {to : DE} (ho : DPE X o to)
    (hbase : attributeBase o "reverse" X.env (eval o X.env) = eval o X.env := by rfl) (hline : (apos.endLine == pos.line) = true := by rfl) :
    DPE X (.Call (.Attribute o "reverse" apos) [] [] pos) (dMt reverseD to dNil) := de_mtL0 PySem.F.slot_list_reverse PySem.F.type_list_reverse mt_reverse
  (fun x xs G Q Q' h q => by
    unfold reverseD at q ⊢
    split at q
    · obtain ⟨zs, z1, z3⟩ := q
      exact ⟨zs, z1, h _ _ z3⟩
    · exact q)
  (fun H G x xs dx dxs Q m rx rs h => by
    unfold reverseD at h
    split at h
    · obtain ⟨zs, z1, z3⟩ := h
      cases rx
      have e := rs.nil_inv
      subst e
      obtain ⟨vs, g, r⟩ := m _ _ z1
      refine ⟨_, vs, rfl, rfl, g, ?_⟩
      exact z3 .non _ (m.upd (.upd_lst g) (.new_lst r.rvs (.upd_lst g))) .non (.upd_lst g)
    · exact False.elim h) ho hbase hline
theorem s_reverse {G : DG} {Q : DK} {p : Addr} {zs : List D} (e : G p = some (.lst zs)) (h : Q .non (up G p (.lst zs.reverse))) : reverseD (.ref p) [] G Q := ⟨zs, e, h⟩
end
end FD

namespace FD
open PySem L2
/-! ### texts: join, split, str(int), int(text), the signs of a text, one sign in a text -/
section
variable {X : Cx} {e a b : Expr} {es : List Expr} {pos : Pos} {ta tb : DE}
theorem rds_strs {K : PySem.W.Frag} {H : Hp} : ∀ ys : List Str, RDs K H (ys.map D.str) (ys.map V.str)
  | [] => .nil
  | y :: ys => .cons (.str y) (rds_strs ys)
theorem rds_strs_inv {K : PySem.W.Frag} {H : Hp} : ∀ {ys : List Str} {vs : List V}, RDs K H (ys.map D.str) vs → vs = ys.map V.str
  | [], vs, r => r.nil_inv
  | y :: ys, vs, r => by
    obtain ⟨v, vs', rfl, r1, r2⟩ := r.cons_inv
    cases r1
    rw [rds_strs_inv r2]
    rfl
def joinD : FM := fun x xs G Q => ∃ a p, ∃ ys : List Str, x = .str a ∧ xs = [.ref p] ∧ G p = some (.lst (ys.map D.str)) ∧ (ys.map (·.length)).sum + ys.length * a.length ≤ 16777216 ∧ Q (.str (Str.join a ys)) G
theorem de_join {o : Expr} {apos : Pos} {to : DE} {t : DA} (ho : DPE X o to) (ha : DPA X (e :: es) t)
    (hbase : attributeBase o "join" X.env (eval o X.env) = eval o X.env := by rfl)
    (hfew : ((backTo pos (starEach (e :: es) X.env)).all (fun x => !x.1) && (backToKw pos (keywordEach [] X.env)).all (fun x => x.1.isSome)
      && decide ((e :: es).length + ([] : List Keyword).length + (if ([] : List Keyword).isEmpty then 0 else 1) < 30)) = true := by rfl)
    (hline : (apos.endLine == pos.line) = true := by rfl) (h1 : starEach (e :: es) X.env = (false, eval e X.env) :: starEach es X.env := by rfl) (hplain : (backTo pos (starEach es X.env)).any (·.1) = false := by rfl) :
    DPE X (.Call (.Attribute o "join" apos) (e :: es) [] pos) (dMx isSt joinD to t) := de_mx st_ok (fun H G d x m r h => by
    obtain ⟨a, rfl⟩ := h
    cases r
    exact ⟨_, rfl⟩) PySem.F.plainAttrs_str PySem.F.slot_str_join PySem.F.type_str_join mt_join
  (fun x xs G Q Q' h ⟨a, p, ys, e1, e2, e3, e4, q⟩ => ⟨a, p, ys, e1, e2, e3, e4, h _ _ q⟩)
  (fun H G x xs dx dxs Q m rx rs h => by
    obtain ⟨a, p, ys, rfl, rfl, e3, e4, q⟩ := h
    obtain ⟨v, vs', rfl, r1, r2⟩ := rs.cons_inv
    have e := r2.nil_inv
    subst e
    cases rx
    cases r1
    obtain ⟨vs, g, r⟩ := m _ _ e3
    rw [rds_strs_inv r] at g
    exact ⟨a, p, ys, rfl, rfl, .inl (SqL.of g), e4, by rw [TL.join_eq]; exact q (.str _) H m (.str _) .refl⟩) ho ha hbase hfew hline h1 hplain
theorem s_join {G : DG} {Q : DK} {z : Str} {p : Addr} {ys : List Str} (e1 : G p = some (.lst (ys.map D.str))) (e2 : (ys.map (·.length)).sum + ys.length * z.length ≤ 16777216) (h : Q (.str (Str.join z ys)) G) : joinD (.str z) [.ref p] G Q := ⟨z, p, ys, rfl, rfl, e1, e2, h⟩
def splitD : FM := fun x xs G Q => ∃ a b, x = .str a ∧ xs = [.str b] ∧ (b.length == 0) = false ∧ a.length + 2 ≤ sizeLine ∧ ∀ p, G p = none → Q (.ref p) (up G p (.lst ((Txt.split a b).map D.str)))
theorem de_split {o : Expr} {apos : Pos} {to : DE} {t : DA} (ho : DPE X o to) (ha : DPA X (e :: es) t)
    (hbase : attributeBase o "split" X.env (eval o X.env) = eval o X.env := by rfl)
    (hfew : ((backTo pos (starEach (e :: es) X.env)).all (fun x => !x.1) && (backToKw pos (keywordEach [] X.env)).all (fun x => x.1.isSome)
      && decide ((e :: es).length + ([] : List Keyword).length + (if ([] : List Keyword).isEmpty then 0 else 1) < 30)) = true := by rfl)
    (hline : (apos.endLine == pos.line) = true := by rfl) (h1 : starEach (e :: es) X.env = (false, eval e X.env) :: starEach es X.env := by rfl) (hplain : (backTo pos (starEach es X.env)).any (·.1) = false := by rfl) :
    DPE X (.Call (.Attribute o "split" apos) (e :: es) [] pos) (dMx isSt splitD to t) := de_mx st_ok (fun H G d x m r h => by
    obtain ⟨a, rfl⟩ := h
    cases r
    exact ⟨_, rfl⟩) PySem.F.plainAttrs_str PySem.F.slot_str_split PySem.F.type_str_split mt_split
  (fun x xs G Q Q' h ⟨a, b, e1, e2, e3, e4, q⟩ => ⟨a, b, e1, e2, e3, e4, fun p hp => h _ _ (q p hp)⟩)
  (fun H G x xs dx dxs Q m rx rs h => by
    obtain ⟨a, b, rfl, rfl, e3, e4, q⟩ := h
    obtain ⟨v, vs', rfl, r1, r2⟩ := rs.cons_inv
    have e := r2.nil_inv
    subst e
    cases rx
    cases r1
    exact ⟨a, b, rfl, rfl, e3, e4, fun p hp => q p (m.fresh hp) (.ref p) _ (m.upd (.upd_new hp) (.new_lst (rds_strs _) (.upd_new hp))) (.ref p) (.upd_new hp)⟩) ho ha hbase hfew hline h1 hplain
theorem s_split {G : DG} {Q : DK} {x y : Str} (e1 : (y.length == 0) = false) (e2 : x.length + 2 ≤ sizeLine) (h : ∀ p, G p = none → Q (.ref p) (up G p (.lst ((Txt.split x y).map D.str)))) : splitD (.str x) [.str y] G Q := ⟨x, y, rfl, rfl, e1, e2, h⟩
theorem call_strIS : CallR X (.type "str") (fun xs H Q => (∃ i, xs = [.int i] ∧ i.natAbs.log2 < 1920 ∧ Q (.str (toString i)) H) ∨ ∃ a, xs = [.str a] ∧ Q (.str a) H) := by
  intro pins s σ H xs us Q I r h
  rcases h with h | h
  · exact call_str_int pins s σ H xs us Q I r h
  · exact SkE.call_str_str pins s σ H xs us Q I r h
def strD : FL := fun xs G Q => (∃ i, xs = [.int i] ∧ i.natAbs.log2 < 1920 ∧ Q (.str (toString i)) G) ∨ ∃ a, xs = [.str a] ∧ Q (.str a) G
theorem de_strI {p : Pos} {t : DA} (hg : Gl X "str") (hm : X.mg "str" = none) (ha : DPA X (e :: es) t) (h1 : starEach (e :: es) X.env = (false, eval e X.env) :: starEach es X.env := by rfl) (h2 : ((backTo pos (starEach es X.env)).any fun x => x.fst) = false := by rfl) :
    DPE X (.Call (.Name "str" p) (e :: es) [] pos) (dCB strD t) := de_callTy call_strIS
  (fun xs G Q Q' h q => q.imp (fun ⟨i, e1, e2, q⟩ => ⟨i, e1, e2, h _ _ q⟩) fun ⟨i, e1, q⟩ => ⟨i, e1, h _ _ q⟩)
  (fun H G xs ds Q m r h => by
    rcases h with ⟨i, rfl, e2, q⟩ | ⟨i, rfl, q⟩
    · obtain ⟨v, vs', rfl, r1, r2⟩ := r.cons_inv
      have e := r2.nil_inv
      subst e
      cases r1
      exact .inl ⟨i, rfl, e2, q (.str _) H m (.str _) .refl⟩
    · obtain ⟨v, vs', rfl, r1, r2⟩ := r.cons_inv
      have e := r2.nil_inv
      subst e
      cases r1
      exact .inr ⟨i, rfl, q (.str _) H m (.str _) .refl⟩) hg hm (by decide +kernel) ha (by decide) (by decide) h1 h2
theorem s_strI {G : DG} {Q : DK} {i : Int} (e : i.natAbs.log2 < 1920) (h : Q (.str (toString i)) G) : strD [.int i] G Q := .inl ⟨i, rfl, e, h⟩
theorem s_strS {G : DG} {Q : DK} {z : Str} (h : Q (.str z) G) : strD [.str z] G Q := .inr ⟨z, rfl, h⟩
def intTD : FL := fun xs G Q => ∃ a n, xs = [.str a] ∧ PySem.intText? a = some n ∧ a.length ≤ 640 ∧ Q (.int n) G
theorem de_intT {p : Pos} {t : DA} (hg : Gl X "int") (hm : X.mg "int" = none) (ha : DPA X (e :: es) t) (h1 : starEach (e :: es) X.env = (false, eval e X.env) :: starEach es X.env := by rfl) (h2 : ((backTo pos (starEach es X.env)).any fun x => x.fst) = false := by rfl) :
    DPE X (.Call (.Name "int" p) (e :: es) [] pos) (dCB intTD t) := de_callTy call_int_str
  (fun xs G Q Q' h ⟨i, n, e1, e2, e3, q⟩ => ⟨i, n, e1, e2, e3, h _ _ q⟩)
  (fun H G xs ds Q m r h => by
    obtain ⟨i, n, rfl, e2, e3, q⟩ := h
    obtain ⟨v, vs', rfl, r1, r2⟩ := r.cons_inv
    have e := r2.nil_inv
    subst e
    cases r1
    exact ⟨i, n, rfl, e2, e3, q (.int _) H m (.int _) .refl⟩) hg hm (by decide +kernel) ha (by decide) (by decide) h1 h2
theorem s_intT {G : DG} {Q : DK} {x : Str} {n : Int} (e : PySem.intText? x = some n) (e2 : x.length ≤ 640) (h : Q (.int n) G) : intTD [.str x] G Q := ⟨x, n, rfl, e, e2, h⟩
/-- the signs of a text -/
def signs (x : Str) : List D := x.cps.toList.map fun c => .str ⟨#[c]⟩
def diTxt (t : DE) : DI := fun σ G R => t σ G fun x G1 => ∃ z, x = .str z ∧ R (signs z) (fun _ => True) G1
theorem di_txt {tg l : Expr} (ha : DPE X l ta) : DPI X tg l (diTxt ta) := by
  obtain ⟨ma, tta, pa, ra⟩ := ha
  refine ⟨fun σ G R R' h q => ma σ G _ _ (fun x G1 ⟨z, e, q1⟩ => ⟨z, e, h _ _ _ q1⟩) q, _, pi_str pa, fun σ H σd G R m s h => ra σ H σd G _ m s (ma _ _ _ _ (fun d G1 ⟨z, e, q1⟩ v H1 m1 r1 k1 => ?_) h)⟩
  subst e
  cases r1
  refine ⟨z, rfl, q1 _ H1 m1 k1 fun i H' G' k m' _ => ⟨fun d hd => ?_, fun hl => ?_⟩⟩
  · unfold signs at hd
    rw [List.getElem?_map] at hd
    obtain ⟨c, hc, rfl⟩ := Option.map_eq_some_iff.mp hd
    rw [Array.getElem?_toList] at hc
    have hi : i < z.cps.size := (Array.getElem?_eq_some_iff.mp hc).1
    refine ⟨hi, fun x H'' y => ?_⟩
    obtain ⟨rfl, c', h1, rfl⟩ := y
    rw [hc] at h1
    cases h1
    exact ⟨m', .refl, .str _⟩
  · unfold signs at hl
    rw [List.length_map, Array.length_toList] at hl
    exact hl
theorem s_diTxt {te : DE} {σ : DSt} {G : DG} {R : List D → (DG → Prop) → DG → Prop} (h : te σ G fun x G1 => ∃ z, x = .str z ∧ R (signs z) (fun _ => True) G1) : diTxt te σ G R := h
theorem s_diTxtV {z : Str} {G : DG} {R : List D → (DG → Prop) → DG → Prop} (h : R (signs z) (fun _ => True) G) : ∃ z', D.str z = .str z' ∧ R (signs z') (fun _ => True) G := ⟨z, rfl, h⟩
def inSD : F2 := fun x y G Q => ∃ (c : Nat) (z : Str), x = .str ⟨#[c]⟩ ∧ y = .str z ∧ Q (.bl (decide (c ∈ z.cps.toList))) G
theorem inSD_mono : MonoF2 inSD := fun x y G Q Q' h ⟨c, z, e1, e2, q⟩ => ⟨c, z, e1, e2, h _ _ q⟩
theorem inSD_sim {K : PySem.W.Frag} : Sim2 K (fun x y H Q => ∃ (c : Nat) (z : Str), x = .str ⟨#[c]⟩ ∧ y = .str z ∧ Q (.bl (decide (c ∈ z.cps.toList))) H) inSD := fun H G x y dx dy Q m rx ry h => by
  obtain ⟨c, z, rfl, rfl, q⟩ := h
  cases rx
  cases ry
  exact ⟨c, z, rfl, rfl, q (.bl _) H m (.bl _) .refl⟩
theorem de_inS (ha : DPE X a ta) (hb : DPE X b tb) (hk : behindInMarks .In b = false := by rfl) : DPE X (.Compare a [.In] [b] pos) (dOp inSD ta tb) := de_cmpR op_in_sign inSD_mono inSD_sim ha hb hk
theorem dt_inS (ha : DPE X a ta) (hb : DPE X b tb) (hk : behindInMarks .In b = false := by rfl) : DPT X (.Compare a [.In] [b] pos) (dTest (dOp inSD ta tb)) := dt_cmpR op_in_sign inSD_mono inSD_sim ha hb hk
theorem s_inS {G : DG} {Q : DK} {c : Nat} {z : Str} (h : Q (.bl (decide (c ∈ z.cps.toList))) G) : inSD (.str ⟨#[c]⟩) (.str z) G Q := ⟨c, z, rfl, rfl, h⟩
end
end FD

namespace FD
open PySem L2
/-! ### a text times an int, one sign not in a text, exceptions made as values -/
section
variable {X : Cx} {e a b o : Expr} {es : List Expr} {pos p p2 : Pos} {ta tb : DE} {E : DX} {n f m : Str} {k j : Nat} {t : DA}
def repS (x : Str) (n : Nat) : Str := ⟨((List.replicate n (TL.tl x)).flatten).toArray⟩
theorem tl_rep (x : Str) (n : Nat) : TL.tl (repS x n) = (List.replicate n (TL.tl x)).flatten := rfl
theorem foldl_repN (c : Array Nat) : ∀ (k : Nat) (acc : Array Nat), ((List.replicate k c).foldl (· ++ ·) acc).toList = acc.toList ++ (List.replicate k c.toList).flatten
  | 0, acc => by simp
  | k + 1, acc => by
    rw [List.replicate_succ, List.foldl_cons, foldl_repN c k, Array.toList_append, List.replicate_succ, List.flatten_cons, List.append_assoc]
theorem rep_len (x : Str) (n : Nat) : (repS x n).length = n * x.length := by
  rw [TL.len_tl, tl_rep, TL.len_tl]
  induction n with
  | zero => simp
  | succ n ih => rw [List.replicate_succ, List.flatten_cons, List.length_append, ih, Nat.succ_mul, Nat.add_comm]
def rMulS : R2 := fun x y H Q => ∃ (z : Str) (i : Int), x = .str z ∧ y = .int i ∧ 0 ≤ i ∧ i ≤ 1000000 ∧ z.length * i.toNat ≤ 16777216 ∧ Q (.str (repS z i.toNat)) H
theorem op_mulS : OpR X (binaryOp .Mult) rMulS := by
  intro pins s σ H x y v u Q I rx ry h
  obtain ⟨z, i, rfl, rfl, h0, h1, h2, q⟩ := h
  obtain ⟨k, rfl⟩ : ∃ k : Nat, i = (k : Int) := ⟨i.toNat, by omega⟩
  rw [Int.toNat_natCast] at h2 q
  obtain ⟨t, rfl⟩ := rx
  obtain ⟨t', rfl⟩ := ry
  have hsz : sizeLine = 16777216 := by decide
  refine PySem.P.mul_str (by rw [Bool.or_eq_false_iff]; exact ⟨decide_eq_false (by omega), decide_eq_false (by omega)⟩) (fun hi _ => ?_) (fun hi _ => ?_) ?_
  · have h3 : ((z.length : Nat) : Int) * (k : Int) ≤ 16777216 := by
      rw [← Int.natCast_mul]
      omega
    have : ((z.length : Nat) : Int) ≤ (2 ^ 63 - 1) / (k : Int) := by
      rw [Int.le_ediv_iff_mul_le (by omega)]
      omega
    omega
  · unfold Builtin.Str.tooLong
    rw [hsz, Int.toNat_natCast]
    exact decide_eq_false (by omega)
  · rw [Int.toNat_natCast]
    by_cases hi : ((k : Nat) : Int) < 1
    · rw [if_pos hi]
      obtain rfl : k = 0 := by omega
      exact ⟨by decide, .str (repS z 0), H, I.tok _, ⟨_, rfl⟩, q⟩
    · rw [if_neg hi]
      by_cases h4 : (((k : Nat) : Int) == 1 || z.length == 0) = true
      · rw [if_pos h4]
        refine ⟨.str (repS z k), H, I, ?_, q⟩
        have : repS z k = z := TL.ext_tl (by
          rw [tl_rep]
          rcases Bool.or_eq_true_iff.mp h4 with h5 | h5
          · have : k = 1 := by
              have := beq_iff_eq.mp h5
              omega
            subst this
            simp
          · have e0 : TL.tl z = [] := (TL.len0_tl z).mp (by simpa using h5)
            rw [e0]
            simp)
        rw [this]
        exact ⟨_, rfl⟩
      · rw [if_neg h4]
        have e : (⟨(List.replicate k z.cps).foldl (· ++ ·) #[]⟩ : Str) = repS z k := TL.ext_tl (by
          show ((List.replicate k z.cps).foldl (· ++ ·) #[]).toList = _
          rw [foldl_repN]
          simp [repS, TL.tl])
        rw [e]
        exact ⟨by rw [rep_len, hsz, Nat.mul_comm]; exact h2, .str (repS z k), H, I.tok _, ⟨_, rfl⟩, q⟩
def mulSD : F2 := fun x y G Q => ∃ (z : Str) (i : Int), x = .str z ∧ y = .int i ∧ 0 ≤ i ∧ i ≤ 1000000 ∧ z.length * i.toNat ≤ 16777216 ∧ Q (.str (repS z i.toNat)) G
theorem de_mulS (ha : DPE X a ta) (hb : DPE X b tb) : DPE X (.BinOp a .Mult b pos) (dOp mulSD ta tb) := de_op op_mulS
  (fun x y G Q Q' h ⟨z, i, e1, e2, e3, e4, e5, q⟩ => ⟨z, i, e1, e2, e3, e4, e5, h _ _ q⟩)
  (fun H G x y dx dy Q m rx ry h => by
    obtain ⟨z, i, rfl, rfl, e3, e4, e5, q⟩ := h
    cases rx
    cases ry
    exact ⟨z, i, rfl, rfl, e3, e4, e5, q (.str _) H m (.str _) .refl⟩) ha hb
theorem s_mulS {G : DG} {Q : DK} {z : Str} {i : Int} (h : (0 ≤ i ∧ i ≤ 1000000) ∧ z.length * i.toNat ≤ 16777216) (q : Q (.str (repS z i.toNat)) G) : mulSD (.str z) (.int i) G Q := ⟨z, i, rfl, rfl, h.1.1, h.1.2, h.2, q⟩
def ninSD : F2 := fun x y G Q => ∃ (c : Nat) (z : Str), x = .str ⟨#[c]⟩ ∧ y = .str z ∧ Q (.bl (!decide (c ∈ z.cps.toList))) G
theorem ninSD_mono : MonoF2 ninSD := fun x y G Q Q' h ⟨c, z, e1, e2, q⟩ => ⟨c, z, e1, e2, h _ _ q⟩
theorem ninSD_sim {K : PySem.W.Frag} : Sim2 K (fun x y H Q => ∃ (c : Nat) (z : Str), x = .str ⟨#[c]⟩ ∧ y = .str z ∧ Q (.bl (!decide (c ∈ z.cps.toList))) H) ninSD := fun H G x y dx dy Q m rx ry h => by
  obtain ⟨c, z, rfl, rfl, q⟩ := h
  cases rx
  cases ry
  exact ⟨c, z, rfl, rfl, q (.bl _) H m (.bl _) .refl⟩
theorem de_ninS (ha : DPE X a ta) (hb : DPE X b tb) (hk : behindInMarks .NotIn b = false := by rfl) : DPE X (.Compare a [.NotIn] [b] pos) (dOp ninSD ta tb) := de_cmpR op_notIn_sign ninSD_mono ninSD_sim ha hb hk
theorem dt_ninS (ha : DPE X a ta) (hb : DPE X b tb) (hk : behindInMarks .NotIn b = false := by rfl) : DPT X (.Compare a [.NotIn] [b] pos) (dTest (dOp ninSD ta tb)) := dt_cmpR op_notIn_sign ninSD_mono ninSD_sim ha hb hk
theorem s_ninS {G : DG} {Q : DK} {c : Nat} {z : Str} (h : Q (.bl (!decide (c ∈ z.cps.toList))) G) : ninSD (.str ⟨#[c]⟩) (.str z) G Q := ⟨c, z, rfl, rfl, h⟩
/-! exceptions as values -/
theorem inv_exc {pins : List (Addr × Obj)} {σ : St} {H : Hp} {sI s : Shared} {a : Addr} {oe : Obj} {vs : Array Value} (I : L2.Inv X pins σ H sI) (k : ∀ b o, sI.heap.get? b = some o → s.heap.get? b = some o) (hn : sI.heap.get? a = none) (ha : s.heap.get? a = some oe)
    (hd : oe.data = .fields vs) (na : H a = none) (os : s.os = sI.os) (ag : PyProof.Rows.AllBare s.gens) : L2.Inv X pins σ (upd H a (excO a oe.cls oe.dict)) s := by
  have J := I.laidN (h' := s.heap) (t' := s.toks) k hn na (o := excO a oe.cls oe.dict) ⟨⟨oe, vs, ha, rfl, rfl, hd⟩, ⟨oe, ha⟩, fun h1 h2 ⟨o', vs', z1, z2⟩ k => ⟨o', vs', k _ z1, z2⟩⟩
  exact ⟨J.ok, os.trans I.os, ag, J.base, J.loc, J.cell, J.free, J.freeC, J.pin, J.hok, J.len⟩
theorem pe_made {t : St → Hp → XK → Prop} (he : PMk X e t) : PE X e (fun σ H Q => t σ H fun cls d H' => ∀ a, H' a = none → Q (.ref a) (upd H' a (excO a cls d))) := by
  refine ⟨fun pins s σ H Q I h => wpAny_mono (he pins s σ H _ I h) (fun u s1 hu => ?_) fun _ _ x => x⟩
  obtain ⟨a, oe, vs, sI, H', cls, d, rfl, J, k, hne, ha, hz, hd, h1, na, os, ag, r, q⟩ := hu
  have J2 := inv_exc J k hne ha hd na os ag
  rw [hz.1, hz.2] at J2
  exact ⟨.ref a, _, J2, rfl, q a na⟩
/-- N(text): a class without __init__ -/
def dExc0 (n : Str) : DE := fun _ G Q => ∀ a, G a = none → Q (.ref a) (up G a (.exc n none))
theorem de_exc0 (c : Ex0 X.K X.mg n) (hg : Gl X n := by rfl) (hdb : (n == ("__debug__" : Str)) = false := by decide) :
    DPE X (.Call (.Name n p) [.Constant (.str m) j p2] [] pos) (dExc0 n) := by
  obtain ⟨C, k, hm, q⟩ := c
  have P := pe_made (pmk_own (m := m) (j := j) (p := p) (p2 := p2) (pos := pos) PySem.F.excBase_ValueError q hm k.kp (raises_own k.sub k.ty) hg hdb)
  refine ⟨fun σ G Q Q' h q a ha => h _ _ (q a ha), _, P, fun σ H σd G Q mh s h => ?_⟩
  intro a ha
  have kk : KT X.K H (upd H a (excO a (.ref C) none)) := .upd_new ha
  exact h a (mh.fresh ha) (.ref a) _ (mh.upd kk ⟨C, k.at_, upd_same⟩) (.ref a) kk
/-- N(x): a class whose __init__ keeps x -/
def dExc1 (n f : Str) (ta : DE) : DE := fun σ G Q => ta σ G fun d G1 => ∀ a dd, dd ≠ a → G1 a = none → (∀ o, G1 dd = some o → isXd o) → Q (.ref a) (up (up G1 dd (.xd [(f, d)])) a (.exc n (some dd)))
theorem de_exc1 (c : Ex1 X.prog X.w X.K X.mg X.base k n f) (hr : Room (k + 1) X.A) (ha : DPE X e ta) (hg : Gl X n := by rfl) (hdb : (n == ("__debug__" : Str)) = false := by decide)
    (he : starEach [e] X.env = (false, eval e X.env) :: starEach [] X.env := by rfl) (hpl : (backTo pos (starEach [] X.env)).any (·.1) = false := by rfl) :
    DPE X (.Call (.Name n p) [e] [] pos) (dExc1 n f ta) := by
  obtain ⟨C, fI, fd, kx, hm, T, iC, tI, ff, F1, hb⟩ := c
  obtain ⟨ma, tta, pa, ra⟩ := ha
  have P := pe_made (pmk_oex (p := p) (pos := pos) (dvs := []) T iC tI F1 hr hb .nil passL hg hm (pa_cons pa pa_nil he) hdb he hpl)
  refine ⟨fun σ G Q Q' h q => ma σ G _ _ (fun d G1 z a dd h1 h2 h3 => h _ _ (z a dd h1 h2 h3)) q, _, P, fun σ H σd G Q mh s h => ?_⟩
  refine ra σ H σd G _ mh s (ma _ _ _ _ (fun d G1 q y H1 m1 r1 k1 => ?_) h)
  refine ⟨by show 1 ≤ 1000; decide, fun a ha => ⟨a, C, y, rfl, T, ff, upd_same, fun dx hx hne => ⟨rfl, dx, [(f, y)], upd_same, ?_, ?_, ?_⟩⟩⟩
  · rw [upd_ne hne, upd_same]
  · rw [upd_ne hne] at hx
    exact hx
  · rw [upd_ne hne] at hx
    obtain ⟨b1, b2, b3⟩ := xd_keep (C := C) (f := f) ha hx hne m1 r1
    intro a2 ha2
    obtain ⟨fvs, x1, x2, x3⟩ := b3
    have kk : KT X.K _ (upd _ a2 (excO a2 (.ref C) (some dx))) := .upd_new ha2
    have hda : dx ≠ a2 := ne_of_none x1 ha2
    exact q a2 dx hda (b1.fresh ha2) (xd_at b1 x1) (.ref a2) _ ((b1.over (p := dx) (o := .xd [(f, d)]) ⟨fvs, x1, x2, x3⟩).upd kk ⟨C, kx.at_, upd_same⟩) (.ref a2) (k1.trans (b2.trans kk))
theorem s_exc0 {σ : DSt} {G : DG} {Q : DK} (h : ∀ a, G a = none → Q (.ref a) (up G a (.exc n none))) : dExc0 n σ G Q := h
theorem s_exc1 {σ : DSt} {G : DG} {Q : DK} (h : ta σ G fun d G1 => ∀ a dd, dd ≠ a → G1 a = none → (∀ o, G1 dd = some o → isXd o) → Q (.ref a) (up (up G1 dd (.xd [(f, d)])) a (.exc n (some dd)))) : dExc1 n f ta σ G Q := h
end
end FD

namespace FD
open PySem L2
/-! ### data with dicts among it: repr; a tuple beside the empty one -/
def keyP : Key → PyData
  | .inl i => .int i
  | .inr x => .str x
def pyX : Nat → DG → D → Option PyData
  | _, _, .non => some .none
  | _, _, .bl b => some (.bool b)
  | _, _, .int i => some (.int i)
  | _, _, .str x => some (.str x)
  | 0, _, _ => none
  | n + 1, G, .tup xs => (pyAll (pyX n G) xs).map .tuple
  | n + 1, G, .lis xs => (pyAll (pyX n G) xs).map .list
  | n + 1, G, .ref a => match G a with
    | some (.lst xs) => (pyAll (pyX n G) xs).map .list
    | some (.dK kvs) => (pyAll (pyX n G) (kvs.map (·.2))).map fun ds => .dict ((kvs.map fun kv => keyP kv.1).zip ds)
    | some (.dic _ kvs) => match pyAll (pyX n G) (kvs.map (·.1)), pyAll (pyX n G) (kvs.map (·.2)) with
      | some ks, some ds => some (.dict (ks.zip ds))
      | _, _ => none
    | _ => none
  | _, _, _ => none
/-- the table of modules stands in the ground -/
def SysB (base : Heap) : Prop := ∃ m, base.Ns sysModules m
section
variable {X : Cx} {pins : List (Addr × Obj)} {σ : St} {H : Hp} {s : Shared} {G : DG}
theorem sys_at (I : L2.Inv X pins σ H s) (sm : SysB X.base) : ∃ o es ep, s.heap.get? sysModules = some o ∧ o.data = .dict es ep := by
  obtain ⟨m, o, es, ep, h1, h2, _⟩ := sm
  exact ⟨o, es, ep, I.bk _ _ h1, h2⟩
theorem readsAll_of {f : D → Option PyData} (hf : ∀ d v p u, RD X.K H d v → f d = some p → RelV v u → ∃ as, Reads s.heap u p as ∧ sysModules ∉ as) : ∀ (xs : List D) (vs : List V) (ps : List PyData) (us : List Value), RDs X.K H xs vs → pyAll f xs = some ps → Vals vs us → ∃ as, ReadsAll s.heap us ps as ∧ sysModules ∉ as
  | [], vs, ps, us, r, h, rv => by
    have e := r.nil_inv
    subst e
    cases h
    cases rv
    exact ⟨_, .nil, by simp⟩
  | x :: xs, vs, ps, us, r, h, rv => by
    obtain ⟨v, vs', rfl, a, b⟩ := r.cons_inv
    obtain ⟨p, ps', rfl, e1, e2⟩ := pyAll_cons h
    cases rv with
    | cons r1 r2 =>
      obtain ⟨as, q1, n1⟩ := hf x v p _ a e1 r1
      obtain ⟨bs, q2, n2⟩ := readsAll_of hf xs vs' ps' _ b e2 r2
      exact ⟨_, .cons q1 q2, by rw [List.mem_append, not_or]; exact ⟨n1, n2⟩⟩
theorem reads_keys : ∀ {es : List DictEntry} {kvs : List (Key × Value)} {P : Program} {w : World}, PySem.Pairs (mixKind P w) es kvs → ∃ as, ReadsAll s.heap (es.map (·.key)) (kvs.map fun kv => keyP kv.1) as ∧ sysModules ∉ as
  | _, _, _, _, .nil => ⟨_, .nil, by simp⟩
  | _, _, _, _, @PySem.Pairs.cons _ _ _ _ _ e kv es kvs h _ t => by
    obtain ⟨as, r, n⟩ := reads_keys t
    rcases keyIs_shape h with ⟨i, tk, e1, e2⟩ | ⟨x, tk, e1, e2⟩
    · refine ⟨[] ++ as, ?_, by simpa using n⟩
      rw [List.map_cons, List.map_cons, e1, e2]
      exact .cons (.int i tk) r
    · refine ⟨[] ++ as, ?_, by simpa using n⟩
      rw [List.map_cons, List.map_cons, e1, e2]
      exact .cons (.str x tk) r
theorem pairs_vals : ∀ {es : List DictEntry} {kvs : List (Key × Value)} {P : Program} {w : World}, PySem.Pairs (mixKind P w) es kvs → es.map (·.val) = kvs.map (·.2)
  | _, _, _, _, .nil => rfl
  | _, _, _, _, .cons _ h t => by rw [List.map_cons, List.map_cons, h, pairs_vals t]
theorem kv_keys : ∀ {l : List (Key × V)} {m : List (Key × Value)}, KV l m → l.map (·.1) = m.map (·.1) ∧ Vals (l.map (·.2)) (m.map (·.2))
  | _, _, .nil => ⟨rfl, .nil⟩
  | _, _, .cons h t => ⟨by rw [List.map_cons, List.map_cons, h.1, (kv_keys t).1], .cons h.2 (kv_keys t).2⟩
theorem zip_fst {α β : Type} : ∀ {l : List α} {m : List β}, l.length = m.length → (l.zip m).map (·.1) = l
  | [], [], _ => rfl
  | x :: l, y :: m, h => by rw [List.zip_cons_cons, List.map_cons, zip_fst (by simpa using h)]
theorem zip_snd {α β : Type} : ∀ {l : List α} {m : List β}, l.length = m.length → (l.zip m).map (·.2) = m
  | [], [], _ => rfl
  | x :: l, y :: m, h => by rw [List.zip_cons_cons, List.map_cons, zip_snd (by simpa using h)]
theorem pyAll_len {f : D → Option PyData} : ∀ {xs : List D} {ps : List PyData}, pyAll f xs = some ps → ps.length = xs.length
  | [], ps, h => by cases h; rfl
  | x :: xs, ps, h => by
    obtain ⟨p, ps', rfl, e1, e2⟩ := pyAll_cons h
    rw [List.length_cons, List.length_cons, pyAll_len e2]
theorem gen2 : ∀ ks : List (NestedKey × Addr), Vals (ks.map fun k => V.ref k.2) (ks.map fun k => Value.ref k.2)
  | [] => .nil
  | k :: ks => .cons rfl (gen2 ks)
theorem reads_X (I : L2.Inv X pins σ H s) (sm : SysB X.base) (m : MH X.K G H) : ∀ (n : Nat) (d : D) (v : V) (p : PyData) (u : Value), RD X.K H d v → pyX n G d = some p → RelV v u → ∃ as, Reads s.heap u p as ∧ sysModules ∉ as := by
  obtain ⟨os, ses, sep, hs1, hs2⟩ := sys_at I sm
  have off : ∀ {a : Addr} {o : Obj} {vs : Array Value} {k : Nat}, s.heap.get? a = some o → o.data = .seq vs k → sysModules ≠ a := fun h1 h2 z => by
    subst z
    rw [hs1] at h1
    cases h1
    rw [hs2] at h2
    cases h2
  intro n
  induction n with
  | zero =>
    intro d v p u r h rv
    cases r <;> simp [pyX] at h
    · subst h; cases rv; exact ⟨_, .none, by simp⟩
    · subst h; cases rv; exact ⟨_, .bool _, by simp⟩
    · subst h; obtain ⟨t, rfl⟩ := rv; exact ⟨_, .int _ t, by simp⟩
    · subst h; obtain ⟨t, rfl⟩ := rv; exact ⟨_, .str _ t, by simp⟩
  | succ n ih =>
    have ihA := fun xs vs ps us => readsAll_of (X := X) (H := H) (s := s) ih xs vs ps us
    intro d v p u r h rv
    cases r with
    | non => simp [pyX] at h; subst h; cases rv; exact ⟨_, .none, by simp⟩
    | bl b => simp [pyX] at h; subst h; cases rv; exact ⟨_, .bool _, by simp⟩
    | int i => simp [pyX] at h; subst h; obtain ⟨t, rfl⟩ := rv; exact ⟨_, .int _ t, by simp⟩
    | str x => simp [pyX] at h; subst h; obtain ⟨t, rfl⟩ := rv; exact ⟨_, .str _ t, by simp⟩
    | ty x => simp [pyX] at h
    | tpl _ _ _ => simp [pyX] at h
    | @tup a xs vs hs hl hi =>
      simp only [pyX, Option.map_eq_some_iff] at h
      obtain ⟨ps, h1, rfl⟩ := h
      cases rv
      obtain ⟨its, rv, ⟨o, ho, hc, k, hd⟩, _⟩ := I.tuple hs.t
      obtain ⟨as, hr, hn⟩ := ihA xs vs ps its ⟨hl, hi⟩ h1 rv
      exact ⟨_, .tuple ho hc hd hr, hn⟩
    | @lis a xs vs hs hl hi =>
      simp only [pyX, Option.map_eq_some_iff] at h
      obtain ⟨ps, h1, rfl⟩ := h
      cases rv
      obtain ⟨its, rv, ⟨o, k, ho, hc, _, hd⟩, _⟩ := I.list hs.l
      obtain ⟨as, hr, hn⟩ := ihA xs vs ps its ⟨hl, hi⟩ h1 rv
      exact ⟨_, .list ho hc hd hr, by rw [List.mem_cons, not_or]; exact ⟨off ho hd, hn⟩⟩
    | ref a =>
      cases rv
      simp only [pyX] at h
      split at h
      · rename_i xs e
        obtain ⟨vs, g, r⟩ := m a _ e
        obtain ⟨ps, h1, rfl⟩ := Option.map_eq_some_iff.mp h
        obtain ⟨its, rv, ⟨o, k, ho, hc, _, hd⟩, _⟩ := I.list (SqL.of g)
        obtain ⟨as, hr, hn⟩ := ihA xs vs ps its r h1 rv
        exact ⟨_, .list ho hc hd hr, by rw [List.mem_cons, not_or]; exact ⟨off ho hd, hn⟩⟩
      · rename_i kvs e
        obtain ⟨kvs', g, r1, r2⟩ := m a _ e
        obtain ⟨ps, h1, rfl⟩ := Option.map_eq_some_iff.mp h
        obtain ⟨hz, hy, vs, hkv, o, es, ep, ho, hex, hdat, _, hp, _⟩ := I.hok a _ g
        obtain ⟨k1, k2⟩ := kv_keys hkv
        obtain ⟨as, hr, hn⟩ := reads_keys (s := s) hp
        obtain ⟨bs, hr2, hn2⟩ := ihA _ _ ps _ r2 h1 k2
        have hlen : (kvs.map fun kv => keyP kv.1).length = ps.length := by rw [pyAll_len h1, List.length_map, List.length_map]
        refine ⟨a :: as ++ bs, .dict ho hex.1 hdat ?_ ?_, ?_⟩
        · rw [zip_fst hlen]
          have : (vs.map fun kv => keyP kv.1) = kvs.map fun kv => keyP kv.1 := by
            have e2 : vs.map (·.1) = kvs.map (·.1) := k1.symm.trans r1
            have := congrArg (List.map keyP) e2
            rw [List.map_map, List.map_map] at this
            exact this
          rw [← this]
          exact hr
        · rw [zip_snd hlen, pairs_vals hp]
          exact hr2
        · simp only [List.cons_append, List.mem_cons, List.mem_append, not_or]
          exact ⟨fun z => by rw [z] at hy; simp at hy, hn, hn2⟩
      · rename_i ow kvs e
        split at h
        · rename_i kds vds e1 e2
          cases h
          obtain ⟨ks, vs, g, hy, hz, _, hl, hk, r⟩ := m a _ e
          obtain ⟨⟨o, es, ep, ho, hex, hdat, hel, hvl, hp⟩, _⟩ := I.hok a _ g
          have hkd : kds.length = kvs.length := by rw [pyAll_len e1, List.length_map]
          have hvd : vds.length = kvs.length := by rw [pyAll_len e2, List.length_map]
          have rk : RDs X.K H (kvs.map (·.1)) (ks.map fun k => V.ref k.2) := ⟨by rw [List.length_map, List.length_map, hl], fun i x v a1 a2 => by
            rw [List.getElem?_map] at a1 a2
            obtain ⟨kv, b1, rfl⟩ := Option.map_eq_some_iff.mp a1
            obtain ⟨k, b2, rfl⟩ := Option.map_eq_some_iff.mp a2
            exact (hk i kv k b1 b2).2.2⟩
          have ek : es.toList.map (·.key) = ks.map fun k => Value.ref k.2 := by
            refine List.ext_getElem? fun i => ?_
            rw [List.getElem?_map, List.getElem?_map]
            by_cases hi : i < ks.length
            · have h1 := List.getElem?_eq_getElem hi
              have h2 := List.getElem?_eq_getElem (show i < es.toList.length by omega)
              have h3 := List.getElem?_eq_getElem (show i < vs.length by omega)
              rw [h1, h2]
              simp only [Option.map_some]
              rw [(hp i _ _ _ h2 h1 h3).2.1]
            · rw [List.getElem?_eq_none (by omega), List.getElem?_eq_none (by omega)]
              rfl
          have vk : Vals (ks.map fun k => V.ref k.2) (ks.map fun k => Value.ref k.2) := by
            exact gen2 ks
          have vv : Vals vs (es.toList.map (·.val)) := by
            have gen : ∀ (vs : List V) (us : List Value), vs.length = us.length → (∀ (i : Nat) (v : V) (u : Value), vs[i]? = some v → us[i]? = some u → RelV v u) → Vals vs us := by
              intro vs
              induction vs with
              | nil =>
                intro us hl _
                cases us with
                | nil => exact .nil
                | cons _ _ => simp at hl
              | cons v vs ih2 =>
                intro us hl hi
                cases us with
                | nil => simp at hl
                | cons u us => exact .cons (hi 0 v u rfl rfl) (ih2 us (by simpa using hl) fun i v' u' h1 h2 => hi (i + 1) v' u' (by simpa using h1) (by simpa using h2))
            refine gen _ _ (by rw [List.length_map]; omega) fun i v u h1 h2 => ?_
            rw [List.getElem?_map] at h2
            obtain ⟨e0, b2, rfl⟩ := Option.map_eq_some_iff.mp h2
            have hi := (List.getElem?_eq_some_iff.mp h1).1
            exact (hp i e0 _ v b2 (List.getElem?_eq_getElem (show i < ks.length by omega)) h1).2.2
          obtain ⟨as, hr, hn⟩ := ihA _ _ kds _ rk e1 vk
          obtain ⟨bs, hr2, hn2⟩ := ihA _ _ vds _ r e2 vv
          refine ⟨a :: as ++ bs, .dict ho hex.1 hdat ?_ ?_, ?_⟩
          · rw [zip_fst (by omega), ek]
            exact hr
          · rw [zip_snd (by omega)]
            exact hr2
          · simp only [List.cons_append, List.mem_cons, List.mem_append, not_or]
            exact ⟨fun z => by rw [z] at hy; simp at hy, hn, hn2⟩
        · cases h
      · cases h
theorem depthAll_le {n : Nat} {f : D → Option PyData} (hf : ∀ d p, f d = some p → p.depth ≤ n) : ∀ (xs : List D) (ps : List PyData), pyAll f xs = some ps → PyData.depthAll ps ≤ n
  | [], ps, h => by cases h; simp [PyData.depthAll]
  | x :: xs, ps, h => by
    obtain ⟨p, ps', rfl, e1, e2⟩ := pyAll_cons h
    have h1 := hf x p e1
    have h2 := depthAll_le hf xs ps' e2
    simp only [PyData.depthAll]
    omega
theorem depthKv_zip {n : Nat} : ∀ {ks vs : List PyData}, PyData.depthAll ks ≤ n → PyData.depthAll vs ≤ n → PyData.depthKv (ks.zip vs) ≤ n
  | [], _, _, _ => by simp [PyData.depthKv]
  | _ :: _, [], _, _ => by simp [PyData.depthKv]
  | k :: ks, v :: vs, h1, h2 => by
    simp only [PyData.depthAll] at h1 h2
    have := depthKv_zip (n := n) (ks := ks) (vs := vs) (by omega) (by omega)
    simp only [List.zip_cons_cons, PyData.depthKv]
    omega
theorem depth_keyP : ∀ k : Key, (keyP k).depth = 0
  | .inl _ => by simp [keyP, PyData.depth]
  | .inr _ => by simp [keyP, PyData.depth]
theorem depth_keys : ∀ kvs : List (Key × D), PyData.depthAll (kvs.map fun kv => keyP kv.1) = 0
  | [] => by simp [PyData.depthAll]
  | kv :: kvs => by
    rw [List.map_cons]
    simp only [PyData.depthAll, depth_keyP, depth_keys kvs]
    rfl
theorem pyX_depth (G : DG) : ∀ (n : Nat) (d : D) (p : PyData), pyX n G d = some p → p.depth ≤ n := by
  intro n
  induction n with
  | zero =>
    intro d p h
    cases d <;> simp [pyX] at h <;> subst h <;> simp [PyData.depth]
  | succ n ih =>
    intro d p h
    cases d with
    | non => simp [pyX] at h; subst h; simp [PyData.depth]
    | bl b => simp [pyX] at h; subst h; simp [PyData.depth]
    | int i => simp [pyX] at h; subst h; simp [PyData.depth]
    | str x => simp [pyX] at h; subst h; simp [PyData.depth]
    | ty x => simp [pyX] at h
    | tpl xs => simp [pyX] at h
    | tup xs =>
      simp only [pyX, Option.map_eq_some_iff] at h
      obtain ⟨ps, h1, rfl⟩ := h
      have := depthAll_le ih xs ps h1
      simp only [PyData.depth]
      omega
    | lis xs =>
      simp only [pyX, Option.map_eq_some_iff] at h
      obtain ⟨ps, h1, rfl⟩ := h
      have := depthAll_le ih xs ps h1
      simp only [PyData.depth]
      omega
    | ref a =>
      simp only [pyX] at h
      split at h
      · obtain ⟨ps, h1, rfl⟩ := Option.map_eq_some_iff.mp h
        have := depthAll_le ih _ ps h1
        simp only [PyData.depth]
        omega
      · rename_i kvs _
        obtain ⟨ps, h1, rfl⟩ := Option.map_eq_some_iff.mp h
        have := depthAll_le ih _ ps h1
        have := depthKv_zip (n := n) (ks := kvs.map fun kv => keyP kv.1) (by rw [depth_keys]; omega) this
        simp only [PyData.depth]
        omega
      · split at h
        · rename_i ks ds e1 e2
          cases h
          have := depthKv_zip (depthAll_le ih _ ks e1) (depthAll_le ih _ ds e2)
          simp only [PyData.depth]
          omega
        · cases h
      · cases h
end
section
variable {X : Cx} {e : Expr} {es : List Expr} {ta tb : DE} {pos : Pos} {a b : Expr}
def rReprX (K : PySem.W.Frag) : List V → Hp → VK → Prop := fun xs H Q => ∃ G d x p, xs = [x] ∧ MH K G H ∧ RD K H d x ∧ pyX 9 G d = some p ∧ RepOk p ∧ Q (.str p.shown) H
theorem call_reprX (hgd : X.A.guards = some []) (hu : X.A.units + 65 < cLine) (sm : SysB X.base) : CallR X (.builtin "repr") (rReprX X.K) := by
  intro pins s σ H xs us Q I r h
  obtain ⟨G, d, x, p, rfl, m, rd, hp, ⟨hs, hz⟩, q⟩ := h
  obtain ⟨u, rfl, rx⟩ := vals1 r
  obtain ⟨as, rr, hn⟩ := reads_X I sm m 9 d x p u rd hp rx
  have dp := pyX_depth G 9 d p hp
  have go : ∀ a, u = .ref a → wpAny (model X.prog X.w) X.A (call (.builtin "repr") [u]) (EP X pins σ Q) X.xe s := by
    rintro a rfl
    refine repr_of_reads' (h₀ := s.heap) rr hs (fun _ => hn) hgd (by omega) (fun _ _ z => z) (fun h' t tk kp => ?_) hz
    exact ⟨.str p.shown, H, I.kept (t' := tk) kp, ⟨_, rfl⟩, q⟩
  cases rr with
  | list _ _ _ _ => exact go _ rfl
  | tuple _ _ _ _ => exact go _ rfl
  | dict _ _ _ _ _ => exact go _ rfl
  | int i t =>
    have hs' : i.natAbs.log2 < 1920 := by simpa [PyData.showable] using hs
    rw [PyData.shown_int] at q
    exact PySem.P.repr_of_int hs' ⟨.str _, H, I.tok _, ⟨_, rfl⟩, q⟩
  | none => exact PySem.P.repr_of_none ⟨.str _, H, I.tok _, ⟨_, rfl⟩, q⟩
  | bool b =>
    refine PySem.P.repr_of_bool ⟨.str _, H, I.tok _, ⟨_, rfl⟩, ?_⟩
    cases b <;> exact q
  | str x t => exact PySem.P.repr_of_str ⟨.str _, H, I.tok _, ⟨_, rfl⟩, q⟩ hz
def reprXD : FL := fun xs G Q => ∃ x p, xs = [x] ∧ pyX 9 G x = some p ∧ RepOk p ∧ Q (.str p.shown) G
theorem de_reprX {p : Pos} {t : DA} (hgd : X.A.guards = some []) (hu : X.A.units + 65 < cLine) (sm : SysB X.base) (hg : Gl X "repr") (hm : X.mg "repr" = none) (ha : DPA X (e :: es) t) (h1 : starEach (e :: es) X.env = (false, eval e X.env) :: starEach es X.env := by rfl) (h2 : ((backTo pos (starEach es X.env)).any fun x => x.fst) = false := by rfl) :
    DPE X (.Call (.Name "repr" p) (e :: es) [] pos) (dCB reprXD t) := de_callB (call_reprX hgd hu sm) (fun xs G Q Q' h ⟨x, p, e1, e2, e3, q⟩ => ⟨x, p, e1, e2, e3, h _ _ q⟩)
  (fun H G xs ds Q m r h => by
    obtain ⟨x, p, rfl, e2, e3, q⟩ := h
    obtain ⟨v, vs', rfl, r1, r2⟩ := r.cons_inv
    have e := r2.nil_inv
    subst e
    exact ⟨G, x, v, p, rfl, m, r1, e2, e3, q (.str _) H m (.str _) .refl⟩) hg hm (by decide +kernel) ha (by decide) (by decide) h1 h2
theorem s_reprX {G : DG} {Q : DK} {x : D} {p : PyData} (e : pyX 9 G x = some p) (e3 : RepOk p) (h : Q (.str p.shown) G) : reprXD [x] G Q := ⟨x, p, rfl, e, e3, h⟩
/-- str(e), e a tuple or a list -/
def rStrX (K : PySem.W.Frag) : List V → Hp → VK → Prop := fun xs H Q => ∃ G d a p, xs = [.ref a] ∧ MH K G H ∧ RD K H d (.ref a) ∧ pyX 9 G d = some p ∧ RepOk p ∧ Q (.str p.shown) H
theorem call_strX (hgd : X.A.guards = some []) (hu : X.A.units + 65 < cLine) (sm : SysB X.base) : CallR X (.type "str") (rStrX X.K) := by
  intro pins s σ H xs us Q I r h
  obtain ⟨G, d, a, p, rfl, m, rd, hp, ⟨hs, hz⟩, q⟩ := h
  obtain ⟨u, rfl, rx⟩ := vals1 r
  cases rx
  obtain ⟨as, rr, hn⟩ := reads_X I sm m 9 d _ p _ rd hp rfl
  have dp := pyX_depth G 9 d p hp
  refine str_of_reads (h₀ := s.heap) rr hs (fun _ => hn) hgd (by omega) (fun _ _ z => z) (fun h' t tk kp => ?_) hz
  exact ⟨.str p.shown, H, I.kept (t' := tk) kp, ⟨_, rfl⟩, q⟩
def strXD : FL := fun xs G Q => ∃ ys p, xs = [.tup ys] ∧ pyX 9 G (.tup ys) = some p ∧ RepOk p ∧ Q (.str p.shown) G
theorem de_strX {p : Pos} {t : DA} (hgd : X.A.guards = some []) (hu : X.A.units + 65 < cLine) (sm : SysB X.base) (hg : Gl X "str") (hm : X.mg "str" = none) (ha : DPA X (e :: es) t) (h1 : starEach (e :: es) X.env = (false, eval e X.env) :: starEach es X.env := by rfl) (h2 : ((backTo pos (starEach es X.env)).any fun x => x.fst) = false := by rfl) :
    DPE X (.Call (.Name "str" p) (e :: es) [] pos) (dCB strXD t) := de_callTy (call_strX hgd hu sm) (fun xs G Q Q' h ⟨x, p, e1, e2, e3, q⟩ => ⟨x, p, e1, e2, e3, h _ _ q⟩)
  (fun H G xs ds Q m r h => by
    obtain ⟨x, p, rfl, e2, e3, q⟩ := h
    obtain ⟨v, vs', rfl, r1, r2⟩ := r.cons_inv
    have e := r2.nil_inv
    subst e
    cases r1 with
    | @tup a _ vs hs hl hi => exact ⟨G, _, a, p, rfl, m, .tup hs hl hi, e2, e3, q (.str _) H m (.str _) .refl⟩) hg hm (by decide +kernel) ha (by decide) (by decide) h1 h2
theorem s_strX {G : DG} {Q : DK} {ys : List D} {p : PyData} (e : pyX 9 G (.tup ys) = some p) (e3 : RepOk p) (h : Q (.str p.shown) G) : strXD [.tup ys] G Q := ⟨ys, p, rfl, e, e3, h⟩
/-! a tuple beside the empty one -/
def rEqT0 (K : PySem.W.Frag) : R2 := fun x y H Q => ∃ p q xs, x = .ref p ∧ y = .ref q ∧ SqT K H p xs ∧ SqT K H q [] ∧ Q (.bl (decide (xs.length = 0))) H
theorem op_eqT0 (hu : X.A.units + 64 < cLine) : OpR X (compareOp .Eq) (rEqT0 X.K) := by
  intro pins s σ H x y v u Q I rx ry h
  obtain ⟨p, q, xs, rfl, rfl, h1, h2, k⟩ := h
  cases rx
  cases ry
  obtain ⟨its, r1, t1, _⟩ := I.tuple h1
  obtain ⟨its2, r2, t2, _⟩ := I.tuple h2
  cases r2
  refine SeqAt.eq_tupleAt (e := fun _ => true) t1 t2 (by omega) (fun j _ hj => by simp at hj) ⟨.bl _, H, I, rfl, ?_⟩
  have e : decide (xs.length = 0) = ((List.range (min its.toArray.size (#[] : Array Value).size)).all (fun _ => true) && its.toArray.size == (#[] : Array Value).size) := by
    rw [r1.length]
    simp
    cases its <;> simp
  rw [← e]
  exact k
def eqT0D : F2 := fun x y G Q => ∃ xs, x = .tup xs ∧ y = .tup [] ∧ Q (.bl (decide (xs.length = 0))) G
theorem eqT0D_mono : MonoF2 eqT0D := fun x y G Q Q' h ⟨xs, e1, e2, q⟩ => ⟨xs, e1, e2, h _ _ q⟩
theorem eqT0D_sim {K : PySem.W.Frag} : Sim2 K (rEqT0 K) eqT0D := fun H G x y dx dy Q m rx ry h => by
  obtain ⟨xs, rfl, rfl, q⟩ := h
  cases rx with
  | @tup a _ vs hs hl hi =>
    cases ry with
    | @tup b _ ws hs2 hl2 hi2 =>
      have : ws = [] := List.eq_nil_of_length_eq_zero (by rw [← hl2]; rfl)
      subst this
      exact ⟨a, b, vs, rfl, rfl, hs.t, hs2.t, by rw [← hl]; exact q (.bl _) H m (.bl _) .refl⟩
theorem de_eqT0 (hu : X.A.units + 64 < cLine) (ha : DPE X a ta) (hb : DPE X b tb) (hk : behindInMarks .Eq b = false := by rfl) : DPE X (.Compare a [.Eq] [b] pos) (dOp eqT0D ta tb) := de_cmpR (op_eqT0 hu) eqT0D_mono eqT0D_sim ha hb hk
theorem dt_eqT0 (hu : X.A.units + 64 < cLine) (ha : DPE X a ta) (hb : DPE X b tb) (hk : behindInMarks .Eq b = false := by rfl) : DPT X (.Compare a [.Eq] [b] pos) (dTest (dOp eqT0D ta tb)) := dt_cmpR (op_eqT0 hu) eqT0D_mono eqT0D_sim ha hb hk
theorem s_eqT0 {G : DG} {Q : DK} {xs : List D} (h : Q (.bl (decide (xs.length = 0))) G) : eqT0D (.tup xs) (.tup []) G Q := ⟨xs, rfl, rfl, h⟩
end
/-! the law's end, with the table of modules -/
theorem walk_fkS {l : PySem.W.OpenLaw} {n k : Nat} {q : Program} {loose : List Str} {XP : (Str → Option Value) → Heap → Prop} {YP : World → Heap → Prop} {d : DefRec} {K : Params → PySem.W.Frag} {x : Str}
    (hn : l.most = some n) (hn2 : n ≤ sizeLine) (hdf : d.params.defaults = []) (hr : Room k callerA) (hY : ∀ (w : World) (h : Heap), YP w h → (K w.params).In h) (himp : PyProof.Rows.importsNone q = true)
    (F : ∀ (w : World) (mg : Str → Option Value) (fa : Addr) (h : Heap), (K w.params).In h → h.Ns mainGlobals mg → mg d.name = some (.ref fa) →
      ∃ fd : FuncData, (∀ (s : Shared) (u : Value), BindsTo s fd ⟨[u], []⟩ [(x, u)]) ∧
        ∀ base : Heap, (K w.params).In base → base.Ns mainGlobals mg → SysB base → FK l.prog w (K w.params) mg base k fa fd [x] (spOf (K w.params) (spLaw n))) :
    PySem.W.WalkO q loose XP YP l.row.toRowW d [] (fun f vs => PySem.call f vs) := by
  refine Att.attach_call hn hdf fun w s0 s1 mg mb fa o pm cd doc a vs ns G Y ho hd hcd hmg hobj hints hlen hg => ?_
  have KX := hY w _ Y
  obtain ⟨fd, hb, hF⟩ := F w mg fa _ KX G.T.g hmg
  obtain ⟨mm, hm, _⟩ := (G.T.seer himp).mods
  exact law_fk KX G.T.g G.T.b G.T.builtins G.T.nolimit hg hobj hints hlen hn2 hr (fun base h1 h2 h3 => hF base h1 h2 ⟨mm, h3 _ _ hm⟩) hb
end FD

namespace FD
/-! ### sorted(d, key=f): f a def of the program, d a dict by nested keys -/
section
open PySem PySem.W PyProof.Rows PySem.Calls
/-- all stays but what lies at ex, and the frames' slots -/
structure KpF (fs ex : List Addr) (h h' : Heap) : Prop where
  k : ∀ b o, b ∉ ex → b ∉ fs → h.get? b = some o → h'.get? b = some o
  s : ∀ b o, b ∉ ex → b ∈ fs → h.get? b = some o → ∃ sl, h'.get? b = some { o with slots := sl }
theorem KpF.any {fs ex : List Addr} {h h' : Heap} (x : KpF fs ex h h') {b : Addr} {o : Obj} (hb : b ∉ ex) (e : h.get? b = some o) : ∃ sl, h'.get? b = some { o with slots := sl } := by
  by_cases hf : b ∈ fs
  · exact x.s b o hb hf e
  · exact ⟨o.slots, x.k b o hb hf e⟩
theorem KpF.trans {fs ex : List Addr} {h h1 h2 : Heap} (x : KpF fs ex h h1) (y : KpF fs [] h1 h2) : KpF fs ex h h2 :=
  ⟨fun b o c1 c2 e => y.k b o (by simp) c2 (x.k b o c1 c2 e), fun b o c1 c2 e => by
    obtain ⟨sl, e1⟩ := x.s b o c1 c2 e
    obtain ⟨sl2, e2⟩ := y.s b _ (by simp) c2 e1
    exact ⟨sl2, e2⟩⟩
theorem KpF.step {fs ex : List Addr} {h h1 h2 : Heap} (x : KpF fs ex h h1) (y : ∀ b o, h.get? b = some o → b ∉ ex → ∀ u, h1.get? b = some u → h2.get? b = some u) : KpF fs ex h h2 :=
  ⟨fun b o c1 c2 e => y b o e c1 o (x.k b o c1 c2 e), fun b o c1 c2 e => by
    obtain ⟨sl, e1⟩ := x.s b o c1 c2 e
    exact ⟨sl, y b o e c1 _ e1⟩⟩
mutual
theorem reads_sl {h h' : Heap} (hk : ∀ b o, h.get? b = some o → ∃ sl, h'.get? b = some { o with slots := sl }) : ∀ {v : Value} {d : PyData} {as : List Addr}, Reads h v d as → Reads h' v d as
  | _, _, _, .none => .none
  | _, _, _, .bool b => .bool b
  | _, _, _, .int i t => .int i t
  | _, _, _, .str x t => .str x t
  | _, _, _, .list h1 h2 h3 h4 => let ⟨_, e⟩ := hk _ _ h1; .list e h2 h3 (readsAll_sl hk h4)
  | _, _, _, .tuple h1 h2 h3 h4 => let ⟨_, e⟩ := hk _ _ h1; .tuple e h2 h3 (readsAll_sl hk h4)
  | _, _, _, .dict h1 h2 h3 h4 h5 => let ⟨_, e⟩ := hk _ _ h1; .dict e h2 h3 (readsAll_sl hk h4) (readsAll_sl hk h5)
theorem readsAll_sl {h h' : Heap} (hk : ∀ b o, h.get? b = some o → ∃ sl, h'.get? b = some { o with slots := sl }) : ∀ {vs : List Value} {ds : List PyData} {as : List Addr}, ReadsAll h vs ds as → ReadsAll h' vs ds as
  | _, _, _, .nil => .nil
  | _, _, _, .cons h1 h2 => .cons (reads_sl hk h1) (readsAll_sl hk h2)
end
/-- a key told: all stays but the frames' slots -/
def KeyT (fs : List Addr) (d : PyData) (s1 : Shared) (v : Value) (s2 : Shared) : Prop := s2.os = s1.os ∧ AllBare s2.gens ∧ KpF fs [] s1.heap s2.heap ∧ Reads s2.heap v d []
variable {prog : Program} {w : World} {A : Around} {E : Value → Shared → Prop} {s : Shared} {a kS : Addr} {b : Bool} {vs : List Value} {e1 : Nat} {P : PySem.Fin → Shared → Prop} {kz : List PyData} {fs : List Addr}
theorem keyT_rest {f : Value} {h0 : Heap} (hos : AllBare s.gens) (kp : KpF fs [a] h0 s.heap) (hkS : h0.get? kS = none) (ha0 : ∃ o, h0.get? a = some o) (fa : a ∉ fs) (fk : kS ∉ fs) (nk : s.heap.get? kS = some (seqObj "list" #[] 0)) (na : s.heap.get? a = some (seqObj "list" #[] e1)) (hka : kS ≠ a)
    (hlen : kz.length = vs.length) (hZ : vs.length ≤ sizeLine) (hal : AllAlike kz) (hsk : Sortable kz) (hu : ∀ d, d ∈ kz → A.units + d.depth < cLine)
    (turn : ∀ (i : Nat) (v : Value) (d : PyData), vs[i]? = some v → kz[i]? = some d → ∀ s1 : Shared, s1.os = s.os → AllBare s1.gens → KpF fs [a] h0 s1.heap →
      wpAny (model prog w) A (call f [v]) (KeyT fs d s1) (fun _ _ => False) s1)
    (h : ∀ s2 out c, s2.os = s.os → AllBare s2.gens → KpF fs [a] h0 s2.heap → s2.heap.get? a = some (seqObj "list" (List.toArray out) c) → KeyedOut b kz vs out → P (.done (.ret .none)) s2) :
    wpAny (model prog w) A (ksk_rest a f b vs.toArray e1 (.ref kS)) P E s := by
  unfold ksk_rest
  apply wpAny_bind
  apply wpAny_rule
  first
    | rw [List.forIn_toArray]
    | (rw [← Array.forIn_toList]; simp only [List.toList_toArray])
    | rw [← Array.forIn_toList]
  apply wpAny_bind
  refine ksk_fold (fun i s1 => ∃ (got : Array Value) (ep : Nat), s1.os = s.os ∧ AllBare s1.gens ∧ KpF fs [a] h0 s1.heap ∧ s1.heap.get? kS = some (seqObj "list" got ep) ∧ s1.heap.get? a = some (seqObj "list" #[] e1) ∧ EachIs (fun v d => Reads s1.heap v d [] ∧ alike d d = true) got.toList (kz.take i)) vs 0 s
    ⟨#[], 0, rfl, hos, kp, nk, na, by rw [List.take_zero]; exact .nil⟩ (fun j x s1 hx hI => ?_) fun s1 hI => ?_
  · obtain ⟨got, ep, o1, g1, kp1, nk1, na1, hk⟩ := hI
    rw [Nat.zero_add] at hk ⊢
    have hj : j < vs.length := (List.getElem?_eq_some_iff.mp hx).1
    have hkj : kz[j]? = some (kz[j]'(by omega)) := List.getElem?_eq_getElem _
    generalize kz[j]'(by omega) = d at hkj
    have hdm := List.mem_of_getElem? hkj
    have hdd := hal d hdm d hdm
    have hz : got.size ≤ vs.length := by
      have z := hk.length
      rw [Array.length_toList, List.length_take] at z
      omega
    apply wpAny_bind
    refine wpAny_attempt (wpAny_mono (turn j x d hx hkj s1 o1 g1 kp1) (fun v s2 he => ?_) fun _ _ hF => hF.elim)
    obtain ⟨o2, g2, kp2, hr⟩ := he
    have nk2 : s2.heap.get? kS = some (seqObj "list" got ep) := kp2.k _ _ (by simp) fk nk1
    have na2 : s2.heap.get? a = some (seqObj "list" #[] e1) := kp2.k _ _ (by simp) fa na1
    have sb := Heap.SameBut.update s2.heap kS (Obj.mapSeq (·.push v))
    obtain ⟨c2, hc2⟩ : ∃ c2, (s2.heap.update kS (Obj.mapSeq (·.push v))).get? kS = some (seqObj "list" (got.push v) c2) := ⟨_, get?_update_seq nk2 (·.push v)⟩
    apply wpAny_bind
    refine listUpdate_at nk2 rfl ?_ (by omega) (by rw [Array.size_push]; omega)
    have carry : ∀ (u : Value) (q : PyData), Reads s2.heap u q [] ∧ alike q q = true → Reads (s2.heap.update kS (Obj.mapSeq (·.push v))) u q [] ∧ alike q q = true := fun u q z =>
      ⟨Reads.keepBut (a := kS) (fun c o hc e => (sb.2 c hc).trans e) (fun o e => by rw [nk2] at e; cases e; rfl) q u [] z.2 z.1 (by simp), z.2⟩
    refine wpAny_pure ⟨rfl, got.push v, c2, o2.trans o1, g2, (kp1.trans kp2).step (fun c o ec hc u eu => ?_), hc2, (sb.2 a hka.symm).trans na2, ?_⟩
    · have hck : c ≠ kS := fun z => by
        rw [z, hkS] at ec
        cases ec
      exact (sb.2 c hck).trans eu
    · have e2 : kz.take (j + 1) = kz.take j ++ [d] := by rw [List.take_add_one, hkj]; rfl
      have e3 : (got.push v).toList = got.toList ++ [v] := by simp
      rw [e2, e3]
      refine each_snoc (R := fun (u : Value) (q : PyData) => Reads (s2.heap.update kS (Obj.mapSeq (·.push v))) u q [] ∧ alike q q = true) (carry v d ⟨hr, hdd⟩) ?_
      exact hk.mono fun u q z => carry u q ⟨reads_sl (fun c o e => kp2.any (by simp) e) z.1, z.2⟩
  · obtain ⟨got, ep, o1, g1, kp1, nk1, na1, hk⟩ := hI
    have hk2 : EachIs (fun v d => ∃ as, Reads s1.heap v d as) got.toList kz := by
      rw [Nat.zero_add, ← hlen, List.take_length] at hk
      exact hk.mono fun v d z => ⟨[], z.1⟩
    have hsz : got.size = vs.length := by
      have z := hk2.length
      rw [Array.length_toList] at z
      omega
    apply wpAny_bind
    refine listItems_at nk1 rfl ?_
    obtain ⟨g, gk, gn⟩ := L2.restrict s1.heap fun c => decide (c ≠ kS)
    have kpg : KeepsBut a g s1.heap := fun c o hc e => by
      by_cases hck : c = kS
      · rw [gn c (by simp [hck])] at e
        cases e
      · rw [← gk c (by simp [hck])]
        exact e
    refine keyH_end (κ := dataKind s1.heap kz) (h₁ := g) kpg (gn kS (by simp)) nk1 na1 hka (SortsAt.data hk2 hal hsk hu) hsz hZ fun h3 tk3 c k3 n3 => ?_
    refine h { s1 with heap := h3, toks := tk3 } _ c o1 g1 (kp1.step fun c o ec hc u eu => ?_) n3 ⟨s1.heap, got.toList, hal, rfl, hk2⟩
    have hck : c ≠ kS := fun z => by
      rw [z, hkS] at ec
      cases ec
    refine k3 c u (fun z => hc (by simp [z])) ?_
    rw [gk c (by simp [hck])]
    exact eu
theorem keyT_tree {f : Value} {n : Nat} (hos : AllBare s.gens) (ho : s.heap.get? a = some (seqObj "list" vs.toArray n)) (fa : a ∉ fs) (ff : ∀ x ∈ fs, x < s.heap.objs.size) (hlen : kz.length = vs.length) (hZ : vs.length ≤ sizeLine) (hal : AllAlike kz) (hsk : Sortable kz) (hu : ∀ d, d ∈ kz → A.units + d.depth < cLine)
    (turn : ∀ (i : Nat) (v : Value) (d : PyData), vs[i]? = some v → kz[i]? = some d → ∀ s1 : Shared, s1.os = s.os → AllBare s1.gens → KpF fs [a] s.heap s1.heap →
      wpAny (model prog w) A (call f [v]) (KeyT fs d s1) (fun _ _ => False) s1)
    (h : ∀ s2 out c, s2.os = s.os → AllBare s2.gens → KpF fs [a] s.heap s2.heap → s2.heap.get? a = some (seqObj "list" (List.toArray out) c) → KeyedOut b kz vs out → P (.done (.ret .none)) s2) :
    wpAny (model prog w) A (ksk_tree a f b) P E s := by
  have ha : a < s.heap.objs.size := Heap.lt_size ho
  obtain ⟨e1, ho1⟩ : ∃ e1, (s.heap.update a (Obj.mapSeq fun _ => (#[] : Array Value))).get? a = some (seqObj "list" #[] e1) := ⟨_, get?_update_seq ho fun _ => #[]⟩
  have hkS : ((s.heap.update a (Obj.mapSeq fun _ => (#[] : Array Value))).push (seqObj "tuple" vs.toArray 0)).objs.size = s.heap.objs.size + 1 := by rw [size_push', Heap.size_update]
  unfold ksk_tree
  apply wpAny_bind
  refine listItems_at ho rfl ?_
  apply wpAny_bind
  refine listUpdate_at ho rfl ?_ (by rw [List.size_toArray]; exact hZ) (Nat.zero_le _)
  apply wpAny_bind
  refine seqEpoch_at ho1 rfl ?_
  apply wpAny_bind
  refine wpAny_newTuple ?_ (by show vs.length ≤ _; exact hZ)
  apply wpAny_bind
  refine wpAny_newList ?_ (Nat.zero_le _)
  apply wpAny_holding
  have fk : ((s.heap.update a (Obj.mapSeq fun _ => (#[] : Array Value))).push (seqObj "tuple" vs.toArray 0)).objs.size ∉ fs := fun z => by
    have z2 := ff _ z
    rw [hkS] at z2
    exact absurd z2 (Nat.not_lt.mpr (Nat.le_succ _))
  have kp : KpF fs [a] s.heap (sortingHeap s.heap a vs) := ⟨fun c o hc _ e => sortingHeap_old (fun z => hc (by simp [z])) e, fun c o hc _ e => ⟨o.slots, sortingHeap_old (fun z => hc (by simp [z])) e⟩⟩
  refine keyT_rest (kz := kz) (h0 := s.heap) (fs := fs) (s := { s with heap := ((s.heap.update a (Obj.mapSeq fun _ => (#[] : Array Value))).push (seqObj "tuple" vs.toArray 0)).push (seqObj "list" #[] 0) }) (kS := ((s.heap.update a (Obj.mapSeq fun _ => (#[] : Array Value))).push (seqObj "tuple" vs.toArray 0)).objs.size)
    hos kp (Heap.get?_none_of_le (by rw [hkS]; exact Nat.le_succ _)) ⟨_, ho⟩ fa fk (Heap.get?_push_size _ rfl) (Heap.get?_push_of_some _ (Heap.get?_push_of_some _ ho1)) (by rw [hkS]; exact Nat.ne_of_gt (Nat.lt_succ_of_lt ha)) hlen hZ hal hsk hu turn h
/-- sorted(d, key=f) -/
theorem sorted_srcK {β : Type} {T : String} {r d fa : Addr} {P : Nat → Value → Prop} {OK : Heap → Prop} {n : Nat} {Q : Value → Shared → Prop} (K : KdlSrc prog w T r d n P OK) (hh : A.handled = none) (hok : OK s.heap) (hbare : AllBare s.gens) (ff : ∀ x ∈ fs, x < s.heap.objs.size)
    {bs : List β} (en : n = bs.length) (hn : bs.length ≤ sizeLine) (R : Value → β → Prop) (hp : ∀ i v, P i v → ∃ x, bs[i]? = some x ∧ R v x) (kf : β → PyData) (hal : AllAlike (bs.map kf)) (hsk : Sortable (bs.map kf)) (hu : ∀ x, x ∈ bs → A.in1.in1.units + (kf x).depth < cLine)
    (turn : ∀ (v : Value) (x : β), R v x → x ∈ bs → ∀ (D : Addr) (s1 : Shared), s.heap.objs.size ≤ D → s1.os = s.os → AllBare s1.gens → KpF fs [D] s.heap s1.heap → wpAny (model prog w) A.in1.in1 (call (.ref fa) [v]) (KeyT fs (kf x) s1) (fun _ _ => False) s1)
    (h : ∀ (s2 : Shared) (D : Addr) (out : List Value) (c : Nat), s2.os = s.os → AllBare s2.gens → KpF fs [D] s.heap s2.heap → s.heap.objs.size ≤ D → s2.heap.get? D = some (seqObj "list" out.toArray c) → EachIs R out (bs.mergeSort (dataLe false kf)) → Q (.ref D) s2) :
    wpAny (model prog w) A (call (.builtin "sorted") [.ref r] [(Str.ofString "key", .ref fa)]) Q E s := by
  refine call_function_entry_kw kind_sorted plain_sorted entry_sorted (ksk_s1 _ _) ?_
  unfold Builtin.«sorted»
  apply wpAny_bind (m := checkCount "sorted" 1 1 _)
  apply wpAny_pure
  apply wpAny_bind
  refine gather_src (A := A.in1) K hh hok (en ▸ hn) fun h1 tk acc hk grown hacc => ?_
  have hl : acc.toList.length = bs.length := by rw [Array.length_toList, ← en]; exact hacc.1
  have hP : ∀ (j : Nat) v, acc.toList[j]? = some v → P j v := fun j v e => hacc.2 j v (by rw [← Array.getElem?_toList]; exact e)
  generalize acc.toList = us at hl hP
  have each : ∀ (us : List Value) (cs : List β), us.length = cs.length → (∀ (j : Nat) v, us[j]? = some v → ∃ x, cs[j]? = some x ∧ R v x) → EachIs R us cs := by
    intro us
    induction us with
    | nil => intro cs hl _; cases cs with | nil => exact .nil | cons _ _ => simp at hl
    | cons v us ih =>
      intro cs hl hh
      cases cs with
      | nil => simp at hl
      | cons x cs =>
        obtain ⟨x', e1, e2⟩ := hh 0 v rfl
        simp at e1
        subst e1
        exact .cons e2 (ih cs (by simpa using hl) fun j v e => hh (j + 1) v (by simpa using e))
  have ev := each us bs hl fun j v e => hp j v (hP j v e)
  apply wpAny_bind
  refine wpAny_newList ?_ (by rw [hl]; exact hn)
  have here : (h1.push (seqObj "list" us.toArray 0)).get? h1.objs.size = some (seqObj "list" us.toArray 0) := Heap.get?_push_size _ rfl
  have old : ∀ b o, s.heap.get? b = some o → (h1.push (seqObj "list" us.toArray 0)).get? b = some o := fun b o e => Heap.get?_push_of_some _ (hk b o e)
  have le1 : s.heap.objs.size ≤ h1.objs.size := Nat.le_of_lt grown
  have down : ∀ s1 : Shared, KpF fs [h1.objs.size] (h1.push (seqObj "list" us.toArray 0)) s1.heap → KpF fs [h1.objs.size] s.heap s1.heap := fun s1 x =>
    ⟨fun b o c1 c2 e => x.k b o c1 c2 (old b o e), fun b o c1 c2 e => x.s b o c1 c2 (old b o e)⟩
  change wpAny _ _ _ _ _ { s with heap := h1.push (seqObj "list" us.toArray 0), toks := tk }
  apply wpAny_bind
  apply wpAny_holding
  refine wpAny_call_entry_kw slot_list_sort ⟨_, here, rfl⟩ entry_list_sort ?_ (ksk_l1 _ _)
  rw [ksk_t1]
  refine keyT_tree (fs := fs) (kz := bs.map kf) (s := { s with heap := h1.push (seqObj "list" us.toArray 0), toks := tk }) hbare here (fun z => Nat.lt_irrefl _ (Nat.lt_of_lt_of_le (ff _ z) le1)) (fun x hx => ?_) (by rw [List.length_map]; exact hl.symm) (by rw [hl]; exact hn) hal hsk (bound_map (A := A.in1.in1) hu) (fun i v d e1 e2 s1 o1 g1 kp1 => ?_) fun s2 out c o2 g2 kp2 hD ko => ?_
  · have := ff x hx
    exact Nat.lt_of_lt_of_le this (by rw [size_push']; exact Nat.le_succ_of_le le1)
  · rw [List.getElem?_map] at e2
    obtain ⟨x, e3, rfl⟩ := Option.map_eq_some_iff.mp e2
    have hz : (v, x) ∈ us.zip bs := List.mem_of_getElem? (i := i) (by rw [List.getElem?_zip_eq_some]; exact ⟨e1, e3⟩)
    exact turn v x (ev.zip _ hz) (List.mem_of_getElem? e3) h1.objs.size s1 le1 o1 g1 (down s1 kp1)
  · refine ⟨.none, rfl, ?_⟩
    exact wpAny_pure ⟨_, rfl, h s2 h1.objs.size out c o2 g2 (down s2 kp2) le1 hD (keyedOut_each kf ko ev)⟩
end
open PySem L2
-- data of ints and tuples
mutual
def pyK : D → Option PyData
  | .int i => some (.int i)
  | .tup xs => (pyKs xs).map .tuple
  | _ => none
def pyKs : List D → Option (List PyData)
  | [] => some []
  | x :: xs => match pyK x, pyKs xs with
    | some p, some ps => some (p :: ps)
    | _, _ => none
end
/-- the tuples alone -/
def tupH (H : Hp) : Hp := fun b => match H b with
  | some (.frz o (.tup vs)) => some (.frz o (.tup vs))
  | _ => none
theorem tupH_some {H : Hp} {b : Addr} {u : HO} (h : tupH H b = some u) : ∃ o vs, u = .frz o (.tup vs) ∧ H b = some u := by
  unfold tupH at h
  split at h
  · rename_i o vs e
    cases h
    exact ⟨o, vs, rfl, e⟩
  · cases h
theorem tupH_none {H : Hp} {b : Addr} (h : H b = none) : tupH H b = none := by
  unfold tupH
  rw [h]
theorem tupH_of {H : Hp} {b : Addr} {o : Obj} {vs : List V} (h : H b = some (.frz o (.tup vs))) : tupH H b = some (.frz o (.tup vs)) := by
  unfold tupH
  rw [h]
theorem rd_tupH {K : PySem.W.Frag} {H : Hp} {d : D} {v : V} (r : RD K H d v) : ∀ {p : PyData}, pyK d = some p → RD K (tupH H) d v := by
  induction r with
  | int i => intro p _; exact .int i
  | @tup a xs vs h hl hi ih =>
    intro p hp
    simp only [pyK, Option.map_eq_some_iff] at hp
    obtain ⟨ps, h1, _⟩ := hp
    have all : ∀ (xs : List D) (ps : List PyData), pyKs xs = some ps → ∀ x ∈ xs, ∃ p, pyK x = some p := by
      intro xs
      induction xs with
      | nil => intro _ _ x hx; cases hx
      | cons y ys ih2 =>
        intro ps e x hx
        simp only [pyKs] at e
        split at e
        · rename_i p qs e1 e2
          rcases List.mem_cons.mp hx with rfl | hx
          · exact ⟨p, e1⟩
          · exact ih2 _ e2 x hx
        · cases e
    refine .tup ?_ hl fun i x v e1 e2 => ?_
    · rcases h with ⟨o, h, hd⟩ | h
      · exact .inl ⟨o, tupH_of h, hd⟩
      · exact .inr h
    · obtain ⟨q, hq⟩ := all xs ps h1 x (List.mem_of_getElem? e1)
      exact ih i x v e1 e2 hq
  | _ => intro p hp; simp [pyK] at hp
section
variable {P : Program} {w : World} {K : PySem.W.Frag} {H : Hp} {h : Heap}
theorem tup_obj (hok : HOk P w H h) (kin : K.In h) {a : Addr} {vs : List V} (s : SqP K H a vs) : ∃ o its n, h.get? a = some o ∧ o.cls = .type "tuple" ∧ o.data = .seq its n ∧ Vals vs its.toList := by
  rcases s with ⟨o, s, _⟩ | ⟨o, its, n, s1, s2, _, s3, _, s4⟩
  · obtain ⟨ho, z, its, r, ob, e, c, n, dt⟩ := hok a _ s
    exact ⟨ob, its.toArray, n, e, c, dt, by simpa using r⟩
  · exact ⟨o, its, n, kin a o s1, s2, s3, s4⟩
theorem reads_K (hok : HOk P w H h) (kin : K.In h) {d : D} {v : V} (r : RD K H d v) : ∀ {p : PyData} {u : Value}, pyK d = some p → RelV v u → PySem.Reads h u p [] := by
  induction r with
  | int i =>
    intro p u hp rv
    obtain ⟨t, rfl⟩ := rv
    simp only [pyK, Option.some.injEq] at hp
    subst hp
    exact .int i t
  | @tup a xs vs hs hl hi ih =>
    intro p u hp rv
    cases (show u = Value.ref a from rv)
    simp only [pyK, Option.map_eq_some_iff] at hp
    obtain ⟨ps, h1, rfl⟩ := hp
    obtain ⟨o, its, n, e1, e2, e3, rs⟩ := tup_obj hok kin hs
    refine .tuple e1 e2 e3 ?_
    have all : ∀ (xs : List D) (vs : List V) (us : List Value) (ps : List PyData), xs.length = vs.length → Vals vs us → (∀ (i : Nat) (x : D) (v : V), xs[i]? = some x → vs[i]? = some v → ∀ {p : PyData} {u : Value}, pyK x = some p → RelV v u → PySem.Reads h u p []) → pyKs xs = some ps → PySem.ReadsAll h us ps [] := by
      intro xs
      induction xs with
      | nil =>
        intro vs us ps hl rs _ e
        cases vs with
        | nil => cases rs; cases e; exact .nil
        | cons _ _ => simp at hl
      | cons x xs ih2 =>
        intro vs us ps hl rs hh e
        cases rs with
        | nil => simp at hl
        | cons r1 r2 =>
          simp only [pyKs] at e
          split at e
          · rename_i q qs e1 e2
            cases e
            have z := hh 0 _ _ rfl rfl e1 r1
            exact PySem.ReadsAll.cons (as := []) (bs := []) z (ih2 _ _ _ (by simpa using hl) r2 (fun i x v a b => hh (i + 1) x v (by simpa using a) (by simpa using b)) e2)
          · cases e
    exact all xs vs its.toList ps hl rs (fun i x v a b => ih i x v a b) h1
  | _ => intro p u hp; simp [pyK] at hp
end
section
open PySem.W PyProof.Rows
variable {X : Cx} {k : Nat} {f : Addr} {fd : FuncData} {ps : List Str} {C : Ct} {pins : List (Addr × Obj)} {σ : L2.St} {H : Hp} {s0 s1 : Shared}
/-- f(x) while the list is sorted -/
theorem turn_fk (F : FK X.prog X.w X.K X.mg X.base k f fd ps (spOf X.K C)) {A : Around} (hr : Room k A) (hg : A.guards = some []) (hA : A.frames = some X.stack) (hb : Binds X.K fd ps []) (I : L2.Inv X pins σ H s0) {L : Addr} (hL : s0.heap.objs.size ≤ L) (bare : AllBare s1.gens) (kp : KpF (frs X.stack) [L] s0.heap s1.heap)
    {d : D} {v : V} {u : Value} {pd kd : PyData} (rd : RD X.K H d v) (hd : pyK d = some pd) (rv : RelV v u) (hC : UpC C [d] (fun _ => none) (fun r _ => pyK r = some kd) noX) :
    wpAny (model X.prog X.w) A (call (.ref f) [u]) (KeyT (frs X.stack) kd s1) (fun _ _ => False) s1 := by
  have e0 := I.env0
  have nL : ∀ b o, s0.heap.get? b = some o → b ∉ [L] := fun b o e z => by
    rw [List.mem_singleton.mp z] at e
    exact Nat.lt_irrefl _ (Nat.lt_of_lt_of_le (Heap.lt_size e) hL)
  have nb : ∀ b o, X.base.get? b = some o → b ∉ frs X.stack := fun b o e z => by
    have := (e0.funs.mem z).1
    rw [e] at this
    cases this
  have tk : ∀ b o u, H b = some (.frz o u) → s1.heap.get? b = some o := fun b o u e => by
    have h1 := (e0.hok b _ e).1
    exact kp.k b o (nL b o h1) (fun z => by rw [e0.frf b z] at e; cases e) h1
  have kin : X.K.In s1.heap := e0.mod.kin.keeps fun b o e => kp.k b o (nL b o (e0.bs b o e).1) (nb b o e) (e0.bs b o e).1
  have hok1 : HOk X.prog X.w (tupH H) s1.heap := fun b u e => by
    obtain ⟨o, vs, rfl, e1⟩ := tupH_some e
    obtain ⟨q1, z, its, r, ob, q2, q3⟩ := e0.hok b _ e1
    have q4 := tk b o _ e1
    rw [q1] at q2
    cases q2
    exact ⟨q4, z, its, r, o, q4, q3⟩
  have e1 : Env0 X.prog X.w X.K X.mg X.base A X.stack s1 (tupH H) := by
    refine ⟨hA, e0.mod, fun b o e => ⟨kp.k b o (nL b o (e0.bs b o e).1) (nb b o e) (e0.bs b o e).1, tupH_none (e0.bs b o e).2⟩, ?_, ?_, fun b hb => tupH_none (e0.frf b hb), hok1, bare⟩
    · obtain ⟨m, ⟨ol, _, _, hl, _⟩, _⟩ := I.loc
      obtain ⟨sl, e⟩ := kp.any (nL _ _ hl) hl
      exact Nat.le_trans (Nat.le_trans I.ok.bsz I.ok.above) (Nat.le_of_lt (Heap.lt_size e))
    · exact e0.funs.of_keeps fun b o e _ => by
        obtain ⟨sl, e2⟩ := kp.any (nL b o e) e
        exact ⟨_, e2, rfl⟩
  obtain ⟨Q0, E0, h1, h2, h3⟩ := hC
  have sp : spOf X.K C [v] (tupH H) (fun v' H' => ∃ r, pyK r = some kd ∧ RD X.K H' r v') (fun _ _ _ => False) := ⟨[d], fun _ => none, Q0, E0, (fun a o z => by cases z), .cons (rd_tupH rd hd) .nil, h1, fun r G' q v' H' _ r' _ => ⟨r, h2 r G' q, r'⟩, fun c fo G' q => (h3 c fo G' q).elim⟩
  have hl : ([u] ++ ([] : List Value)).length = ps.length := F.len _ _ _ _ sp
  have hb' := hb s1 [u] kin hl
  rw [List.append_nil] at hb'
  refine wpAny_call (codeAny_mono (F.run A X.stack s1 (tupH H) ⟨[u], []⟩ [u] [v] _ _ hr hg e1 hb' (.cons rv .nil) sp) fun r s' hq => ?_)
  cases r with
  | error e =>
    obtain ⟨_, _, _, _, _, _, _, _, _, _, _, _, z⟩ := hq
    exact z.elim
  | ok fl =>
    cases fl with
    | ret u' =>
      obtain ⟨v', H', os, ba, un, hok, rv', r, hk, r'⟩ := hq
      have kp2 : KpF (frs X.stack) [] s1.heap s'.heap := by
        refine ⟨fun b o _ hf e => ?_, fun b o _ hf e => un.slot b o e (tupH_none (e0.frf b hf)) hf (by simp)⟩
        cases hb : tupH H b with
        | none => exact un.keep b o e hb hf (by simp)
        | some w =>
          obtain ⟨ob, vs, rfl, _⟩ := tupH_some hb
          have q1 := (hok1 b _ hb).1
          rw [e] at q1
          cases q1
          exact (hok b _ (un.frzs b _ _ hb)).1
      have kin2 : X.K.In s'.heap := e0.mod.kin.keeps fun b o e => kp2.k b o (by simp) (nb b o e) (e1.bs b o e).1
      exact ⟨os, ba, kp2, reads_K hok kin2 r' hk rv'⟩
    | next => exact False.elim hq
    | brk => exact False.elim hq
    | cont => exact False.elim hq
/-- the list is there, all else as it was -/
theorem inv_sorted {Q : VK} (I : L2.Inv X pins σ H s0) {L : Addr} (hL : s0.heap.objs.size ≤ L) (os : s1.os = s0.os) (bare : AllBare s1.gens) (kp : KpF (frs X.stack) [L] s0.heap s1.heap) {ws : List V} {out : List Value} {c : Nat} (hz : ws.length ≤ sizeLine) (rs : Vals ws out) (ho : s1.heap.get? L = some (seqObj "list" out.toArray c)) (q : Q (.ref L) (L2.upd H L (.lst ws))) :
    EP X pins σ Q (.ref L) s1 := by
  have e0 := I.env0
  have nL : ∀ b o, s0.heap.get? b = some o → b ∉ [L] := fun b o e z => by
    rw [List.mem_singleton.mp z] at e
    exact Nat.lt_irrefl _ (Nat.lt_of_lt_of_le (Heap.lt_size e) hL)
  have nE : ∀ b o, s0.heap.get? b = some o → b ≠ L := fun b o e z => nL b o e (by simp [z])
  have hn : H L = none := I.hok.fresh hL
  have nH : ∀ b u, H b = some u → b ≠ L := fun b u e => ne_of_none e hn
  have nf : ∀ b u, H b = some u → b ∉ frs X.stack := fun b u e z => by rw [e0.frf b z] at e; cases e
  refine I.after ⟨.ref L, L2.upd H L (.lst ws), os, bare, ⟨fun b o e n hf _ => kp.k b o (nL b o e) hf e, fun b o e n hf _ => kp.s b o (nL b o e) hf e, fun b o e n _ => by rw [upd_ne (nE b o e)]; exact n, fun b o e _ => ?_, fun b xs e => by rw [upd_ne (nH b _ e)]; exact e, fun b o u e => by rw [upd_ne (nH b _ e)]; exact e, fun b xs e => ⟨#[], by rw [upd_ne (nH b _ e)]; simpa using e⟩⟩, fun b u e => ?_, rfl, q⟩
  · obtain ⟨sl, e2⟩ := kp.any (nL b o e) e
    exact ⟨_, e2⟩
  · by_cases hb : b = L
    · subst hb
      rw [upd_same] at e
      cases e
      exact ⟨hz, out, c, rs, ho⟩
    · rw [upd_ne hb] at e
      refine (I.hok b u e).stay (fun x o hx ex => ?_) (fun x ex => by rw [upd_ne (nH x _ ex)]; exact ex) fun x xs ex => by rw [upd_ne (nH x _ ex)]; exact ex
      refine kp.k x o (nL x o ex) ?_ ex
      rcases hx with rfl | hx
      · exact nf _ _ e
      · exact nf _ _ hx
/-- sorted(d, key=f): d's keys of ints and tuples -/
def sortedKD (C : Ct) : FL := fun xs G Q => ∃ (a : Addr) (kvs : List (D × D)) (kf : D → PyData), xs = [.ref a] ∧ G a = some (.dic none kvs) ∧ (∀ kv ∈ kvs, (∃ p, pyK kv.1 = some p) ∧ (kf kv.1).depth ≤ 9 ∧ (∃ x r, kf kv.1 = .tuple (x :: r)) ∧ UpC C [kv.1] (fun _ => none) (fun r _ => pyK r = some (kf kv.1)) noX) ∧
  AllAlike ((kvs.map (·.1)).map kf) ∧ ∀ p, G p = none → Q (.ref p) (up G p (.lst ((kvs.map (·.1)).mergeSort (dataLe false kf))))
theorem sortedKD_mono {C : Ct} : MonoFL (sortedKD C) := fun xs G Q Q' h ⟨a, kvs, kf, a1, a2, a3, a4, q⟩ => ⟨a, kvs, kf, a1, a2, a3, a4, fun p hp => h _ _ (q p hp)⟩
theorem cr_sortedK (F : FK X.prog X.w X.K X.mg X.base k f fd ps (spOf X.K C)) (hr : Room (k + 2) X.A) (hg : X.A.guards = some []) (hb : Binds X.K fd ps []) (hc : X.calm = true) (hu : X.A.units + 64 < cLine) :
    CallRK X (.builtin "sorted") [Str.ofString "key"] (fun xs zs H Q => zs = [.ref f] ∧ rLD X.K (sortedKD C) xs H Q) := by
  intro pins s σ H xs zs us ws Q I r rz h
  obtain ⟨rfl, G, ds, m, rd, a, kvs, kf, e, hG, hkv, hal, q⟩ := h
  subst e
  obtain ⟨v, vs', rfl, r1, r2⟩ := rd.cons_inv
  cases r2.nil_inv
  cases r1
  obtain ⟨u, rfl, ru⟩ := vals1 r
  cases (show u = Value.ref a from ru)
  obtain ⟨w1, rfl, rw1⟩ := vals1 rz
  cases (show w1 = Value.ref f from rw1)
  obtain ⟨es, ep, ys, raw, hes, hsys, hz, P, at_⟩ := dic_raw I m hG
  have ff : ∀ x ∈ frs X.stack, x < s.heap.objs.size := fun x hx => by
    obtain ⟨_, o, ho, _⟩ := I.env0.funs.mem hx
    exact Heap.lt_size ho
  refine sorted_srcK (fs := frs X.stack) (bs := kvs.map (·.1)) (PySem.KdlSrc.rawDict hsys) (I.ok.hd hc) raw I.bare ff (by rw [List.length_map]; exact hes) (by rw [List.length_map]; exact hz) (fun v d => ∃ b, v = Value.ref b ∧ RD X.K H d (.ref b)) (fun i v ⟨hi, hv⟩ => ?_) kf hal (.inl fun d hd => ?_) (fun d hd => ?_) (fun v d ⟨b, hv, rb⟩ hd L s1 hL os bare kp => ?_) fun s2 L out c os bare kp hL ho eo => ?_
  · obtain ⟨kv, x, e1, e2, rl, e3, _⟩ := at_ i hi
    exact ⟨kv.1, by rw [List.getElem?_map, e1]; rfl, x.2.1, hv.trans e3, rl.2.2.1⟩
  · obtain ⟨d', hd', rfl⟩ := List.mem_map.mp hd
    obtain ⟨kv, hkv', rfl⟩ := List.mem_map.mp hd'
    exact (hkv kv hkv').2.2.1
  · obtain ⟨kv, hkv', rfl⟩ := List.mem_map.mp hd
    have := (hkv kv hkv').2.1
    show X.A.units + 1 + 1 + _ < cLine
    omega
  · obtain ⟨kv, hkv', rfl⟩ := List.mem_map.mp hd
    obtain ⟨⟨p, hp⟩, _, _, hC⟩ := hkv kv hkv'
    subst hv
    exact turn_fk F hr.in1.in1 hg I.env0.frames hb I hL bare kp rb hp rfl hC
  · have hv : ∀ (l : List D) (out : List Value), EachIs (fun v d => ∃ b, v = Value.ref b ∧ RD X.K H d (.ref b)) out l → ∃ ws, Vals ws out ∧ RDs X.K H l ws := by
      intro l out he
      induction he with
      | nil => exact ⟨[], .nil, .nil⟩
      | cons h1 _ ih =>
        obtain ⟨b, rfl, rb⟩ := h1
        obtain ⟨ws, w1, w2⟩ := ih
        exact ⟨.ref b :: ws, .cons rfl w1, .cons rb w2⟩
    obtain ⟨ws, w1, w2⟩ := hv _ out eo
    have hfr := I.hok.fresh hL
    have kk : KT X.K H (L2.upd H L (.lst ws)) := .upd_new hfr
    refine inv_sorted I hL os bare kp ?_ w1 ho (q L (m.fresh hfr) _ _ (m.upd kk ⟨ws, upd_same, w2.kt kk⟩) (.ref L) kk)
    rw [← w2.1, (List.mergeSort_perm _ _).length_eq, List.length_map]
    exact hz
def dSortK (C : Ct) (ta : DE) : DE := fun σ G Q => ta σ G fun x G1 => sortedKD C [x] G1 Q
theorem de_sortK {x : Str} {e : Expr} {ta : DE} {pos p p2 kpos : Pos} (c : CallOk X.prog X.w X.K X.mg X.base k x C) (hr : Room (k + 2) X.A) (hgd : X.A.guards = some []) (hc : X.calm = true) (hu : X.A.units + 64 < cLine) (hg : Gl X "sorted") (hm : X.mg "sorted" = none) (ha : DPE X e ta) (hgx : Gl X x := by rfl)
    (hdb : (x == ("__debug__" : Str)) = false := by decide) (h1 : starEach [e] X.env = (false, eval e X.env) :: starEach [] X.env := by rfl) (he : backTo pos (starEach [e] X.env) = (false, eval e X.env) :: backTo pos (starEach [] X.env) := by rfl) (hpl : (backTo pos (starEach [e] X.env)).any (·.1) = false := by rfl) : DPE X (.Call (.Name "sorted" p) [e] [⟨some "key", .Name x p2, kpos⟩] pos) (dSortK C ta) := by
  obtain ⟨ma, tta, pa, ra⟩ := ha
  obtain ⟨f, fd, ps, hmx, hk, hb, F⟩ := c
  have pk : PK X [⟨some "key", .Name x p2, kpos⟩] (tCons (tC (.ref f)) tNil) := pk_cons (pe_glob hgx hmx (v := .ref f) rfl hdb) pk_nil
  refine ⟨fun σ G Q Q' h q => ma _ _ _ _ (fun d G1 z => sortedKD_mono _ _ _ _ h z) q, _, pe_callBK (cr_sortedK F hr hgd hb hc hu) hg hm PyProof.Rows.Boot.«sorted» (pa_cons pa pa_nil h1) pk (by decide) (by decide) he hpl, fun σ H σd G Q m s h => ?_⟩
  refine ra σ H σd G _ m s (ma _ _ _ _ (fun d G1 q v H1 m1 r1 k1 => ?_) h)
  exact ⟨rfl, G1, [d], m1, .cons r1 .nil, sortedKD_mono _ _ _ _ (fun d G' z => lf_kt k1 z) q⟩
theorem s_sortK {G : DG} {Q : DK} {σ : DSt} {C : Ct} {ta : DE} (h : ta σ G fun x G1 => sortedKD C [x] G1 Q) : dSortK C ta σ G Q := h
end
end FD

namespace FD
open PySem L2
/-! ### for x in reversed(l) -/
section
variable {X : Cx} {ta : DE} {e : Expr}
def revB (x : D) (G1 : DG) (R : List D → (DG → Prop) → DG → Prop) : Prop := match x with
  | .ref p => match G1 p with
    | some (.lst xs) => R xs.reverse (fun G' => G' p = some (.lst xs)) G1
    | _ => False
  | _ => False
def diRev (t : DE) : DI := fun σ G R => t σ G fun x G1 => revB x G1 R
theorem itOk_rev {K : PySem.W.Frag} {H1 : Hp} {p : Addr} {xs : List D} {n : Nat} {ok : DG → Prop} (hn : n = xs.length) (h : ∀ G' H', KT K H1 H' → MH K G' H' → ok G' → ∃ vs, SqL K H' p vs ∧ RDs K H' xs vs) : ItOk K H1 (Itv K p n) xs.reverse ok := fun i H' G' k m o => by
  obtain ⟨vs, hq, r⟩ := h G' H' k m o
  have hl := r.1
  refine ⟨fun d hd => ?_, fun hl2 => by show n ≤ i; rw [List.length_reverse] at hl2; omega⟩
  have hi : i < xs.length := by
    have := (List.getElem?_eq_some_iff.mp hd).1
    rwa [List.length_reverse] at this
  rw [List.getElem?_reverse hi] at hd
  obtain ⟨v, h1, h2⟩ := r.get hd
  rw [← hn] at h1
  refine ⟨⟨by omega, vs, v, hq, h1⟩, fun x H'' y => ?_⟩
  obtain ⟨rfl, y⟩ := y
  have e := y vs hq
  rw [h1] at e
  cases e
  exact ⟨m, .refl, h2⟩
theorem di_rev {tg : Expr} {p pos : Pos} (hg : Gl X "reversed") (hm : X.mg "reversed" = none) (ha : DPE X e ta) (hs : starEach [e] X.env = (false, eval e X.env) :: starEach [] X.env := by rfl) : DPI X tg (.Call (.Name "reversed" p) [e] [] pos) (diRev ta) := by
  obtain ⟨ma, tta, pa, ra⟩ := ha
  refine ⟨fun σ G R R' h q => ma σ G _ _ (fun x G1 z => ?_) q, _, RT.pi_revA hg hm pa hs, fun σ H σd G R m s h => ra σ H σd G _ m s (ma _ _ _ _ (fun d G1 z v H1 m1 r1 k1 => ?_) h)⟩
  · unfold revB at z ⊢
    split at z
    · split at z <;> first | exact h _ _ _ z | exact z
    · exact z
  · unfold revB at z
    split at z
    · cases r1
      rename_i p
      split at z
      · rename_i xs e
        obtain ⟨vs, g, r⟩ := m1 _ _ e
        refine ⟨p, vs, rfl, .inl ⟨SqL.of g, z _ H1 m1 k1 (itOk_rev r.1.symm fun G' H' k' m' o => ?_)⟩⟩
        obtain ⟨vs', g', r'⟩ := m' _ _ o
        exact ⟨vs', SqL.of g', r'⟩
      · exact z.elim
    · exact z.elim
theorem s_rev {te : DE} {σ : DSt} {G : DG} {R : List D → (DG → Prop) → DG → Prop} (h : te σ G fun x G1 => revB x G1 R) : diRev te σ G R := h
theorem s_revB {p : Addr} {xs : List D} {G : DG} {R : List D → (DG → Prop) → DG → Prop} (e : G p = some (.lst xs)) (k : R xs.reverse (fun G' => G' p = some (.lst xs)) G) : revB (.ref p) G R := by
  unfold revB
  simp only [e]
  exact k
end
/-! ### sorted(t), t a tuple of pairs of ints -/
section
open PySem.W PyProof.Rows
variable {prog : Program} {w : World} {A : Around} {E : Value → Shared → Prop} {s : Shared}
theorem sorted_tupK {β : Type} {l : Addr} {o : Obj} {us : List Value} {k : Nat} {bs : List β} (R : Value → β → Prop) (enc : β → PyData) {Q : Value → Shared → Prop} (hob : s.heap.get? l = some o) (hcl : o.cls = .type "tuple") (hdt : o.data = .seq us.toArray k) (hle : us.length ≤ sizeLine)
    (ev : EachIs R us bs) (rd : ∀ v x, R v x → Reads s.heap v (enc x) []) (hal : AllAlike (bs.map enc)) (hsk : Sortable (bs.map enc)) (hu : ∀ x, x ∈ bs → A.units + 3 + (enc x).depth < cLine)
    (fin : ∀ (h' : Heap) (tk : Nat) (L : Addr) (out : List Value), EachIs R out (bs.mergeSort (dataLe false enc)) → (∀ b o, s.heap.get? b = some o → h'.get? b = some o) → s.heap.objs.size ≤ L → (∃ m, h'.get? L = some (seqObj "list" out.toArray m)) → Q (.ref L) { s with heap := h', toks := tk }) :
    wpAny (model prog w) A (call (.builtin "sorted") [.ref l]) Q E s := by
  apply Calls.call_function_entry kind_sorted plain_sorted entry_sorted (args_sorted1 _)
  unfold Builtin.«sorted»
  apply wpAny_bind (m := checkCount "sorted" 1 1 _)
  apply wpAny_pure
  apply wpAny_bind
  apply gather_tup hob hcl hdt hle
  apply wpAny_bind
  refine wpAny_newList ?_ hle
  generalize hB : (s.heap.push (seqObj "list" #[] 0)).update s.heap.objs.size (Obj.mapSeq fun zs => zs ++ us.toArray) = B
  have size : B.objs.size = s.heap.objs.size + 1 := by rw [← hB, Heap.size_update, size_push']
  have old : ∀ b o, s.heap.get? b = some o → B.get? b = some o := fun b o e => by
    rw [← hB, Heap.get?_update_ne _ _ _ _ (Nat.ne_of_lt (Heap.lt_size e))]
    exact Heap.get?_push_of_some _ e
  have here : (B.push (seqObj "list" us.toArray 0)).get? B.objs.size = some (seqObj "list" us.toArray 0) := Heap.get?_push_size _ rfl
  have keep : ∀ b o, s.heap.get? b = some o → b ≠ B.objs.size ∧ (B.push (seqObj "list" us.toArray 0)).get? b = some o := fun b o e => ⟨Nat.ne_of_lt (Heap.lt_size (old b o e)), Heap.get?_push_of_some _ (old b o e)⟩
  change wpAny _ _ _ _ _ { s with heap := B.push (seqObj "list" us.toArray 0) }
  apply wpAny_bind
  apply wpAny_holding
  refine list_sort_data (bs := bs) (enc := enc) (R := R) here ev (ev.mono fun v x z => ⟨[], Reads.keeps (fun b o e => (keep b o e).2) (rd v x z), by simp⟩) hal hsk (by rw [← ev.length]; exact hle) (fun x hx => ?_) fun out ho eo => ?_
  · have := hu x hx
    show A.units + 1 + 1 + _ < cLine
    omega
  · refine wpAny_pure ⟨_, rfl, ?_⟩
    exact fin _ s.toks B.objs.size out eo (fun b o e => by rw [sortedHeap_old (keep b o e).1 (Heap.lt_size (keep b o e).2)]; exact (keep b o e).2) (by rw [size]; exact Nat.le_succ _) (sortedHeap_at here)
def shPI (p : Int × Int) : PyData := .tuple [.int p.1, .int p.2]
theorem pyK_PI (p : Int × Int) : pyK (encPI p) = some (shPI p) := by simp [pyK, pyKs, shPI, encPI]
def srtPI (ps : List (Int × Int)) : List (Int × Int) := ps.mergeSort (dataLe false shPI)
theorem srtPI_perm (ps : List (Int × Int)) : (srtPI ps).Perm ps := List.mergeSort_perm _ _
theorem srtPI_lex (ps : List (Int × Int)) : (srtPI ps).Pairwise lexLe := by
  have e : dataLe false shPI = fun p q => decide (p.1 < q.1 ∨ (p.1 = q.1 ∧ p.2 ≤ q.2)) := dataLe_ii (β := Int × Int) (fun p => p.1) (fun p => p.2)
  refine (sort_pairwise (sortLe_total _ _ _) ps).imp fun {a b} h => ?_
  have h' : dataLe false shPI a b = true := h
  rw [e, decide_eq_true_iff] at h'
  exact h'
end
open PySem.Spec in
section
open PySem.W PyProof.Rows
variable {X : Cx} {e : Expr} {es : List Expr} {pos : Pos}
def sortedQD : FL := fun xs G Q => ∃ ps : List (Int × Int), xs = [.tup (ps.map encPI)] ∧ ∀ p, G p = none → Q (.ref p) (up G p (.lst ((srtPI ps).map encPI)))
theorem cr_sortedQD (hu : X.A.units + 64 < cLine) : CallR X (.builtin "sorted") (rLD X.K sortedQD) := by
  intro pins s σ H xs us Q I r ⟨G, ds, m, rd, ps, e, q⟩
  subst e
  obtain ⟨v, vs', rfl, r1, r2⟩ := rd.cons_inv
  cases r2.nil_inv
  obtain ⟨u, rfl, ru⟩ := vals1 r
  cases r1 with
  | @tup a _ vs hs hl hi =>
    cases (show u = Value.ref a from ru)
    obtain ⟨o, its, n, h1, h2, h3, rv⟩ := tup_obj I.hok I.kIn hs
    obtain ⟨_, _, _, hz⟩ := I.tuple hs.t
    have hps : (ps.map encPI).length = ps.length := List.length_map _
    have lv := rv.length
    have ev : ∀ (us : List Value) (vs : List V) (ps : List (Int × Int)), Vals vs us → ps.length = vs.length → (∀ (i : Nat) (x : D) (v : V), (ps.map encPI)[i]? = some x → vs[i]? = some v → RD X.K H x v) → EachIs (fun v p => ∃ b, v = Value.ref b ∧ RD X.K H (encPI p) (.ref b)) us ps := by
      intro us
      induction us with
      | nil => intro vs ps r hl _; cases r; cases ps with | nil => exact .nil | cons _ _ => simp at hl
      | cons u us ih =>
        intro vs ps r hl hh
        cases r with
        | cons r1 r2 =>
          cases ps with
          | nil => simp at hl
          | cons p ps =>
            have z := hh 0 (encPI p) _ rfl rfl
            obtain ⟨b, rfl, _⟩ := rd_pair z
            exact .cons ⟨b, r1, z⟩ (ih _ ps r2 (by simpa using hl) fun i x v a b => hh (i + 1) x v (by simpa using a) (by simpa using b))
    have ev2 := ev its.toList vs ps rv (by omega) hi
    refine sorted_tupK (fun v p => ∃ b, v = Value.ref b ∧ RD X.K H (encPI p) (.ref b)) shPI h1 h2 (by simpa using h3) (by omega) ev2 (fun v p ⟨b, hv, rb⟩ => by subst hv; exact reads_K I.hok I.kIn rb (pyK_PI p) rfl) (AllAlike.of fun p p' => by simp [alike, alikeAll, shPI]) (Sortable.tuples fun p => ⟨_, _, rfl⟩) (fun p _ => ?_) fun h' tk L out eo kp hL hm => ?_
    · have : (shPI p).depth = 1 := by simp [shPI, PyData.depth, PyData.depthAll]
      omega
    · obtain ⟨c, hc⟩ := hm
      have hv : ∀ (l : List (Int × Int)) (out : List Value), EachIs (fun v p => ∃ b, v = Value.ref b ∧ RD X.K H (encPI p) (.ref b)) out l → ∃ ws, Vals ws out ∧ RDs X.K H (l.map encPI) ws := by
        intro l out he
        induction he with
        | nil => exact ⟨[], .nil, .nil⟩
        | cons h1 _ ih =>
          obtain ⟨b, rfl, rb⟩ := h1
          obtain ⟨ws, w1, w2⟩ := ih
          exact ⟨.ref b :: ws, .cons rfl w1, .cons rb w2⟩
      obtain ⟨ws, w1, w2⟩ := hv _ out eo
      have hfr := I.hok.fresh hL
      have kk : KT X.K H (L2.upd H L (.lst ws)) := .upd_new hfr
      refine ⟨.ref L, upd H L (.lst ws), I.laid kp hL ⟨?_, out, c, w1, hc⟩, rfl, q L (m.fresh hfr) _ _ (m.upd kk ⟨ws, upd_same, w2.kt kk⟩) (.ref L) kk⟩
      have l1 := w2.1
      rw [List.length_map] at l1
      rw [← l1, (List.mergeSort_perm _ _).length_eq]
      omega
theorem sortedQD_mono : MonoFL sortedQD := fun xs G Q Q' h ⟨ps, e, q⟩ => ⟨ps, e, fun p h1 => h _ _ (q p h1)⟩
theorem de_sortedQ {p : Pos} {t : DA} (hu : X.A.units + 64 < cLine) (hg : Gl X "sorted") (hm : X.mg "sorted" = none) (ha : DPA X (e :: es) t) (h1 : starEach (e :: es) X.env = (false, eval e X.env) :: starEach es X.env := by rfl) (h2 : ((backTo pos (starEach es X.env)).any fun x => x.fst) = false := by rfl) :
    DPE X (.Call (.Name "sorted" p) (e :: es) [] pos) (dCB sortedQD t) := de_callB (cr_sortedQD hu) sortedQD_mono rLD_sim hg hm PyProof.Rows.Boot.«sorted» ha (by decide) (by decide) h1 h2
theorem s_sortQ {G : DG} {Q : DK} {ps : List (Int × Int)} (h : ∀ p, G p = none → Q (.ref p) (up G p (.lst ((srtPI ps).map encPI)))) : sortedQD [.tup (ps.map encPI)] G Q := ⟨ps, rfl, h⟩
/-- the order by keys that begin with a number -/
theorem dataLe_fst {β : Type} {kf : β → PyData} {a b : β} {n m : Int} {r r' : List PyData} (ha : kf a = .tuple (.int n :: r)) (hb : kf b = .tuple (.int m :: r')) (h : dataLe false kf a b = true) : n ≤ m := by
  have z : lexLt itemOrd (keyToks (kf b)) (keyToks (kf a)) = false := by simpa [dataLe, sortLe] using h
  rw [ha, hb] at z
  simp only [keyToks, keyToksAll] at z
  rw [lex_self] at z
  by_cases hnm : n ≤ m
  · exact hnm
  · have hl : itemOrd.blt (Sum.inl m) (Sum.inl n) = true := by
      show decide (m < n) = true
      exact decide_eq_true (by omega)
    have : lexLt itemOrd ([Sum.inl m] ++ keyToksAll r') ([Sum.inl n] ++ keyToksAll r) = true := by
      show lexLt itemOrd (Sum.inl m :: keyToksAll r') (Sum.inl n :: keyToksAll r) = true
      rw [lex_cons, hl]
      rfl
    rw [this] at z
    cases z
end
end FD

namespace FD
open PySem L2
/-! ### for v in d.values(), d a dict by nested keys: it is locked and stays so -/
def Itw (ow : Option World) (d : Addr) (od : Obj) (ks : List (NestedKey × Addr)) (vs : List V) : It :=
  ⟨fun i H => H d = some (.frz od (dicO ow d ks vs)) ∧ i < vs.length, fun i H x H' => H' = H ∧ vs[i]? = some x, fun i H => H d = some (.frz od (dicO ow d ks vs)) ∧ vs.length ≤ i⟩
section
variable {X : Cx} {pins : List (Addr × Obj)} {σ : St} {H : Hp} {s : Shared} {ow : Option World} {d : Addr} {od : Obj} {ks : List (NestedKey × Addr)} {vs : List V}
theorem frz_dicV (I : L2.Inv X pins σ H s) (h : H d = some (.frz od (dicO ow d ks vs))) : s.heap.get? d = some od ∧ od.ExactDict ∧ ∃ es ep, od.data = .dict es ep ∧ es.size = vs.length ∧ ∀ (i : Nat) v, vs[i]? = some v → ∃ en : DictEntry, es[i]? = some en ∧ RelV v en.val := by
  obtain ⟨hg, ⟨o, es, ep, e1, e2, e3, p1, p2, p3⟩, _⟩ := I.hok d _ h
  rw [hg] at e1
  cases e1
  refine ⟨hg, e2, es, ep, e3, by rw [p2, ← p1]; exact Array.length_toList.symm, fun i v hv => ?_⟩
  have hi := (List.getElem?_eq_some_iff.mp hv).1
  have h1 : i < es.toList.length := by omega
  have h2 : i < ks.length := by omega
  have := p3 i _ _ v (List.getElem?_eq_getElem h1) (List.getElem?_eq_getElem h2) hv
  refine ⟨es.toList[i], ?_, this.2.2⟩
  rw [← Array.getElem?_toList, List.getElem?_eq_getElem h1]
end
theorem turn_w {P : Program} {w : World} {K : PySem.W.Frag} {tg : Expr} {ow : Option World} {d : Addr} {od : Obj} {ks : List (NestedKey × Addr)} {vs : List V} {es : Array DictEntry} {ep : Nat} (it : Addr) (hod : od.data = .dict es ep) :
    Turn P w K tg (Itw ow d od ks vs) [it] it (fun i h => h.IsValIter it d i vs.length ep) := by
  refine ⟨List.mem_singleton.mpr rfl, fun i h st b hb => ?_, fun i h h' st k => st.at fun oi e => k it (List.mem_singleton.mpr rfl) oi e, ?_, ?_, fun A i s Q E st h => wpAny_pyIter_valiter st h⟩
  · obtain rfl := List.mem_singleton.mp hb
    obtain ⟨oi, q1, q2, q3⟩ := st
    exact ⟨oi, q1, fun v z => by rw [q3] at z; cases z⟩
  · intro X' x1 x2 x3 ca i pn s σ H E I hf st go
    subst x1 x2 x3
    obtain ⟨g1, g2⟩ := go
    obtain ⟨f0, f1, _, f3, f4, f5⟩ := hf it (List.mem_singleton.mpr rfl)
    obtain ⟨c1, c2, es', ep', c3, c4, c5⟩ := frz_dicV I g1
    rw [hod] at c3
    cases c3
    have hv := List.getElem?_eq_getElem g2
    obtain ⟨en, n1, n2⟩ := c5 i _ hv
    rw [← c4] at st
    have hi : i < es.size := by omega
    refine wpAny_pyNext_values_item_raw (i := i) st ⟨_, c1, c2, hod⟩ hi fun h' st' sb => ?_
    have J : L2.Inv X' pn σ H { s with heap := h' } := I.turned (t' := s.toks) (fun b ob hb e => (sb.2 b hb).trans e) f0 f1 f3 f4 f5
    obtain ⟨oi, q1, q2, q3⟩ := id st'
    have en' : es[i] = en := by
      have := Array.getElem?_eq_getElem hi
      rw [n1] at this
      exact (Option.some.inj this).symm
    refine ⟨es[i].val, rfl, go_of (s := { s with heap := h' }) q1 q2 q3 (by decide) ?_⟩
    refine ⟨vs[i], H, J, by rw [en']; exact n2, ⟨rfl, hv⟩, ?_, fun b hb => (hf b hb).1⟩
    show h'.IsValIter it d (i + 1) vs.length _
    rw [← c4]
    exact st'
  · intro X' x1 x2 x3 ca i pn s σ H E I hf st go
    subst x1 x2 x3
    obtain ⟨g1, g2⟩ := go
    obtain ⟨f0, f1, _, f3, f4, f5⟩ := hf it (List.mem_singleton.mpr rfl)
    obtain ⟨c1, c2, es', ep', c3, c4, c5⟩ := frz_dicV I g1
    rw [hod] at c3
    cases c3
    rw [← c4] at st
    exact wpAny_pyNext_values_end_raw (I.ok.hd ca) st ⟨_, c1, c2, hod⟩ (by omega) fun h' eb =>
      ⟨rfl, I.turned (t' := s.toks) (fun b ob hb e => eb b ob hb e) f0 f1 f3 f4 f5⟩
def iDicV (td : TE) : TI := fun σ H R => td σ H fun x H1 => ∃ d, x = .ref d ∧ (d == sysModules) = false ∧
  ((∃ ow ks vs, H1 d = some (dicO ow d ks vs) ∧ ∀ od, R (Itw ow d od ks vs) (L2.upd H1 d (.frz od (dicO ow d ks vs)))) ∨ ∃ ow od ks vs, H1 d = some (.frz od (dicO ow d ks vs)) ∧ R (Itw ow d od ks vs) H1)
theorem pi_dicV {X : Cx} {tg e : Expr} {td : TE} {apos cpos : Pos} (he : PE X e td) (hbase : attributeBase e "values" X.env (eval e X.env) = eval e X.env := by rfl) (hline : (apos.endLine == cpos.line) = true := by rfl) : PI X tg (.Call (.Attribute e "values" apos) [] [] cpos) (iDicV td) := by
  refine ⟨fun pins s σ H R I h => ?_⟩
  refine wpAny_Call_method (T := "dict") (id := "dict.values") hbase rfl hline F.plainAttrs_dict F.slot_dict_values F.type_dict_values (thn (he.run pins s σ H _ I h) fun u s1 ⟨x, H1, I1, rx, d, ex, hs, q⟩ => ?_)
  subst ex
  obtain rfl : u = Value.ref d := rx
  have raw : ∀ ow od ks vs H2, L2.Inv X pins σ H2 s1 → H2 d = some (.frz od (dicO ow d ks vs)) → R (Itw ow d od ks vs) H2 →
      s1.TypeIs (.ref d) "dict" ∧ (∀ b, Value.ref d = .ref b → ∃ o, s1.heap.get? b = some o ∧ o.dict = none) ∧ wpAny (model X.prog X.w) X.A (callWith cpos (.builtin "dict.values") [.ref d] [] []) (fun u s' => wpAny (model X.prog X.w) X.A (pyIter u) (PIE X pins σ tg R) X.xe s') X.xe s1 := by
    intro ow od ks vs H2 I2 h2 r
    obtain ⟨c1, c2, es, ep, c3, c4, c5⟩ := frz_dicV I2 h2
    have ty : s1.TypeIs (.ref d) "dict" := ⟨od, c1, c2.1⟩
    have J : L2.Inv X pins σ H2 { s1 with heap := s1.heap.push { cls := .type "dict_values", data := .fields #[.ref d] } } := I2.kept (t' := s1.toks) fun b ob q => Heap.get?_push_of_some _ q
    have fin : wpAny (model X.prog X.w) X.A (pyIter (.ref s1.heap.objs.size)) (PIE X pins σ tg R) X.xe { s1 with heap := s1.heap.push { cls := .type "dict_values", data := .fields #[.ref d] } } := by
      refine wpAny_pyIter_values_raw (d := d) (es := es) (ep := ep) ⟨_, Heap.get?_push_size _ rfl, rfl, rfl⟩ ⟨_, Heap.get?_push_of_some _ c1, c2, c3⟩ (pi_one (tk := s1.toks) J _ (turn_w _ c3) ⟨_, Heap.get?_push_size _ rfl, rfl, ?_⟩ r)
      rw [c4]
      rfl
    refine ⟨ty, fun b z => ?_, ?_⟩
    · cases z
      exact ⟨od, c1, c2.2.1⟩
    · exact method_meetsIn F.slot_dict_values F.entry_dict_values rfl (PySem.evalArgs_none ⟨rfl, ty, F.args_dict_values_1 _, _, meets_dict_values_raw d hs, ⟨es, ep, od, c1, c2, c3⟩, fin⟩)
  rcases q with ⟨ow, ks, vs, h1, r⟩ | ⟨ow, od, ks, vs, h1, r⟩
  · obtain ⟨od, I2⟩ := I1.lock h1 True.intro
    exact raw ow od ks vs _ I2 upd_same (r od)
  · exact raw ow od ks vs _ I1 h1 r
def dicVB (x : D) (G : DG) (R : List D → (DG → Prop) → DG → Prop) : Prop := ∃ d ow kvs, x = .ref d ∧ (G d = some (.dic ow kvs) ∨ G d = some (.dif ow kvs)) ∧ R (kvs.map (·.2)) (fun _ => True) (up G d (.dif ow kvs))
def diVals (t : DE) : DI := fun σ G R => t σ G fun x G1 => dicVB x G1 R
theorem itOk_w {K : PySem.W.Frag} {H1 : Hp} {ow : Option World} {d : Addr} {od : Obj} {ks : List (NestedKey × Addr)} {vs : List V} {kvs : List (D × D)} {ok : DG → Prop} (h : H1 d = some (.frz od (dicO ow d ks vs))) (r : RDs K H1 (kvs.map (·.2)) vs) : ItOk K H1 (Itw ow d od ks vs) (kvs.map (·.2)) ok := fun i H' G' k m o => by
  have h' := k.lis _ _ _ h
  have hl := r.1
  refine ⟨fun y hy => ?_, fun hn => ⟨h', by omega⟩⟩
  obtain ⟨v, h1, h2⟩ := r.get hy
  refine ⟨⟨h', (List.getElem?_eq_some_iff.mp h1).1⟩, fun x H'' z => ?_⟩
  obtain ⟨rfl, z⟩ := z
  rw [h1] at z
  cases z
  exact ⟨m, .refl, h2.kt k⟩
theorem di_vals {X : Cx} {tg l : Expr} {ta : DE} {apos cpos : Pos} (ha : DPE X l ta) (hbase : attributeBase l "values" X.env (eval l X.env) = eval l X.env := by rfl) (hline : (apos.endLine == cpos.line) = true := by rfl) : DPI X tg (.Call (.Attribute l "values" apos) [] [] cpos) (diVals ta) := by
  obtain ⟨ma, tta, pa, ra⟩ := ha
  refine ⟨fun σ G R R' h q => ma σ G _ _ (fun x G1 ⟨d, ow, kvs, e, i, z⟩ => ⟨d, ow, kvs, e, i, h _ _ _ z⟩) q, _, pi_dicV pa hbase hline, fun σ H σd G R m s h => ra σ H σd G _ m s (ma _ _ _ _ (fun x G1 ⟨d, ow, kvs, e, i, z⟩ v H1 m1 r1 k1 => ?_) h)⟩
  subst e
  cases r1
  refine ⟨d, rfl, ?_⟩
  rcases i with i | i
  · obtain ⟨ks, vs, h, h1, h2, h3, h4, h5, h6⟩ := m1 d _ i
    refine ⟨h1, .inl ⟨ow, ks, vs, h, fun od => ?_⟩⟩
    have kk : KT X.K H1 (L2.upd H1 d (.frz od (dicO ow d ks vs))) := .upd_mut h (fun _ e => by cases e) (fun _ _ e => by cases e)
    have h5' := fun i kv k e1 e2 => let ⟨b1, b2, b3⟩ := h5 i kv k e1 e2; (⟨b1, b2, b3.kt kk⟩ : nkD kv.1 = some k.1 ∧ k.1.depth ≤ 8 ∧ RD X.K (L2.upd H1 d (.frz od (dicO ow d ks vs))) kv.1 (.ref k.2))
    exact z _ _ (m1.upd kk ⟨od, ks, vs, upd_same, h1, h2, h3, h4, h5', h6.kt kk⟩) (k1.trans kk) (itOk_w upd_same (h6.kt kk))
  · obtain ⟨od, ks, vs, h, h1, h2, h3, h4, h5, h6⟩ := m1 d _ i
    refine ⟨h1, .inr ⟨ow, od, ks, vs, h, z _ _ ?_ k1 (itOk_w h h6)⟩⟩
    have : up G1 d (.dif ow kvs) = G1 := by
      funext b
      by_cases e : b = d
      · rw [e, up_same, i]
      · exact up_ne e
    rw [this]
    exact m1
theorem s_diV {t : DE} {σ : DSt} {G : DG} {R : List D → (DG → Prop) → DG → Prop} (h : t σ G fun x G1 => dicVB x G1 R) : diVals t σ G R := h
theorem s_vals {d : Addr} {ow : Option World} {kvs : List (D × D)} {G : DG} {R : List D → (DG → Prop) → DG → Prop} (e : G d = some (.dic ow kvs) ∨ G d = some (.dif ow kvs)) (h : R (kvs.map (·.2)) (fun _ => True) (up G d (.dif ow kvs))) : dicVB (.ref d) G R := ⟨d, ow, kvs, rfl, e, h⟩
/-! ### isinstance of a dict by nested keys -/
def tyY (x : D) (G : DG) : Option String := match x with
  | .ref a => match G a with
    | some (.dic _ _) => some "dict"
    | some (.dif _ _) => some "dict"
    | _ => tyN (.ref a) G
  | _ => tyN x G
def isinstYD : FL := fun xs G Q => ∃ x n t, xs = [x, .ty n] ∧ tyY x G = some t ∧ n ∈ tys ∧ Q (.bl (isiB t n)) G
section
variable {X : Cx} {e : Expr} {es : List Expr} {pos : Pos}
theorem dict_obj {pins : List (Addr × Obj)} {σ : St} {H : Hp} {s : Shared} {G : DG} (I : L2.Inv X pins σ H s) (m : MH X.K G H) {a : Addr} {ow : Option World} {kvs : List (D × D)} (h : G a = some (.dic ow kvs) ∨ G a = some (.dif ow kvs)) : ∃ o, s.heap.get? a = some o ∧ o.cls = .type "dict" := by
  rcases h with h | h
  · obtain ⟨ks, vs, g, _⟩ := m a _ h
    obtain ⟨⟨o, es, ep, e1, e2, _⟩, _⟩ := I.hok a _ g
    exact ⟨o, e1, e2.1⟩
  · obtain ⟨od, ks, vs, g, _⟩ := m a _ h
    obtain ⟨_, ⟨o, es, ep, e1, e2, _⟩, _⟩ := I.hok a _ g
    exact ⟨o, e1, e2.1⟩
theorem cr_isinstY : CallR X (.builtin "isinstance") (rLD X.K isinstYD) := by
  intro pins s σ H xs us Q I r ⟨G, ds, m, rd, x, n, t, e, ht, hn, q⟩
  subst e
  obtain ⟨v, vs', rfl, r1, r2⟩ := rd.cons_inv
  obtain ⟨v2, vs2, rfl, r3, r4⟩ := r2.cons_inv
  cases r4.nil_inv
  have old : tyN x G = some t → wpAny (model X.prog X.w) X.A (call (.builtin "isinstance") us) (EP X pins σ Q) X.xe s := fun ht => by
    obtain ⟨h1, h2⟩ := tyN_ok m r1 ht
    cases r3
    exact call_isi pins s σ H _ us Q I r ⟨v, _, _, _, _, rfl, .ty _, h2, kit_ty (kit_all _ h1 _ hn), q _ _ m (.bl _) .refl⟩
  have new : ∀ a ow kvs, x = .ref a → (G a = some (.dic ow kvs) ∨ G a = some (.dif ow kvs)) → t = "dict" → wpAny (model X.prog X.w) X.A (call (.builtin "isinstance") us) (EP X pins σ Q) X.xe s := fun a ow kvs ex hd et => by
    subst ex et
    cases r1
    cases r3
    obtain ⟨u1, u2, rfl, q1, q2⟩ := vals2 r
    cases (show u1 = Value.ref a from q1)
    have e2 : u2 = .type n := (ClsV.ty n).eq q2
    subst e2
    have hk : PySem.W.kitOne X.K (.type "dict") (.type n) = some (isiB "dict" n) := kit_ty (kit_all "dict" (by decide) n hn)
    exact PySem.W.kia_one PySem.W.kitx_dict I.kIn (dict_obj I m hd) hk (fun z => nomatch z) fun tk => ⟨.bl _, H, I.tok tk, rfl, q _ _ m (.bl _) .refl⟩
  unfold tyY at ht
  split at ht
  · rename_i a
    split at ht
    · rename_i ow kvs e
      exact new a ow kvs rfl (.inl e) (Option.some.inj ht).symm
    · rename_i ow kvs e
      exact new a ow kvs rfl (.inr e) (Option.some.inj ht).symm
    · exact old ht
  · exact old ht
theorem isinstYD_mono : MonoFL isinstYD := fun xs G Q Q' h ⟨x, n, t, a1, a2, a3, q⟩ => ⟨x, n, t, a1, a2, a3, h _ _ q⟩
theorem de_isinstY {p : Pos} {t : DA} (hg : Gl X "isinstance") (hm : X.mg "isinstance" = none) (ha : DPA X (e :: es) t) (h1 : starEach (e :: es) X.env = (false, eval e X.env) :: starEach es X.env := by rfl) (h2 : ((backTo pos (starEach es X.env)).any fun x => x.fst) = false := by rfl) :
    DPE X (.Call (.Name "isinstance" p) (e :: es) [] pos) (dCB isinstYD t) := de_callB cr_isinstY isinstYD_mono rLD_sim hg hm (by decide +kernel) ha (by decide) (by decide) h1 h2
theorem s_isY {G : DG} {Q : DK} {x : D} {n t : String} (e : tyY x G = some t) (hn : n ∈ tys) (h : Q (.bl (isiB t n)) G) : isinstYD [x, .ty n] G Q := ⟨x, n, t, rfl, e, hn, h⟩
theorem tyY_dic {G : DG} {a : Addr} {ow : Option World} {kvs : List (D × D)} (h : G a = some (.dic ow kvs) ∨ G a = some (.dif ow kvs)) : tyY (.ref a) G = some "dict" := by
  rcases h with h | h <;> simp [tyY, h]
theorem tyY_of {G : DG} {x : D} {t : String} (h : tyN x G = some t) : tyY x G = some t := by
  unfold tyY
  split
  · rename_i a
    split
    · rename_i e
      simp [tyN, e] at h
    · rename_i e
      simp [tyN, e] at h
    · exact h
  · exact h
end
end FD

namespace FD
open PySem L2
section
variable {X : Cx} {a b c e : Expr} {es rest : List Expr} {ta tb tc : DE} {pos : Pos} {st : Stmt} {sts : List Stmt} {t u : DS}
/-! ### lists unpacked -/
def dgLst (n : Nat) (gs : DTgs) : DTg := fun d σ G Q => match d with
  | .ref p => ∃ xs, G p = some (.lst xs) ∧ xs.length = n ∧ gs xs σ G Q
  | _ => False
theorem dg_lst {k n : Nat} {gs : DTgs} (hc : X.calm = true) (h : DPGs X es gs) (hn : (assignEach es X.env).length = n := by rfl) (hst : (assignEach es X.env).findIdx? (·.1) = none := by rfl) : DPG X (.Tuple es k pos) (dgLst n gs) := by
  obtain ⟨m1, gg1, p1, r1⟩ := h
  refine ⟨fun d σ G Q Q' h q => ?_, _, pg_lst hc p1 hn hst, fun d v σ H σd G Q m s r h => ?_⟩
  · cases d with
    | ref p =>
      obtain ⟨xs, q1, q2, q3⟩ := q
      exact ⟨xs, q1, q2, m1 _ _ _ _ _ h q3⟩
    | _ => exact q
  · cases d with
    | ref p =>
      obtain ⟨xs, q1, q2, q3⟩ := h
      obtain ⟨vs, hv, rr⟩ := m _ _ q1
      cases r
      exact ⟨p, vs, rfl, .inl (.inl hv), by rw [← rr.1]; exact q2, r1 xs vs σ H σd G Q m s rr q3⟩
    | _ => exact False.elim h
def bdL (i j : Nat) : D → DG → DSt → Option DSt := fun d G σ => match d with
  | .ref p => match G p with
    | some (.lst [x, y]) => some ((σ.set i (some x)).set j (some y))
    | _ => none
  | _ => none
def BdH (K : PySem.W.Frag) (vs : List Nat) (bd : D → DG → DSt → Option DSt) (gg : TG) : Prop := ∀ d v σ H σd σd' G (Q : St → Hp → Prop), MH K G H → SR K H σd σ → RD K H d v → bd d G σd = some σd' → (∀ σ', SR K H σd' σ' → wipe σ' vs = wipe σ vs → Q σ' H) → gg v σ H Q
theorem bd_lst {K : PySem.W.Frag} (i j : Nat) : BdH K [i, j] (bdL i j) (gLst K 2 (gCons (gName i) (gCons (gName j) gNil))) := fun d v σ H σd σd' G Q m s r h q => by
  unfold bdL at h
  split at h
  · rename_i p
    split at h
    · rename_i x y g
      cases h
      obtain ⟨vs, hv, rr⟩ := m _ _ g
      obtain ⟨v1, vs1, rfl, a1, a2⟩ := rr.cons_inv
      obtain ⟨v2, vs2, rfl, a3, a4⟩ := a2.cons_inv
      have e3 := a4.nil_inv
      subst e3
      cases r
      refine ⟨p, [v1, v2], rfl, .inl (.inl hv), rfl, v1, [v2], rfl, v2, [], rfl, rfl, q _ ((s.set a1 i).set a3 j) ?_⟩
      rw [wipe_set (by simp), wipe_set (by simp)]
    · cases h
  · cases h
def DCompH (bd : D → DG → DSt → Option DSt) (vs : List Nat) (tt : DTt) (te : DE) (ok : DG → Prop) (p : Addr) (σ : DSt) (Q : DK) : List D → DG → Prop
  | [], G => ok G ∧ Q (.ref p) G
  | d :: r, G => ok G ∧ optS (bd d G (dwipe σ vs)) fun σ' => tt σ' G fun k G3 => if k = true then te σ' G3 fun y G4 => ∃ acc, G4 p = some (.lst acc) ∧ acc.length < sizeLine ∧ ∃ G0, Le G0 (up G4 p (.lst (acc ++ [y]))) ∧ DCompH bd vs tt te ok p σ Q r G0
      else ∃ G0, Le G0 G3 ∧ DCompH bd vs tt te ok p σ Q r G0
theorem DCompH_mono {bd : D → DG → DSt → Option DSt} {vs : List Nat} {tt : DTt} {te : DE} {ok : DG → Prop} {p : Addr} {σ : DSt} {Q Q' : DK} (mt : MonoT tt) (me : MonoE te) (h : ∀ d G, Q d G → Q' d G) :
    ∀ (xs : List D) (G : DG), DCompH bd vs tt te ok p σ Q xs G → DCompH bd vs tt te ok p σ Q' xs G
  | [], G, q => ⟨q.1, h _ _ q.2⟩
  | d :: r, G, q => ⟨q.1, optS_mono (fun σ' z => mt _ _ _ _ (fun k G3 z => by
      cases k with
      | true => exact me _ _ _ _ (fun y G4 z => let ⟨acc, h1, h2, G0, l, h3⟩ := z; ⟨acc, h1, h2, G0, l, DCompH_mono mt me h r _ h3⟩) z
      | false => exact let ⟨G0, l, z⟩ := z; ⟨G0, l, DCompH_mono mt me h r _ z⟩) z) q.2⟩
def dLcH (ti : DI) (bd : D → DG → DSt → Option DSt) (vs : List Nat) (tt : DTt) (te : DE) : DE := fun σ G Q => ti σ G fun items ok G1 => ∀ p, G1 p = none → DCompH bd vs tt te ok p σ Q items (up G1 p (.lst []))
theorem dLcH_sim {tg iter : Expr} {ti : DI} {wi : TI} {bd : D → DG → DSt → Option DSt} {vs : List Nat} {gg : TG} {tt : DTt} {te : DE} {K : PySem.W.Frag} (hb : BdH K vs bd gg) (mt : MonoT tt) (me : MonoE te)
    (mi : ∀ σ G (R R' : List D → (DG → Prop) → DG → Prop), (∀ xs ok G', R xs ok G' → R' xs ok G') → ti σ G R → ti σ G R')
    (ri : ∀ σ H σd G (R : It → Hp → Prop), MH K G H → SR K H σd σ → ti σd G (fun items ok G1 => ∀ J H1, MH K G1 H1 → KT K H H1 → ItOk K H1 J items ok → R J H1) → wi σ H R)
    {σ : St} {H : Hp} {σd : DSt} {G : DG} {Q : VK} (m : MH K G H) (s : SR K H σd σ) (h : dLcH ti bd vs tt te σd G (lf K H Q)) : tLc wi gg (canonT K tt) (canonE K te) vs σ H Q := by
  refine ri σ H σd G _ m s (mi _ _ _ _ (fun items ok G1 z J H1 m1 k1 it p hp => ?_) h)
  have hz := z p (m1.fresh hp)
  have k2 : KT K H1 (L2.upd H1 p (.lst [])) := .upd_new hp
  refine ⟨fun i mm H' => ∃ G', MH K G' H' ∧ KT K H1 H' ∧ mm = items.length - i ∧ i ≤ items.length ∧ DCompH bd vs tt te ok p σd (lf K H Q) (items.drop i) G',
    ⟨items.length, _, m1.upd k2 (.new_lst .nil k2), k2, by omega, by omega, by simpa using hz⟩, ?_⟩
  rintro i mm H' ⟨G', m', k', rfl, hi', q⟩
  have kH : KT K H H' := k1.trans k'
  by_cases hlt : i < items.length
  · rw [List.drop_eq_getElem_cons hlt] at q
    obtain ⟨o, q⟩ := q
    obtain ⟨go, stop⟩ := it i H' G' k' m' o
    obtain ⟨g1, g2⟩ := go items[i] (List.getElem?_eq_getElem hlt)
    refine .inr ⟨g1, fun H2 => ∃ G2, MH K G2 H2 ∧ KT K H1 H2 ∧ DCompH bd vs tt te ok p σd (lf K H Q) (items.drop (i + 1)) G2, ?_, fun x H'' y => ?_⟩
    · rintro H2 ⟨G2, a1, a3, a4⟩
      exact ⟨items.length - (i + 1), by omega, G2, a1, a3, rfl, by omega, a4⟩
    · obtain ⟨b1, b2, b3⟩ := g2 x H'' y
      unfold optS at q
      split at q
      · rename_i σd' e
        have kk : KT K H1 H'' := k'.trans b2
        refine hb items[i] x (wipe σ vs) H'' (dwipe σd vs) σd' G' _ b1 (SR.wipe vs (s.kt (k1.trans kk))) b3 e (fun σ2 s2 w2 => ⟨by rw [w2, wipe_idem], σd', G', b1, s2, ?_⟩)
        refine mt _ _ _ _ (fun k G3 z3 H3 m3 k3 => ?_) q
        have kk3 : KT K H1 H3 := kk.trans k3
        cases k with
        | false =>
          obtain ⟨G0, l, z3⟩ := z3
          exact ⟨G0, m3.le l, kk3, z3⟩
        | true =>
          refine ⟨σd', G3, m3, s2.kt k3, me _ _ _ _ (fun d G4 z4 v H4 m4 r4 k4 => ?_) z3⟩
          obtain ⟨acc, h1, h2, G0, l, h3⟩ := z4
          obtain ⟨ws, g4, rr⟩ := m4 _ _ h1
          refine ⟨ws, g4, by rw [← rr.1]; exact h2, G0, MH.le (m4.upd (.upd_lst g4) (.new_lst (rr.append (RDs.nil.cons r4)) (.upd_lst g4))) l, (kk3.trans k4).trans (.upd_lst g4), h3⟩
      · exact False.elim q
  · have e : items.drop i = [] := List.drop_eq_nil_of_le (by omega)
    rw [e] at q
    obtain ⟨o, q⟩ := q
    obtain ⟨go, stop⟩ := it i H' G' k' m' o
    exact .inl ⟨stop (by omega), q (.ref p) H' m' (.ref p) kH⟩
theorem dLcH_mono {ti : DI} {bd : D → DG → DSt → Option DSt} {vs : List Nat} {tt : DTt} {te : DE} (mt : MonoT tt) (me : MonoE te)
    (mi : ∀ σ G (R R' : List D → (DG → Prop) → DG → Prop), (∀ xs ok G', R xs ok G' → R' xs ok G') → ti σ G R → ti σ G R') : MonoE (dLcH ti bd vs tt te) := fun σ G Q Q' h q => mi σ G _ _ (fun xs ok G1 z p hp => DCompH_mono mt me h xs _ (z p hp)) q
theorem de_lcH {elt tg iter : Expr} {ifs : List Expr} {scope : Scope} (own : List (Str × Nat)) {ti : DI} {bd : D → DG → DSt → Option DSt} {gg : TG} {tt : DTt} {te : DE} (hb : BdH X.K (own.map (·.2)) bd gg) (hc : X.calm = true) (hN : X.N.Nodup) (hi : DPI X tg iter ti) (ok : BlkOk X.N X.env.scope scope own)
    (hg : ∀ (s : Shared) (H : Hp) (C : Addr) (cl : List (Str × Addr)) (fp : List Addr), PG (X.blk s H scope (compEnvC scope cl C X.env) fp) tg gg) (ht : ∀ (s : Shared) (H : Hp) (C : Addr) (cl : List (Str × Addr)) (fp : List Addr), DPTs (X.blk s H scope (compEnvC scope cl C X.env) fp) ifs tt)
    (he : ∀ (s : Shared) (H : Hp) (C : Addr) (cl : List (Str × Addr)) (fp : List Addr), DPE (X.blk s H scope (compEnvC scope cl C X.env) fp) elt te) (mt : MonoT tt) (me : MonoE te) (hs : ∀ x, foldedSetIterable iter X.env x = pure x := by intro _; rfl) :
    DPE X (.ListComp elt [⟨tg, iter, ifs, 0⟩] scope pos) (dLcH ti bd (own.map (·.2)) tt te) := by
  obtain ⟨mi, wi, pi, ri⟩ := hi
  exact ⟨dLcH_mono mt me mi, _, pe_lc hc hN pi ok hg (tt := canonT X.K tt) (te := canonE X.K te) (fun s H C cl fp => (ht s H C cl fp).canon) (fun s H C cl fp => (he s H C cl fp).canon) hs, fun σ H σd G Q m s h => dLcH_sim (tg := tg) (iter := iter) hb mt me mi ri m s h⟩
theorem de_lcHN {elt tg iter : Expr} {ifs : List Expr} {scope : Scope} (own : List (Str × Nat)) {ti : DI} {bd : D → DG → DSt → Option DSt} {gg : TG} {tt : DTt} {te : DE} (hb : BdH X.K (own.map (·.2)) bd gg) (hc : X.calm = true) (hN : X.N.Nodup) (hi : DPI X tg iter ti) (ok : BlkOk X.N X.env.scope scope own)
    (hg : ∀ (s : Shared) (H : Hp) (C : Addr) (cl : List (Str × Addr)) (fp : List Addr), PG (X.blk s H scope (compEnvC scope cl C X.env) fp) tg gg) (ht : ∀ (s : Shared) (H : Hp) (C : Addr) (cl : List (Str × Addr)) (fp : List Addr), DPTs (X.blk s H scope (compEnvC scope cl C X.env) fp) ifs tt)
    (he : ∀ (s : Shared) (H : Hp) (C : Addr) (cl : List (Str × Addr)) (fp : List Addr), DPE (X.blk s H scope (compEnvC scope cl C X.env) fp) elt te) (hs : ∀ x, foldedSetIterable iter X.env x = pure x := by intro _; rfl) :
    DPE X (.ListComp elt [⟨tg, iter, ifs, 0⟩] scope pos) (dLcH ti bd (own.map (·.2)) tt te) :=
  de_lcH own hb hc hN hi ok hg ht he (ht X.s_0 X.H_0 0 [] []).mono (he X.s_0 X.H_0 0 [] []).mono hs
end
section
variable {σ : DSt} {G : DG} {Q : DK}
theorem s_gl {gs : DTgs} {p : Addr} {xs : List D} {i : Nat} {QS : DSt → DG → Prop} (g : G p = some (.lst xs)) (e : xs.length = i) (h : gs xs σ G QS) : dgLst i gs (.ref p) σ G QS := ⟨xs, g, e, h⟩
theorem s_lcH {ti : DI} {bd : D → DG → DSt → Option DSt} {vs : List Nat} {tt : DTt} {te : DE} (h : ti σ G fun items ok G1 => ∀ p, G1 p = none → DCompH bd vs tt te ok p σ Q items (up G1 p (.lst []))) : dLcH ti bd vs tt te σ G Q := h
end
theorem compH_inv {bd : D → DG → DSt → Option DSt} {vs : List Nat} {te : DE} {ok : DG → Prop} {p : Addr} {σ : DSt} {Q : DK} {xs : List D} {G : DG} (Pv : Nat → DG → Prop) (h0 : Pv 0 G) (hok : ∀ i G, i ≤ xs.length → Pv i G → ok G)
    (hs : ∀ (i : Nat) (d : D) (G : DG), xs[i]? = some d → i < xs.length → Pv i G → ∃ σ', bd d G (dwipe σ vs) = some σ' ∧ ∀ N : DG → Prop, (∀ G' G0, Le G0 G' → Pv (i + 1) G0 → N G') → te σ' G fun y G4 => ∃ acc, G4 p = some (.lst acc) ∧ acc.length < sizeLine ∧ N (up G4 p (.lst (acc ++ [y]))))
    (hd : ∀ G, Pv xs.length G → Q (.ref p) G) : DCompH bd vs dYes te ok p σ Q xs G := by
  have q : ∀ (n i : Nat) (G : DG), n = xs.length - i → i ≤ xs.length → Pv i G → DCompH bd vs dYes te ok p σ Q (xs.drop i) G := by
    intro n
    induction n with
    | zero =>
      intro i G hn hi h
      have e : i = xs.length := by omega
      subst e
      rw [List.drop_length]
      exact ⟨hok _ _ hi h, hd G h⟩
    | succ n ih =>
      intro i G hn hi h
      have hlt : i < xs.length := by omega
      rw [List.drop_eq_getElem_cons hlt]
      obtain ⟨σ', h1, h2⟩ := hs i xs[i] G (List.getElem?_eq_getElem hlt) hlt h
      refine ⟨hok _ _ hi h, ?_⟩
      rw [h1]
      exact h2 (fun G' => ∃ G0, Le G0 G' ∧ DCompH bd vs dYes te ok p σ Q (xs.drop (i + 1)) G0) fun G' G0 l p => ⟨G0, l, ih (i + 1) G0 (by omega) (by omega) p⟩
  have := q _ 0 G rfl (Nat.zero_le _) h0
  rwa [List.drop_zero] at this
end FD

namespace FD
open PySem L2
/-! ### list(d), d a dict by nested keys -/
def rListN : List V → Hp → VK → Prop := fun xs H Q => ∃ d ow ks vs, xs = [V.ref d] ∧ (d == sysModules) = false ∧ (H d = some (dicO ow d ks vs) ∨ ∃ od, H d = some (.frz od (dicO ow d ks vs))) ∧ ks.length ≤ sizeLine ∧
  ∀ p, H p = none → Q (.ref p) (L2.upd H p (.lst (ks.map fun k => V.ref k.2)))
section
variable {X : Cx}
theorem call_listN (hc : X.calm = true) : CallR X (.type "list") rListN := by
  intro pins s σ H xs us Q I r h
  obtain ⟨d, ow, ks, vs, rfl, hs, hd, hz, q⟩ := h
  obtain ⟨u, rfl, rx⟩ := r.one
  cases rx
  have hO : ∃ o es ep, s.heap.get? d = some o ∧ o.ExactDict ∧ o.data = .dict es ep ∧ dicP ow ks vs es.toList := by
    rcases hd with hd | ⟨od, hd⟩
    · obtain ⟨z, _, _⟩ := I.hok d _ hd
      exact z
    · obtain ⟨_, z, _⟩ := I.hok d _ hd
      exact z
  obtain ⟨o, es, ep, ho, hx, hdt, p1, p2, p3⟩ := hO
  have l1 : es.size = ks.length := by rw [← p1]; exact Array.length_toList.symm
  have ent : ∀ (i : Nat) k, ks[i]? = some k → ∃ en : DictEntry, es[i]? = some en ∧ en.key = .ref k.2 := fun i k hk => by
    have hi := (List.getElem?_eq_some_iff.mp hk).1
    have h1 : i < es.toList.length := by omega
    have h2 : i < vs.length := by omega
    have := p3 i _ k _ (List.getElem?_eq_getElem h1) hk (List.getElem?_eq_getElem h2)
    refine ⟨es.toList[i], ?_, this.2.1⟩
    rw [← Array.getElem?_toList, List.getElem?_eq_getElem h1]
  refine PySem.W.kdl_call (kdl_raw hs hx hdt) (I.ok.hd hc) ho (by omega) fun h' tk acc' c' kp e it => ?_
  have ea : acc'.toList = ks.map fun x => Value.ref x.2 := by
    have hl : acc'.toList.length = ks.length := by rw [Array.length_toList, it.1]; exact l1
    apply List.ext_getElem?
    intro j
    rw [List.getElem?_map]
    cases hj : acc'.toList[j]? with
    | none =>
      have h1 := List.getElem?_eq_none_iff.mp hj
      rw [List.getElem?_eq_none (by omega)]
      all_goals rfl
    | some v =>
      obtain ⟨en, hen, hv⟩ := it.2 j v (by rw [← Array.getElem?_toList]; exact hj)
      have hjl : j < ks.length := by
        have := (List.getElem?_eq_some_iff.mp hj).1
        omega
      obtain ⟨en', hen', hk⟩ := ent j _ (List.getElem?_eq_getElem hjl)
      rw [hen] at hen'
      cases hen'
      rw [List.getElem?_eq_getElem hjl, hv, hk]
      rfl
  have eb : acc'.toList = (ks.map fun x => x.2).map Value.ref := by rw [ea, List.map_map]; all_goals rfl
  have rv : Vals ((ks.map fun x => x.2).map V.ref) acc'.toList := by rw [eb]; exact vals_refs _
  have hz2 : ((ks.map fun x => x.2).map V.ref).length ≤ sizeLine := by rw [List.length_map, List.length_map]; exact hz
  have q2 := q s.heap.objs.size (I.hok.fresh (Nat.le_refl _))
  rw [show (ks.map fun k => V.ref k.2) = (ks.map fun x => x.2).map V.ref by rw [List.map_map]; rfl] at q2
  refine ⟨.ref s.heap.objs.size, _, I.laid (t' := tk) (o := .lst ((ks.map fun x => x.2).map V.ref)) kp (Nat.le_refl _) ?_, rfl, q2⟩
  exact ⟨hz2, acc'.toList, c', rv, by rw [Array.toArray_toList]; exact e⟩
def listDicD : FL := fun xs G Q => ∃ a ow kvs, xs = [.ref a] ∧ (G a = some (.dic ow kvs) ∨ G a = some (.dif ow kvs)) ∧ ∀ p, G p = none → Q (.ref p) (up G p (.lst (kvs.map (·.1))))
variable {e : Expr} {es : List Expr} {pos : Pos}
theorem de_listDic {p : Pos} {t : DA} (hc : X.calm = true) (hg : Gl X "list") (hm : X.mg "list" = none) (ha : DPA X (e :: es) t) (h1 : starEach (e :: es) X.env = (false, eval e X.env) :: starEach es X.env := by rfl) (h2 : ((backTo pos (starEach es X.env)).any fun x => x.fst) = false := by rfl) :
    DPE X (.Call (.Name "list" p) (e :: es) [] pos) (dCB listDicD t) := de_callTy (call_listN hc) (fun xs G Q Q' h ⟨a, ow, kvs, e1, e2, q⟩ => ⟨a, ow, kvs, e1, e2, fun p hp => h _ _ (q p hp)⟩)
  (fun H G xs ds Q m r h => by
    obtain ⟨a, ow, kvs, rfl, e2, q⟩ := h
    obtain ⟨v, vs', rfl, r1, r2⟩ := r.cons_inv
    have e := r2.nil_inv
    subst e
    cases r1
    have fin : ∀ (ks : List (NestedKey × Addr)) (vs : List V), (H a = some (dicO ow a ks vs) ∨ ∃ od, H a = some (.frz od (dicO ow a ks vs))) → (a == sysModules) = false → kvs.length ≤ sizeLine → kvs.length = ks.length → (∀ (i : Nat) (kv : D × D) (k : NestedKey × Addr), kvs[i]? = some kv → ks[i]? = some k → nkD kv.1 = some k.1 ∧ k.1.depth ≤ 8 ∧ RD X.K H kv.1 (.ref k.2)) → rListN [V.ref a] H Q := fun ks vs hd hs hz hl hk => by
      refine ⟨a, ow, ks, vs, rfl, hs, hd, by omega, fun p hp => ?_⟩
      have kk : KT X.K H (L2.upd H p (.lst (ks.map fun k => V.ref k.2))) := .upd_new hp
      have rr : RDs X.K H (kvs.map (·.1)) (ks.map fun k => V.ref k.2) := ⟨by rw [List.length_map, List.length_map]; exact hl, fun i x v hx hv => by
        rw [List.getElem?_map] at hx hv
        obtain ⟨kv, h3, rfl⟩ := Option.map_eq_some_iff.mp hx
        obtain ⟨k, h4, rfl⟩ := Option.map_eq_some_iff.mp hv
        exact (hk i kv k h3 h4).2.2⟩
      exact q p (m.fresh hp) _ _ (m.upd kk (.new_lst rr kk)) (.ref p) kk
    rcases e2 with e2 | e2
    · obtain ⟨ks, vs, h, a1, a2, a3, a4, a5, a6⟩ := m a _ e2
      exact fin ks vs (.inl h) a1 a2 a4 a5
    · obtain ⟨od, ks, vs, h, a1, a2, a3, a4, a5, a6⟩ := m a _ e2
      exact fin ks vs (.inr ⟨od, h⟩) a1 a2 a4 a5) hg hm (by decide +kernel) ha (by decide) (by decide) h1 h2
theorem s_listDic {G : DG} {Q : DK} {a : Addr} {ow : Option World} {kvs : List (D × D)} (e : G a = some (.dic ow kvs) ∨ G a = some (.dif ow kvs)) (h : ∀ p, G p = none → Q (.ref p) (up G p (.lst (kvs.map (·.1))))) : listDicD [.ref a] G Q := ⟨a, ow, kvs, rfl, e, h⟩
end
end FD

namespace FD
/-! ### sorted(d), d a dict by nested keys of ints and tuples -/
section
open PySem.W PyProof.Rows PySem.Calls
open PySem
variable {prog : Program} {w : World} {A : Around} {E : Value → Shared → Prop} {s : Shared}
theorem sorted_srcD {β : Type} {T : String} {r d : Addr} {P : Nat → Value → Prop} {OK : Heap → Prop} {n : Nat} {Q : Value → Shared → Prop} (K : KdlSrc prog w T r d n P OK) (hh : A.handled = none) (hok : OK s.heap)
    {bs : List β} (en : n = bs.length) (hn : bs.length ≤ sizeLine) (R : Value → β → Prop) (hp : ∀ i v, P i v → ∃ x, bs[i]? = some x ∧ R v x) (enc : β → PyData) (rd : ∀ v x, R v x → Reads s.heap v (enc x) []) (hal : AllAlike (bs.map enc)) (hsk : Sortable (bs.map enc)) (hu : ∀ x, x ∈ bs → A.units + 3 + (enc x).depth < cLine)
    (fin : ∀ (h' : Heap) (tk : Nat) (L : Addr) (out : List Value), EachIs R out (bs.mergeSort (dataLe false enc)) → (∀ b o, s.heap.get? b = some o → h'.get? b = some o) → s.heap.objs.size ≤ L → (∃ m, h'.get? L = some (seqObj "list" out.toArray m)) → Q (.ref L) { s with heap := h', toks := tk }) :
    wpAny (model prog w) A (call (.builtin "sorted") [.ref r]) Q E s := by
  apply Calls.call_function_entry kind_sorted plain_sorted entry_sorted (args_sorted1 _)
  unfold Builtin.«sorted»
  apply wpAny_bind (m := checkCount "sorted" 1 1 _)
  apply wpAny_pure
  apply wpAny_bind
  refine gather_src (A := A.in1) K hh hok (en ▸ hn) fun h1 tk acc hk grown hacc => ?_
  have hl : acc.toList.length = bs.length := by rw [Array.length_toList, ← en]; exact hacc.1
  have hP : ∀ (j : Nat) v, acc.toList[j]? = some v → P j v := fun j v e => hacc.2 j v (by rw [← Array.getElem?_toList]; exact e)
  generalize acc.toList = us at hl hP
  have each : ∀ (us : List Value) (cs : List β), us.length = cs.length → (∀ (j : Nat) v, us[j]? = some v → ∃ x, cs[j]? = some x ∧ R v x) → EachIs R us cs := by
    intro us
    induction us with
    | nil => intro cs hl _; cases cs with | nil => exact .nil | cons _ _ => simp at hl
    | cons v us ih =>
      intro cs hl hh
      cases cs with
      | nil => simp at hl
      | cons x cs =>
        obtain ⟨x', e1, e2⟩ := hh 0 v rfl
        simp at e1
        subst e1
        exact .cons e2 (ih cs (by simpa using hl) fun j v e => hh (j + 1) v (by simpa using e))
  have ev := each us bs hl fun j v e => hp j v (hP j v e)
  apply wpAny_bind
  refine wpAny_newList ?_ (by rw [hl]; exact hn)
  have here : (h1.push (seqObj "list" us.toArray 0)).get? h1.objs.size = some (seqObj "list" us.toArray 0) := Heap.get?_push_size _ rfl
  have le1 : s.heap.objs.size ≤ h1.objs.size := Nat.le_of_lt grown
  have keep : ∀ b o, s.heap.get? b = some o → b ≠ h1.objs.size ∧ (h1.push (seqObj "list" us.toArray 0)).get? b = some o := fun b o e => ⟨Nat.ne_of_lt (Heap.lt_size (hk b o e)), Heap.get?_push_of_some _ (hk b o e)⟩
  change wpAny _ _ _ _ _ { s with heap := h1.push (seqObj "list" us.toArray 0), toks := tk }
  apply wpAny_bind
  apply wpAny_holding
  refine list_sort_data (bs := bs) (enc := enc) (R := R) here ev (ev.mono fun v x z => ⟨[], Reads.keeps (fun b o e => (keep b o e).2) (rd v x z), by simp⟩) hal hsk (by rw [← ev.length, hl]; exact hn) (fun x hx => ?_) fun out ho eo => ?_
  · have := hu x hx
    show A.units + 1 + 1 + _ < cLine
    omega
  · refine wpAny_pure ⟨_, rfl, ?_⟩
    exact fin _ tk h1.objs.size out eo (fun b o e => by rw [sortedHeap_old (keep b o e).1 (Heap.lt_size (keep b o e).2)]; exact (keep b o e).2) le1 (sortedHeap_at here)
end
end FD

namespace FD
/-! ### sorted(d), d a dict by nested keys, the keys tuples of ints and tuples, the empty one among them -/
section
open PySem PySem.W PyProof.Rows PySem.Calls PySem.SeqAt
variable {prog : Program} {w : World} {A : Around} {E : Value → Shared → Prop} {s : Shared}
theorem call_tuple_lt {Q : Value → Shared → Prop} {l b : Addr} {items items2 : Array Value} {e r : Nat → Bool} (hl : s.heap.IsTuple l items) (hb : s.heap.IsTuple b items2)
    (he : ∀ j (h1 : j < items.size) (h2 : j < items2.size), EqAt A.in1 s items[j] items2[j] (e j)) (hr : ∀ j (h1 : j < items.size) (h2 : j < items2.size), e j = false → RcLt A.in1 s items[j] items2[j] (r j))
    (h : Q (.bool (firstLt e r (decide (items.size < items2.size)) (List.range (min items.size items2.size)))) s) : wpAny (model prog w) A (call (.builtin "tuple.__lt__") [.ref l, .ref b]) Q E s := by
  obtain ⟨⟨cls, dd, data, sl⟩, ho, hc, n, hd⟩ := id hl
  obtain ⟨⟨cls2, dd2, data2, sl2⟩, ho2, hc2, n2, hd2⟩ := id hb
  simp only at hc hd hc2 hd2
  subst hc hd hc2 hd2
  exact call_meets F.slot_tuple_lt ⟨_, ho, rfl⟩ F.entry_tuple_lt (F.args_tuple_lt_2 _ _) (tuple_ltAt l b items items2 n n2 dd dd2 sl sl2 e r) ⟨ho, ho2, he, hr, h⟩
/-- one tuple against another, both known to be tuples -/
theorem oneLt_tup {f : Bool} {xs ys : List PyData} {a b : Value} {as bs : List Addr} {Q : Bool → Shared → Prop} (ra : Reads s.heap a (.tuple xs) as) (rb : Reads s.heap b (.tuple ys) bs) (h : alike (.tuple xs) (.tuple ys) = true)
    (hu : A.units + min (PyData.tuple xs).depth (PyData.tuple ys).depth < cLine) (hq : Q (dataLt (.tuple xs) (.tuple ys)) s) : wpAny (model prog w) A (oneLt' f a b) Q E s := by
  cases f with
  | false => exact oneLt_alike (fun z => nomatch z) ra rb h (fun z => nomatch z) hu hq
  | true =>
    have hal : alikeAll xs ys = true := by simpa [alike] using h
    cases ra with
    | @tuple l o vs n _ as₁ h1 h2 h3 h4 =>
      cases rb with
      | @tuple l' o' vs' n' _ bs₁ k1 k2 k3 k4 =>
        have n1 : vs.size = xs.length := by simpa using ReadsAll.length _ _ _ h4
        have n2 : vs'.size = ys.length := by simpa using ReadsAll.length _ _ _ k4
        rw [dataLt_tuple, ← firstLt_toks xs ys hal, ← n1, ← n2] at hq
        rw [oneLt'_eq]
        simp only [if_true]
        refine wpAny_bind (wpAny_cRoomFor (room_here hu) ?_)
        refine wpAny_bind (wpAny_callSpecialIfBound?_slot (T := "tuple") ⟨_, h1, h2⟩ F.slot_tuple_lt (call_tuple_lt (e := pairEq xs ys) (r := fun j => dataLt (xs.getD j .none) (ys.getD j .none)) ⟨_, h1, h2, _, h3⟩ ⟨_, k1, k2, _, k3⟩ (fun j j1 j2 => ?_) (fun j j1 j2 hj => ?_) ?_))
        · have := eqAt_alikeAll xs ys A.in1 s vs.toList vs'.toList _ _ h4 k4 hal (room_in hu) j (by simpa using j1) (by simpa using j2)
          simpa using this
        · have := rcLt_alikeAll xs ys A.in1 s vs.toList vs'.toList _ _ h4 k4 hal (room_in hu) j (by simpa using j1) (by simpa using j2) hj
          simpa using this
        · exact wpAny_truthy_bool hq
def fullT : PyData → Bool
  | .tuple [] => false
  | _ => true
theorem fullT_ne {d : PyData} (h : d ≠ .tuple []) : fullT d = true := by
  unfold fullT
  split
  · exact absurd rfl h
  · rfl
theorem each_firsts {M : Model} : ∀ {vs : List Value} {ds : List PyData}, EachIs (fun v d => ∃ as, Reads s.heap v d as) vs ds → (∀ d, d ∈ ds → ∃ xs, d = .tuple xs) → ∃ os : List (Option Value), os.map (·.isSome) = ds.map fullT ∧
    ∀ {Q : List (Option Value) → Shared → Prop}, Q os s → wpAny M A (vs.mapM firstOfTuple') Q E s
  | _, _, .nil, _ => ⟨[], rfl, fun h => by rw [List.mapM_nil]; exact wpAny_pure h⟩
  | _, _, .cons (b := d) ⟨as, r⟩ t, ht => by
    obtain ⟨os, h1, h2⟩ := each_firsts (M := M) t fun d hd => ht d (List.mem_cons_of_mem _ hd)
    obtain ⟨xs, rfl⟩ := ht d (List.mem_cons_self ..)
    cases r with
    | @tuple a o vs n _ _ ho hc hd hr =>
      refine ⟨vs[0]? :: os, ?_, fun {Q} h => ?_⟩
      · rw [List.map_cons, List.map_cons, h1]
        congr 1
        have hl : vs.size = xs.length := by simpa using SeqAt.ReadsAll.length _ _ _ hr
        cases xs with
        | nil =>
          rw [List.length_nil] at hl
          rw [Array.getElem?_eq_none (by omega)]
          rfl
        | cons x xs =>
          rw [List.length_cons] at hl
          rw [Array.getElem?_eq_getElem (by omega)]
          rfl
      · rw [List.mapM_cons]
        refine wpAny_bind ?_
        rw [kas_first_eq]
        refine wpAny_bind (Looks.here (show Looks M s.heap (typeOf (.ref a)) o.cls from (Looks.ld ho).andThen .now) ?_)
        rw [hc, if_neg (by first | decide | simp)]
        refine wpAny_bind (listItems_at ho hd (wpAny_pure ?_))
        exact wpAny_bind (h2 (Q := fun bs s' => wpAny M A (pure (vs[0]? :: bs)) Q E s') (wpAny_pure h))
/-- values that read as alike tuples can be sorted -/
theorem sorts_tups {vs : List Value} {ds : List PyData} (e : EachIs (fun v d => ∃ as, Reads s.heap v d as) vs ds) (hal : AllAlike ds) (ht : ∀ d, d ∈ ds → ∃ xs, d = .tuple xs) (hu : ∀ d, d ∈ ds → A.units + d.depth < cLine) : SortsAt prog w A s (dataKind s.heap ds) vs := by
  by_cases hne : ∀ d ∈ ds, d ≠ .tuple []
  · refine SortsAt.data e hal (.inl fun d hd => ?_) hu
    obtain ⟨xs, rfl⟩ := ht d hd
    cases xs with
    | nil => exact absurd rfl (hne _ hd)
    | cons x xs => exact ⟨x, xs, rfl⟩
  have room : ∀ {d d' : PyData}, d ∈ ds → A.units + min d.depth d'.depth < cLine := fun {d d'} hd => Nat.lt_of_le_of_lt (Nat.add_le_add_left (Nat.min_le_left _ _) _) (hu d hd)
  have cmp : ∀ (f : Bool) (E : Value → Shared → Prop) (x y : Value) (a b : List (Int ⊕ List Nat)) {Q : Bool → Shared → Prop}, (dataKind s.heap ds).keyOf x = some a → (dataKind s.heap ds).keyOf y = some b → Q ((dataKind s.heap ds).blt a b) s → wpAny (model prog w) A (oneLt' f x y) Q E s := by
    intro f E x y a b Q ha hb hq
    obtain ⟨d, as, hd, ra, rfl⟩ := dataKind_inv ha
    obtain ⟨d', as', hd', rb, rfl⟩ := dataKind_inv hb
    have hdd := hal d hd d' hd'
    have hroom := room (d' := d') hd
    obtain ⟨x1, rfl⟩ := ht d hd
    obtain ⟨x2, rfl⟩ := ht d' hd'
    exact oneLt_tup ra rb hdd hroom hq
  refine ⟨fun v hv => ?_, ?_⟩
  · obtain ⟨d, hd, as, r⟩ := e.left v hv
    exact ⟨_, dataKind_some hal hd r⟩
  have hbad : ∃ d ∈ ds, d = .tuple [] := by
    apply Classical.byContradiction
    intro z
    exact hne fun d hd e => z ⟨d, hd, e⟩
  obtain ⟨d0, hd0, e0⟩ := hbad
  subst e0
  have hlen : vs.length = ds.length := e.length
  cases ds with
  | nil => cases hd0
  | cons d1 ds1 =>
    by_cases h1 : d1 = .tuple []
    · refine ⟨oneType', fun E x y a b Q ha hb hq => ?_, fun h2 E Q hq => ?_⟩
      · rw [keyLt'_oneType]
        exact cmp true E x y a b ha hb hq
      · obtain ⟨os, o1, o2⟩ := each_firsts (M := model prog w) (A := A) (E := E) e ht
        rw [kat_kind_eq, List.mapM_toArray, map_eq_pure_bind]
        refine wpAny_bind (wpAny_bind (o2 (wpAny_pure ?_)))
        cases os with
        | nil => simp at o1
        | cons o os =>
          have ho : o = none := by
            simp only [List.map_cons, List.cons.injEq] at o1
            have := o1.1
            rw [h1] at this
            cases o with
            | none => rfl
            | some _ => exact absurd this (by simp [fullT])
          subst ho
          rw [if_neg (by simp), if_neg (by simp)]
          rw [oneTypeOnly'_eq, List.mapM_toArray, map_eq_pure_bind]
          have ty : ∀ v ∈ vs, Looks (model prog w) s.heap (typeOf v) (Value.type "tuple") := fun v hv => by
            obtain ⟨d, hd, as, r⟩ := e.left v hv
            obtain ⟨xs, rfl⟩ := ht d hd
            exact looks_reads r
          refine wpAny_bind (wpAny_bind (wpAny_bind (kas_mapM (r := Value.type "tuple") _ (fun v hv Q' hq => (ty v hv).here hq) (wpAny_pure ?_))))
          obtain ⟨v₁, rest, rfl⟩ : ∃ v₁ rest, vs = v₁ :: rest := by
            cases vs with
            | nil => simp at hlen
            | cons v vs => exact ⟨_, _, rfl⟩
          have hall : ((List.map (fun _ => Value.type "tuple") (v₁ :: rest)).toArray.all fun x => x == Value.type "tuple") = true := by
            simp only [List.all_toArray, List.all_map, List.all_eq_true]
            intro _ _
            exact beq_self_eq_true _
          have h0 : (List.map (fun _ => Value.type "tuple") (v₁ :: rest)).toArray[0]? = some (Value.type "tuple") := by simp
          rw [h0]
          simp only [hall, if_true]
          exact wpAny_pure (wpAny_pure hq)
    · refine ⟨general', fun E x y a b Q ha hb hq => cmp false E x y a b ha hb hq, fun h2 E Q hq => ?_⟩
      obtain ⟨os, o1, o2⟩ := each_firsts (M := model prog w) (A := A) (E := E) e ht
      rw [kat_kind_eq, List.mapM_toArray, map_eq_pure_bind]
      refine wpAny_bind (wpAny_bind (o2 (wpAny_pure ?_)))
      have hnall : ¬ ((os.toArray.all fun x => x.isSome) = true) := fun z => by
        simp only [List.all_toArray, List.all_eq_true] at z
        have : false ∈ os.map (·.isSome) := by
          rw [o1]
          exact List.mem_map.mpr ⟨_, hd0, rfl⟩
        obtain ⟨x, hx, hx2⟩ := List.mem_map.mp this
        rw [z x hx] at hx2
        cases hx2
      cases os with
      | nil => simp at o1
      | cons o os =>
        have ho : o.isSome = true := by
          simp only [List.map_cons, List.cons.injEq] at o1
          rw [o1.1]
          exact fullT_ne h1
        rw [if_neg hnall, if_pos (by simpa using ho)]
        exact wpAny_pure hq
theorem list_sort_tups {β : Type} {vs : List Value} {bs : List β} {enc : β → PyData} {R : Value → β → Prop} {a : Addr} {n : Nat} {Q : Value → Shared → Prop} (ho : s.heap.get? a = some (seqObj "list" vs.toArray n)) (e : EachIs R vs bs) (er : EachIs (fun v b => ∃ as, Reads s.heap v (enc b) as ∧ a ∉ as) vs bs) (hal : AllAlike (bs.map enc)) (ht : ∀ d, d ∈ bs.map enc → ∃ xs, d = .tuple xs) (hL : bs.length ≤ sizeLine)
    (hu : ∀ b, b ∈ bs → A.units + 1 + (enc b).depth < cLine) (h : ∀ out, out.length = bs.length → EachIs R out (bs.mergeSort (dataLe false enc)) → Q .none { s with heap := sortedHeap s.heap a vs (List.toArray out) }) :
    wpAny (model prog w) A (call (.builtin "list.sort") [.ref a]) Q E s := by
  have er' : EachIs (fun v b => ∃ as, Reads (sortingHeap s.heap a vs) v (enc b) as) vs bs := each_keepBut (h' := sortingHeap s.heap a vs) (fun _ _ hb q => sortingHeap_old hb q) (fun o q => by rw [ho] at q; rw [← Option.some.inj q]) hal er
  refine wpAny_call_entry slot_list_sort ⟨_, ho, rfl⟩ entry_list_sort (list_sort_vals (κ := dataKind (sortingHeap s.heap a vs) (bs.map enc)) ho (sorts_tups (s := { s with heap := sortingHeap s.heap a vs }) (each_map (R := fun v d => ∃ as, Reads (sortingHeap s.heap a vs) v d as) enc er') hal ht (bound_map hu)) (by rw [e.length]; exact hL) ⟨.none, rfl, ?_⟩) (args_list_sort _)
  exact h _ (by rw [sortVals_length false rfl]; exact e.length) (sortVals_data false e er' hal)
theorem sorted_srcU {β : Type} {T : String} {r d : Addr} {P : Nat → Value → Prop} {OK : Heap → Prop} {n : Nat} {Q : Value → Shared → Prop} (K : KdlSrc prog w T r d n P OK) (hh : A.handled = none) (hok : OK s.heap)
    {bs : List β} (en : n = bs.length) (hn : bs.length ≤ sizeLine) (R : Value → β → Prop) (hp : ∀ i v, P i v → ∃ x, bs[i]? = some x ∧ R v x) (enc : β → PyData) (rd : ∀ v x, R v x → Reads s.heap v (enc x) []) (hal : AllAlike (bs.map enc)) (ht : ∀ d, d ∈ bs.map enc → ∃ xs, d = .tuple xs) (hu : ∀ x, x ∈ bs → A.units + 3 + (enc x).depth < cLine)
    (fin : ∀ (h' : Heap) (tk : Nat) (L : Addr) (out : List Value), EachIs R out (bs.mergeSort (dataLe false enc)) → (∀ b o, s.heap.get? b = some o → h'.get? b = some o) → s.heap.objs.size ≤ L → (∃ m, h'.get? L = some (seqObj "list" out.toArray m)) → Q (.ref L) { s with heap := h', toks := tk }) :
    wpAny (model prog w) A (call (.builtin "sorted") [.ref r]) Q E s := by
  apply Calls.call_function_entry kind_sorted plain_sorted entry_sorted (args_sorted1 _)
  unfold Builtin.«sorted»
  apply wpAny_bind (m := checkCount "sorted" 1 1 _)
  apply wpAny_pure
  apply wpAny_bind
  refine gather_src (A := A.in1) K hh hok (en ▸ hn) fun h1 tk acc hk grown hacc => ?_
  have hl : acc.toList.length = bs.length := by rw [Array.length_toList, ← en]; exact hacc.1
  have hP : ∀ (j : Nat) v, acc.toList[j]? = some v → P j v := fun j v e => hacc.2 j v (by rw [← Array.getElem?_toList]; exact e)
  generalize acc.toList = us at hl hP
  have each : ∀ (us : List Value) (cs : List β), us.length = cs.length → (∀ (j : Nat) v, us[j]? = some v → ∃ x, cs[j]? = some x ∧ R v x) → EachIs R us cs := by
    intro us
    induction us with
    | nil => intro cs hl _; cases cs with | nil => exact .nil | cons _ _ => simp at hl
    | cons v us ih =>
      intro cs hl hh
      cases cs with
      | nil => simp at hl
      | cons x cs =>
        obtain ⟨x', e1, e2⟩ := hh 0 v rfl
        simp at e1
        subst e1
        exact .cons e2 (ih cs (by simpa using hl) fun j v e => hh (j + 1) v (by simpa using e))
  have ev := each us bs hl fun j v e => hp j v (hP j v e)
  apply wpAny_bind
  refine wpAny_newList ?_ (by rw [hl]; exact hn)
  have here : (h1.push (seqObj "list" us.toArray 0)).get? h1.objs.size = some (seqObj "list" us.toArray 0) := Heap.get?_push_size _ rfl
  have le1 : s.heap.objs.size ≤ h1.objs.size := Nat.le_of_lt grown
  have keep : ∀ b o, s.heap.get? b = some o → b ≠ h1.objs.size ∧ (h1.push (seqObj "list" us.toArray 0)).get? b = some o := fun b o e => ⟨Nat.ne_of_lt (Heap.lt_size (hk b o e)), Heap.get?_push_of_some _ (hk b o e)⟩
  change wpAny _ _ _ _ _ { s with heap := h1.push (seqObj "list" us.toArray 0), toks := tk }
  apply wpAny_bind
  apply wpAny_holding
  refine list_sort_tups (bs := bs) (enc := enc) (R := R) here ev (ev.mono fun v x z => ⟨[], Reads.keeps (fun b o e => (keep b o e).2) (rd v x z), by simp⟩) hal ht (by rw [← ev.length, hl]; exact hn) (fun x hx => ?_) fun out ho eo => ?_
  · have := hu x hx
    show A.units + 1 + 1 + _ < cLine
    omega
  · refine wpAny_pure ⟨_, rfl, ?_⟩
    exact fin _ tk h1.objs.size out eo (fun b o e => by rw [sortedHeap_old (keep b o e).1 (Heap.lt_size (keep b o e).2)]; exact (keep b o e).2) le1 (sortedHeap_at here)
end
open PySem L2
open PySem.W in
/-- sorted(d), d's keys tuples -/
def sortedSD : FL := fun xs G Q => ∃ (a : Addr) (ow : Option World) (kvs : List (D × D)) (kf : D → PyData), xs = [.ref a] ∧ (G a = some (.dic ow kvs) ∨ G a = some (.dif ow kvs)) ∧ (∀ kv ∈ kvs, pyK kv.1 = some (kf kv.1) ∧ (kf kv.1).depth ≤ 9 ∧ ∃ xs, kf kv.1 = .tuple xs) ∧
  AllAlike ((kvs.map (·.1)).map kf) ∧ ∀ p, G p = none → Q (.ref p) (up G p (.lst ((kvs.map (·.1)).mergeSort (dataLe false kf))))
theorem sortedSD_mono : MonoFL sortedSD := fun xs G Q Q' h ⟨a, ow, kvs, kf, a1, a2, a3, a4, q⟩ => ⟨a, ow, kvs, kf, a1, a2, a3, a4, fun p hp => h _ _ (q p hp)⟩
section
open PySem.W PyProof.Rows
variable {X : Cx} {a b c e o : Expr} {es rest : List Expr} {ta tb tc to : DE} {t : DA} {pos apos cpos : Pos}
/-- a dict's entries, locked or not -/
theorem dic_any {pins : List (Addr × Obj)} {σ : L2.St} {H : Hp} {s : Shared} {G : DG} {p : Addr} {ow : Option World} {kvs : List (D × D)} (I : L2.Inv X pins σ H s) (m : MH X.K G H) (hp : G p = some (.dic ow kvs) ∨ G p = some (.dif ow kvs)) :
    ∃ es ep, s.heap.DictRaw p es ep ∧ es.size = kvs.length ∧ (p == sysModules) = false ∧ kvs.length ≤ sizeLine ∧ ∀ (i : Nat) (hi : i < es.size), ∃ kv b, kvs[i]? = some kv ∧ es[i].key = .ref b ∧ RD X.K H kv.1 (.ref b) := by
  have fin : ∀ (ks : List (NestedKey × Addr)) (vs : List V), (∃ o es ep, s.heap.get? p = some o ∧ o.ExactDict ∧ o.data = .dict es ep ∧ dicP ow ks vs es.toList) → (p == sysModules) = false → kvs.length ≤ sizeLine → kvs.length = ks.length → (∀ (i : Nat) (kv : D × D) (k : NestedKey × Addr), kvs[i]? = some kv → ks[i]? = some k → nkD kv.1 = some k.1 ∧ k.1.depth ≤ 8 ∧ RD X.K H kv.1 (.ref k.2)) →
      ∃ es ep, s.heap.DictRaw p es ep ∧ es.size = kvs.length ∧ (p == sysModules) = false ∧ kvs.length ≤ sizeLine ∧ ∀ (i : Nat) (hi : i < es.size), ∃ kv b, kvs[i]? = some kv ∧ es[i].key = .ref b ∧ RD X.K H kv.1 (.ref b) := fun ks vs ⟨o, es, ep, e1, e2, e3, p1, p2, p3⟩ hs hz hl hk => by
    have l1 : es.size = ks.length := by rw [← p1]; exact Array.length_toList.symm
    refine ⟨es, ep, ⟨o, e1, e2, e3⟩, by omega, hs, hz, fun i hi => ?_⟩
    have q1 : kvs[i]? = some (kvs[i]'(by omega)) := List.getElem?_eq_getElem _
    have q2 : ks[i]? = some (ks[i]'(by omega)) := List.getElem?_eq_getElem _
    have q3 : vs[i]? = some (vs[i]'(by omega)) := List.getElem?_eq_getElem _
    have q4 : es.toList[i]? = some es[i] := by rw [Array.getElem?_toList, Array.getElem?_eq_getElem hi]
    exact ⟨_, _, q1, (p3 i _ _ _ q4 q2 q3).2.1, (hk i _ _ q1 q2).2.2⟩
  rcases hp with hp | hp
  · obtain ⟨ks, vs, h, a1, a2, a3, a4, a5, _⟩ := m p _ hp
    obtain ⟨z, _, _⟩ := I.hok p _ h
    exact fin ks vs z a1 a2 a4 a5
  · obtain ⟨od, ks, vs, h, a1, a2, a3, a4, a5, _⟩ := m p _ hp
    obtain ⟨_, z, _⟩ := I.hok p _ h
    exact fin ks vs z a1 a2 a4 a5
theorem cr_sortedS (hc : X.calm = true) (hu : X.A.units + 64 < cLine) : CallR X (.builtin "sorted") (rLD X.K sortedSD) := by
  intro pins s σ H xs us Q I r ⟨G, ds, m, rd, a, ow, kvs, kf, e, hG, hkv, hal, q⟩
  subst e
  obtain ⟨v, vs', rfl, r1, r2⟩ := rd.cons_inv
  cases r2.nil_inv
  cases r1
  obtain ⟨u, rfl, ru⟩ := vals1 r
  cases (show u = Value.ref a from ru)
  obtain ⟨es, ep, raw, hes, hsys, hz, at_⟩ := dic_any I m hG
  refine sorted_srcU (bs := kvs.map (·.1)) (PySem.KdlSrc.rawDict hsys) (I.ok.hd hc) raw (by rw [List.length_map]; exact hes) (by rw [List.length_map]; exact hz) (fun v d => d ∈ kvs.map (·.1) ∧ ∃ b, v = Value.ref b ∧ RD X.K H d (.ref b)) (fun i v ⟨hi, hv⟩ => ?_) kf (fun v d ⟨hd, b, hv, rb⟩ => ?_) hal (fun d hd => ?_) (fun d hd => ?_) fun h' tk L out eo kp hL ho => ?_
  · obtain ⟨kv, b, e1, e3, rb⟩ := at_ i hi
    have e2 : (kvs.map (·.1))[i]? = some kv.1 := by rw [List.getElem?_map, e1]; rfl
    exact ⟨kv.1, e2, List.mem_of_getElem? e2, b, hv.trans e3, rb⟩
  · obtain ⟨kv, hkv', rfl⟩ := List.mem_map.mp hd
    subst hv
    exact reads_K I.hok I.kIn rb (hkv kv hkv').1 rfl
  · obtain ⟨d', hd', rfl⟩ := List.mem_map.mp hd
    obtain ⟨kv, hkv', rfl⟩ := List.mem_map.mp hd'
    exact (hkv kv hkv').2.2
  · obtain ⟨kv, hkv', rfl⟩ := List.mem_map.mp hd
    have := (hkv kv hkv').2.1
    omega
  · obtain ⟨n, ho⟩ := ho
    have hv : ∀ (l : List D) (out : List Value), EachIs (fun v d => d ∈ kvs.map (·.1) ∧ ∃ b, v = Value.ref b ∧ RD X.K H d (.ref b)) out l → ∃ ws, Vals ws out ∧ RDs X.K H l ws := by
      intro l out he
      induction he with
      | nil => exact ⟨[], .nil, .nil⟩
      | cons h1 _ ih =>
        obtain ⟨_, b, rfl, rb⟩ := h1
        obtain ⟨ws, w1, w2⟩ := ih
        exact ⟨.ref b :: ws, .cons rfl w1, .cons rb w2⟩
    obtain ⟨ws, w1, w2⟩ := hv _ out eo
    have hfr := I.hok.fresh hL
    have kk : KT X.K H (L2.upd H L (.lst ws)) := .upd_new hfr
    have hlen : ws.length ≤ sizeLine := by
      rw [← w2.1, (List.mergeSort_perm _ _).length_eq, List.length_map]
      exact hz
    exact ⟨.ref L, upd H L (.lst ws), I.laid kp hL ⟨hlen, out, n, w1, ho⟩, rfl, q L (m.fresh hfr) _ _ (m.upd kk ⟨ws, upd_same, w2.kt kk⟩) (.ref L) kk⟩
theorem de_sortedS {p : Pos} {t : DA} (hc : X.calm = true) (hu : X.A.units + 64 < cLine) (hg : Gl X "sorted") (hm : X.mg "sorted" = none) (ha : DPA X (e :: es) t) (h1 : starEach (e :: es) X.env = (false, eval e X.env) :: starEach es X.env := by rfl) (h2 : ((backTo pos (starEach es X.env)).any fun x => x.fst) = false := by rfl) :
    DPE X (.Call (.Name "sorted" p) (e :: es) [] pos) (dCB sortedSD t) := de_callB (cr_sortedS hc hu) sortedSD_mono rLD_sim hg hm PyProof.Rows.Boot.«sorted» ha (by decide) (by decide) h1 h2
end
end FD

namespace FD
open PySem L2 PyProof.Rows
/-! ### d.clear(), d a dict by nested keys -/
section
variable {X : Cx} {o e : Expr} {es : List Expr} {to : DE} {name : Str} {apos pos : Pos} {T id : String} {r : V → List V → Hp → VK → Prop}
theorem pe_bx0 {tto : TE} {ty : V → Hp → Prop} (kd : TyOk X T ty) (pl : PlainAttrs T) (slot : Slot T name id) (hty : typeOf (.builtin id) = pure (.type "method_descriptor")) (hm : MtR X id r) (ho : PE X o tto)
    (hbase : attributeBase o name X.env (eval o X.env) = eval o X.env := by rfl) (hline : (apos.endLine == pos.line) = true := by rfl) : PE X (.Call (.Attribute o name apos) [] [] pos) (fun σ H Q => tto σ H fun x H1 => ty x H1 ∧ r x [] H1 Q) := by
  refine ⟨fun pins s σ H Q I h => ?_⟩
  refine wpAny_Call_method0_late hbase hline (thn (ho.run pins s σ H _ I h) fun v s1 ⟨x, H1, I1, r1, hk, q1⟩ => ?_)
  obtain ⟨h1, h2⟩ := kd pins σ H1 s1 x v I1 r1 hk
  exact ⟨T, id, pl, slot, hty, h1, h2, Calls.callWith_builtin rfl (PySem.evalArgs_none (hm pins s1 σ H1 x [] v [] Q I1 r1 .nil q1))⟩
def dicV (x : V) (H : Hp) : Prop := ∃ a ow ks vs, x = .ref a ∧ H a = some (dicO ow a ks vs)
theorem dicV_ok : TyOk X "dict" dicV := fun pins σ H s x v I r h => by
  obtain ⟨a, ow, ks, vs, rfl, hH⟩ := h
  cases (show v = Value.ref a from r)
  obtain ⟨⟨o, es, ep, e1, e2, _⟩, _⟩ := I.hok a _ hH
  refine ⟨⟨o, e1, e2.1⟩, fun b z => ?_⟩
  cases z
  exact ⟨o, e1, e2.2.1⟩
def rDclr (K : PySem.W.Frag) : V → List V → Hp → VK → Prop := fun x xs H Q => ∃ G a ow kvs, x = .ref a ∧ xs = [] ∧ MH K G H ∧ G a = some (.dic ow kvs) ∧ lf K H Q .non (up G a (.dic ow []))
theorem mt_dclr : MtR X "dict.clear" (rDclr X.K) := by
  intro pins s σ H x xs v us Q I rx rxs h
  obtain ⟨G, a, ow, kvs, rfl, rfl, m, e, q⟩ := h
  cases (show v = Value.ref a from rx)
  have hus := rxs.zero
  subst hus
  obtain ⟨ks, vs, hH, hs, hz, nd, hl, _, _⟩ := m a _ e
  obtain ⟨⟨o, es, ep, e1, e2, e3, p1, p2, p3⟩, _, _⟩ := I.hok a _ hH
  have l1 : es.size = ks.length := by rw [← p1]; exact Array.length_toList.symm
  have raw : s.heap.DictRaw a es ep := ⟨o, e1, e2, e3⟩
  refine call_meetsIn PySem.F.slot_dict_clear raw.typeIs PySem.F.entry_dict_clear (PySem.F.args_dict_clear_1 _) (meets_dict_clear_raw a) ⟨es, ep, raw, by omega, fun h' hr hs' => ?_⟩
  have dd : h'.DictOfH (nestedKind X.prog X.w) a [] := by
    obtain ⟨o', q1, q2, q3⟩ := hr
    exact ⟨o', #[], ep + 1, q1, q2, q3, rfl, by simp, by simp⟩
  obtain ⟨uo, mu', ob, mo⟩ := dic_bwd (X := X) (H := H) (ow := ow) (kvs := []) dd .nil hs (Nat.zero_le _)
  have kk : KT X.K H (L2.upd H a uo) := .upd_mut hH (fun _ z => by cases z) (fun _ _ z => by cases z)
  have he : ∃ q, h'.get? a = some q := let ⟨q, hq, _⟩ := hr; ⟨q, hq⟩
  exact ⟨.non, _, I.write (t' := s.toks) (x := a) (e := a) (by rw [hH]; exact True.intro) (.inl rfl) (fun b q hb' z => (hs'.2 b hb').trans z) he ob, rfl, q .non _ (m.upd kk (mo kk)) .non kk⟩
def dClr (to : DE) : DE := fun σ G Q => to σ G fun x G1 => ∃ a ow kvs, x = .ref a ∧ G1 a = some (.dic ow kvs) ∧ Q .non (up G1 a (.dic ow []))
theorem de_dclr (ho : DPE X o to) (hbase : attributeBase o "clear" X.env (eval o X.env) = eval o X.env := by rfl) (hline : (apos.endLine == pos.line) = true := by rfl) : DPE X (.Call (.Attribute o "clear" apos) [] [] pos) (dClr to) := by
  obtain ⟨mo, tto, po, ro⟩ := ho
  refine ⟨fun σ G Q Q' h q => mo σ G _ _ (fun x G1 ⟨a, ow, kvs, e1, e2, q1⟩ => ⟨a, ow, kvs, e1, e2, h _ _ q1⟩) q, _, pe_bx0 dicV_ok PySem.F.plainAttrs_dict PySem.F.slot_dict_clear PySem.F.type_dict_clear mt_dclr po hbase hline, fun σ H σd G Q m s h => ?_⟩
  refine ro σ H σd G _ m s (mo _ _ _ _ (fun dx G1 ⟨a, ow, kvs, e1, e2, q1⟩ x H1 m1 r1 k1 => ?_) h)
  subst e1
  cases r1
  obtain ⟨ks, vs, hH, _⟩ := id (m1 a _ e2)
  exact ⟨⟨a, ow, ks, vs, rfl, hH⟩, G1, a, ow, kvs, rfl, rfl, m1, e2, lf_kt k1 q1⟩
theorem s_dclr {σ : DSt} {G : DG} {Q : DK} (h : to σ G fun x G1 => ∃ a ow kvs, x = .ref a ∧ G1 a = some (.dic ow kvs) ∧ Q .non (up G1 a (.dic ow []))) : dClr to σ G Q := h
end
end FD

namespace FD
open PySem L2
/-! ### a lambda without parameters, handed to an own def that calls it in a try -/
abbrev TX := DX → DG → DK → Prop
/-- the def's parameter, called: slot i holds the lambda f -/
def dAct (tl : TX) (f : Addr) (i : Nat) (ES : DSt → DX) : DE := fun σ G Q => getS σ i = some (.ref f) ∧ ∃ EX0 Q0, tl EX0 G Q0 ∧ (∀ c fo G', EX0 c fo G' → ES σ c fo G') ∧ ∀ d G', Q0 d G' → Q d G'
theorem dAct_mono {tl : TX} {f : Addr} {i : Nat} (ES ES' : DSt → DX) (σ : DSt) (G : DG) (Q Q' : DK) (h : ∀ σ c fo G', ES σ c fo G' → ES' σ c fo G') (h' : ∀ d G', Q d G' → Q' d G') (q : dAct tl f i ES σ G Q) : dAct tl f i ES' σ G Q' := by
  obtain ⟨e, EX0, Q0, t, a, b⟩ := q
  exact ⟨e, EX0, Q0, t, fun c fo G' z => h _ _ _ _ (a c fo G' z), fun d G' z => h' _ _ (b d G' z)⟩
/-- what a def does with the lambda that it is given -/
def LamOk (P : Program) (w : World) (K : PySem.W.Frag) (mg : Str → Option Value) (base : Heap) (k : Nat) (x : Str) (CL : TX → DG → DK → Prop) : Prop :=
  ∃ (g : Addr) (fd : FuncData) (st : Stmt) (N : List Str) (a : Str), Fun K x x st g fd ∧ mg x = some (.ref g) ∧ Binds K fd [a] [] ∧ FnScope N [a] (defScope st) ∧ N[0]? = some a ∧ Vis (defScope st) a ∧ (a == ("__debug__" : Str)) = false ∧ (a == ("__classdict__" : Str)) = false ∧
  ∀ (tl : TX) (f : Addr) (cdv : Value) (A : Around) (outer : List Env) (s : Shared) (H : Hp) (EL : XK), Room k (cx P w K mg base N x (defScope st) g cdv A outer s H EL).A → (cx P w K mg base N x (defScope st) g cdv A outer s H EL).A.guards = some [] →
    PassesOwn (model P w) (cx P w K mg base N x (defScope st) g cdv A outer s H EL).A (cx P w K mg base N x (defScope st) g cdv A outer s H EL).env (cx P w K mg base N x (defScope st) g cdv A outer s H EL).xe →
    (∀ p1 p2, DPEx (cx P w K mg base N x (defScope st) g cdv A outer s H EL) (.Call (.Name a p1) [] [] p2) (dAct tl f 0)) →
    ∃ T : DS, DPSs (cx P w K mg base N x (defScope st) g cdv A outer s H EL) (defBody st) T ∧ ∀ G Q, CL tl G Q → T { nx := fun _ G' => DrK Q .non G', rt := DrK Q, bk := fun _ _ => False, ct := fun _ _ => False } (dstart N [.ref f]) G
section
variable {X : Cx} {pins : List (Addr × Obj)} {σ : L2.St} {H : Hp} {s : Shared}
/-- the lambda is made; its code object is locked -/
theorem lam_new {x : Str} {c P : Addr} {params : Arguments} {body : Expr} {scope : Scope} {pos : Pos} {E : Value → Shared → Prop} {Q : Value → Shared → Prop} (I : L2.Inv X pins σ H s) (TB : LamX.TabB X.base X.mg c P) (hcode : X.env.code = .ref c) (hq : X.env.qual = x ++ ".<locals>.")
    (tb : MO X.K H P (.tab x)) (hdef : defaultsOf params X.env = ([], [])) (hfree : ∀ y ∈ scope.names, y.2 = .free → ∃ c, X.env.cells.lookup y.1 = some c)
    (fin : ∀ (f c' : Addr) (oc : Obj) (pm ctv : Value) (H1 : Hp) (s' : Shared), L2.Inv X pins σ H1 s' → KT X.K H H1 → (∀ G, G P = some (.tab x) → MH X.K G H → MH X.K G H1) →
      s'.heap.get? f = some (PySem.W.kla_obj "<lambda>" (X.env.qual ++ "<lambda>") params body scope (cloFrom X.env.cells scope.names []) pm c' ctv) → H1 f = none → f ∉ frs X.stack → H1 c' = some (.frz oc (codF c' (lamQ x))) → Q (.ref f) s') :
    wpAny (model X.prog X.w) X.A (eval (.Lambda params body scope pos) X.env) Q E s := by
  obtain ⟨c0, ps, tin, atP, trip, ent⟩ := tb
  refine PySem.W.kla_eval hdef ?_
  have objP : s.heap.get? P = some { cls := .none, data := .fields ps } := I.hok P _ atP
  have bltP : s.heap.BuiltinsAt X.mg P := TB.bm.keeps I.bk
  have offs : ∀ f, s.heap.objs.size ≤ f → f ∉ frs X.stack := fun f big mem => by
    rcases List.mem_cons.mp (I.stkSub _ mem) with e | e
    · have := I.lt
      rw [← e] at this
      exact absurd (Nat.lt_of_lt_of_le this big) (Nat.lt_irrefl _)
    · exact I.nofs big e
  cases found : codeAmong pos ps.toList with
  | some cv =>
    obtain ⟨c', oc, rfl, isF⟩ := ent pos cv found
    refine PySem.W.kla_makeFunctionHit (mg := X.mg) (c := c) (P := P) (ps := ps) (closure_ok hfree) I.ok.glob (I.mod.glob.keeps I.bk) hcode (TB.code.keeps I.bk) objP trip found bltP fun ctv h' tk kp big => ?_
    refine fin h'.objs.size c' oc ((X.mg "__name__").getD .none) ctv H _ (I.kept (t' := tk) fun b o e => Heap.get?_push_of_some _ (kp b o e)) .refl (fun _ _ m => m) (Heap.get?_push_size _ rfl) (I.hok.fresh big) (offs _ big) isF
  | none =>
    refine PySem.W.kla_makeFunction (mg := X.mg) (c := c) (P := P) (ps := ps) (closure_ok hfree) I.ok.glob (I.mod.glob.keeps I.bk) hcode (TB.code.keeps I.bk) objP trip found TB.gP bltP fun c' ctv h' tk kp ge lt rec tabP => ?_
    obtain ⟨c2, oc, vs, t, e2, at2, dat2, nm2⟩ := rec
    cases e2
    have big : s.heap.objs.size ≤ h'.objs.size := Nat.le_trans ge (Nat.le_of_lt lt)
    have freeC : H c' = none := I.hok.fresh ge
    have I1 := LamX.inv_table (t' := tk) (more := #[rawInt pos.line, rawInt pos.col, .ref c']) (q := X.env.qual ++ "<lambda>") (h' := h'.push (PySem.W.kla_obj "<lambda>" (X.env.qual ++ "<lambda>") params body scope (cloFrom X.env.cells scope.names []) ((X.mg "__name__").getD .none) c' ctv)) I atP
      (fun b o hb e => Heap.get?_push_of_some _ (kp b o hb e)) (Heap.get?_push_of_some _ tabP) ge ⟨oc, vs, t, Heap.get?_push_of_some _ at2, dat2, nm2⟩
    obtain ⟨od, I2⟩ := I1.lock (d := c') (u := (codF c' (X.env.qual ++ "<lambda>"))) upd_same True.intro
    have I3 : L2.Inv X pins σ (upd (upd (upd H P (.tbl (ps ++ #[rawInt pos.line, rawInt pos.col, .ref c']))) c' (codF c' (X.env.qual ++ "<lambda>"))) c' (.frz od (codF c' (X.env.qual ++ "<lambda>")))) _ := I2
    have old : ∀ b, b ≠ P → b ≠ c' → (upd (upd (upd H P (.tbl (ps ++ #[rawInt pos.line, rawInt pos.col, .ref c']))) c' (codF c' (X.env.qual ++ "<lambda>"))) c' (.frz od (codF c' (X.env.qual ++ "<lambda>")))) b = H b := fun b h1 h2 => by rw [upd_ne h2, upd_ne h2, upd_ne h1]
    have newP : (upd (upd (upd H P (.tbl (ps ++ #[rawInt pos.line, rawInt pos.col, .ref c']))) c' (codF c' (X.env.qual ++ "<lambda>"))) c' (.frz od (codF c' (X.env.qual ++ "<lambda>")))) P = some (.tbl (ps ++ #[rawInt pos.line, rawInt pos.col, .ref c'])) := by
      have : P ≠ c' := fun z => by rw [z, freeC] at atP; cases atP
      rw [upd_ne this, upd_ne this, upd_same]
    have newC : (upd (upd (upd H P (.tbl (ps ++ #[rawInt pos.line, rawInt pos.col, .ref c']))) c' (codF c' (X.env.qual ++ "<lambda>"))) c' (.frz od (codF c' (X.env.qual ++ "<lambda>")))) c' = some (.frz od (codF c' (X.env.qual ++ "<lambda>"))) := upd_same
    clear I1 I2
    generalize upd (upd (upd H P (.tbl (ps ++ #[rawInt pos.line, rawInt pos.col, .ref c']))) c' (codF c' (X.env.qual ++ "<lambda>"))) c' (.frz od (codF c' (X.env.qual ++ "<lambda>"))) = H1 at *
    rw [hq] at newC
    have unP : ∀ b u, H b = some u → (∀ ps, u ≠ .tbl ps) → b ≠ P := fun b u e ne z => by
      rw [z, atP] at e
      exact ne ps (Option.some.inj e).symm
    have stay : ∀ b u, H b = some u → (∀ ps, u ≠ .tbl ps) → H1 b = some u := fun b u e ne => (old b (unP b u e ne) (ne_of_none e freeC)).trans e
    have kt : KT X.K H H1 := ⟨fun b vs e => stay b _ e (fun _ z => by cases z), fun b o vs e => stay b _ e (fun _ z => by cases z), fun b o u e => stay b _ e (fun _ z => by cases z)⟩
    have eL : (ps ++ #[rawInt pos.line, rawInt pos.col, .ref c']).toList = ps.toList ++ [rawInt pos.line, rawInt pos.col, .ref c'] := by simp
    refine fin h'.objs.size c' od ((X.mg "__name__").getD .none) ctv H1 _ I3 kt (fun G gP m b o e => ?_) (Heap.get?_push_size _ rfl) ?_ (offs _ big) newC
    · by_cases hb : b = P
      · subst hb
        rw [gP] at e
        cases e
        refine ⟨c0, _, tin, newP, by rw [eL]; exact PySem.TriplesOk_snoc _ _ _ _ trip, fun p2 cv hcv => ?_⟩
        rw [eL] at hcv
        rcases LamX.among_app _ trip hcv with z | z
        · obtain ⟨c3, o3, e1, e3⟩ := ent p2 cv z
          exact ⟨c3, o3, e1, kt.lis _ _ _ e3⟩
        · exact ⟨c', od, z, newC⟩
      · have hc : b ≠ c' := fun z => by
          subst z
          rw [m.fresh freeC] at e
          cases e
        exact (m b o e).keep (old b hb hc) kt
    · rw [old _ (Nat.ne_of_gt (Nat.lt_of_lt_of_le (Heap.lt_size objP) big)) (Nat.ne_of_gt lt)]
      exact I.hok.fresh big
end
section
variable {X : Cx} {pins : List (Addr × Obj)} {σ : L2.St} {H : Hp} {s : Shared} {td : DX → DE}
/-- the lambda's body, called from within the def that got it -/
theorem act_ex {Ng : List Str} {x : Str} {sg : Scope} {g f c' : Addr} {oc : Obj} {a : Str} {cdg pm ctv : Value} {params : Arguments} {body : Expr} {scope : Scope} {k : Nat} {EL : XK} {σd : DSt} {p1 p2 : Pos}
    (I : L2.Inv X pins σ H s) (L : LamX.LamS X.env.scope scope) (obj : s.heap.get? f = some (PySem.W.kla_obj "<lambda>" (X.env.qual ++ "<lambda>") params body scope (cloFrom X.env.cells scope.names []) pm c' ctv)) (hfn : H f = none) (hfr : f ∉ frs X.stack) (hcd : H c' = some (.frz oc (codF c' (X.env.qual ++ "<lambda>"))))
    (sr : SR X.K H σd σ) (bind : bindArgs (PySem.W.kla_fn "<lambda>" (X.env.qual ++ "<lambda>") params body scope (cloFrom X.env.cells scope.names []) pm (.ref c') ctv) ⟨[], []⟩ = pure [])
    (hr : Room (k + 1) (cx X.prog X.w X.K X.mg X.base Ng x sg g cdg X.A X.stack s H EL).A) (hgd : X.A.guards = some [])
    (hbody : ∀ (A : Around) (outer : List Env) (s' : Shared) (H' : Hp) (E : XK) (EX : DX), Room k (LamX.lamCx X A outer s' H' E scope f c').A → (LamX.lamCx X A outer s' H' E scope f c').A.guards = some [] → PassD (LamX.lamCx X A outer s' H' E scope f c') EX → DPE (LamX.lamCx X A outer s' H' E scope f c') body (td EX))
    (hN : Ng[0]? = some a) (hv : Vis sg a) (hdb : (a == ("__debug__" : Str)) = false) (hcl : (a == ("__classdict__" : Str)) = false) :
    DPEx (cx X.prog X.w X.K X.mg X.base Ng x sg g cdg X.A X.stack s H EL) (.Call (.Name a p1) [] [] p2) (dAct (fun EX G' Q' => td EX σd G' Q') f 0) := by
  refine ⟨dAct_mono, fun pn xe Hb ES pass => ?_⟩
  obtain ⟨W, tk, link⟩ := pass
  refine ⟨fun σZ HZ Q => ∃ σz G, KT X.K Hb HZ ∧ MH X.K G HZ ∧ SR X.K HZ σz σZ ∧ dAct (fun EX G' Q' => td EX σd G' Q') f 0 ES σz G (lf X.K HZ Q), ⟨fun pinsZ sZ σZ HZ Q IZ h => ?_⟩, fun σZ HZ σz G Q kb m s h => ⟨σz, G, kb, m, s, h⟩⟩
  obtain ⟨σz, G, kb, m, sz, slot, EX0, Q0, run0, toE, toQ⟩ := h
  have slotV : σZ[0]? = some (some (V.ref f)) := by
    unfold getS at slot
    cases e : σz[0]? with
    | none => rw [e] at slot; cases slot
    | some o =>
      cases o with
      | none => rw [e] at slot; cases slot
      | some d =>
        rw [e] at slot
        obtain ⟨v, z1, z2⟩ := sz.2 0 d e
        cases slot
        cases z2
        exact z1
  have kt0 : KT X.K H HZ := inv_kt IZ
  have hcz : HZ c' = some (.frz oc (codF c' (X.env.qual ++ "<lambda>"))) := kt0.lis _ _ _ hcd
  refine wpAny_Call_Name_kw (thn ((pe_var (X := (cx X.prog X.w X.K X.mg X.base Ng x sg g cdg X.A X.stack s H EL).tr pn xe) (pos := p1) (i := 0) hN hv hdb hcl).run pinsZ sZ σZ HZ (fun v H1 => v = .ref f ∧ H1 = HZ) IZ ⟨.ref f, slotV, rfl, rfl⟩) fun u s1 got => ?_)
  obtain ⟨v, H1, I1, r1, rfl, rfl⟩ := got
  obtain rfl : u = Value.ref f := r1
  have obj1 := I1.base.keep f _ obj hfn hfr (fun z => nomatch (show f ∈ ([] : List Addr) from z))
  refine PySem.W.callWith_F0 ⟨_, _, _, _, obj1⟩ ?_
  have un : Un (frs X.stack) [] H H1 s.heap s1.heap := I1.base
  obtain ⟨ocAt, ⟨oc2, vs2, t2, at2, dat2, nm2⟩, _⟩ := I1.hok c' _ hcz
  have callee : codeAny (model X.prog X.w) (X.A.deeper (PyProof.Rows.envOfC x sg s.heap.objs.size g cdg)) (.call (.ref f) ⟨[], []⟩) (CR (L2.CX X.prog X.w) (PyProof.Rows.envOfC x sg s.heap.objs.size g cdg :: X.stack) X.prog X.w H1 s1 Q (fun cls d H' => W cls d σZ H')) s1 := by
    refine PySem.W.kla_callFunE hr.depth obj1 rfl L.co L.gen rfl ⟨c', oc2, vs2, t2, rfl, at2, dat2, nm2⟩ ?_
    rw [bind]
    refine wpAny_pure (wpAny_newFunctionEnv (fun y hy => (L.own y hy).2) (fun y hy => absurd hy (by simp)) (fun h₁ hns hsb => ⟨I1.nolimit.fresh _ hsb, ?_⟩) L.kind)
    show codeAny _ _ (.expr body (LamX.lamEnv X scope s1.heap.objs.size f c')) _ _
    have same : ∀ b o, s1.heap.get? b = some o → h₁.get? b = some o := fun b o e => hsb.extBut b o (Nat.ne_of_lt (Heap.lt_size e)) (Heap.get?_push_of_some _ e)
    have J := LamX.lam_start2 (E := fun cls d H' => W cls d σZ H') (c' := c') (f := f) (tk := s1.toks + ([] : List (Str × Value)).length) I L I1.env0 hr.hd un hns same
    have tk2 : Takes (LamX.lamCx X (X.A.deeper (PyProof.Rows.envOfC x sg s.heap.objs.size g cdg)) (PyProof.Rows.envOfC x sg s.heap.objs.size g cdg :: X.stack) s1 H1 (fun cls d H' => W cls d σZ H') scope f c') (fun cls d _ H' => (fun cls d H' => W cls d σZ H') cls d H') := takes_of rfl rfl rfl rfl
    have pass : PassD (LamX.lamCx X (X.A.deeper (PyProof.Rows.envOfC x sg s.heap.objs.size g cdg)) (PyProof.Rows.envOfC x sg s.heap.objs.size g cdg :: X.stack) s1 H1 (fun cls d H' => W cls d σZ H') scope f c') EX0 :=
      ⟨_, passes_call tk2 fun _ _ _ _ z => z, tk2, fun H' kt' c fo G' z => lfX_kt kt' (link σz σZ H1 kb sz c fo G' (toE c fo G' z))⟩
    obtain ⟨mE, tt, pe, rr⟩ := hbody _ _ s1 H1 _ EX0 (hr.deeper _) hgd pass
    refine PySem.W.kla_codeExpr (wpAny_mono (pe.run [] _ _ H1 Q J (rr σ H1 σd G Q m (sr.kt kt0) (mE _ _ _ _ toQ run0))) (fun v s' got => ?_) fun e s' z => z)
    obtain ⟨v2, H2, J2, rv, q2⟩ := got
    exact ⟨v2, H2, J2.os, J2.bare, J2.base, J2.hok, rv, q2⟩
  refine wpAny_call (codeAny_mono callee fun r s' got => ?_)
  cases r with
  | error e => exact tk e s' (XE.of_call I1 (fun _ _ _ z => z) got)
  | ok fl =>
    cases fl with
    | ret u => exact I1.after got
    | next => exact False.elim got
    | brk => exact False.elim got
    | cont => exact False.elim got
end
/-- x(lambda: body), in the def y -/
def dLam (y : Str) (CL : TX → DG → DK → Prop) (td : DX → DE) : DE := fun σ G Q => (∃ P, G P = some (.tab y)) ∧ ∃ Q0 : DK, CL (fun EX G' Q' => td EX σ G' Q') G Q0 ∧ ∀ d G', Q0 d G' → Q d G'
/-- the table of the def y, in the heap that all begins with -/
def TabOk (K : PySem.W.Frag) (base : Heap) (mg : Str → Option Value) (y : Str) (cdv : Value) : Prop := ∃ c P, PySem.W.tabIn K y = some (c, P) ∧ cdv = .ref c ∧ LamX.TabB base mg c P
theorem de_lam {X : Cx} {x y : Str} {k : Nat} {CL : TX → DG → DK → Prop} {td : DX → DE} {params : Arguments} {body : Expr} {scope : Scope} {p lpos pos : Pos} (F : LamOk X.prog X.w X.K X.mg X.base (k + 1) x CL) (tb : TabOk X.K X.base X.mg y X.env.code) (hq : X.env.qual = y ++ ".<locals>.") (hr : Room (k + 2) X.A) (hgd : X.A.guards = some [])
    (L : LamX.LamS X.env.scope scope)
    (hbody : ∀ (A : Around) (outer : List Env) (s' : Shared) (H' : Hp) (E : XK) (f c' : Addr) (EX : DX), Room k (LamX.lamCx X A outer s' H' E scope f c').A → (LamX.lamCx X A outer s' H' E scope f c').A.guards = some [] → PassD (LamX.lamCx X A outer s' H' E scope f c') EX → DPE (LamX.lamCx X A outer s' H' E scope f c') body (td EX))
    (hg : Gl X x := by rfl) (hdb : (x == ("__debug__" : Str)) = false := by decide) (hdef : defaultsOf params X.env = ([], []) := by rfl)
    (bind : ∀ (q : Str) (cl : List (Str × Addr)) (pm cv ctv : Value), bindArgs (PySem.W.kla_fn "<lambda>" q params body scope cl pm cv ctv) ⟨[], []⟩ = pure [] := by intros; rfl) :
    DPE X (.Call (.Name x p) [.Lambda params body scope lpos] [] pos) (dLam y CL td) := by
  refine ⟨fun σ G Q Q' h ⟨a, Q0, b, c⟩ => ⟨a, Q0, b, fun d G' z => h _ _ (c d G' z)⟩, canonE X.K (dLam y CL td), ⟨fun pins s σ H Q I h => ?_⟩, fun σ H σd G Q m s h => ⟨σd, G, m, s, h⟩⟩
  obtain ⟨σd, G, m, sr, ⟨P, gP⟩, Q0, hCL, toQ⟩ := h
  obtain ⟨g, fd, st, N, a, Fx, hm, hb, Sg, hN, hva, hd1, hd2, der⟩ := F
  obtain ⟨c, P', tin, hcode, TB⟩ := tb
  have mP := m P _ gP
  obtain ⟨c0, ps, tin2, _⟩ := id mP
  rw [tin] at tin2
  cases tin2
  refine wpAny_Call_Name_kw (ld_glob I hg hm ?_ hdb)
  refine PySem.W.callWith_K (h₀ := X.base) I.ok.mod.kin Fx.kp ?_ (by rfl) (by rfl)
  show wpAny _ _ (spliced ((false, eval (.Lambda params body scope lpos) X.env) :: backTo pos (starEach [] X.env))) _ _ s
  refine Calls.spliced_cons (lam_new I TB hcode hq mP hdef (L.has I.ok) fun f c' oc pm ctv H1 s1 I1 kt mh obj hfn hfr hcd => ?_)
  refine Calls.spliced_nil ⟨I1.kIn, ?_⟩
  have hcd' : H1 c' = some (.frz oc (codF c' (X.env.qual ++ "<lambda>"))) := by rw [hq]; exact hcd
  obtain ⟨oc', od, kV, doc, pm', an, cdv, ct, osl, rfl, lk, hcg⟩ := Fx.ex
  have callee : codeAny (model X.prog X.w) X.A (.call (.ref g) ⟨[.ref f], []⟩) (CR (L2.CX X.prog X.w) X.stack X.prog X.w H1 s1 Q (fun _ _ _ => False)) s1 := by
    refine LamX.run_ofS (N := N) (ps := [a]) (us := [.ref f]) (vs := [.ref f]) lk hcg Sg hr I1.env0 (hb s1 [.ref f] I1.kIn rfl) (.cons rfl .nil) rfl fun hr' => ?_
    obtain ⟨T, ⟨mS, tt, pss, rr⟩, run⟩ := der (fun EX G' Q' => td EX σd G' Q') f cdv X.A X.stack s1 H1 (fun _ _ _ => False) hr' hgd (passes_of rfl) fun p1 p2 =>
      act_ex I1 L obj hfn hfr hcd' (sr.kt kt) (bind _ _ _ _ _) hr' hgd (fun A outer s' H' E EX r1 r2 r3 => hbody A outer s' H' E f c' EX r1 r2 r3) hN hva hd1 hd2
    refine ⟨tt, pss, rr (start N [.ref f]) H1 (dstart N [.ref f]) G _ (mh G gP m) (.start N (RDs.nil.cons (.ref f))) (mS _ _ { nx := fun _ G' => DrK Q0 .non G', rt := DrK Q0, bk := fun _ _ => False, ct := fun _ _ => False } _ ⟨fun σ G' z => ?_, fun d G' z v H' m' r' k' => let ⟨G0, l, z⟩ := z; toQ d G0 z v H' (m'.le l) r' (kt.trans k'), fun _ _ z => z.elim, fun _ _ z => z.elim⟩ (run G Q0 hCL))⟩
    obtain ⟨G0, l, z⟩ := z
    exact fun σ' H' m' _ k' => toQ .non G0 z .non H' (m'.le l) .non (kt.trans k')
  refine wpAny_call (codeAny_mono callee fun r s2 got => ?_)
  cases r with
  | error e =>
    obtain ⟨_, _, _, _, _, _, _, _, _, _, _, _, z⟩ := got
    exact z.elim
  | ok fl =>
    cases fl with
    | ret u => exact I1.after got
    | next => exact False.elim got
    | brk => exact False.elim got
    | cont => exact False.elim got
end FD

namespace FD
open PySem L2
/-! ### a def that makes lambdas: its code object is known -/
/-- the code object of the def at f is c -/
def CodeIs (K : PySem.W.Frag) (x : Str) (st : Stmt) (f c : Addr) : Prop := ∀ (oc : Value) (od : Option Addr) (kV doc pm : Value) (an : Option Addr) (cdv ct : Value) (osl : Array (Option Value)),
  K.lookup f = some ⟨oc, od, .func (PySem.W.fnOf x x (defArgs st) (defBody st) (defScope st) .none kV doc pm an cdv ct), osl⟩ → cdv = .ref c
theorem code_is {K : PySem.W.Frag} {x : Str} {st : Stmt} {f c : Addr} {oc : Value} {od : Option Addr} {kV doc pm : Value} {an : Option Addr} {ct : Value} {osl : Array (Option Value)}
    (lk : K.lookup f = some ⟨oc, od, .func (PySem.W.fnOf x x (defArgs st) (defBody st) (defScope st) .none kV doc pm an (.ref c) ct), osl⟩) : CodeIs K x st f c := fun oc' od' kV' doc' pm' an' cdv' ct' osl' lk' => by
  rw [lk] at lk'
  simp only [Option.some.injEq, Obj.mk.injEq, Data.func.injEq, PySem.W.fnOf, FuncData.mk.injEq] at lk'
  grind
theorem tab_in {K : PySem.W.Frag} {x : Str} {f c P : Addr} {oc : Value} {od : Option Addr} {fd : FuncData} {osl : Array (Option Value)} {e : Value} {dd : Option Addr} {vs : Array Value} {sl : Array (Option Value)} (a : PySem.W.nsIn K mainGlobals x = some (some (.ref f)))
    (l : K.lookup f = some ⟨oc, od, .func fd, osl⟩) (hc : fd.code = .ref c) (q : K.lookup c = some ⟨e, dd, .fields vs, sl⟩) (p : vs[11]? = some (.ref P)) : PySem.W.tabIn K x = some (c, P) := by
  unfold PySem.W.tabIn
  rw [a]
  simp only [l, hc, q, p]
section
variable {P : Program} {w : World} {K : PySem.W.Frag} {mg : Str → Option Value} {base : Heap}
theorem fk_okL {x : Str} {st : Stmt} {f c : Addr} {fd : FuncData} {N ps : List Str} {k : Nat} {C : Ct} {T : DX → DS} (F : Fun K x x st f fd) (hc : CodeIs K x st f c) (tb : TabOk K base mg x (.ref c)) (S : FnScope N ps (defScope st)) (len : ∀ ds G Q E, C ds G Q E → ds.length = ps.length)
    (der : ∀ (cdv : Value) (A : Around) (outer : List Env) (s : Shared) (H : Hp) (EL : XK) (E : DX), TabOk K base mg x cdv → Room k (cx P w K mg base N x (defScope st) f cdv A outer s H EL).A → (cx P w K mg base N x (defScope st) f cdv A outer s H EL).A.guards = some [] →
      PassesOwn (model P w) (cx P w K mg base N x (defScope st) f cdv A outer s H EL).A (cx P w K mg base N x (defScope st) f cdv A outer s H EL).env (cx P w K mg base N x (defScope st) f cdv A outer s H EL).xe →
      PassD (cx P w K mg base N x (defScope st) f cdv A outer s H EL) E → DPSs (cx P w K mg base N x (defScope st) f cdv A outer s H EL) (defBody st) (T E))
    (run : ∀ ds G Q E, C ds G Q E → T E { nx := fun _ G' => DrK Q .non G', rt := DrK Q, bk := fun _ _ => False, ct := fun _ _ => False } (dstart N ds) G) : FK P w K mg base (k + 1) f fd ps (spOf K C) := by
  obtain ⟨oc, od, kV, doc, pm, an, cdv, ct, osl, rfl, lk, hcd⟩ := F.ex
  have ec := hc _ _ _ _ _ _ _ _ _ lk
  refine fk_of lk hcd S (fun vs H Q E h => ?_) fun A outer s H vs Q E hr hgd hsp => ?_
  · obtain ⟨ds, G, Q0, E0, _, r, hC, _⟩ := h
    rw [← r.1]
    exact len _ _ _ _ hC
  · obtain ⟨ds, G, Q0, E0, m, r, hC, hQ, hE⟩ := hsp
    have tk : Takes (cx P w K mg base N x (defScope st) f cdv A outer s H E) (fun cls d _ H => E cls d H) := takes_of rfl rfl rfl rfl
    have D0 := der cdv A outer s H E E0 (by rw [ec]; exact tb) hr hgd (passes_of rfl) ⟨E, passes_call tk fun _ _ _ _ h => h, tk, fun H' kt c fo G' q => lfX_kt kt (hE c fo G' q)⟩
    obtain ⟨mS, tt, p, rr⟩ := D0
    refine ⟨tt, p, rr (start N vs) H (dstart N ds) G _ m (.start N r) (mS _ _ { nx := fun _ G' => DrK Q0 .non G', rt := DrK Q0, bk := fun _ _ => False, ct := fun _ _ => False } _ ⟨fun σ G' q => ?_, fun d G' q v H' m' r' k' => let ⟨G0, l, q⟩ := q; hQ d G0 q v H' (m'.le l) r' k', fun _ _ q => q.elim, fun _ _ q => q.elim⟩ (run ds G Q0 E0 hC))⟩
    obtain ⟨G0, l, q⟩ := q
    exact fun σ' H' m' _ k' => hQ .non G0 q .non H' (m'.le l) .non k'
def DefAtL (K : PySem.W.Frag) (mg : Str → Option Value) (x : Str) (st : Stmt) (ps : List Str) : Prop := ∃ f fd c P, Fun K x x st f fd ∧ mg x = some (.ref f) ∧ Binds K fd ps [] ∧ CodeIs K x st f c ∧ PySem.W.tabIn K x = some (c, P)
/-- the tables of the defs that make lambdas -/
def Tbs (K : PySem.W.Frag) (base : Heap) (mg : Str → Option Value) (xs : List Str) : Prop := ∀ x ∈ xs, ∀ c P, PySem.W.tabIn K x = some (c, P) → LamX.TabB base mg c P
theorem Tbs.ok {xs : List Str} {x : Str} {c P : Addr} (t : Tbs K base mg xs) (h : PySem.W.tabIn K x = some (c, P)) (hx : x ∈ xs := by simp) : TabOk K base mg x (.ref c) := ⟨c, P, h, rfl, t x hx c P h⟩
theorem call_okL {x : Str} {st : Stmt} {N ps : List Str} {k : Nat} {C : Ct} {T : DX → DS} {xs : List Str} (tbs : Tbs K base mg xs) (D : DefAtL K mg x st ps) (S : FnScope N ps (defScope st)) (len : ∀ ds G Q E, C ds G Q E → ds.length = ps.length)
    (der : ∀ (f : Addr) (cdv : Value) (A : Around) (outer : List Env) (s : Shared) (H : Hp) (EL : XK) (E : DX), TabOk K base mg x cdv → Room k (cx P w K mg base N x (defScope st) f cdv A outer s H EL).A → (cx P w K mg base N x (defScope st) f cdv A outer s H EL).A.guards = some [] →
      PassesOwn (model P w) (cx P w K mg base N x (defScope st) f cdv A outer s H EL).A (cx P w K mg base N x (defScope st) f cdv A outer s H EL).env (cx P w K mg base N x (defScope st) f cdv A outer s H EL).xe →
      PassD (cx P w K mg base N x (defScope st) f cdv A outer s H EL) E → DPSs (cx P w K mg base N x (defScope st) f cdv A outer s H EL) (defBody st) (T E))
    (run : ∀ ds G Q E, C ds G Q E → T E { nx := fun _ G' => DrK Q .non G', rt := DrK Q, bk := fun _ _ => False, ct := fun _ _ => False } (dstart N ds) G) (hx : x ∈ xs := by simp) : CallOk P w K mg base (k + 1) x C := by
  obtain ⟨f, fd, c, P', F, hm, hb, hc, ht⟩ := D
  exact ⟨f, fd, ps, hm, F.kp, hb, fk_okL F hc (tbs.ok ht hx) S len (der f) run⟩
/-- the def that gets the lambda -/
theorem lam_ok {x a : Str} {st : Stmt} {N : List Str} {k : Nat} {CL : TX → DG → DK → Prop} {T : TX → Addr → DX → DS} (D : DefAt K mg x st [a]) (S : FnScope N [a] (defScope st))
    (der : ∀ (tl : TX) (lf : Addr) (f : Addr) (cdv : Value) (A : Around) (outer : List Env) (s : Shared) (H : Hp) (EL : XK) (E : DX), Room k (cx P w K mg base N x (defScope st) f cdv A outer s H EL).A → (cx P w K mg base N x (defScope st) f cdv A outer s H EL).A.guards = some [] →
      PassesOwn (model P w) (cx P w K mg base N x (defScope st) f cdv A outer s H EL).A (cx P w K mg base N x (defScope st) f cdv A outer s H EL).env (cx P w K mg base N x (defScope st) f cdv A outer s H EL).xe →
      PassD (cx P w K mg base N x (defScope st) f cdv A outer s H EL) E → (∀ p1 p2, DPEx (cx P w K mg base N x (defScope st) f cdv A outer s H EL) (.Call (.Name a p1) [] [] p2) (dAct tl lf 0)) →
      DPSs (cx P w K mg base N x (defScope st) f cdv A outer s H EL) (defBody st) (T tl lf E))
    (run : ∀ tl lf G Q, CL tl G Q → T tl lf noX { nx := fun _ G' => DrK Q .non G', rt := DrK Q, bk := fun _ _ => False, ct := fun _ _ => False } (dstart N [.ref lf]) G)
    (hN : N[0]? = some a := by rfl) (hv : Vis (defScope st) a := by first | exact Or.inl rfl | exact Or.inr (Or.inl rfl) | exact Or.inr (Or.inr rfl)) (hd : (a == ("__debug__" : Str)) = false := by decide) (hcd : (a == ("__classdict__" : Str)) = false := by decide) : LamOk P w K mg base k x CL := by
  obtain ⟨g, fd, F, hm, hb⟩ := D
  exact ⟨g, fd, st, N, a, F, hm, hb, S, hN, hv, hd, hcd, fun tl lf cdv A outer s H EL hr hgd hp act => ⟨T tl lf noX, der tl lf g cdv A outer s H EL noX hr hgd hp passD_no act, fun G Q h => run tl lf G Q h⟩⟩
end
/-! ### the law's end, with tables -/
def spLawT (n : Nat) (xs : List Str) : Ct := fun ds G Q _ => ∃ ns : List Int, ds = [.lis (ns.map .int)] ∧ ns.length ≤ n ∧ (∀ x ∈ xs, ∃ P, G P = some (.tab x)) ∧ ∀ G', Q (.bl true) G'
theorem nodup_inj {α β : Type} {f : α → β} : ∀ {l : List α}, (l.map f).Nodup → ∀ u t, u ∈ l → t ∈ l → f u = f t → u = t
  | [], _, u, _, h, _, _ => by cases h
  | y :: ys, nd, u, t, hu, ht, e => by
    rw [List.map_cons, List.nodup_cons] at nd
    rcases List.mem_cons.mp hu with h1 | h1
    · rcases List.mem_cons.mp ht with h2 | h2
      · rw [h1, h2]
      · exact absurd (List.mem_map.mpr ⟨t, h2, by rw [← h1, e]⟩) nd.1
    · rcases List.mem_cons.mp ht with h2 | h2
      · exact absurd (List.mem_map.mpr ⟨u, h1, by rw [← h2, e]⟩) nd.1
      · exact nodup_inj nd.2 u t h1 h2 e
/-- a table: the def's name, its code object, the table -/
structure TabE (K : PySem.W.Frag) (h : Heap) (t : Str × Addr × Addr) : Prop where
  tin : PySem.W.tabIn K t.1 = some (t.2.1, t.2.2)
  hd : PySem.W.CodeHd h t.2.1 t.2.2
  empty : h.get? t.2.2 = some { cls := .none, data := .fields #[] }
  out : K.lookup t.2.2 = none
theorem law_fkT {P : Program} {w : World} {K : PySem.W.Frag} {mg mb : Str → Option Value} {k n : Nat} {fa a : Addr} {fd : FuncData} {x : Str} {s1 : Shared} {vs : List Value} {ns : List Int} {ts : List (Str × Addr × Addr)}
    (KX : K.In s1.heap) (hns : s1.heap.Ns mainGlobals mg) (hb : s1.heap.Ns builtinsNs mb) (hbb : ∀ x : Str, x ≠ "__name__" → mb x = bootBuiltins x) (hlim : s1.heap.NoLimit) (hg : s1.gens = #[])
    (hT : ∀ t ∈ ts, TabE K s1.heap t) (hnd : (ts.map (·.2.2)).Nodup) (hbm : ∃ (bm : Addr) (ob : Obj), mg "__builtins__" = some (.ref bm) ∧ bm ≠ builtinsNs ∧ s1.heap.get? bm = some ob ∧ ob.cls = .type "module" ∧ ob.dict = some builtinsNs ∧ ob.data = .plain)
    (ha : s1.heap.get? a = some { cls := .type "list", data := .seq vs.toArray }) (hi : PyProof.Rows.IntsAre vs ns) (hl : ns.length ≤ n) (hn : n ≤ sizeLine) (hr : Room k callerA)
    (F : ∀ base : Heap, K.In base → base.Ns mainGlobals mg → (∀ (b : Addr) (m : Str → Option Value), s1.heap.Ns b m → base.Ns b m) → Tbs K base mg (ts.map (·.1)) → FK P w K mg base k fa fd [x] (spOf K (spLawT n (ts.map (·.1))))) (hbind : ∀ (s : Shared) (u : Value), BindsTo s fd ⟨[u], []⟩ [(x, u)]) :
    codeAny (model P w) callerA (.call (.ref fa) ⟨[.ref a], []⟩) (fun r s' => r = .ok (.ret (.bool true)) ∧ OldK s1.heap s'.heap ∧ s'.os = s1.os ∧ PyProof.Rows.AllBare s'.gens) s1 := by
  have rv := vals_ints hi
  have lenV := hi.length
  have hz : ns.length ≤ sizeLine := Nat.le_trans hl hn
  have nodA : ∀ t ∈ ts, t.2.2 ≠ a := fun t ht z => by
    have q := (hT t ht).empty
    rw [z, ha] at q
    cases congrArg Obj.data (Option.some.inj q)
  have main : ∀ H : Hp, (∀ t ∈ ts, H t.2.2 = some (.tbl #[])) → (∀ b u, H b = some u → (∃ t ∈ ts, b = t.2.2 ∧ u = .tbl #[]) ∨ (b = a ∧ K.lookup a = none ∧ ∃ o xs, u = .frz o (.lst xs))) → SqR K H a (ns.map V.int) → HOk P w H s1.heap →
      codeAny (model P w) callerA (.call (.ref fa) ⟨[.ref a], []⟩) (fun r s' => r = .ok (.ret (.bool true)) ∧ OldK s1.heap s'.heap ∧ s'.os = s1.os ∧ PyProof.Rows.AllBare s'.gens) s1 := by
    intro H hTb hO hS hok
    have there : ∀ {b : Addr} {o : Obj}, s1.heap.get? b = some o → H b = none → (hidT s1.heap H).get? b = some o := fun e z => hidT_get e z
    -- an object that is neither the script nor a table isn't tracked
    have noT : ∀ {b : Addr} {o : Obj}, s1.heap.get? b = some o → (∀ xs m, o.data ≠ .seq xs m) → o.data ≠ .fields #[] → H b = none := fun {b o} e z1 z2 => by
      cases q : H b with
      | none => rfl
      | some u =>
        rcases hO b u q with ⟨t, ht, rfl, _⟩ | ⟨rfl, _, _⟩
        · have := (hT t ht).empty
          rw [e] at this
          cases this
          exact absurd rfl z2
        · rw [ha] at e
          cases e
          exact absurd rfl (z1 _ _)
    have noD : ∀ {b : Addr} {o : Obj} {es : Array DictEntry} {ep : Nat}, s1.heap.get? b = some o → o.data = .dict es ep → H b = none := fun {b o es ep} e d => noT e (fun xs m z => by rw [d] at z; cases z) fun z => by rw [d] at z; cases z
    have ns1 : ∀ {b : Addr} {m : Str → Option Value}, s1.heap.Ns b m → (hidT s1.heap H).Ns b m := fun {b m} ⟨o, es, ep, e, d, r⟩ => ⟨o, es, ep, there e (noD e d), d, r⟩
    have kin : K.In (hidT s1.heap H) := fun b o e => there (KX b o e) (by
      cases q : H b with
      | none => rfl
      | some u =>
        rcases hO b u q with ⟨t, ht, rfl, _⟩ | ⟨rfl, z, _⟩
        · rw [(hT t ht).out] at e
          cases e
        · rw [z] at e
          cases e)
    have M : Mod K mg (hidT s1.heap H) := ⟨kin, ns1 hns, ⟨mb, ns1 hb, hbb⟩, let ⟨mc, h1, h2⟩ := hlim; ⟨mc, ns1 h1, h2⟩⟩
    have E : Env0 P w K mg (hidT s1.heap H) callerA [] s1 H := ⟨rfl, M, fun b o e => of_hidT e, Nat.le_of_eq (hidT_size _ _), trivial, fun b hb => absurd (show b ∈ ([] : List Addr) from hb) (by simp), hok, .of_eq hg⟩
    have tbs : Tbs K (hidT s1.heap H) mg (ts.map (·.1)) := fun y hy c Pt tin => by
      obtain ⟨t, ht, rfl⟩ := List.mem_map.mp hy
      have T := hT t ht
      rw [T.tin] at tin
      cases tin
      obtain ⟨oc, fs, nm, tn, fl, tf, bo, tx, tt, at1, k1, k2, k3, rest⟩ := T.hd
      obtain ⟨bm, ob, b1, b2, b3, b4, b5, b6⟩ := hbm
      refine ⟨⟨oc, fs, nm, tn, fl, tf, bo, tx, tt, there at1 (noT at1 (fun xs m z => by rw [k2] at z; cases z) fun z => ?_), k1, k2, k3, rest⟩, ⟨bm, ob, b1, b2, fun z => ?_, fun z => ?_, there b3 (noT b3 (fun xs m z => by rw [b6] at z; cases z) fun z => by rw [b6] at z; cases z), b4, b5, b6⟩, fun z => ?_⟩
      · rw [k2] at z
        cases z
        cases k3
      · obtain ⟨o, es, ep, e, d, _⟩ := hns
        rw [z, e] at b3
        cases b3
        rw [d] at b6
        cases b6
      · rw [z, T.empty] at b3
        cases b3
        cases b6
      · obtain ⟨o, es, ep, e, d, _⟩ := hns
        rw [z, T.empty] at e
        cases e
        cases d
    let G0 : DG := fun b => (ts.find? fun t => t.2.2 == b).map fun t => O.tab t.1
    have g0 : ∀ t ∈ ts, G0 t.2.2 = some (.tab t.1) := fun t ht => by
      show (ts.find? fun u => u.2.2 == t.2.2).map _ = _
      cases q : ts.find? fun u => u.2.2 == t.2.2 with
      | none =>
        have := List.find?_eq_none.mp q t ht
        simp at this
      | some u =>
        have h1 := List.find?_some q
        have h2 := List.mem_of_find?_eq_some q
        have h3 : u.2.2 = t.2.2 := by simpa using h1
        have : u = t := nodup_inj hnd u t h2 ht h3
        rw [this]
        rfl
    have m0 : MH K G0 H := fun b o e => by
      have e : (ts.find? fun t => t.2.2 == b).map (fun t => O.tab t.1) = some o := e
      obtain ⟨t, h1, rfl⟩ := Option.map_eq_some_iff.mp e
      have h2 := List.mem_of_find?_eq_some h1
      have h3 : t.2.2 = b := by simpa using List.find?_some h1
      subst h3
      exact ⟨t.2.1, #[], (hT t h2).tin, hTb t h2, trivial, fun pos cv z => by simp [codeAmong] at z⟩
    have pr : spOf K (spLawT n (ts.map (·.1))) [.ref a] H (fun v _ => v = .bl true) (fun _ _ _ => False) := by
      refine ⟨[.lis (ns.map .int)], G0, fun d _ => d = .bl true, noX, m0, RDs.nil.cons (.lis hS (by simp) (RDs.of_int ns).2), ⟨ns, rfl, hl, fun y hy => ?_, fun _ => rfl⟩, fun d G' q v H' m r k => ?_, fun _ _ _ q => False.elim q⟩
      · obtain ⟨t, ht, rfl⟩ := List.mem_map.mp hy
        exact ⟨_, g0 t ht⟩
      · subst q
        cases r
        rfl
    refine codeAny_mono ((F _ kin (ns1 hns) (fun b m => ns1) tbs).run callerA [] s1 H ⟨[.ref a], []⟩ [.ref a] [.ref a] _ _ hr rfl E (hbind s1 (.ref a)) (.cons rfl .nil) pr) fun r s' h => ?_
    cases r with
    | error e =>
      obtain ⟨_, _, _, _, _, _, _, _, _, _, _, _, z⟩ := h
      exact z.elim
    | ok fl =>
      cases fl with
      | next => exact False.elim h
      | brk => exact False.elim h
      | cont => exact False.elim h
      | ret u =>
        obtain ⟨v, H', os, bare, un, hok', r', q⟩ := h
        have q' : v = .bl true := q
        subst q'
        obtain rfl : u = Value.bool true := r'
        refine ⟨rfl, ⟨fun b o e => ?_, fun b o e => ?_⟩, os, bare⟩
        · cases q : H b with
          | none => exact .inl (un.keep b o e q (fun z => absurd (show b ∈ ([] : List Addr) from z) (by simp)) (by simp))
          | some u =>
            rcases hO b u q with ⟨t, ht, rfl, rfl⟩ | ⟨rfl, _, ob, xs, rfl⟩
            · obtain ⟨more, z⟩ := un.tbls _ #[] q
              have e2 := (hT t ht).empty
              rw [e] at e2
              cases e2
              refine .inr (.inl ⟨((hT t ht).hd.tab (hT t ht).empty).isCodeTable, rfl, #[], more, rfl, ?_⟩)
              exact hok' _ _ z
            · obtain ⟨e1, _⟩ := hok b _ q
              obtain ⟨e2, _⟩ := hok' b _ (un.frzs b ob _ q)
              rw [e] at e1
              cases e1
              exact .inl e2
        · cases q : H b with
          | none => exact ⟨o, un.keep b o e q (fun z => absurd (show b ∈ ([] : List Addr) from z) (by simp)) (by simp)⟩
          | some u =>
            rcases hO b u q with ⟨t, ht, rfl, rfl⟩ | ⟨rfl, _, ob, xs, rfl⟩
            · obtain ⟨more, z⟩ := un.tbls _ #[] q
              exact ⟨_, hok' _ _ z⟩
            · exact ⟨_, (hok' b _ (un.frzs b ob _ q)).1⟩
  have inT : ∀ b, (ts.any fun t => t.2.2 == b) = true → ∃ t ∈ ts, b = t.2.2 := fun b h => by
    obtain ⟨t, h1, h2⟩ := List.any_eq_true.mp h
    exact ⟨t, h1, by simpa using (beq_iff_eq.mp h2).symm⟩
  have anyT : ∀ t ∈ ts, (ts.any fun u => u.2.2 == t.2.2) = true := fun t ht => List.any_eq_true.mpr ⟨t, ht, by simp⟩
  cases hk : K.lookup a with
  | some o =>
    have e := KX a o hk
    rw [ha] at e
    cases e
    refine main (fun b => if (ts.any fun t => t.2.2 == b) = true then some (.tbl #[]) else none) (fun t ht => if_pos (anyT t ht)) (fun b u z => ?_) (.inr ⟨_, vs.toArray, _, hk, rfl, rfl, rfl, by rw [List.size_toArray, lenV]; exact hz, by simpa using rv⟩) (fun b u z => ?_)
    · split at z
      · rename_i q
        obtain ⟨t, ht, rfl⟩ := inT b q
        cases z
        exact .inl ⟨t, ht, rfl, rfl⟩
      · cases z
    · replace z : (if (ts.any fun t => t.2.2 == b) = true then some (HO.tbl #[]) else none) = some u := z
      by_cases q : (ts.any fun t => t.2.2 == b) = true
      · rw [if_pos q] at z
        obtain ⟨t, ht, rfl⟩ := inT b q
        cases z
        exact (hT t ht).empty
      · rw [if_neg q] at z
        cases z
  | none =>
    have na : (ts.any fun t => t.2.2 == a) = false := by
      cases q : ts.any fun t => t.2.2 == a with
      | false => rfl
      | true =>
        obtain ⟨t, ht, e⟩ := inT a q
        exact absurd e.symm (nodA t ht)
    refine main (fun b => if b = a then some (.frz { cls := .type "list", data := .seq vs.toArray } (.lst (ns.map V.int))) else if (ts.any fun t => t.2.2 == b) = true then some (.tbl #[]) else none) (fun t ht => ?_) (fun b u z => ?_) (.inl ⟨{ cls := .type "list", data := .seq vs.toArray }, if_pos rfl⟩) (fun b u z => ?_)
    · rw [if_neg (nodA t ht), if_pos (anyT t ht)]
    · split at z
      · rename_i q
        cases z
        exact .inr ⟨q, hk, _, _, rfl⟩
      · split at z
        · rename_i q
          obtain ⟨t, ht, rfl⟩ := inT b q
          cases z
          exact .inl ⟨t, ht, rfl, rfl⟩
        · cases z
    · replace z : (if b = a then some (HO.frz { cls := .type "list", data := .seq vs.toArray } (.lst (ns.map V.int))) else if (ts.any fun t => t.2.2 == b) = true then some (HO.tbl #[]) else none) = some u := z
      by_cases q : b = a
      · rw [if_pos q] at z
        cases z
        subst q
        exact ⟨ha, by rw [List.length_map]; exact hz, vs, _, rv, ha⟩
      · rw [if_neg q] at z
        by_cases q2 : (ts.any fun t => t.2.2 == b) = true
        · rw [if_pos q2] at z
          obtain ⟨t, ht, rfl⟩ := inT b q2
          cases z
          exact (hT t ht).empty
        · rw [if_neg q2] at z
          cases z
theorem walk_fkT {l : PySem.W.OpenLaw} {n k : Nat} {q : Program} {loose : List Str} {XP : (Str → Option Value) → Heap → Prop} {YP : World → Heap → Prop} {d : DefRec} {K : Params → PySem.W.Frag} {x : Str} (xs : List Str)
    (hn : l.most = some n) (hn2 : n ≤ sizeLine) (hdf : d.params.defaults = []) (hr : Room k callerA) (hY : ∀ (w : World) (h : Heap), YP w h → (K w.params).In h) (hrec : (xs.all fun y => (PyProof.Rows.recsOf q).any fun e => e.name == y) = true)
    (F : ∀ (w : World) (mg : Str → Option Value) (fa : Addr) (h : Heap), (K w.params).In h → h.Ns mainGlobals mg → mg d.name = some (.ref fa) →
      ∃ (fd : FuncData) (ts : List (Str × Addr × Addr)), ts.map (·.1) = xs ∧ (ts.map (·.2.2)).Nodup ∧ (∀ t ∈ ts, PySem.W.tabIn (K w.params) t.1 = some (t.2.1, t.2.2) ∧ (K w.params).lookup t.2.2 = none) ∧ (∀ (s : Shared) (u : Value), BindsTo s fd ⟨[u], []⟩ [(x, u)]) ∧
        ∀ base : Heap, (K w.params).In base → base.Ns mainGlobals mg → Tbs (K w.params) base mg xs → FK l.prog w (K w.params) mg base k fa fd [x] (spOf (K w.params) (spLawT n xs))) :
    PySem.W.WalkO q loose XP YP l.row.toRowW d [] (fun f vs => PySem.call f vs) := by
  refine Att.attach_call hn hdf fun w s0 s1 mg mb fa o pm cd doc a vs ns G Y ho hd hcd hmg hobj hints hlen hg => ?_
  have KX := hY w _ Y
  obtain ⟨fd, ts, rfl, hnd, ht, hb, hF⟩ := F w mg fa _ KX G.T.g hmg
  refine law_fkT KX G.T.g G.T.b G.T.builtins G.T.nolimit hg (fun t h => ?_) hnd G.T.bmain hobj hints hlen hn2 hr (fun base h1 h2 _ h4 => hF base h1 h2 h4) hb
  have h1 := List.all_eq_true.mp hrec t.1 (List.mem_map_of_mem h)
  obtain ⟨d', h2⟩ : ∃ d', (PyProof.Rows.recsOf q).find? (fun e => e.name == t.1) = some d' := by
    obtain ⟨y, hy, hy2⟩ := List.any_eq_true.mp h1
    cases e : (PyProof.Rows.recsOf q).find? (fun e => e.name == t.1) with
    | some d' => exact ⟨d', rfl⟩
    | none => exact absurd hy2 (List.find?_eq_none.mp e y hy)
  obtain ⟨z1, z2⟩ := PySem.W.tab_of G.T KX h2 (ht t h).1
  exact ⟨(ht t h).1, z1, z2, (ht t h).2⟩
theorem walk_fkTS {l : PySem.W.OpenLaw} {n k : Nat} {q : Program} {loose : List Str} {XP : (Str → Option Value) → Heap → Prop} {YP : World → Heap → Prop} {d : DefRec} {K : Params → PySem.W.Frag} {x : Str} (xs : List Str)
    (hn : l.most = some n) (hn2 : n ≤ sizeLine) (hdf : d.params.defaults = []) (hr : Room k callerA) (hY : ∀ (w : World) (h : Heap), YP w h → (K w.params).In h) (hrec : (xs.all fun y => (PyProof.Rows.recsOf q).any fun e => e.name == y) = true)
    (himp : PyProof.Rows.importsNone q = true)
    (F : ∀ (w : World) (mg : Str → Option Value) (fa : Addr) (h : Heap), (K w.params).In h → h.Ns mainGlobals mg → mg d.name = some (.ref fa) →
      ∃ (fd : FuncData) (ts : List (Str × Addr × Addr)), ts.map (·.1) = xs ∧ (ts.map (·.2.2)).Nodup ∧ (∀ t ∈ ts, PySem.W.tabIn (K w.params) t.1 = some (t.2.1, t.2.2) ∧ (K w.params).lookup t.2.2 = none) ∧ (∀ (s : Shared) (u : Value), BindsTo s fd ⟨[u], []⟩ [(x, u)]) ∧
        ∀ base : Heap, (K w.params).In base → base.Ns mainGlobals mg → Tbs (K w.params) base mg xs → SysB base → FK l.prog w (K w.params) mg base k fa fd [x] (spOf (K w.params) (spLawT n xs))) :
    PySem.W.WalkO q loose XP YP l.row.toRowW d [] (fun f vs => PySem.call f vs) := by
  refine Att.attach_call hn hdf fun w s0 s1 mg mb fa o pm cd doc a vs ns G Y ho hd hcd hmg hobj hints hlen hg => ?_
  have KX := hY w _ Y
  obtain ⟨fd, ts, rfl, hnd, ht, hb, hF⟩ := F w mg fa _ KX G.T.g hmg
  refine law_fkT KX G.T.g G.T.b G.T.builtins G.T.nolimit hg (fun t h => ?_) hnd G.T.bmain hobj hints hlen hn2 hr (fun base h1 h2 h3 h4 => let ⟨mm, hm, _⟩ := (G.T.seer himp).mods; hF base h1 h2 h4 ⟨mm, h3 _ _ hm⟩) hb
  have h1 := List.all_eq_true.mp hrec t.1 (List.mem_map_of_mem h)
  obtain ⟨d', h2⟩ : ∃ d', (PyProof.Rows.recsOf q).find? (fun e => e.name == t.1) = some d' := by
    obtain ⟨y, hy, hy2⟩ := List.any_eq_true.mp h1
    cases e : (PyProof.Rows.recsOf q).find? (fun e => e.name == t.1) with
    | some d' => exact ⟨d', rfl⟩
    | none => exact absurd hy2 (List.find?_eq_none.mp e y hy)
  obtain ⟨z1, z2⟩ := PySem.W.tab_of G.T KX h2 (ht t h).1
  exact ⟨(ht t h).1, z1, z2, (ht t h).2⟩
section
variable {y : Str} {CL : TX → DG → DK → Prop} {td : DX → DE} {σ : DSt} {G : DG} {Q : DK} {P : Addr}
theorem s_lam (e : G P = some (.tab y)) (h : CL (fun EX G' Q' => td EX σ G' Q') G Q) : dLam y CL td σ G Q := ⟨⟨P, e⟩, Q, h, fun _ _ q => q⟩
end
end FD

namespace FD
open PySem PySem.Spec PyProof.Rows HT
section
variable {prog : Program} {w : World} {A : Around} {E : Value → Shared → Prop} {s : Shared}
/-! ### tuple[::-1] -/
theorem adjust_back (n : Nat) : Builtin.Slice.sliceAdjust none none (-1) (n : Int) = ((n : Int) - 1, -1) := rfl
theorem places_back (n : Nat) : Builtin.Slice.slicePlaces ((n : Int) - 1) (-1) (-1) = n := by
  unfold Builtin.Slice.slicePlaces
  have h1 : ¬ ((-1 : Int) > 0) := by omega
  simp only [h1, if_false]
  split
  · have : ((n : Int) - 1 - -1 - 1) / (- -1) + 1 = n := by
      rw [show (- -1 : Int) = 1 from rfl, Int.ediv_one]
      omega
    rw [this]
    omega
  · omega
theorem pick_back (xs : Array Value) : ((List.range xs.size).filterMap fun (m : Nat) => xs[(((xs.size : Nat) : Int) - 1 + (m : Int) * -1).toNat]?).toArray = xs.toList.reverse.toArray := by
  congr 1
  have e : ∀ l : List Nat, (∀ m ∈ l, m < xs.size) → (l.filterMap fun (m : Nat) => xs[(((xs.size : Nat) : Int) - 1 + (m : Int) * -1).toNat]?) = l.map fun m => xs.toList.reverse.getD m .none := by
    intro l
    induction l with
    | nil => intro _; rfl
    | cons m l ih =>
      intro h
      have hm := h m (by simp)
      rw [List.filterMap_cons, List.map_cons, ih fun k hk => h k (List.mem_cons_of_mem _ hk)]
      have e1 : (((xs.size : Nat) : Int) - 1 + (m : Int) * -1).toNat = xs.size - 1 - m := by omega
      rw [e1]
      have e2 : xs.toList.reverse.getD m .none = xs[xs.size - 1 - m] := by
        rw [List.getD_eq_getElem?_getD, List.getElem?_reverse (by rw [Array.length_toList]; exact hm), Array.length_toList, Array.getElem?_toList, Array.getElem?_eq_getElem (by omega)]
        rfl
      rw [Array.getElem?_eq_getElem (by omega), e2]
  rw [e _ fun m hm => List.mem_range.mp hm]
  refine List.ext_getElem (by simp) fun i h1 h2 => ?_
  rw [List.getElem_map, List.getElem_range, List.getD_eq_getElem?_getD, List.getElem?_eq_getElem h2]
  rfl
theorem sliceApplied_back {sl : Addr} {vs : Value} {n : Nat} {Q : Int × Int × Nat → Shared → Prop} (hs : s.heap.IsSliceOf sl .none .none vs) (ps : IsPart vs (some (-1)))
    (h : Q ((n : Int) - 1, -1, n) s) : wpAny (model prog w) A (Builtin.Slice.sliceApplied (.ref sl) (pure (n : Int))) Q E s := by
  obtain ⟨os, hos, hcs, hds⟩ := id hs
  unfold Builtin.Slice.sliceApplied Builtin.Slice.sliceFields
  refine wpAny_bind (wpAny_bind (wpAny_field hos hds (x := .none) rfl (wpAny_bind (wpAny_field hos hds (x := .none) rfl (wpAny_bind (wpAny_field hos hds (x := vs) rfl (wpAny_pure ?_)))))))
  refine wpAny_bind (slicePart_ ps ?_)
  show wpAny _ _ (if ((-1 : Int) == 0) = true then _ else _) _ _ s
  rw [if_neg (by decide)]
  refine wpAny_bind (slicePart_none (wpAny_bind (slicePart_none (wpAny_bind (wpAny_pure ?_)))))
  show wpAny _ _ (match Builtin.Slice.sliceAdjust none none (-1) (n : Int) with | (lo, hi) => pure (lo, (-1 : Int), Builtin.Slice.slicePlaces lo hi (-1))) _ _ s
  rw [adjust_back n]
  show wpAny _ _ (pure ((n : Int) - 1, (-1 : Int), Builtin.Slice.slicePlaces ((n : Int) - 1) (-1) (-1))) _ _ s
  rw [places_back]
  exact wpAny_pure h
theorem getItem_tuple_back {t sl : Addr} {items : Array Value} {vs : Value} {Q : Value → Shared → Prop} (ht : IsTup s.heap t items) (hs : s.heap.IsSliceOf sl .none .none vs) (ps : IsPart vs (some (-1)))
    (h : Q (.ref s.heap.objs.size) { s with heap := s.heap.push { cls := .type "tuple", data := .seq items.toList.reverse.toArray } })
    (hsz : items.size ≤ sizeLine) : wpAny (model prog w) A (getItem (.ref t) (.ref sl)) Q E s := by
  have htake : sizeOk (.seq items.toList.reverse.toArray) := by
    show items.toList.reverse.toArray.size ≤ sizeLine
    rw [List.size_toArray, List.length_reverse, Array.length_toList]
    exact hsz
  obtain ⟨os, hos, hcs, hds⟩ := id hs
  have hTs : s.TypeIs (.ref sl) "slice" := ⟨os, hos, hcs⟩
  unfold getItem
  try with_reducible refine wpAny_holding ?_
  first | refine wpAny_bind (wpAny_pure ?_) | skip
  refine wpAny_bind (wpAny_sequenceKey ht.typeIs (by decide) ?_)
  refine wpAny_bind (wpAny_callSpecial?_slot (name := Str.ofString "__getitem__") ht.typeIs PyProof.Rows.slot_tuple_getitem
    (wpAny_call_entry PyProof.Rows.slot_tuple_getitem ht.typeIs entry_tuple_getitem ?_ (args_tuple_getitem _ _)))
  show wpAny _ _ (Builtin.Tuple.tupleItemsOf (.ref t) >>= _) _ _ s
  refine wpAny_bind (tupleItemsOf_ ht ?_)
  refine wpAny_bind (wpAny_typeOf hTs ?_)
  rw [if_pos (by decide)]
  refine wpAny_bind (sliceApplied_back hs ps ?_)
  have hno : ¬ ((((items.size : Int) - 1) == 0 && (-1 : Int) == 1 && items.size == items.size) = true) := by
    intro q
    rw [Bool.and_eq_true, Bool.and_eq_true] at q
    exact absurd q.1.2 (by decide)
  show wpAny _ _ (if (((items.size : Int) - 1) == 0 && (-1 : Int) == 1 && items.size == items.size) = true then _ else _) _ _ s
  rw [if_neg hno, pick_back]
  first
    | exact wpAny_bind (m := Builtin.Tuple.tupleExact _) (wpAny_newObj_type (wpAny_pure ⟨_, rfl, wpAny_pure h⟩) htake)
    | exact wpAny_bind (m := Builtin.Tuple.tupleExact _) (wpAny_newObj_type (wpAny_bind (wpAny_pure (wpAny_pure ⟨_, rfl, wpAny_pure h⟩))) htake)
    | exact wpAny_bind (wpAny_bind (m := Builtin.Tuple.tupleExact _) (wpAny_newObj_type (wpAny_pure (wpAny_pure ⟨_, rfl, wpAny_pure h⟩)) htake))
    | exact wpAny_bind (wpAny_bind (m := Builtin.Tuple.tupleExact _) (wpAny_newObj_type (wpAny_pure ⟨_, rfl, wpAny_pure h⟩) htake))
end
end FD
namespace FD
open PySem L2 PySem.Spec PyProof.Rows
def tRevT (K : PySem.W.Frag) (te : TE) : TE := fun σ H Q => te σ H fun x H1 => ∃ a xs, x = .ref a ∧ SqT K H1 a xs ∧ NewT H1 xs.reverse Q
theorem pe_revT {X : Cx} {e : Expr} {te : TE} {k : Nat} {p1 p2 p3 pos : Pos} (he : PE X e te) : PE X (.Subscript e (.Slice none none (some (.UnaryOp .USub (.Constant (.int 1) k p1) p2)) p3) pos) (tRevT X.K te) := by
  refine ⟨fun pins s σ H Q I h => ?_⟩
  refine Subscript_ (thn (he.run pins s σ H _ I h) fun v s1 ⟨x, H1, I1, r1, q1⟩ => ?_)
  obtain ⟨a, xs, ex, hx, q⟩ := q1
  subst ex
  cases r1
  have hst : PO X (some (.UnaryOp .USub (.Constant (.int 1) k p1) p2)) (tPart (tUn (rU fun i => .int (-i)) (tC (.int 1)))) := po_some (pe_un un_neg pe_int)
  refine wpAny_Slice (thn (po_none.run pins s1 σ H1 (fun o H2 => o = none ∧ H2 = H1) I1 ⟨rfl, rfl⟩) fun vl s2 ⟨l, H2, I2, pl, el, e2⟩ => ?_)
  subst el e2
  refine thn (po_none.run pins s2 σ H2 (fun o H3 => o = none ∧ H3 = H2) I2 ⟨rfl, rfl⟩) fun vu s3 ⟨u, H3, I3, pu, eu, e3⟩ => ?_
  subst eu e3
  refine thn (hst.run pins s3 σ H3 (fun o H4 => o = some (-1) ∧ H4 = H3) I3 ⟨1, rfl, -1, rfl, rfl, rfl⟩) fun vs s4 ⟨o, H4, I4, ps, eo, e4⟩ => ?_
  subst eo e4
  cases pl
  cases pu
  have I5 : Inv X pins σ H4 { s4 with heap := s4.heap.push { cls := .type "slice", data := .fields #[.none, .none, vs] } } := I4.kept (t' := s4.toks) fun b ob q => Heap.get?_push_of_some _ q
  obtain ⟨its, r, ht, hz⟩ := I5.tuple hx
  have hlen := r.length
  show wpAny (model X.prog X.w) X.A (subscriptTail e (.Slice none none (some (.UnaryOp .USub (.Constant (.int 1) k p1) p2)) p3) (.ref a) (.ref s4.heap.objs.size)) (EP X pins σ Q) X.xe { s4 with heap := s4.heap.push { cls := .type "slice", data := .fields #[.none, .none, vs] } }
  refine tail_any (ops := [.ref a, .ref s4.heap.objs.size]) ht.typeIs (PyProof.Rows.slot_tuple_getitem.lookup) ?_ (by with_unfolding_all rfl)
  refine getItem_tuple_back ht (Heap.IsSliceOf.new _ .none .none vs) ps ?_ (by rw [List.size_toArray]; omega)
  exact newT_inv (s := { s4 with heap := s4.heap.push { cls := .type "slice", data := .fields #[.none, .none, vs] } }) (h' := s4.heap.push { cls := .type "slice", data := .fields #[.none, .none, vs] }) I5 r.reverse (by rw [List.length_reverse]; exact hz) q
def revTD (x : D) (G : DG) (Q : DK) : Prop := match x with
  | .tup xs => Q (.tup xs.reverse) G
  | _ => False
theorem revTD_mono {x : D} {G : DG} {Q Q' : DK} (h : ∀ d G', Q d G' → Q' d G') (q : revTD x G Q) : revTD x G Q' := by
  cases x <;> first | exact h _ _ q | exact q
def dRevT (te : DE) : DE := fun σ G Q => te σ G fun x G1 => revTD x G1 Q
theorem de_revT {X : Cx} {e : Expr} {ta : DE} {k : Nat} {p1 p2 p3 pos : Pos} (ha : DPE X e ta) : DPE X (.Subscript e (.Slice none none (some (.UnaryOp .USub (.Constant (.int 1) k p1) p2)) p3) pos) (dRevT ta) := by
  obtain ⟨ma, tta, pa, ra⟩ := ha
  refine ⟨fun σ G Q Q' h q => ma σ G _ _ (fun x G1 q1 => revTD_mono h q1) q, _, pe_revT pa, fun σ H σd G Q m s h => ?_⟩
  refine ra σ H σd G _ m s (ma _ _ _ _ (fun x G1 h1 v H1 m1 r1 k1 => ?_) h)
  cases x with
  | tup xs =>
    cases r1 with
    | @tup p _ vs hs hl hi' =>
      have r : RDs X.K H1 xs vs := ⟨hl, hi'⟩
      exact ⟨p, vs, rfl, hs.t, fun n o hn hd => h1 (.ref n) _ (m1.new (.upd_new hn) (m1.fresh hn)) (.new_tup r.rev hn hd) (k1.trans (.upd_new hn))⟩
  | _ => exact h1.elim
theorem s_revT {te : DE} {σ : DSt} {G : DG} {Q : DK} (h : te σ G fun x G1 => revTD x G1 Q) : dRevT te σ G Q := h
theorem s_revTB {G : DG} {Q : DK} {xs : List D} (h : Q (.tup xs.reverse) G) : revTD (.tup xs) G Q := h
end FD

/-! A module's tuple of texts; methods with arguments in a try's body. -/
namespace FD
open PySem L2
/-- the module's name x is a tuple of texts -/
def CT (K : PySem.W.Frag) (mg : Str → Option Value) (x : Str) (ts : List Str) : Prop := ∃ (a : Addr) (o : Obj) (its : Array Value) (n : Nat), mg x = some (.ref a) ∧ K.lookup a = some o ∧ o.cls = .type "tuple" ∧ o.dict = none ∧ o.data = .seq its n ∧ its.size ≤ sizeLine ∧ Vals (ts.map V.str) its.toList
section
variable {X : Cx} {a b c : Expr} {ta tb tc : DE} {pos : Pos}
theorem de_ltlt (ha : DPE X a ta) (hb : DPE X b tb) (hc : DPE X c tc) (hm : lastMarks [.Lt, .Lt] [b, c] = false := by with_unfolding_all rfl) : DPE X (.Compare a [.Lt, .Lt] [b, c] pos) (dChain ltD ltD ta tb tc) := (de_chain op_lt op_lt intD_mono intD_mono intD_simB intD_simB ha hb hc hm).1
theorem dt_ltlt (ha : DPE X a ta) (hb : DPE X b tb) (hc : DPE X c tc) (hm : lastMarks [.Lt, .Lt] [b, c] = false := by with_unfolding_all rfl) : DPT X (.Compare a [.Lt, .Lt] [b, c] pos) (dTest (dChain ltD ltD ta tb tc)) := (de_chain op_lt op_lt intD_mono intD_mono intD_simB intD_simB ha hb hc hm).2
end
section
variable {X : Cx} {x : Str} {pos : Pos}
theorem de_globT {ts : List Str} (h : CT X.K X.mg x ts) (hg : Gl X x := by rfl) (hd : (x == ("__debug__" : Str)) = false := by decide) : DPE X (.Name x pos) (dC (.tup (ts.map .str))) := by
  obtain ⟨a, o, its, n, hm, h1, h2, h3, h4, h5, h6⟩ := h
  refine de_glob hg hm (v := .ref a) rfl (fun H => ?_) hd
  refine .tup (vs := ts.map V.str) (.inr ⟨o, its, n, h1, h2, h3, h4, h5, h6⟩) (by simp) fun i y v e1 e2 => ?_
  rw [List.getElem?_map, Option.map_eq_some_iff] at e1 e2
  obtain ⟨t, e1, rfl⟩ := e1
  obtain ⟨t', e2, rfl⟩ := e2
  rw [e1] at e2
  cases e2
  exact .str t
end
section
variable {X : Cx} {k : Nat} {Cn : Ct} {n m : Str} {pos apos : Pos} {e o : Expr} {es : List Expr} {to : DE} {t : DA}
def dMethS (n m : Str) (Cn : Ct) (ta : DE) (t : DA) (ES : DSt → DX) : DE := fun σ G Q => ta σ G fun x G1 => ∃ p fs, x = .ref p ∧ G1 p = some (.ins n fs) ∧ fs.lookup m = none ∧ t σ G1 fun ds G2 => UpC Cn (x :: ds) G2 Q (ES σ)
theorem ex_meth (F : MethOk X.prog X.w X.K X.mg X.base k n m Cn) (hr : Room k X.A) (hgd : X.A.guards = some []) (ho : ∀ pn xe, DPE (X.tr pn xe) o to) (ha : ∀ pn xe, DPA (X.tr pn xe) (e :: es) t) {pl : Sem Bool}
    (hst : starEach (e :: es) X.env = (false, eval e X.env) :: starEach es X.env := by rfl) (hpl : (backTo pos (starEach es X.env)).any (·.1) = false := by rfl)
    (ht : eval (.Call (.Attribute o m apos) (e :: es) [] pos) X.env = (do
      let ov ← eval o X.env
      standAt apos.atName
      let (f, first) ← holding [ov] (getMethod ov m pl)
      callWith pos f first (backTo pos (starEach (e :: es) X.env)) (backToKw pos (keywordEach [] X.env))) := by rfl) :
    DPEx X (.Call (.Attribute o m apos) (e :: es) [] pos) (dMethS n m Cn to t) := by
  obtain ⟨C, f, fd, ps, hC, c, hm, hb, F⟩ := F
  refine ⟨fun ES ES' σ G Q Q' h h' q => (ho [] fun _ _ => False).mono σ G _ _ (fun x G1 ⟨p, fs, a, b, l, z⟩ => ⟨p, fs, a, b, l, (ha [] fun _ _ => False).mono σ G1 _ _ (fun ds G2 z => z.imp h' (h σ)) z⟩) q, fun pn xe Hb ES pass => ?_⟩
  obtain ⟨mo, tto, po, ro⟩ := ho pn xe
  obtain ⟨ma, tta, pa, ra⟩ := ha pn xe
  obtain ⟨W, tk, link⟩ := pass
  refine ⟨fun σ H Q => tto σ H fun x H1 => ∃ a dx fs, x = .ref a ∧ H1 a = some (.ins C dx fs) ∧ fs.lookup m = none ∧ tta σ H1 fun vs H2 => spOf X.K Cn (x :: vs) H2 Q fun cls d H' => W cls d σ H', ⟨fun pins s σ H Q I h => ?_⟩, fun σ H σd G Q kb mm s h => ?_⟩
  · refine PySem.W.methodCall_KW (pl := pl) (thn (po.run pins s σ H _ I h) fun u s1 ⟨x, H1, I1, rx, a, dx, fs, ex, ea, l, q⟩ => ?_) ht
    subst ex
    obtain rfl : u = Value.ref a := rx
    refine getmeth_ok I1 ea c hm l ?_
    refine PySem.W.callWith_K (first := [.ref a]) (h₀ := X.base) I.ok.mod.kin hm.kp (thn (pa.run pos pins s1 σ H1 _ I1 q) fun us s2 ⟨vs, H2, I2, r, q2⟩ => ⟨I2.kIn, ?_⟩) hst hpl
    exact run_fkS (X := X.tr pn xe) (us := .ref a :: us) (vs := .ref a :: vs) F hr hgd hb tk I2 (.cons rfl r) q2
  · refine ro σ H σd G _ mm s (mo _ _ _ _ (fun dx G1 ⟨p, fs, a, b, l, z⟩ x H1 m1 r1 k1 => ?_) h)
    subst a
    cases r1
    obtain ⟨C', dx, fvs, hc', h1, h2, h3⟩ := m1 p _ b
    obtain rfl := hC.uniq hc'
    refine ⟨p, dx, fvs, rfl, h1, lookup_none h2 l, ra σ H1 σd G1 _ m1 (s.kt k1) (ma _ _ _ _ (fun ds G2 z2 vs H2 m2 r2 k2 => ?_) z)⟩
    obtain ⟨Q0, E0, g1, g2, g3⟩ := z2
    exact ⟨.ref p :: ds, G2, Q0, E0, m2, r2.cons (.ref p), g1, fun d G' q => lf_kt (k1.trans k2) (g2 d G' q), fun c fo G' q => link σd σ H2 ((kb.trans k1).trans k2) ((s.kt k1).kt k2) c fo G' (g3 c fo G' q)⟩
theorem s_methS {ES : DSt → DX} {σ : DSt} {G : DG} {Q : DK} (h : to σ G fun x G1 => methB n m x G1 (t σ G1 fun ds G2 => UpC Cn (x :: ds) G2 Q (ES σ))) : dMethS n m Cn to t ES σ G Q := h
end
end FD

namespace FD
open PySem L2
local macro_rules | `(tactic| walk_at "look") => `(tactic| first | assumption | exact up_same | (refine up_nx ?e ?f; (case e => walk_at "ne"); (case f => walk_at "look")))
local macro_rules | `(tactic| walk_at "ne") => `(tactic| first | assumption | exact Ne.symm (by assumption) | ((refine gne (G := ?G) (o := ?o) ?h ?k); (case k => assumption); (case h => walk_at "look")) | ((refine Ne.symm (gne (G := ?G) (o := ?o) ?h ?k)); (case k => assumption); (case h => walk_at "look")))
local macro_rules | `(tactic| walk_at "none") => `(tactic| first | assumption | exact up_free (by assumption) | exact up_free (up_free (by assumption)) | exact up_free (up_free (up_free (by assumption))) | exact up_free (up_free (up_free (up_free (by assumption)))) | exact up_free (up_free (up_free (up_free (up_free (by assumption))))) | exact up_free (up_free (up_free (up_free (up_free (up_free (by assumption)))))))
local macro_rules | `(tactic| walk_at "at") => `(tactic| first | assumption | exact atI_zero | rfl | (rw [atI_cast]; assumption) | (rw [atI_cast]; rfl))
local macro_rules | `(tactic| walk_at "sz") => `(tactic| first | exact Nat.le_of_ble_eq_true rfl | assumption | (refine szL ?_; simp only [List.length_map, List.length_append, List.length_cons, List.length_nil, List.length_range, List.length_take, List.length_drop]; omega))
local macro_rules | `(tactic| walk_at "s") => `(tactic| first
  | ((with_reducible refine s_op ?_)) | ((with_reducible refine s_c ?_)) | ((with_reducible refine s_var (d := ?d) ?e ?_); (case e => rfl)) | ((with_reducible refine s_cons ?_)) | ((with_reducible refine s_nil ?_)) | ((with_reducible refine s_cb ?_)) | ((with_reducible refine s_seq ?_)) | ((with_reducible refine s_go ?_))
  | ((with_reducible refine s_asg ?_)) | ((with_reducible refine s_gn ?_)) | ((with_reducible refine s_test ?_)) | ((with_reducible refine s_tbl ?_)) | ((with_reducible refine s_if ?_)) | ((with_reducible refine br_t ?_)) | ((with_reducible refine br_f ?_))
  | ((with_reducible refine s_itL (xs := ?xs) (d := ?d) ?e ?f ?_); (case e => walk_at "look"); (case f => walk_at "at")) | ((with_reducible refine s_itT (d := ?d) ?f ?_); (case f => walk_at "at")) | ((with_reducible refine s_itS (d := ?d) ?f ?_); (case f => walk_at "at"))
  | ((with_reducible refine s_addI ?_)) | ((with_reducible refine s_subI ?_)) | ((with_reducible refine s_modI ?e ?_); (case e => first | omega | assumption)) | ((with_reducible refine s_divI ?e ?_); (case e => exact ⟨by omega, by omega⟩))
  | ((with_reducible refine s_mulI ?e ?_); (case e => first | exact .inl ⟨by omega, by omega⟩ | exact .inr ⟨by omega, by omega⟩)) | ((with_reducible refine s_powI ?e ?_); (case e => exact ⟨by omega, by omega, by omega⟩)) | ((with_reducible refine s_negI ?_))
  | ((with_reducible refine s_ltI ?_)) | ((with_reducible refine s_leI ?_)) | ((with_reducible refine s_gtI ?_)) | ((with_reducible refine s_geI ?_)) | ((with_reducible refine s_eqS ?_)) | ((with_reducible refine s_neS ?_)) | ((with_reducible refine s_eqI ?_)) | ((with_reducible refine s_neI ?_))
  | ((with_reducible refine s_ret ?_)) | ((with_reducible refine s_retN ?_)) | ((with_reducible refine s_drop ?_)) | ((with_reducible refine s_next ?_)) | ((with_reducible refine s_pass ?_)) | ((with_reducible refine s_brk ?_)) | ((with_reducible refine s_cnt ?_))
  | ((with_reducible refine s_call ?_)) | ((with_reducible refine s_tup ?_)) | ((with_reducible refine s_lst ?_)) | ((with_reducible refine s_mkT ?e ?_); (case e => walk_at "sz")) | ((with_reducible refine s_mkL ?e ?_); (case e => walk_at "sz"))
  | ((with_reducible refine s_gs ?_)) | ((with_reducible refine s_setD (xs := ?xs) (j := ?j) ?e ?f ?_); (case e => walk_at "look"); (case f => first | rfl | assumption | (refine ixN_nat ?_; first | omega | (simp only [List.length_map, List.length_append, List.length_cons, List.length_nil, List.length_range, List.length_set]; omega)))) | ((with_reducible refine s_gt ?_ ?e); (case e => rfl)) | ((with_reducible refine s_gtl ?_ ?e); (case e => rfl)) | ((with_reducible refine s_gc ?_)) | ((with_reducible refine s_gni ?_))
  | ((with_reducible refine s_mt ?_)) | ((with_reducible refine s_isl (xs := ?xs) ?e ?_); (case e => walk_at "look")) | ((with_reducible refine s_app (xs := ?xs) ?e ?f ?_); (case e => walk_at "look"); (case f => first | assumption | (refine szLt ?_; simp only [List.length_map, List.length_append, List.length_cons, List.length_nil, List.length_range]; omega)))
  | ((with_reducible refine s_lenT ?_)) | ((with_reducible refine s_lenS ?_)) | ((with_reducible refine s_lenL (xs := ?xs) ?e ?_); (case e => walk_at "look")) | ((with_reducible refine s_not ?_)) | ((with_reducible refine s_and ?_)) | ((with_reducible refine s_or ?_)) | ((with_reducible refine s_ifE ?_))
  | ((with_reducible refine s_andV ?_)) | ((with_reducible refine s_orV ?_)) | ((with_reducible refine s_notV ?_)) | ((with_reducible refine s_notB ?_)) | ((with_reducible refine s_andB ?_)) | ((with_reducible refine s_orB ?_))
  | ((with_reducible refine s_maxI ?_)) | ((with_reducible refine s_minI ?_)) | ((with_reducible refine s_absI ?_)) | ((with_reducible refine s_for ?_)) | ((with_reducible refine s_lc ?_)) | ((with_reducible refine s_rng ?_)) | ((with_reducible refine s_dseq ?_))
  | ((with_reducible refine s_rng1 ?e ?_); (case e => first | (constructor <;> omega) | (simp only [List.length_map, List.length_append, List.length_cons, List.length_nil, List.length_range, List.length_set]; constructor <;> omega))) | ((with_reducible refine s_rng2 ?e ?_); (case e => first | (refine ⟨?_, ?_, ?_, ?_⟩ <;> omega) | (simp only [List.length_map, List.length_append, List.length_cons, List.length_nil, List.length_range, List.length_set]; refine ⟨?_, ?_, ?_, ?_⟩ <;> omega))) | ((with_reducible refine s_seqT ?_)) | ((with_reducible refine s_seqS ?_)) | ((with_reducible refine s_seqL (xs := ?xs) ?e ?_); (case e => walk_at "look"))
  | ((with_reducible refine s_sl ?_)) | ((with_reducible refine s_np ?_)) | ((with_reducible refine s_pt ?_)) | ((with_reducible refine s_ptB ?_)) | ((with_reducible refine s_sliceT ?_)) | ((with_reducible refine s_sliceL (xs := ?xs) ?e ?_); (case e => walk_at "look")) | ((with_reducible refine s_sliceS ?_))
  | ((with_reducible refine s_un ?_)) | ((with_reducible refine s_tupL (xs := ?xs) ?e ?_); (case e => walk_at "look")) | ((with_reducible refine s_listL (xs := ?xs) ?e ?_); (case e => walk_at "look")) | ((with_reducible refine s_listT ?_)) | ((with_reducible refine s_par ?_)) | ((with_reducible refine s_parB ?_))
  | ((with_reducible refine s_isNN ?_)) | ((with_reducible refine s_isnNN ?_)) | ((with_reducible refine s_isIN ?_)) | ((with_reducible refine s_isnIN ?_)) | ((with_reducible refine s_isi (tn := ?tn) ?e ?f ?_); (case e => rfl); (case f => decide))
  | ((with_reducible refine s_ins (xs := ?xs) ?e ?f ?g ?_); (case e => walk_at "look"); (case f => first | assumption | (refine szLt ?_; simp only [List.length_map, List.length_append, List.length_cons, List.length_nil, List.length_range]; omega)); (case g => constructor <;> omega))
  | ((with_reducible refine s_isiL (xs := ?xs) ?e ?f ?_); (case e => walk_at "look"); (case f => decide))
  | ((with_reducible refine s_addT ?e ?_); (case e => walk_at "sz")) | ((with_reducible refine s_enum ?_)) | ((with_reducible refine s_enT ?_)) | ((with_reducible refine s_enS ?_)) | ((with_reducible refine s_enL (xs := ?xs) ?e ?_); (case e => walk_at "look")) | ((with_reducible refine s_eqNI ?_)) | ((with_reducible refine s_chain ?_)) | ((with_reducible refine s_chB ?_)) | ((with_reducible refine s_isTN ?_)) | ((with_reducible refine s_isnTN ?_)) | ((with_reducible refine s_isRN ?_)) | ((with_reducible refine s_isnRN ?_)) | ((with_reducible refine s_intB ?_)) | ((with_reducible refine s_intI ?_)) | ((with_reducible refine s_tupT ?_))
  | ((with_reducible refine s_fld ?_)) | ((with_reducible refine s_fldB (fs := ?fs) (d := ?d) ?e ?f ?_); (case e => walk_at "look"); (case f => rfl)) | ((with_reducible refine s_setF ?_)) | ((with_reducible refine s_setFN (fs := ?fs) ?e ?f ?g ?_); (case e => walk_at "look"); (case f => (simp only [List.length_append, List.length_cons, List.length_nil]; decide)); (case g => rfl); (try simp only [List.cons_append, List.nil_append]))
  | ((with_reducible refine s_meth ?_)) | ((with_reducible refine s_methB (fs := ?fs) ?e ?f ?_); (case e => walk_at "look"); (case f => rfl)) | ((with_reducible refine s_make ?_)) | ((with_reducible refine s_rng3 ?_))
  | ((with_reducible refine s_rng3B ?e ?_); (case e => first | (refine ⟨?_, ?_, ?_, ?_⟩ <;> omega) | (simp only [List.length_map, List.length_append, List.length_cons, List.length_nil, List.length_range, List.length_set]; refine ⟨?_, ?_, ?_, ?_⟩ <;> omega)))
  | ((with_reducible refine s_clr (xs := ?xs) ?e ?_); (case e => walk_at "look"))
  | ((with_reducible refine s_addL (xs := ?xs) (ys := ?ys) ?e ?f ?g ?_); (case e => walk_at "look"); (case f => walk_at "look"); (case g => walk_at "sz"))
  | ((with_reducible refine s_tru ?_)) | ((with_reducible refine s_optT (k := ?k) ?e ?_); (case e => rfl)) | ((with_reducible refine br_tt ?e ?_); (case e => decide)) | ((with_reducible refine br_ff ?e ?_); (case e => decide)))
local macro_rules | `(tactic| walk_at "run") => `(tactic| repeat (walk_at "s"))
local macro_rules | `(tactic| walk_at "le") => `(tactic| ((refine LeX.le ?_); repeat (first | with_reducible exact lex_refl | ((with_reducible refine lex_put ?h ?_); (case h => walk_at "look")) | ((with_reducible refine lex_mem ?h ?_); (case h => simp; done)) | ((with_reducible refine lex_new ?h ?_); (case h => walk_at "none")))))
local macro_rules | `(tactic| walk_at "lex") => `(tactic| repeat (first | with_reducible exact lex_refl | ((with_reducible refine lex_mem ?h ?_); (case h => simp; done)) | ((with_reducible refine lex_new' ?_ ?h); (case h => assumption))))
local macro_rules | `(tactic| walk_at "s") => `(tactic| first
  | ((with_reducible refine s_raise0 ?_)) | ((with_reducible refine s_raise1 ?_)) | ((with_reducible refine s_tryK ?_)) | ((with_reducible refine s_callS ?_)) | ((with_reducible refine s_isX ?_)) | ((with_reducible refine s_isXB (n := ?n) (od := ?od) (k := ?k) ?e ?f ?g ?hk ?_); (case e => walk_at "look"); (case f => decide); (case g => first | exact True.intro | exact ⟨_, by walk_at "look"⟩); (case hk => rfl))
  | ((with_reducible refine s_xf ?_)) | ((with_reducible refine s_xfB (dd := ?dd) (fs := ?fs) (d := ?d) ?e ?f ?g ?_); (case e => walk_at "look"); (case f => walk_at "look"); (case g => rfl))
  | ((with_reducible refine s_mx ?_)) | ((with_reducible refine s_dicK ?_)) | ((with_reducible refine s_dicN ?_)) | ((with_reducible refine s_dput ?_))
  | ((with_reducible refine s_lenN (kvs := ?kvs) ?e ?_); (case e => walk_at "look")) | ((with_reducible refine s_lenK (kks := ?kks) ?e ?_); (case e => walk_at "look")))
local macro_rules | `(tactic| walk_at "s") => `(tactic| first
  | ((with_reducible refine s_lr ?_)) | ((with_reducible refine s_lr1 ?e ?_); (case e => constructor <;> omega)) | ((with_reducible refine s_lr2 ?e ?_); (case e => (refine ⟨?_, ?_, ?_, ?_⟩ <;> omega))))
local macro_rules | `(tactic| walk_at "s") => `(tactic| first
  | ((with_reducible refine s_zip ?_)) | ((with_reducible refine s_zipL (xs := ?xs) (ys := ?ys) ?e ?f ?_); (case e => walk_at "look"); (case f => walk_at "look")))
local macro_rules | `(tactic| walk_at "s") => `(tactic| first
  | ((with_reducible refine s_diD ?_)) | ((with_reducible refine s_diF (kvs := ?kvs) ?e ?_); (case e => walk_at "look")) | ((with_reducible refine s_lenF (kvs := ?kvs) ?e ?_); (case e => walk_at "look")))
local macro_rules | `(tactic| walk_at "s") => `(tactic| first | ((with_reducible refine s_sortSet ?_)))
local macro_rules | `(tactic| walk_at "s") => `(tactic| first
  | ((with_reducible refine s_revL ?_)) | ((with_reducible refine s_revLB (xs := ?xs) ?e ?_); (case e => walk_at "look")))
local macro_rules | `(tactic| walk_at "s") => `(tactic| first
  | ((with_reducible refine s_disp ?_)) | ((with_reducible refine s_prc ?_)) | ((with_reducible refine s_prn ?_))
  | ((with_reducible refine s_getK (kks := ?kks) (kk := ?kk) (d := ?d) ?e ?hk ?hl ?_); (case e => walk_at "look"); (case hk => rfl); (case hl => rfl)))
local macro_rules | `(tactic| walk_at "s") => `(tactic| first
  | ((with_reducible refine s_gFld ?_)) | ((with_reducible refine s_tryP ?_)) | ((with_reducible refine s_methS0 ?_))
  | ((with_reducible refine s_eqL (xs := ?xs) ?e ?f ?_); (case e => walk_at "look"); (case f => walk_at "look")))
local macro_rules | `(tactic| walk_at "s") => `(tactic| first
  | ((with_reducible refine s_dicW ?_)) | ((with_reducible refine s_wput ?_)) | ((with_reducible refine s_wone ?_)))
local macro_rules | `(tactic| walk_at "s") => `(tactic| first
  | ((with_reducible refine s_listRev ?_)) | ((with_reducible refine s_revLB2 (xs := ?xs) ?e ?_); (case e => walk_at "look")))
local macro_rules | `(tactic| walk_at "s") => `(tactic| first
  | ((with_reducible refine s_isSt ?_)) | ((with_reducible refine s_inS ?_)) | ((with_reducible refine s_diTxt ?_)) | ((with_reducible refine s_diTxtV ?_)) | ((with_reducible refine s_strS ?_)))
local macro_rules | `(tactic| walk_at "s") => `(tactic| first
  | ((with_reducible refine s_ninS ?_)) | ((with_reducible refine s_exc0 ?_)) | ((with_reducible refine s_exc1 ?_)))
local macro_rules | `(tactic| walk_at "s") => `(tactic| first | ((with_reducible refine s_eqT0 ?_)))
local macro_rules | `(tactic| walk_at "s") => `(tactic| first
  | ((with_reducible refine s_sortK ?_)) | ((with_reducible refine s_rev ?_)) | ((with_reducible refine s_revB (xs := ?xs) ?e ?_); (case e => walk_at "look")) | ((with_reducible refine s_sortQ ?_)))
local macro_rules | `(tactic| walk_at "s") => `(tactic| first
  | ((with_reducible refine s_diV ?_)))
local macro_rules | `(tactic| walk_at "s") => `(tactic| first
  | ((with_reducible refine s_lcH ?_)) | ((with_reducible refine s_gl (xs := ?xs) ?e ?f ?_); (case e => walk_at "look"); (case f => rfl)))
local macro_rules | `(tactic| walk_at "s") => `(tactic| first
  | ((with_reducible refine s_methS ?_)))

/-! ### the laws' feed of numbers: any numbers will do -/
def FeedOk (x y : Int) : Prop := 0 ≤ x ∧ 0 ≤ y ∧ y < 2147483647
abbrev feed (x y : Int) : O := .lst [.int x, .int y]
def C_law_feed : Ct := fun ds G Q _ => ∃ (ns : List Int) (k : Int), ds = [.lis (ns.map .int), .int k] ∧ 0 ≤ k ∧ k < 1000000 ∧ ∀ x y p, FeedOk x y → G p = none → Q (.ref p) (up G p (feed x y))
theorem len_law_feed (ds G Q E) (h : C_law_feed ds G Q E) : ds.length = 2 := by obtain ⟨_, _, rfl, _⟩ := h; rfl
abbrev N_law_feed : List Str := ["script", "k", "cell", "digits", "start"]
def T_law_feed : DX → DS := fun E => (dSeq (dAsg (dC (.int 0)) (dgName 2))
    (dSeq (dIf (dTest (dOp ltD (dVar 1) (dCB lenD (dCons (dVar 0) dNil)))) (dAsg (dOp itemD (dVar 0) (dVar 1)) (dgName 2)) dNext)
    (dSeq (dAsg (dC (.int 0)) (dgName 3))
    (dSeq (dIf (dTest (dOp geD (dVar 2) (dOp powD (dC (.int 10)) (dC (.int 18))))) (dAsg (dOp subD (dVar 2) (dOp powD (dC (.int 10)) (dC (.int 18)))) (dgName 3)) dNext)
    (dSeq (dAsg (dOp modD (dOp addD (dOp addD (dOp mulD (dOp modD (dVar 2) (dC (.int 2147483647))) (dC (.int 48271))) (dOp mulD (dC (.int 7919)) (dVar 1))) (dC (.int 5))) (dC (.int 2147483629))) (dgName 4))
    (dRet (dLst (dCons (dVar 3) (dCons (dOp addD (dOp modD (dOp powD (dVar 4) (dC (.int 5))) (dC (.int 2147483587))) (dC (.int 1))) dNil)))))))))
theorem feed_end {z cell k : Int} (h : z = (cell % 2147483647 * 48271 + 7919 * k + 5) % 2147483629) : 0 ≤ z ^ (5 : Int).toNat % 2147483587 + 1 ∧ z ^ (5 : Int).toNat % 2147483587 + 1 < 2147483647 := by
  have w1 := Int.emod_nonneg (z ^ (5 : Int).toNat) (show (2147483587 : Int) ≠ 0 by decide)
  have w2 := Int.emod_lt_of_pos (z ^ (5 : Int).toNat) (show (0 : Int) < 2147483587 by decide)
  omega
theorem p18 : (10 : Int) ^ (18 : Int).toNat = 1000000000000000000 := by decide
theorem run_law_feed (ds G Q E) (h : C_law_feed ds G Q E) : T_law_feed E { nx := fun _ G' => DrK Q .non G', rt := DrK Q, bk := fun _ _ => False, ct := fun _ _ => False } (dstart N_law_feed ds) G := by
  obtain ⟨ns, k, rfl, hk, hk2, q⟩ := h
  show T_law_feed E _ [some (.lis (ns.map .int)), some (.int k), none, none, none] G
  unfold T_law_feed
  walk_at "run"
  refine br_dec (fun h => ?_) (fun h => ?_)
  · rw [List.length_map] at h
    obtain ⟨j, rfl⟩ : ∃ j : Nat, k = (j : Int) := ⟨k.toNat, by omega⟩
    have hj : j < ns.length := by omega
    obtain ⟨c, e⟩ : ∃ c, (ns.map D.int)[j]? = some (.int c) := ⟨ns[j], by rw [List.getElem?_map, List.getElem?_eq_getElem hj]; rfl⟩
    walk_at "run"
    refine br_dec (fun h2 => ?_) (fun h2 => ?_)
    · walk_at "run"
      intro p hp
      refine s_rt (q _ _ p ?_ hp)
      exact ⟨by rw [p18] at h2 ⊢; omega, feed_end rfl⟩
    · walk_at "run"
      intro p hp
      refine s_rt (q _ _ p ?_ hp)
      exact ⟨by decide, feed_end rfl⟩
  · walk_at "run"
    intro p hp
    refine s_rt (q _ _ p ?_ hp)
    exact ⟨by decide, feed_end rfl⟩
def C_law_take : Ct := fun ds G Q _ => ∃ a x y m, ds = [.ref a, .int m] ∧ G a = some (feed x y) ∧ FeedOk x y ∧ 0 < m ∧ m < 1073741824 ∧
  ∀ r x' y', 0 ≤ r → r < m → FeedOk x' y' → Q (.int r) (up G a (feed x' y'))
theorem len_law_take (ds G Q E) (h : C_law_take ds G Q E) : ds.length = 2 := by obtain ⟨_, _, _, _, rfl, _⟩ := h; rfl
abbrev N_law_take : List Str := ["feed", "many", "found"]
def T_law_take : DX → DS := fun E => (dSeq (dIf (dTest (dOp gtD (dOp itemD (dVar 0) (dC (.int 0))) (dC (.int 0)))) (dSeq (dAsg (dOp modD (dOp itemD (dVar 0) (dC (.int 0))) (dVar 1)) (dgName 2))
    (dSeq (dAsg (dOp divD (dOp itemD (dVar 0) (dC (.int 0))) (dVar 1)) (dgSub (dVar 0) (dC (.int 0))))
    (dRet (dVar 2)))) dNext)
    (dSeq (dAsg (dOp modD (dOp addD (dOp mulD (dOp itemD (dVar 0) (dC (.int 1))) (dC (.int 69621))) (dC (.int 12345))) (dC (.int 2147483647))) (dgSub (dVar 0) (dC (.int 1))))
    (dRet (dOp modD (dOp divD (dOp itemD (dVar 0) (dC (.int 1))) (dC (.int 8191))) (dVar 1)))))
theorem run_law_take (ds G Q E) (h : C_law_take ds G Q E) : T_law_take E { nx := fun _ G' => DrK Q .non G', rt := DrK Q, bk := fun _ _ => False, ct := fun _ _ => False } (dstart N_law_take ds) G := by
  obtain ⟨a, x, y, m, rfl, ha, ⟨hx, hy, hy2⟩, hm, hm2, k⟩ := h
  show T_law_take E _ [some (.ref a), some (.int m), none] G
  unfold T_law_take
  walk_at "run"
  refine br_dec (fun h0 => ?_) (fun h0 => ?_)
  · walk_at "run"
    exact s_rt (k _ _ _ (Int.emod_nonneg _ (by omega)) (Int.emod_lt_of_pos _ hm) ⟨Int.ediv_nonneg hx (by omega), hy, hy2⟩)
  · walk_at "run"
    exact s_rt (k _ _ _ (Int.emod_nonneg _ (by omega)) (Int.emod_lt_of_pos _ hm) ⟨hx, Int.emod_nonneg _ (by decide), Int.emod_lt_of_pos _ (by decide)⟩)
theorem u_take {a : Addr} {x y m : Int} {G : DG} {Q : DK} {E : DX} (ha : G a = some (feed x y)) (hf : FeedOk x y) (h0 : 0 < m) (h1 : m < 1073741824) (k : ∀ r x' y', 0 ≤ r → r < m → FeedOk x' y' → Q (.int r) (up G a (feed x' y'))) : UpC C_law_take [.ref a, .int m] G Q E :=
  UpC.of ⟨a, x, y, m, rfl, ha, hf, h0, h1, k⟩
def C_law_pick : Ct := fun ds G Q _ => ∃ a x y b xs, ds = [.ref a, .ref b] ∧ G a = some (feed x y) ∧ FeedOk x y ∧ a ≠ b ∧ G b = some (.lst xs) ∧ 0 < xs.length ∧ xs.length < 1073741824 ∧
  ∀ d x' y', d ∈ xs → FeedOk x' y' → Q d (up G a (feed x' y'))
theorem len_law_pick (ds G Q E) (h : C_law_pick ds G Q E) : ds.length = 2 := by obtain ⟨_, _, _, _, _, rfl, _⟩ := h; rfl
abbrev N_law_pick : List Str := ["feed", "some"]
def T_law_pick : DX → DS := fun E => (dRet (dOp itemD (dVar 1) (dCall C_law_take E (dCons (dVar 0) (dCons (dCB lenD (dCons (dVar 1) dNil)) dNil)))))
theorem run_law_pick (ds G Q E) (h : C_law_pick ds G Q E) : T_law_pick E { nx := fun _ G' => DrK Q .non G', rt := DrK Q, bk := fun _ _ => False, ct := fun _ _ => False } (dstart N_law_pick ds) G := by
  obtain ⟨a, x, y, b, xs, rfl, ha, hf, hab, hb, h0, h1, k⟩ := h
  show T_law_pick E _ [some (.ref a), some (.ref b)] G
  unfold T_law_pick
  walk_at "run"
  refine UpC.of ⟨a, x, y, _, rfl, ha, hf, by omega, by omega, fun r x' y' r0 r1 hf' => ?_⟩
  obtain ⟨j, rfl⟩ : ∃ j : Nat, r = (j : Int) := ⟨r.toNat, by omega⟩
  have hj : j < xs.length := by omega
  have e : xs[j]? = some xs[j] := List.getElem?_eq_getElem hj
  walk_at "run"
  exact s_rt (k _ _ _ (List.getElem_mem hj) hf')
theorem u_pick {a b : Addr} {x y : Int} {xs : List D} {G : DG} {Q : DK} {E : DX} (ha : G a = some (feed x y)) (hf : FeedOk x y) (hab : a ≠ b) (hb : G b = some (.lst xs)) (h0 : 0 < xs.length) (h1 : xs.length < 1073741824) (k : ∀ d x' y', d ∈ xs → FeedOk x' y' → Q d (up G a (feed x' y'))) : UpC C_law_pick [.ref a, .ref b] G Q E :=
  UpC.of ⟨a, x, y, b, xs, rfl, ha, hf, hab, hb, h0, h1, k⟩

/-! ### jobs -/
inductive Stp where
  | doo | send (k : Nat) | wait
  deriving DecidableEq
def encStep : Stp → D
  | .doo => .tup [.str "do"]
  | .send k => .tup [.str "send", .int k]
  | .wait => .tup [.str "wait"]
def sendOf : Stp → Option Nat
  | .send k => some k
  | _ => none
def sends (ss : List Stp) : List Nat := ss.filterMap sendOf
abbrev Work := Int × List Stp
abbrev Job := List Work
def encWork (w : Work) : D := .tup [.int w.1, .tup (w.2.map encStep)]
def encJob (j : Job) : D := .tup (j.map encWork)
def kidsD (ks : List Nat) : List D := ks.map fun k : Nat => D.int k
theorem sends_append (a b : List Stp) : sends (a ++ b) = sends a ++ sends b := List.filterMap_append
theorem sends_map : ∀ ks : List Nat, sends (ks.map .send) = ks
  | [] => rfl
  | k :: ks => by
    have ih := sends_map ks
    unfold sends at ih ⊢
    rw [List.map_cons, List.filterMap_cons, ih]
    rfl
theorem sends_perm {a b : List Stp} (h : a.Perm b) : (sends a).Perm (sends b) := h.filterMap _
structure JobOk (j : Job) : Prop where
  l1 : 1 ≤ j.length
  l12 : j.length ≤ 12
  rooms : ∀ w ∈ j, 1 ≤ w.1 ∧ w.1 ≤ 9
  steps : ∀ w ∈ j, 1 ≤ w.2.length ∧ w.2.length ≤ 8
  up : ∀ i w, j[i]? = some w → ∀ k ∈ sends w.2, i < k
  once : (j.flatMap fun w => sends w.2).Perm (List.range' 1 (j.length - 1))
theorem flatten_set {n k : Nat} {ks : List Nat} : ∀ {kss : List (List Nat)}, kss[n]? = some ks → ((kss.set n (ks ++ [k])).flatten).Perm (kss.flatten ++ [k]) := by
  induction n with
  | zero =>
    intro kss h
    cases kss with
    | nil => simp at h
    | cons a t =>
      simp at h
      subst h
      simp only [List.set_cons_zero, List.flatten_cons, List.append_assoc]
      exact List.Perm.append_left _ List.perm_append_comm
  | succ n ih =>
    intro kss h
    cases kss with
    | nil => simp at h
    | cons a t =>
      simp at h
      simp only [List.set_cons_succ, List.flatten_cons, List.append_assoc]
      exact List.Perm.append_left _ (ih h)

def C_law_steps : Ct := fun ds G Q _ => ∃ a x y b kids, ds = [.ref a, .ref b] ∧ G a = some (feed x y) ∧ FeedOk x y ∧ a ≠ b ∧ G b = some (.lst (kidsD kids)) ∧ kids.length ≤ 8 ∧
  ∀ ss x' y', 1 ≤ ss.length → ss.length ≤ 8 → (sends ss).Perm kids → FeedOk x' y' → Q (.tup (ss.map encStep)) (up G a (feed x' y'))
theorem len_law_steps (ds G Q E) (h : C_law_steps ds G Q E) : ds.length = 2 := by obtain ⟨_, _, _, _, _, rfl, _⟩ := h; rfl
abbrev N_law_steps : List Str := ["feed", "children", "found", "child", "k", "at", "size", "turn", "step"]
def T_law_steps : DX → DS := fun E => (dSeq (dAsg (dLc (diSeq (dVar 1)) (bdN 3) [3] dYes (dTup (dCons (dC (.str "send")) (dCons (dVar 3) dNil)))) (dgName 2))
    (dSeq (dFor (diRange (dCons (dCB lenD (dCons (dVar 2) dNil)) dNil)) (dgName 4) (dSeq (dAsg (dCall C_law_take E (dCons (dVar 0) (dCons (dCB lenD (dCons (dVar 2) dNil)) dNil))) (dgName 5))
    (dAsg (dTup (dCons (dOp itemD (dVar 2) (dVar 5)) (dCons (dOp itemD (dVar 2) (dVar 4)) dNil))) (dgTup 2 (dgCons (dgSub (dVar 2) (dVar 4)) (dgCons (dgSub (dVar 2) (dVar 5)) dgNil))))))
    (dSeq (dAsg (dCall C_law_pick E (dCons (dVar 0) (dCons (dLst (dCons (dCB lenD (dCons (dVar 2) dNil)) (dCons (dOp addD (dCB lenD (dCons (dVar 2) dNil)) (dC (.int 1))) (dCons (dOp addD (dCB lenD (dCons (dVar 2) dNil)) (dC (.int 2))) (dCons (dOp addD (dC (.int 1)) (dCall C_law_take E (dCons (dVar 0) (dCons (dC (.int 8)) dNil)))) dNil))))) dNil))) (dgName 6))
    (dSeq (dFor (diRange (dCons (dOp subD (dCB minD (dCons (dC (.int 8)) (dCons (dCB maxD (dCons (dC (.int 1)) (dCons (dVar 6) dNil))) dNil))) (dCB lenD (dCons (dVar 2) dNil))) dNil)) (dgName 7) (dSeq (dAsg (dCall C_law_pick E (dCons (dVar 0) (dCons (dLst (dCons (dTup (dCons (dC (.str "do")) dNil)) (dCons (dTup (dCons (dC (.str "do")) dNil)) (dCons (dTup (dCons (dC (.str "wait")) dNil)) dNil)))) dNil))) (dgName 8))
    (dDrop (dMt insertD (dVar 2) (dCons (dCall C_law_take E (dCons (dVar 0) (dCons (dOp addD (dCB lenD (dCons (dVar 2) dNil)) (dC (.int 1))) dNil))) (dCons (dVar 8) dNil))))))
    (dRet (dCB tupleD (dCons (dSl (dVar 2) dNoPart (dPart (dC (.int 8)))) dNil)))))))
theorem map_swap {ss : List Stp} {i j : Nat} (hi : i < ss.length) (hj : j < ss.length) : ((ss.map encStep).set i (encStep ss[j])).set j (encStep ss[i]) = ((ss.set i ss[j]).set j ss[i]).map encStep := by
  rw [List.map_set, List.map_set]
theorem run_law_steps (ds G Q E) (h : C_law_steps ds G Q E) : T_law_steps E { nx := fun _ G' => DrK Q .non G', rt := DrK Q, bk := fun _ _ => False, ct := fun _ _ => False } (dstart N_law_steps ds) G := by
  obtain ⟨a, x, y, b, kids, rfl, ha, hf, hab, hb, hl, q⟩ := h
  show T_law_steps E _ [some (.ref a), some (.ref b), none, none, none, none, none, none, none] G
  unfold T_law_steps
  walk_at "run"
  intro p hp
  have hap : a ≠ p := gne ha hp
  have hbp : b ≠ p := gne hb hp
  refine comp_map kids (fun k : Nat => D.int k) (fun k => encStep (.send k)) (by omega) hp (fun o => up_nx hbp hb) (fun k hk o => ⟨_, rfl, fun QD h => ?_⟩) ?_
  · walk_at "run"
    exact h
  have e0 : kids.map (fun k => encStep (.send k)) = (kids.map Stp.send).map encStep := by rw [List.map_map]; rfl
  rw [e0]
  walk_at "run"
  -- the swaps
  refine loop_inv (fun i σ G' => ∃ ss x y v4 v5, ss.Perm (kids.map Stp.send) ∧ FeedOk x y ∧ σ = [some (.ref a), some (.ref b), some (.ref p), none, v4, v5, none, none, none] ∧ G' = up (up G a (feed x y)) p (.lst (ss.map encStep)))
    ⟨kids.map .send, x, y, none, none, .refl _, hf, rfl, ?_⟩ (fun _ _ _ _ _ => trivial) (fun i d σ' G' N hd hi hP hN => ?_) (fun σ' G' hP => ?_)
  · funext c
    unfold up
    by_cases h1 : c = p
    · simp [h1]
    · by_cases h2 : c = a
      · simp [h2, ha, hap]
      · simp [h1, h2]
  · obtain ⟨ss, x, y, v4, v5, hp', hf, rfl, rfl⟩ := hP
    obtain ⟨rfl, hi2⟩ := rangeD_get0 hd
    have hls : ss.length = kids.length := by rw [hp'.length_eq, List.length_map]
    simp only [List.length_map] at hi2
    have hi3 : i < ss.length := by omega
    walk_at "run"
    refine UpC.of ⟨a, x, y, _, rfl, by walk_at "look", hf, by simp only [List.length_map]; omega, by simp only [List.length_map]; omega, fun r x' y' r0 r1 hf' => ?_⟩
    simp only [List.length_map] at r1
    obtain ⟨j, rfl⟩ : ∃ j : Nat, r = (j : Int) := ⟨r.toNat, by omega⟩
    have hj : j < ss.length := by omega
    have ei : (ss.map encStep)[i]? = some (encStep ss[i]) := by rw [List.getElem?_map, List.getElem?_eq_getElem hi3]; rfl
    have ej : (ss.map encStep)[j]? = some (encStep ss[j]) := by rw [List.getElem?_map, List.getElem?_eq_getElem hj]; rfl
    walk_at "run"
    rw [map_swap hi3 hj]
    refine hN _ _ _ ?_ ⟨(ss.set i ss[j]).set j ss[i], x', y', _, _, (List.set_set_perm hi3 hj).trans hp', hf', rfl, rfl⟩
    walk_at "le"
  · obtain ⟨ss, x, y, v4, v5, hp', hf, rfl, rfl⟩ := hP
    have hls : ss.length = kids.length := by rw [hp'.length_eq, List.length_map]
    have hsn : (sends ss).Perm kids := by
      have := sends_perm hp'
      rwa [sends_map] at this
    clear hp'
    walk_at "run"
    refine u_take (x := x) (y := y) (by walk_at "look") hf (by decide) (by decide) fun r x1 y1 r0 r1 hf1 => ?_
    walk_at "run"
    intro c hc
    walk_at "run"
    refine u_pick (x := x1) (y := y1) (by walk_at "look") hf1 (by walk_at "ne") up_same (by simp) (by simp) fun d x2 y2 hd hf2 => ?_
    obtain ⟨z, rfl, hz⟩ : ∃ z : Int, d = .int z ∧ 0 ≤ z ∧ z < 1000 := by
      simp only [List.mem_cons, List.length_map, List.not_mem_nil, or_false] at hd
      rcases hd with rfl | rfl | rfl | rfl
      · exact ⟨_, rfl, by omega, by omega⟩
      · exact ⟨_, rfl, by omega, by omega⟩
      · exact ⟨_, rfl, by omega, by omega⟩
      · exact ⟨_, rfl, by omega, by omega⟩
    refine s_gn (s_goD (G0 := up (up G a (feed x2 y2)) p (.lst (ss.map encStep))) (by walk_at "le") ?_)
    walk_at "run"
    have hn : ∃ n : Nat, (if (if z > 1 then z else 1) < 8 then if z > 1 then z else 1 else 8) = (n : Int) ∧ 1 ≤ n ∧ n ≤ 8 := by
      refine ⟨(if (if z > 1 then z else 1) < 8 then if z > 1 then z else 1 else 8).toNat, ?_, ?_, ?_⟩ <;> (repeat' split) <;> omega
    obtain ⟨n, en, n1, n8⟩ := hn
    rw [en]
    clear hd
    refine loop_inv (fun i σ G' => ∃ ss' x y v7 v8, ss'.length = ss.length + i ∧ (sends ss').Perm kids ∧ FeedOk x y ∧ σ = [some (.ref a), some (.ref b), some (.ref p), none, v4, v5, some (.int z), v7, v8] ∧ G' = up (up G a (feed x y)) p (.lst (ss'.map encStep)))
      ⟨ss, x2, y2, none, none, rfl, hsn, hf2, rfl, rfl⟩ (fun _ _ _ _ _ => trivial) (fun i d σ' G' N hd hi hP hN => ?_) (fun σ' G' hP => ?_)
    · obtain ⟨ss', x, y, v7, v8, hl', hs', hf, rfl, rfl⟩ := hP
      obtain ⟨rfl, hi2⟩ := rangeD_get0 hd
      rw [List.length_map] at hi2
      walk_at "run"
      intro c hc
      walk_at "run"
      refine u_pick (x := x) (y := y) (by walk_at "look") hf (by walk_at "ne") up_same (by simp) (by simp) fun d x3 y3 hd hf3 => ?_
      obtain ⟨sp, rfl, hsp⟩ : ∃ sp : Stp, d = encStep sp ∧ sendOf sp = none := by
        simp only [List.mem_cons, List.not_mem_nil, or_false] at hd
        rcases hd with rfl | rfl | rfl
        · exact ⟨.doo, rfl, rfl⟩
        · exact ⟨.doo, rfl, rfl⟩
        · exact ⟨.wait, rfl, rfl⟩
      refine s_gn (s_goD (G0 := up (up G a (feed x3 y3)) p (.lst (ss'.map encStep))) (by walk_at "le") ?_)
      walk_at "run"
      refine u_take (x := x3) (y := y3) (by walk_at "look") hf3 (by rw [List.length_map]; omega) (by rw [List.length_map]; omega) fun r x4 y4 r0 r1 hf4 => ?_
      rw [List.length_map] at r1
      walk_at "run"
      refine hN _ _ (up (up G a (feed x4 y4)) p (.lst ((ss'.take r.toNat ++ sp :: ss'.drop r.toNat).map encStep))) (by rw [List.map_append, List.map_cons, List.map_take, List.map_drop]; walk_at "le") ⟨_, x4, y4, _, _, ?_, ?_, hf4, rfl, rfl⟩
      · simp only [List.length_append, List.length_cons, List.length_take, List.length_drop]
        omega
      · have e : sends (ss'.take r.toNat ++ sp :: ss'.drop r.toNat) = sends ss' := by
          rw [sends_append]
          have e1 : sends (sp :: ss'.drop r.toNat) = sends (ss'.drop r.toNat) := by
            unfold sends
            rw [List.filterMap_cons, hsp]
          rw [e1, ← sends_append, List.take_append_drop]
        rw [e]
        exact hs'
    · obtain ⟨ss', x, y, v7, v8, hl', hs', hf, rfl, rfl⟩ := hP
      rw [rangeD_length, List.length_map] at hl'
      walk_at "run"
      intro c hc
      walk_at "run"
      have e8 : cutD (ss'.map encStep) none (some 8) = ss'.map encStep := by
        rw [show (8 : Int) = ((8 : Nat) : Int) from rfl, cutD_upto, List.take_of_length_le (by rw [List.length_map]; omega)]
      rw [e8]
      exact s_rtD (G0 := up G a (feed x y)) (by walk_at "le") (q ss' x y (by omega) (by omega) hs' hf)
/-! ### the law's job -/
structure Kids (G G' : DG) (a p : Addr) (cs : List Addr) (kss : List (List Nat)) (x y : Int) : Prop where
  ha : G' a = some (feed x y)
  hf : FeedOk x y
  hp : G' p = some (.lst (cs.map .ref))
  pa : p ≠ a
  pc : p ∉ cs
  nd : cs.Nodup
  len : cs.length = kss.length
  at_ : ∀ (i : Nat) c ks, cs[i]? = some c → kss[i]? = some ks → G' c = some (.lst (kidsD ks))
  ca : a ∉ cs
  fp : G p = none
  fc : ∀ c ∈ cs, G c = none
  le : LeX [a] G G'
theorem Kids.feed {G G' : DG} {a p : Addr} {cs : List Addr} {kss : List (List Nat)} {x y x' y' : Int} (h : Kids G G' a p cs kss x y) (hf : FeedOk x' y') : Kids G (up G' a (feed x' y')) a p cs kss x' y' :=
  { h with
    ha := up_same, hf := hf, hp := up_nx h.pa h.hp
    at_ := fun i c ks e1 e2 => up_nx (fun e => h.ca (e ▸ List.mem_of_getElem? e1)) (h.at_ i c ks e1 e2)
    le := lex_mem (by simp) h.le }
theorem Kids.new {G G' : DG} {a p q : Addr} {cs : List Addr} {kss : List (List Nat)} {x y : Int} {o : O} (h : Kids G G' a p cs kss x y) (hq : G' q = none) : Kids G (up G' q o) a p cs kss x y :=
  { h with
    ha := up_nx (gne h.ha hq) h.ha, hp := up_nx (gne h.hp hq) h.hp
    at_ := fun i c ks e1 e2 => up_nx (gne (h.at_ i c ks e1 e2) hq) (h.at_ i c ks e1 e2)
    le := fun b ob hb e => up_nx (gne (h.le b ob hb e) hq) (h.le b ob hb e) }
theorem Kids.add {G G' : DG} {a p c : Addr} {cs : List Addr} {kss : List (List Nat)} {x y : Int} {n : Nat} {ks ks' : List Nat} (h : Kids G G' a p cs kss x y) (hc : cs[n]? = some c) (hk : kss[n]? = some ks) : Kids G (up G' c (.lst (kidsD ks'))) a p cs (kss.set n ks') x y := by
  have hcm := List.mem_of_getElem? hc
  have hca : a ≠ c := fun e => h.ca (e ▸ hcm)
  have hcp : p ≠ c := fun e => h.pc (e ▸ hcm)
  refine { h with ha := up_nx hca h.ha, hp := up_nx hcp h.hp, len := by rw [List.length_set]; exact h.len, at_ := fun i d ks e1 e2 => ?_, le := lex_new (h.fc c hcm) h.le }
  by_cases hi : i = n
  · subst hi
    rw [hc] at e1
    cases e1
    rw [List.getElem?_set_self (List.getElem?_eq_some_iff.mp hk).1] at e2
    cases e2
    exact up_same
  · rw [List.getElem?_set_ne (Ne.symm hi)] at e2
    refine up_nx (fun e => ?_) (h.at_ i d ks e1 e2)
    subst e
    obtain ⟨l1, e1⟩ := List.getElem?_eq_some_iff.mp e1
    obtain ⟨l2, e2⟩ := List.getElem?_eq_some_iff.mp hc
    exact hi ((List.getElem_inj (h₀ := l1) (h₁ := l2) h.nd).mp (e1.trans e2.symm))
theorem Kids.more {G G' : DG} {a p c : Addr} {cs : List Addr} {kss : List (List Nat)} {x y : Int} (h : Kids G G' a p cs kss x y) (hc : G' c = none) (hG : G c = none) : Kids G (up (up G' c (.lst [])) p (.lst ((cs ++ [c]).map .ref))) a p (cs ++ [c]) (kss ++ [[]]) x y := by
  have n := h.new (o := .lst []) hc
  have pc : p ≠ c := gne h.hp hc
  have hcc : c ∉ cs := fun m => by
    obtain ⟨i, hi, e⟩ := List.mem_iff_getElem.mp m
    have := h.at_ i c (kss[i]'(h.len ▸ hi)) (by rw [List.getElem?_eq_getElem hi, e]) (List.getElem?_eq_getElem _)
    rw [hc] at this
    cases this
  refine ⟨up_nx (Ne.symm h.pa) n.ha, h.hf, up_same, h.pa, ?_, ?_, by simp [h.len], fun i d ks e1 e2 => ?_, ?_, h.fp, ?_, lex_new h.fp n.le⟩
  · simp [h.pc, pc]
  · rw [List.nodup_append]
    exact ⟨h.nd, by simp, fun u hu v hv => by simp at hv; subst hv; exact fun e => hcc (e ▸ hu)⟩
  · have hd := List.mem_of_getElem? e1
    refine up_nx (fun e => ?_) ?_
    · subst e
      simp [h.pc, pc] at hd
    · by_cases hi : i < cs.length
      · rw [List.getElem?_append_left hi] at e1
        rw [List.getElem?_append_left (h.len ▸ hi)] at e2
        exact n.at_ i d ks e1 e2
      · have : i = cs.length := by
          have := (List.getElem?_eq_some_iff.mp e1).1
          simp at this
          omega
        subst this
        rw [List.getElem?_append_right (by omega)] at e1
        rw [h.len, List.getElem?_append_right (by omega)] at e2
        simp at e1 e2
        subst e1
        subst e2
        exact up_same
  · simp [h.ca, gne h.ha hc]
  · intro u hu
    simp at hu
    rcases hu with hu | rfl
    · exact h.fc u hu
    · exact hG
def C_law_job : Ct := fun ds G Q _ => ∃ a x y most, ds = [.ref a, .int most] ∧ G a = some (feed x y) ∧ FeedOk x y ∧ 1 ≤ most ∧ most ≤ 12 ∧
  ∀ j x' y', JobOk j → (j.length : Int) ≤ most → FeedOk x' y' → Q (encJob j) (up G a (feed x' y'))
theorem len_law_job (ds G Q E) (h : C_law_job ds G Q E) : ds.length = 2 := by obtain ⟨_, _, _, _, rfl, _⟩ := h; rfl
abbrev N_law_job : List Str := ["feed", "most", "many", "way", "children", "work", "some", "near", "one", "rooms"]
def T_law_job : DX → DS := fun E => (dSeq (dAsg (dCall C_law_pick E (dCons (dVar 0) (dCons (dLst (dCons (dVar 1) (dCons (dVar 1) (dCons (dOp subD (dVar 1) (dC (.int 1))) (dCons (dOp addD (dC (.int 1)) (dCall C_law_take E (dCons (dVar 0) (dCons (dVar 1) dNil)))) dNil))))) dNil))) (dgName 2))
    (dSeq (dAsg (dCB maxD (dCons (dC (.int 1)) (dCons (dVar 2) dNil))) (dgName 2))
    (dSeq (dAsg (dCall C_law_take E (dCons (dVar 0) (dCons (dC (.int 5)) dNil))) (dgName 3))
    (dSeq (dAsg (dLc (diRange (dCons (dVar 2) dNil)) (bdN 5) [5] dYes (dLst dNil)) (dgName 4))
    (dSeq (dFor (diRange (dCons (dC (.int 1)) (dCons (dVar 2) dNil))) (dgName 5) (dSeq (dAsg (dLst (dCons (dCall C_law_take E (dCons (dVar 0) (dCons (dVar 5) dNil))) (dCons (dOp subD (dVar 5) (dC (.int 1))) (dCons (dCall C_law_take E (dCons (dVar 0) (dCons (dVar 5) dNil))) (dCons (dCB maxD (dCons (dC (.int 0)) (dCons (dOp subD (dOp subD (dVar 5) (dC (.int 1))) (dCall C_law_take E (dCons (dVar 0) (dCons (dC (.int 3)) dNil)))) dNil))) dNil))))) (dgName 6))
    (dSeq (dAsg (dOp itemD (dOp addD (dVar 6) (dLst (dCons (dC (.int 0)) dNil))) (dVar 3)) (dgName 7))
    (dSeq (dIf (dTest (dOp eqD (dCB lenD (dCons (dOp itemD (dVar 4) (dVar 7)) dNil)) (dC (.int 8)))) (dAsg (dOp itemD (dLc (diRange (dCons (dVar 5) dNil)) (bdN 8) [8] (dTest (dOp ltD (dCB lenD (dCons (dOp itemD (dVar 4) (dVar 8)) dNil)) (dC (.int 8)))) (dVar 8)) (dC (.int 0))) (dgName 7)) dNext)
    (dDrop (dMt appendD (dOp itemD (dVar 4) (dVar 7)) (dCons (dVar 5) dNil)))))))
    (dSeq (dAsg (dLc (diRange (dCons (dVar 2) dNil)) (bdN 5) [5] dYes (dCall C_law_pick noX (dCons (dVar 0) (dCons (dLst (dCons (dC (.int 1)) (dCons (dC (.int 2)) (dCons (dOp addD (dC (.int 1)) (dCall C_law_take noX (dCons (dVar 0) (dCons (dC (.int 9)) dNil)))) dNil)))) dNil)))) (dgName 9))
    (dRet (dCB tupleD (dCons (dLc (diRange (dCons (dVar 2) dNil)) (bdN 5) [5] dYes (dTup (dCons (dOp itemD (dVar 9) (dVar 5)) (dCons (dCall C_law_steps noX (dCons (dVar 0) (dCons (dOp itemD (dVar 4) (dVar 5)) dNil))) dNil)))) dNil)))))))))
theorem run_law_job (ds G Q E) (h : C_law_job ds G Q E) : T_law_job E { nx := fun _ G' => DrK Q .non G', rt := DrK Q, bk := fun _ _ => False, ct := fun _ _ => False } (dstart N_law_job ds) G := by
  obtain ⟨a, x, y, most, rfl, ha, hf, m1, m12, q⟩ := h
  show T_law_job E _ [some (.ref a), some (.int most), none, none, none, none, none, none, none, none] G
  unfold T_law_job
  walk_at "run"
  refine u_take (x := x) (y := y) ha hf (by omega) (by omega) fun r x1 y1 r0 r1 hf1 => ?_
  walk_at "run"
  intro c hc
  refine u_pick (x := x1) (y := y1) (by walk_at "look") hf1 (by walk_at "ne") up_same (by simp) (by simp) fun d x2 y2 hd hf2 => ?_
  obtain ⟨z, rfl, hz⟩ : ∃ z : Int, d = .int z ∧ z ≤ most := by
    simp only [List.mem_cons, List.not_mem_nil, or_false] at hd
    rcases hd with rfl | rfl | rfl | rfl
    · exact ⟨_, rfl, by omega⟩
    · exact ⟨_, rfl, by omega⟩
    · exact ⟨_, rfl, by omega⟩
    · exact ⟨_, rfl, by omega⟩
  clear hd
  refine s_gn (s_goD (G0 := up G a (feed x2 y2)) (by walk_at "le") ?_)
  walk_at "run"
  obtain ⟨n, en, n1, n2⟩ : ∃ n : Nat, (if z > 1 then z else 1) = (n : Int) ∧ 1 ≤ n ∧ (n : Int) ≤ most := by
    refine ⟨(if z > 1 then z else 1).toNat, ?_, ?_, ?_⟩ <;> split <;> omega
  rw [en]
  refine u_take (x := x2) (y := y2) (by walk_at "look") hf2 (by decide) (by decide) fun w x3 y3 w0 w1 hf3 => ?_
  rw [up_up]
  obtain ⟨w, rfl⟩ : ∃ j : Nat, w = (j : Int) := ⟨w.toNat, by omega⟩
  walk_at "run"
  intro p hp
  have gp : G p = none := up_free hp
  have hap : a ≠ p := gne up_same hp
  refine comp_inv (fun i G' => ∃ cs, Kids G G' a p cs (List.replicate i []) x3 y3) ⟨[], ?_⟩ (fun _ _ _ _ => trivial) (fun i d G' hd hi hP => ?_) (fun G' hP => ?_)
  · exact ⟨up_nx hap up_same, hf3, up_same, Ne.symm hap, by simp, by simp, rfl, by simp, by simp, gp, by simp, lex_new gp (lex_mem (by simp) lex_refl)⟩
  · obtain ⟨cs, hK⟩ := hP
    refine ⟨_, rfl, fun N hN => ?_⟩
    walk_at "run"
    intro c2 hc2
    have hl : i ≤ 12 := by rw [rangeD_length] at hi; omega
    have hG : G c2 = none := by
      cases e : G c2 with
      | none => rfl
      | some o =>
        by_cases h1 : c2 = a
        · subst h1
          rw [hK.ha] at hc2
          cases hc2
        · rw [hK.le c2 o (by simp [h1]) e] at hc2
          cases hc2
    refine ⟨cs.map .ref, up_nx (gne hK.hp hc2) hK.hp, szLt (by rw [List.length_map, hK.len, List.length_replicate]; omega), hN _ _ (.refl _) ⟨cs ++ [c2], ?_⟩⟩
    have := hK.more hc2 hG
    rw [List.map_append] at this
    rw [List.replicate_succ']
    exact this
  obtain ⟨cs, hK⟩ := hP
  rw [rangeD_length] at hK
  have hnn : ((n : Int) - 0).toNat = n := by omega
  rw [hnn] at hK
  walk_at "run"
  refine loop_inv (fun i σ G' => ∃ cs kss x y v5 v6 v7 v8, Kids G G' a p cs kss x y ∧ kss.length = n ∧ kss.flatten.Perm (List.range' 1 i) ∧ (∀ ks ∈ kss, ks.length ≤ 8) ∧ (∀ (m : Nat) ks, kss[m]? = some ks → ∀ k ∈ ks, m < k) ∧ σ = [some (.ref a), some (.int most), some (.int n), some (.int w), some (.ref p), v5, v6, v7, v8, none])
    ⟨cs, _, x3, y3, none, none, none, none, hK, by simp, ?_, ?_, ?_, rfl⟩ (fun _ _ _ _ _ => trivial) (fun i d σ' G' N hd hi hP hN => ?_) (fun σ' G' hP => ?_)
  · simp
  · intro ks hks
    rw [List.eq_of_mem_replicate hks]
    simp
  · intro m ks hks k hk
    rw [List.eq_of_mem_replicate (List.mem_of_getElem? hks)] at hk
    simp at hk
  · obtain ⟨cs, kss, x, y, v5, v6, v7, v8, hK, hl, hP1, hP2, hP3, rfl⟩ := hP
    obtain ⟨rfl, hi2⟩ := rangeD_get hd
    rw [show (1 : Int) + (i : Int) = ((i + 1 : Nat) : Int) by omega]
    have i12 : i < 12 := by omega
    walk_at "run"
    refine u_take (x := x) (y := y) hK.ha hK.hf (by omega) (by omega) fun r1 x1 y1 r10 r11 hf1 => ?_
    have hK := hK.feed hf1
    walk_at "run"
    refine u_take (x := x1) (y := y1) hK.ha hK.hf (by omega) (by omega) fun r2 x2 y2 r20 r21 hf2 => ?_
    have hK := hK.feed hf2
    walk_at "run"
    refine u_take (x := x2) (y := y2) hK.ha hK.hf (by omega) (by omega) fun r3 x3 y3 r30 r31 hf3 => ?_
    have hK := hK.feed hf3
    walk_at "run"
    intro c1 hc1
    have hK := hK.new hc1 (o := .lst [D.int r1, .int (↑(i + 1) - 1), .int r2, .int (if ↑(i + 1) - 1 - r3 > 0 then ↑(i + 1) - 1 - r3 else 0)])
    walk_at "run"
    intro c2 hc2
    walk_at "run"
    intro c3 hc3
    obtain ⟨v, ev, v0, v1⟩ : ∃ v : Int, ([D.int r1, .int (↑(i + 1) - 1), .int r2, .int (if ↑(i + 1) - 1 - r3 > 0 then ↑(i + 1) - 1 - r3 else 0)] ++ [D.int 0])[w]? = some (.int v) ∧ 0 ≤ v ∧ v < (i + 1 : Nat) := by
      rcases (show w = 0 ∨ w = 1 ∨ w = 2 ∨ w = 3 ∨ w = 4 by omega) with rfl | rfl | rfl | rfl | rfl
      · exact ⟨_, rfl, by omega, by omega⟩
      · exact ⟨_, rfl, by omega, by omega⟩
      · exact ⟨_, rfl, by omega, by omega⟩
      · exact ⟨_, rfl, by split <;> omega, by split <;> omega⟩
      · exact ⟨_, rfl, by omega, by omega⟩
    obtain ⟨v, rfl⟩ : ∃ j : Nat, v = (j : Int) := ⟨v.toNat, by omega⟩
    have hK := (hK.new hc2 (o := .lst [.int 0])).new hc3 (o := .lst ([D.int r1, .int (↑(i + 1) - 1), .int r2, .int (if ↑(i + 1) - 1 - r3 > 0 then ↑(i + 1) - 1 - r3 else 0)] ++ [D.int 0]))
    walk_at "run"
    have row : ∀ m : Nat, m < n → ∃ c ks, cs[m]? = some c ∧ (cs.map D.ref)[m]? = some (.ref c) ∧ kss[m]? = some ks := fun m hm => by
      have h1 : m < cs.length := by rw [hK.len]; omega
      exact ⟨cs[m], kss[m]'(by omega), List.getElem?_eq_getElem h1, by rw [List.getElem?_map, List.getElem?_eq_getElem h1]; rfl, List.getElem?_eq_getElem (by omega)⟩
    -- the end of a row: one more child
    have fin : ∀ (G1 : DG) (m : Nat) (ks : List Nat) (σ : DSt) (c : Addr), Kids G G1 a p cs kss x3 y3 → m < i + 1 → kss[m]? = some ks → ks.length < 8 → cs[m]? = some c → (∃ v6 v7 v8, σ = [some (.ref a), some (.int most), some (.int n), some (.int w), some (.ref p), some (.int ↑(i + 1)), v6, v7, v8, none]) → N σ (up G1 c (.lst (kidsD ks ++ [.int ↑(i + 1)]))) := by
      intro G1 m ks σ c hK hm hks h8 hc hσ
      obtain ⟨v6, v7, v8, rfl⟩ := hσ
      have e : kidsD ks ++ [D.int ↑(i + 1)] = kidsD (ks ++ [i + 1]) := by unfold kidsD; rw [List.map_append]; rfl
      rw [e]
      refine hN _ _ _ (.refl _) ⟨cs, _, x3, y3, _, _, _, _, hK.add hc hks, by rw [List.length_set]; exact hl, ?_, ?_, ?_, rfl⟩
      · refine (flatten_set hks).trans ?_
        rw [List.range'_1_concat]
        refine (hP1.append_right _).trans ?_
        rw [Nat.add_comm 1 i]
      · intro ks' hks'
        rcases List.mem_or_eq_of_mem_set hks' with h1 | h1
        · exact hP2 _ h1
        · subst h1
          simp
          omega
      · intro m' ks' hks' k hk
        by_cases hm' : m = m'
        · subst hm'
          rw [List.getElem?_set_self (by omega)] at hks'
          cases hks'
          rcases List.mem_append.mp hk with h1 | h1
          · exact hP3 _ _ hks k h1
          · simp at h1
            omega
        · rw [List.getElem?_set_ne hm'] at hks'
          exact hP3 _ _ hks' k hk
    obtain ⟨c, ks, hc, hcD, hks⟩ := row v (by omega)
    refine s_itL hK.hp (d := .ref c) (by rw [atI_cast]; exact hcD) ?_
    refine s_nil (s_lenL (hK.at_ _ _ _ hc hks) ?_)
    walk_at "run"
    have hk8 := hP2 _ (List.mem_of_getElem? hks)
    refine br_bool (fun h8 => ?_) (fun h8 => ?_)
    · walk_at "run"
      intro e he
      rw [rangeD0]
      refine comp_pure (List.range (i + 1)) (fun k : Nat => D.int k) (fun k => decide (((kss.getD k []).length : Int) < 8)) (fun k : Nat => D.int k) (by simp; omega) he (fun _ => trivial) (fun k hk o => ⟨_, rfl, fun QB h => ?_, fun _ QD h => ?_⟩) ?_
      · simp at hk
        obtain ⟨c', ks', hc', hcD', hks'⟩ := row k (by omega)
        have hK' := hK.new he (o := o)
        have e2 : kss.getD k [] = ks' := by rw [List.getD_eq_getElem?_getD, hks']; rfl
        rw [e2] at h
        walk_at "run"
        refine s_itL hK'.hp (d := .ref c') (by rw [atI_cast]; exact hcD') ?_
        refine s_nil (s_lenL (hK'.at_ _ _ _ hc' hks') ?_)
        walk_at "run"
        unfold kidsD
        rw [List.length_map]
        exact h
      · walk_at "run"
        exact h
      · have hmem : i ∈ (List.range (i + 1)).filter (fun k => decide (((kss.getD k []).length : Int) < 8)) := by
          obtain ⟨c', ks', hc', hcD', hks'⟩ := row i (by omega)
          have e2 : kss.getD i [] = ks' := by rw [List.getD_eq_getElem?_getD, hks']; rfl
          rw [List.mem_filter]
          refine ⟨by simp, ?_⟩
          have e3 : ks' = [] := by
            refine List.eq_nil_iff_forall_not_mem.mpr fun k hk => ?_
            have h1 := hP3 _ _ hks' k hk
            have h2 : k ∈ kss.flatten := List.mem_flatten.mpr ⟨_, List.mem_of_getElem? hks', hk⟩
            have h3 := hP1.mem_iff.mp h2
            simp [List.mem_range'] at h3
            omega
          rw [e2, e3]
          decide
        generalize hL : (List.range (i + 1)).filter (fun k => decide (((kss.getD k []).length : Int) < 8)) = L at hmem
        cases L with
        | nil => simp at hmem
        | cons f L =>
          have hfm : f ∈ (List.range (i + 1)).filter (fun k => decide (((kss.getD k []).length : Int) < 8)) := by rw [hL]; simp
          simp at hfm
          obtain ⟨c', ks', hc', hcD', hks'⟩ := row f (by omega)
          rw [hks'] at hfm
          have hK' := hK.new he (o := .lst (((f :: L).map fun k : Nat => D.int k)))
          refine s_itL up_same (d := .int f) (by rw [atI_0]; rfl) ?_
          walk_at "run"
          refine s_itL hK'.hp (d := .ref c') (by rw [atI_cast]; exact hcD') ?_
          refine s_isl (hK'.at_ _ _ _ hc' hks') ?_
          walk_at "run"
          refine s_app (hK'.at_ _ _ _ hc' hks') (szLt ?_) ?_
          · unfold kidsD
            rw [List.length_map]
            have := hfm.2
            simp at this
            omega
          · refine fin _ f ks' _ c' hK' hfm.1 hks' ?_ hc' ⟨_, _, _, rfl⟩
            have := hfm.2
            simp at this
            omega
    · walk_at "run"
      refine s_itL hK.hp (d := .ref c) (by rw [atI_cast]; exact hcD) ?_
      refine s_isl (hK.at_ _ _ _ hc hks) ?_
      walk_at "run"
      refine s_app (hK.at_ _ _ _ hc hks) (szLt ?_) ?_
      · unfold kidsD
        rw [List.length_map]
        omega
      · refine fin _ v ks _ c hK (by omega) hks ?_ hc ⟨_, _, _, rfl⟩
        unfold kidsD at h8
        rw [List.length_map] at h8
        have h9 : ¬ ((ks.length : Int) = 8) := by simpa using h8
        omega
  · obtain ⟨cs, kss, x, y, v5, v6, v7, v8, hK, hl, hP1, hP2, hP3, rfl⟩ := hP
    walk_at "run"
    intro r hr
    have ra : a ≠ r := gne hK.ha hr
    rw [rangeD_length] at hP1
    refine comp_inv (fun i G'' => ∃ x y rs, FeedOk x y ∧ rs.length = i ∧ (∀ v ∈ rs, (1 : Int) ≤ v ∧ v ≤ 9) ∧ G'' = up (up G' a (feed x y)) r (.lst (rs.map .int))) ⟨x, y, [], hK.hf, rfl, by simp, ?_⟩ (fun _ _ _ _ => trivial) (fun i d G'' hd hi hP => ?_) (fun G'' hP => ?_)
    · funext b
      unfold up
      by_cases h1 : b = r
      · simp [h1]
      · by_cases h2 : b = a
        · simp [h2, hK.ha, ra]
        · simp [h1, h2]
    · obtain ⟨x1, y1, rs, hf1, rl, r9, rfl⟩ := hP
      rw [rangeD_length] at hi
      refine ⟨_, rfl, fun N hN => ?_⟩
      walk_at "run"
      refine u_take (x := x1) (y := y1) (by walk_at "look") hf1 (by omega) (by omega) fun r3 x3 y3 r30 r31 hf3 => ?_
      walk_at "run"
      intro c hc
      refine u_pick (x := x3) (y := y3) (by walk_at "look") hf3 (by walk_at "ne") up_same (by simp) (by simp) fun d x4 y4 hd hf4 => ?_
      obtain ⟨z, rfl, hz⟩ : ∃ z : Int, d = .int z ∧ 1 ≤ z ∧ z ≤ 9 := by
        simp only [List.mem_cons, List.not_mem_nil, or_false] at hd
        rcases hd with rfl | rfl | rfl
        · exact ⟨_, rfl, by omega⟩
        · exact ⟨_, rfl, by omega⟩
        · exact ⟨_, rfl, by omega⟩
      have cr : r ≠ c := gne (G := up (up (up G' a (feed x1 y1)) r (.lst (rs.map .int))) a (feed x3 y3)) (up_nx (Ne.symm ra) up_same) hc
      refine ⟨rs.map .int, by walk_at "look", szLt (by rw [List.length_map]; omega), hN _ (up (up G' a (feed x4 y4)) r (.lst ((rs ++ [z]).map .int))) ?_ ⟨x4, y4, rs ++ [z], hf4, by simp [rl], ?_, rfl⟩⟩
      · rw [List.map_append]
        walk_at "le"
      · intro v hv
        rcases List.mem_append.mp hv with h1 | h1
        · exact r9 v h1
        · simp at h1
          subst h1
          exact hz
    · obtain ⟨x1, y1, rs, hf1, rl, r9, rfl⟩ := hP
      rw [rangeD_length] at rl
      rw [show ((n : Int) - 0).toNat = n by omega] at rl
      have hra : r ≠ a := Ne.symm ra
      walk_at "run"
      intro t ht
      have tr : r ≠ t := gne (G := up (up G' a (feed x1 y1)) r (.lst (rs.map .int))) up_same ht
      have ta : a ≠ t := gne (G := up (up G' a (feed x1 y1)) r (.lst (rs.map .int))) (up_nx ra up_same) ht
      have gr : G r = none := by
        cases e : G r with
        | none => rfl
        | some o =>
          rw [hK.le r o (by simp [hra]) e] at hr
          cases hr
      have gt : G t = none := by
        have ht := up_free (up_free ht)
        cases e : G t with
        | none => rfl
        | some o =>
          rw [hK.le t o (by simp [Ne.symm ta]) e] at ht
          cases ht
      refine comp_inv (fun i G'' => ∃ x y js, FeedOk x y ∧ js.length = i ∧ (∀ w ∈ js, (1 ≤ w.1 ∧ w.1 ≤ 9) ∧ 1 ≤ w.2.length ∧ w.2.length ≤ 8) ∧ (∀ (m : Nat) w, js[m]? = some w → ∀ k ∈ sends w.2, m < k) ∧ (js.flatMap fun w => sends w.2).Perm (kss.take i).flatten ∧ G'' = up (up (up G' a (feed x y)) r (.lst (rs.map .int))) t (.lst (js.map encWork))) ⟨x1, y1, [], hf1, rfl, by simp, by simp, by simp, rfl⟩ (fun _ _ _ _ => trivial) (fun i d G'' hd hi hP => ?_) (fun G'' hP => ?_)
      · obtain ⟨x2, y2, js, hf2, jl, j9, ju, jp, rfl⟩ := hP
        obtain ⟨rfl, hi2⟩ := rangeD_get0 hd
        refine ⟨_, rfl, fun N hN => ?_⟩
        have hi3 : i < rs.length := by omega
        have er : (rs.map D.int)[i]? = some (.int rs[i]) := by rw [List.getElem?_map, List.getElem?_eq_getElem hi3]; rfl
        have h1 : i < cs.length := by rw [hK.len]; omega
        have h2 : i < kss.length := by omega
        have ec : (cs.map D.ref)[i]? = some (.ref cs[i]) := by rw [List.getElem?_map, List.getElem?_eq_getElem h1]; rfl
        have hc := hK.at_ i cs[i] kss[i] (List.getElem?_eq_getElem h1) (List.getElem?_eq_getElem h2)
        have cm : cs[i] ∈ cs := List.getElem_mem h1
        have nca : a ≠ cs[i] := fun e => hK.ca (e ▸ cm)
        have ncr : cs[i] ≠ r := gne hc hr
        have nct : cs[i] ≠ t := gne hc (up_free (up_free ht))
        have pr : p ≠ r := gne hK.hp hr
        have pt : p ≠ t := gne hK.hp (up_free (up_free ht))
        have hp' := hK.hp
        have pa := hK.pa
        walk_at "run"
        refine UpC.of ⟨a, x2, y2, cs[i], kss[i], rfl, by walk_at "look", hf2, nca, by walk_at "look", hP2 _ (List.getElem_mem h2), fun ss x3 y3 s1 s8 sp hf3 => ?_⟩
        walk_at "run"
        refine ⟨js.map encWork, by walk_at "look", szLt (by rw [List.length_map]; omega), hN _ (up (up (up G' a (feed x3 y3)) r (.lst (rs.map .int))) t (.lst ((js ++ [(rs[i], ss)]).map encWork))) ?_ ⟨x3, y3, js ++ [(rs[i], ss)], hf3, by simp [jl], ?_, ?_, ?_, rfl⟩⟩
        · rw [List.map_append]
          walk_at "le"
        · intro w hw
          rcases List.mem_append.mp hw with h | h
          · exact j9 w h
          · simp at h
            subst h
            exact ⟨r9 _ (List.getElem_mem hi3), s1, s8⟩
        · intro m w' hw' k hk
          by_cases hm : m < js.length
          · rw [List.getElem?_append_left hm] at hw'
            exact ju m w' hw' k hk
          · rw [List.getElem?_append_right (by omega)] at hw'
            have e0 : m - js.length = 0 := by
              have := (List.getElem?_eq_some_iff.mp hw').1
              simp at this
              omega
            rw [e0] at hw'
            cases hw'
            have := hP3 i kss[i] (List.getElem?_eq_getElem h2) k (sp.mem_iff.mp hk)
            omega
        · rw [List.flatMap_append, List.take_add_one, List.flatten_append, List.getElem?_eq_getElem h2]
          simp only [List.flatMap_cons, List.flatMap_nil, List.append_nil, Option.toList_some, List.flatten_cons, List.flatten_nil]
          exact jp.append sp
      · obtain ⟨x2, y2, js, hf2, jl, j9, ju, jp, rfl⟩ := hP
        rw [rangeD_length] at jl jp
        rw [show ((n : Int) - 0).toNat = n by omega] at jl jp
        rw [List.take_of_length_le (by omega)] at jp
        rw [show ((n : Int) - 1).toNat = n - 1 by omega] at hP1
        walk_at "run"
        refine s_rtD (G0 := up G a (feed x2 y2)) ?_ (q js x2 y2 ⟨by omega, by omega, fun w hw => (j9 w hw).1, fun w hw => (j9 w hw).2, ju, by rw [jl]; exact jp.trans hP1⟩ (by omega) hf2)
        refine LeX.le (lex_put (by walk_at "look") (lex_new gt (lex_new gr (lex_mem (by simp) hK.le))))

/-! ### what may be shown -/
structure Okw (b : Nat) (d : PyData) : Prop where
  s : d.showable = true
  l : d.leavesShort 33 = true
  w : d.bulk ≤ b
theorem Okw.mono {b c : Nat} {d : PyData} (h : Okw b d) (l : b ≤ c) : Okw c d := ⟨h.s, h.l, Nat.le_trans h.w l⟩
theorem log_wide {n : Nat} (h : n < 10 ^ 31) : n.log2 < 1920 := by
  by_cases h0 : n = 0
  · subst h0
    decide
  · rw [Nat.log2_lt h0]
    exact Nat.lt_of_lt_of_le h (Nat.le_trans (show 10 ^ 31 ≤ 2 ^ 104 by decide) (Nat.pow_le_pow_right (by decide) (by decide)))
theorem okw_int {i : Int} (h : i.natAbs < 10 ^ 31) : Okw 0 (.int i) := by
  refine ⟨by simpa [PyData.showable] using log_wide h, ?_, by simp [PyData.bulk]⟩
  have e := int_text_length_le10 (k := 31) (by decide) h
  have e2 : (PyData.shown (.int i)).length ≤ 33 := by
    show (Str.ofString (toString i)).length ≤ 33
    rw [ofString_length]
    omega
  simpa [PyData.leavesShort] using e2
theorem okw_none : Okw 0 .none := ⟨rfl, rfl, by simp [PyData.bulk]⟩
theorem okw_all {b : Nat} : ∀ {ds : List PyData}, (∀ d ∈ ds, Okw b d) → PyData.showableAll ds = true ∧ PyData.leavesShortAll 33 ds = true ∧ PyData.bulkAll ds ≤ ds.length * (b + 1)
  | [], _ => ⟨rfl, rfl, by simp [PyData.bulkAll]⟩
  | d :: ds, h => by
    obtain ⟨h1, h2, h3⟩ := okw_all (ds := ds) fun d hd => h d (by simp [hd])
    have hd := h d (by simp)
    refine ⟨by simp [PyData.showableAll, hd.s, h1], by simp [PyData.leavesShortAll, hd.l, h2], ?_⟩
    have := hd.w
    simp only [PyData.bulkAll, List.length_cons, Nat.succ_mul]
    omega
theorem okw_list {b n : Nat} {ds : List PyData} (h : ∀ d ∈ ds, Okw b d) (hn : ds.length ≤ n) : Okw (n * (b + 1)) (.list ds) := by
  obtain ⟨h1, h2, h3⟩ := okw_all h
  exact ⟨by simpa [PyData.showable] using h1, by simpa [PyData.leavesShort] using h2, by simpa [PyData.bulk] using Nat.le_trans h3 (Nat.mul_le_mul_right _ hn)⟩
theorem okw_tuple {b n : Nat} {ds : List PyData} (h : ∀ d ∈ ds, Okw b d) (hn : ds.length ≤ n) : Okw (n * (b + 1)) (.tuple ds) := by
  obtain ⟨h1, h2, h3⟩ := okw_all h
  exact ⟨by simpa [PyData.showable] using h1, by simpa [PyData.leavesShort] using h2, by simpa [PyData.bulk] using Nat.le_trans h3 (Nat.mul_le_mul_right _ hn)⟩
theorem Okw.rep {b : Nat} {d : PyData} (h : Okw b d) (hb : b ≤ 470000) : RepOk d := by
  refine ⟨h.s, ?_⟩
  have h1 := PyData.shown_le_bulk 33 (by decide) d h.l
  have h2 := h.w
  have : sizeLine = 16777216 := by decide
  omega

/-- known before, known now, but for the dicts of exceptions -/
def LeN (G G' : DG) : Prop := ∀ b o, ¬ isXd o → G b = some o → G' b = some o
theorem Le.n {G G' : DG} (h : Le G G') : LeN G G' := fun b o _ e => h b o e
theorem LeN.trans {G G1 G2 : DG} (h : LeN G G1) (h2 : LeN G1 G2) : LeN G G2 := fun b o n e => h2 b o n (h b o n e)
theorem LeN.refl (G : DG) : LeN G G := fun _ _ _ h => h
theorem LeN.lst {G G' : DG} (h : LeN G G') {p : Addr} {xs : List D} (e : G p = some (.lst xs)) : G' p = some (.lst xs) := h p _ (fun z => z) e
theorem LeN.ins {G G' : DG} (h : LeN G G') {p : Addr} {n : Str} {fs : List (Str × D)} (e : G p = some (.ins n fs)) : G' p = some (.ins n fs) := h p _ (fun z => z) e
theorem leN_exc {G : DG} {a dd : Addr} {n : Str} {fs : List (Str × D)} (ha : G a = none) (hdd : ∀ o, G dd = some o → isXd o) : LeN G (up (up G dd (.xd fs)) a (.exc n (some dd))) := fun b o nx e => by
  have h2 : b ≠ dd := fun z => nx (hdd o (by rw [← z]; exact e))
  rw [up_ne (gne e ha), up_ne h2]
  exact e
theorem leN_exc0 {G : DG} {a : Addr} {n : Str} (ha : G a = none) : LeN G (up G a (.exc n none)) := (le_new ha (.refl _) : Le G _).n
theorem ok_Tr : EncOk D.bl PyData.bool := ⟨fun n G x => pyD_bl, fun x y => by cases x <;> cases y <;> rfl⟩

/-! ### things of any kind -/
theorem okw_bool (b : Bool) : Okw 0 (.bool b) := ⟨rfl, rfl, by simp [PyData.bulk]⟩
theorem okw_str {x : Str} (h : ∀ c ∈ TL.tl x, c < 128) : Okw x.length (.str x) := by
  refine ⟨rfl, ?_, by simp [PyData.bulk, Str.length]⟩
  unfold PyData.leavesShort
  rw [List.all_eq_true]
  intro c hc
  have := h c hc
  rw [decide_eq_true_eq]
  exact Nat.lt_of_lt_of_le this (by decide)
theorem okw_dict0 : Okw 0 (.dict []) := ⟨rfl, rfl, by simp [PyData.bulk, PyData.bulkKv]⟩
inductive TyH (G : DG) : D → Prop
  | leaf {d : D} {t : String} (h : tyN d G = some t) (hn : t ≠ "tuple") : TyH G d
  | tup {xs : List D} (h : ∀ x ∈ xs, TyH G x) : TyH G (.tup xs)
theorem TyH.ty {G : DG} {d : D} (h : TyH G d) : ∃ t, tyN d G = some t := by
  cases h with
  | leaf h _ => exact ⟨_, h⟩
  | tup h => exact ⟨_, rfl⟩
theorem tyN_len {G G' : DG} (l : LeN G G') {d : D} {t : String} (h : tyN d G = some t) : tyN d G' = some t := by
  cases d with
  | ref a =>
    simp only [tyN] at h ⊢
    cases e : G a with
    | none => rw [e] at h; cases h
    | some o =>
      rw [e] at h
      cases o with
      | lst xs => rw [l _ (.lst xs) (fun z => z) e]; exact h
      | dK kvs => rw [l _ (.dK kvs) (fun z => z) e]; exact h
      | _ => cases h
  | _ => exact h
theorem TyH.len {G G' : DG} (l : LeN G G') {d : D} (h : TyH G d) : TyH G' d := by
  induction h with
  | leaf h hn => exact .leaf (tyN_len l h) hn
  | tup _ ih => exact .tup ih
theorem pyAll_imp {f g : D → Option PyData} (h : ∀ d p, f d = some p → g d = some p) : ∀ {xs : List D} {ps : List PyData}, pyAll f xs = some ps → pyAll g xs = some ps
  | [], ps, e => by cases e; rfl
  | x :: xs, ps, e => by
    obtain ⟨p, ps', rfl, e1, e2⟩ := pyAll_cons e
    unfold pyAll
    rw [h _ _ e1, pyAll_imp h e2]
theorem pyX_step {G G' : DG} (l : LeN G G') : ∀ (n : Nat) {d : D} {p : PyData}, pyX n G d = some p → pyX (n + 1) G' d = some p ∧ pyX n G' d = some p := by
  intro n
  induction n with
  | zero =>
    intro d p h
    cases d <;> simp [pyX] at h ⊢ <;> exact h
  | succ n ih =>
    intro d p h
    cases d with
    | non => simp [pyX] at h ⊢; exact h
    | bl b => simp [pyX] at h ⊢; exact h
    | int i => simp [pyX] at h ⊢; exact h
    | str x => simp [pyX] at h ⊢; exact h
    | ty x => simp [pyX] at h
    | tpl xs => simp [pyX] at h
    | tup xs =>
      simp only [pyX, Option.map_eq_some_iff] at h ⊢
      obtain ⟨ps, h1, rfl⟩ := h
      exact ⟨⟨ps, pyAll_imp (fun d p e => (ih e).1) h1, rfl⟩, ⟨ps, pyAll_imp (fun d p e => (ih e).2) h1, rfl⟩⟩
    | lis xs =>
      simp only [pyX, Option.map_eq_some_iff] at h ⊢
      obtain ⟨ps, h1, rfl⟩ := h
      exact ⟨⟨ps, pyAll_imp (fun d p e => (ih e).1) h1, rfl⟩, ⟨ps, pyAll_imp (fun d p e => (ih e).2) h1, rfl⟩⟩
    | ref a =>
      simp only [pyX] at h ⊢
      split at h
      · rename_i xs e
        obtain ⟨ps, h1, rfl⟩ := Option.map_eq_some_iff.mp h
        rw [l _ (.lst xs) (fun z => z) e]
        simp only
        rw [pyAll_imp (fun d p e => (ih e).1) h1, pyAll_imp (fun d p e => (ih e).2) h1]
        exact ⟨rfl, rfl⟩
      · rename_i kvs e
        obtain ⟨ps, h1, rfl⟩ := Option.map_eq_some_iff.mp h
        rw [l _ (.dK kvs) (fun z => z) e]
        simp only
        rw [pyAll_imp (fun d p e => (ih e).1) h1, pyAll_imp (fun d p e => (ih e).2) h1]
        exact ⟨rfl, rfl⟩
      · rename_i ow kvs e
        split at h
        · rename_i ks ds e1 e2
          rw [l _ (.dic ow kvs) (fun z => z) e]
          simp only
          rw [pyAll_imp (fun d p e => (ih e).1) e1, pyAll_imp (fun d p e => (ih e).2) e1, pyAll_imp (fun d p e => (ih e).1) e2, pyAll_imp (fun d p e => (ih e).2) e2]
          exact ⟨h, h⟩
        · cases h
      · cases h
theorem pyX_len {G G' : DG} (l : LeN G G') {n m : Nat} (hm : n ≤ m) {d : D} {p : PyData} (h : pyX n G d = some p) : pyX m G' d = some p := by
  induction hm with
  | refl => exact (pyX_step l n h).2
  | step _ ih => exact (pyX_step (LeN.refl _) _ ih).1
/-- a thing, by its depth and its bulk -/
def Th (n b : Nat) (G : DG) (d : D) : Prop := TyH G d ∧ ∃ p, pyX n G d = some p ∧ Okw b p
theorem Th.mono {n b n' b' : Nat} {G : DG} {d : D} (h : Th n b G d) (hn : n ≤ n') (hb : b ≤ b') : Th n' b' G d := let ⟨p, h1, h2⟩ := h.2; ⟨h.1, p, pyX_len (LeN.refl _) hn h1, h2.mono hb⟩
theorem Th.len {n b : Nat} {G G' : DG} {d : D} (h : Th n b G d) (l : LeN G G') : Th n b G' d := let ⟨p, h1, h2⟩ := h.2; ⟨h.1.len l, p, pyX_len l (Nat.le_refl _) h1, h2⟩
theorem Th.le {n b : Nat} {G G' : DG} {d : D} (h : Th n b G d) (l : Le G G') : Th n b G' d := h.len l.n
theorem th_int {i : Int} (h : i.natAbs < 10 ^ 31) (G : DG) : Th 0 0 G (.int i) := ⟨.leaf (t := "int") rfl (by decide), _, rfl, okw_int h⟩
theorem th_non (G : DG) : Th 0 0 G .non := ⟨.leaf (t := "NoneType") rfl (by decide), _, rfl, okw_none⟩
theorem th_bl (b : Bool) (G : DG) : Th 0 0 G (.bl b) := ⟨.leaf (t := "bool") rfl (by decide), _, rfl, okw_bool b⟩
theorem th_str {x : Str} (h : ∀ c ∈ TL.tl x, c < 128) (G : DG) : Th 0 x.length G (.str x) := ⟨.leaf (t := "str") rfl (by decide), _, rfl, okw_str h⟩
theorem th_all {n b : Nat} {G : DG} : ∀ {xs : List D}, (∀ x ∈ xs, Th n b G x) → ∃ ps, pyAll (pyX n G) xs = some ps ∧ (∀ p ∈ ps, Okw b p) ∧ ps.length = xs.length
  | [], _ => ⟨[], rfl, fun _ h => (by cases h), rfl⟩
  | x :: xs, h => by
    obtain ⟨_, p, h1, h2⟩ := h x (by simp)
    obtain ⟨ps, h3, h4, h5⟩ := th_all fun y hy => h y (List.mem_cons_of_mem _ hy)
    refine ⟨p :: ps, by unfold pyAll; rw [h1, h3], fun q hq => ?_, by simp [h5]⟩
    rcases List.mem_cons.mp hq with rfl | hq
    · exact h2
    · exact h4 q hq
theorem th_tup {n b k : Nat} {G : DG} {xs : List D} (h : ∀ x ∈ xs, Th n b G x) (hl : xs.length ≤ k) : Th (n + 1) (k * (b + 1)) G (.tup xs) := by
  obtain ⟨ps, h1, h2, h3⟩ := th_all h
  exact ⟨.tup fun x hx => (h x hx).1, .tuple ps, by simp only [pyX, h1, Option.map_some], okw_tuple h2 (by omega)⟩
theorem th_lst {n b k : Nat} {G : DG} {p : Addr} {xs : List D} (e : G p = some (.lst xs)) (h : ∀ x ∈ xs, Th n b G x) (hl : xs.length ≤ k) : Th (n + 1) (k * (b + 1)) G (.ref p) := by
  obtain ⟨ps, h1, h2, h3⟩ := th_all h
  exact ⟨.leaf (t := "list") (by simp [tyN, e]) (by decide), .list ps, by simp only [pyX, e, h1, Option.map_some], okw_list h2 (by omega)⟩
theorem th_dic0 {G : DG} {p : Addr} (e : G p = some (.dK [])) : Th 1 0 G (.ref p) := ⟨.leaf (t := "dict") (by simp [tyN, e]) (by decide), .dict [], by simp [pyX, e, pyAll], okw_dict0⟩
/-- what is not a tuple -/
theorem TyH.cases {G : DG} {d : D} (h : TyH G d) {P : Prop} (h1 : ∀ xs, d = .tup xs → (∀ x ∈ xs, TyH G x) → P) (h2 : ∀ t, tyN d G = some t → t ≠ "tuple" → P) : P := by
  cases h with
  | leaf h hn => exact h2 _ h hn
  | tup h => exact h1 _ rfl h

/-! ### things that may be jobs (k01) -/
theorem tyN_m1 {d : D} {G : DG} {t : String} (h : tyN d G = some t) : t ∈ tys := by
  unfold tyN at h
  split at h <;> first | (cases h; decide) | (split at h <;> first | (cases h; decide) | cases h) | cases h
/-- things: tuples are not long, texts are plain -/
inductive TyS (G : DG) : D → Prop
  | leaf {d : D} {t : String} (h : tyN d G = some t) (hn : t ≠ "tuple") (hs : ∀ z, d = .str z → PyData.strOk z = true) : TyS G d
  | tup {xs : List D} (h : ∀ x ∈ xs, TyS G x) (hl : xs.length ≤ 100) : TyS G (.tup xs)
theorem TyS.ty {G : DG} {d : D} (h : TyS G d) : ∃ t, tyN d G = some t := by
  cases h with
  | leaf h _ _ => exact ⟨_, h⟩
  | tup h _ => exact ⟨_, rfl⟩
theorem TyS.len {G G' : DG} (l : LeN G G') {d : D} (h : TyS G d) : TyS G' d := by
  induction h with
  | leaf h hn hs => exact .leaf (tyN_len l h) hn hs
  | tup _ hl ih => exact .tup ih hl
theorem TyS.cases {G : DG} {d : D} (h : TyS G d) {P : Prop} (h1 : ∀ xs, d = .tup xs → (∀ x ∈ xs, TyS G x) → xs.length ≤ 100 → P) (h2 : ∀ t, tyN d G = some t → t ≠ "tuple" → P) : P := by
  cases h with
  | leaf h hn _ => exact h2 _ h hn
  | tup h hl => exact h1 _ rfl h hl
theorem TyS.str {G : DG} {z : Str} (h : TyS G (.str z)) : PyData.strOk z = true := by
  cases h with
  | leaf _ _ hs => exact hs z rfl
theorem ty_str {G : DG} {d : D} (h : tyN d G = some "str") : ∃ z, d = .str z := by
  cases d with
  | str z => exact ⟨z, rfl⟩
  | ref a =>
    simp only [tyN] at h
    split at h <;> first | (exact absurd (Option.some.inj h) (by decide)) | cases h
  | _ => first | (exact absurd (Option.some.inj h) (by decide)) | cases h
theorem ty_int {G : DG} {d : D} (h : tyN d G = some "int") : ∃ z, d = .int z := by
  cases d with
  | int z => exact ⟨z, rfl⟩
  | ref a =>
    simp only [tyN] at h
    split at h <;> first | (exact absurd (Option.some.inj h) (by decide)) | cases h
  | _ => first | (exact absurd (Option.some.inj h) (by decide)) | cases h
theorem ty_tup {G : DG} {d : D} (h : tyN d G = some "tuple") : ∃ z, d = .tup z := by
  cases d with
  | tup z => exact ⟨z, rfl⟩
  | ref a =>
    simp only [tyN] at h
    split at h <;> first | (exact absurd (Option.some.inj h) (by decide)) | cases h
  | _ => first | (exact absurd (Option.some.inj h) (by decide)) | cases h
def isI : D → Bool
  | .int _ => true
  | _ => false
theorem isI_ty {G : DG} {d : D} {t : String} (h : tyN d G = some t) : isI d = (t == "int") := by
  unfold tyN at h
  split at h <;> first | (cases h; simp [isI]; done) | (split at h <;> first | (cases h; simp [isI]; done) | cases h) | cases h
theorem isI_int {d : D} (h : isI d = true) : ∃ z, d = .int z := by
  cases d with
  | int z => exact ⟨z, rfl⟩
  | _ => cases h
inductive SZ where
  | doo | wait | send (z : Int)
def encSZ : SZ → D
  | .doo => .tup [.str "do"]
  | .wait => .tup [.str "wait"]
  | .send z => .tup [.str "send", .int z]
def sendZ : SZ → Option Int
  | .send k => some k
  | _ => none
def sendsZ (ss : List SZ) : List Int := ss.filterMap sendZ
abbrev WZ := Int × List SZ
def encWZ (w : WZ) : D := .tup [.int w.1, .tup (w.2.map encSZ)]
def dwB (z : Str) : Bool := (Str.ofString "do" == z) || (Str.ofString "wait" == z)
def oneI : List D → Bool
  | [d] => isI d
  | _ => false
def stepB : D → Bool
  | .tup (.str z :: t) => if dwB z = true then t.isEmpty else decide (z = "send") && oneI t
  | _ => false
def workB : D → Bool
  | .tup [.int r, .tup ss] => decide (1 ≤ r ∧ r ≤ 9) && decide (1 ≤ ss.length ∧ ss.length ≤ 8) && ss.all stepB
  | _ => false
structure WkZ (w : WZ) : Prop where
  r : 1 ≤ w.1 ∧ w.1 ≤ 9
  l : 1 ≤ w.2.length ∧ w.2.length ≤ 8
theorem dwB_inv {z : Str} (h : dwB z = true) : z = "do" ∨ z = "wait" := by
  unfold dwB at h
  rw [Bool.or_eq_true] at h
  rcases h with h | h
  · exact .inl (eq_of_beq h).symm
  · exact .inr (eq_of_beq h).symm
theorem stepB_inv {d : D} (h : stepB d = true) : ∃ s, d = encSZ s ∧ True := by
  match d, h with
  | .tup (.str z :: t), h =>
    simp only [stepB] at h
    split at h
    · rename_i e
      cases t with
      | nil =>
        rcases dwB_inv e with rfl | rfl
        · exact ⟨.doo, rfl, trivial⟩
        · exact ⟨.wait, rfl, trivial⟩
      | cons a t => cases h
    · rw [Bool.and_eq_true, decide_eq_true_eq] at h
      obtain ⟨rfl, h⟩ := h
      match t, h with
      | [d], h =>
        obtain ⟨k, rfl⟩ := isI_int h
        exact ⟨.send k, rfl, trivial⟩
theorem stepB_enc (s : SZ) : stepB (encSZ s) = true := by
  cases s with
  | doo => exact (by decide +kernel : stepB (.tup [.str "do"]) = true)
  | wait => exact (by decide +kernel : stepB (.tup [.str "wait"]) = true)
  | send k =>
    have e1 : dwB "send" = false := by decide +kernel
    simp [stepB, encSZ, e1, oneI, isI]
theorem all_inv {α : Type} {p : D → Bool} {enc : α → D} {P : α → Prop} (h : ∀ d, p d = true → ∃ a, d = enc a ∧ P a) : ∀ {xs : List D}, xs.all p = true → ∃ as : List α, xs = as.map enc ∧ ∀ a ∈ as, P a
  | [], _ => ⟨[], rfl, fun _ z => (by cases z)⟩
  | x :: xs, e => by
    rw [List.all_cons, Bool.and_eq_true] at e
    obtain ⟨a, rfl, pa⟩ := h x e.1
    obtain ⟨as, rfl, ps⟩ := all_inv h e.2
    exact ⟨a :: as, rfl, fun b hb => by
      rcases List.mem_cons.mp hb with rfl | hb
      · exact pa
      · exact ps b hb⟩
theorem workB_inv {d : D} (h : workB d = true) : ∃ w, d = encWZ w ∧ WkZ w := by
  match d, h with
  | .tup [.int r, .tup ss], h =>
    simp only [workB, Bool.and_eq_true, decide_eq_true_eq] at h
    obtain ⟨⟨h1, h2⟩, h3⟩ := h
    obtain ⟨as, rfl, _⟩ := all_inv (fun d => stepB_inv) h3
    rw [List.length_map] at h2
    exact ⟨(r, as), rfl, h1, h2⟩
theorem workB_enc {w : WZ} (h : WkZ w) : workB (encWZ w) = true := by
  have h1 := h.r
  have h2 := h.l
  simp only [workB, encWZ, Bool.and_eq_true, decide_eq_true_eq, List.length_map, List.all_map]
  refine ⟨⟨h1, h2⟩, ?_⟩
  rw [List.all_eq_true]
  intro s _
  exact stepB_enc s
structure JobZ (j : List WZ) : Prop where
  l1 : 1 ≤ j.length
  l12 : j.length ≤ 12
  w : ∀ w ∈ j, WkZ w
  up : ∀ (i : Nat) w, j[i]? = some w → ∀ k ∈ sendsZ w.2, (i : Int) < k
  once : (j.flatMap fun w => sendsZ w.2).Perm ((List.range' 1 (j.length - 1)).map fun k : Nat => (k : Int))
def JobD (d : D) : Prop := ∃ j : List WZ, d = .tup (j.map encWZ) ∧ JobZ j
theorem encSZ_inj {a b : SZ} (h : encSZ a = encSZ b) : a = b := by
  have e1 : (Str.ofString "do" : Str) ≠ "wait" := by decide +kernel
  cases a <;> cases b <;> simp only [encSZ, D.tup.injEq, List.cons.injEq, D.str.injEq, and_true, reduceCtorEq, and_false, D.int.injEq] at h ⊢
  · exact absurd h e1
  · exact absurd h.symm e1
  · rw [h.2]
theorem encWZ_inj {a b : WZ} (h : encWZ a = encWZ b) : a = b := by
  obtain ⟨r, ss⟩ := a
  obtain ⟨r', ss'⟩ := b
  simp only [encWZ, D.tup.injEq, List.cons.injEq, D.int.injEq, and_true] at h
  rw [h.1, List.map_inj_right (fun _ _ => encSZ_inj) |>.mp h.2]
theorem jobD_enc {j : List WZ} : JobD (.tup (j.map encWZ)) ↔ JobZ j := by
  constructor
  · rintro ⟨j', e, h⟩
    injection e with e
    rw [List.map_inj_right (fun _ _ => encWZ_inj) |>.mp e]
    exact h
  · exact fun h => ⟨j, rfl, h⟩
theorem jobD_len {xs : List D} (h : JobD (.tup xs)) : 1 ≤ xs.length ∧ xs.length ≤ 12 ∧ xs.all workB = true := by
  obtain ⟨j, e, h⟩ := h
  injection e with e
  subst e
  rw [List.length_map]
  refine ⟨h.l1, h.l12, ?_⟩
  rw [List.all_map, List.all_eq_true]
  exact fun w hw => workB_enc (h.w w hw)
theorem jobD_tup {d : D} {G : DG} {t : String} (h : tyN d G = some t) (hn : t ≠ "tuple") : ¬ JobD d := by
  rintro ⟨j, rfl, _⟩
  cases h
  exact hn rfl

/-! ### whether a thing is a job (k01) -/
def C_law_whole : Ct := fun ds G Q _ => ∃ d t, ds = [d] ∧ tyN d G = some t ∧ Q (.bl (t == "int")) G
theorem len_law_whole (ds G Q E) (h : C_law_whole ds G Q E) : ds.length = 1 := by obtain ⟨_, _, rfl, _⟩ := h; rfl
abbrev N_law_whole : List Str := ["found"]
def T_law_whole : DX → DS := fun E => (dRet (dAndV (dCB isinstD (dCons (dVar 0) (dCons (dC (.ty "int")) dNil))) (dNotV (dCB isinstD (dCons (dVar 0) (dCons (dC (.ty "bool")) dNil))))))
theorem run_law_whole (ds G Q E) (h : C_law_whole ds G Q E) : T_law_whole E { nx := fun _ G' => DrK Q .non G', rt := DrK Q, bk := fun _ _ => False, ct := fun _ _ => False } (dstart N_law_whole ds) G := by
  obtain ⟨d, t, rfl, ht, q⟩ := h
  show T_law_whole E _ [some d] G
  have hm := tyN_m1 ht
  unfold T_law_whole
  walk_at "run"
  refine s_isi ht (by decide) ?_
  have fin : ∀ b, b = (t == "int") → DrK Q (.bl b) G := fun b e => by rw [e]; exact s_rt q
  simp only [tys, List.mem_cons, List.not_mem_nil, or_false] at hm
  rcases hm with rfl | rfl | rfl | rfl | rfl | rfl | rfl
  all_goals
    first
    | (refine fin _ (by decide))
    | (walk_at "run"
       refine s_isi ht (by decide) ?_
       walk_at "run"
       exact fin _ (by decide))
def C_is_whole : Ct := fun ds G Q _ => ∃ d t, ds = [d] ∧ tyN d G = some t ∧ Q (.bl (t == "int")) G
theorem len_is_whole (ds G Q E) (h : C_is_whole ds G Q E) : ds.length = 1 := by obtain ⟨_, _, rfl, _⟩ := h; rfl
abbrev N_is_whole : List Str := ["thing"]
def T_is_whole : DX → DS := fun E => (dRet (dAndV (dCB isinstD (dCons (dVar 0) (dCons (dC (.ty "int")) dNil))) (dNotV (dCB isinstD (dCons (dVar 0) (dCons (dC (.ty "bool")) dNil))))))
theorem run_is_whole (ds G Q E) (h : C_is_whole ds G Q E) : T_is_whole E { nx := fun _ G' => DrK Q .non G', rt := DrK Q, bk := fun _ _ => False, ct := fun _ _ => False } (dstart N_is_whole ds) G := by
  obtain ⟨d, t, rfl, ht, q⟩ := h
  show T_is_whole E _ [some d] G
  have hm := tyN_m1 ht
  unfold T_is_whole
  walk_at "run"
  refine s_isi ht (by decide) ?_
  have fin : ∀ b, b = (t == "int") → DrK Q (.bl b) G := fun b e => by rw [e]; exact s_rt q
  simp only [tys, List.mem_cons, List.not_mem_nil, or_false] at hm
  rcases hm with rfl | rfl | rfl | rfl | rfl | rfl | rfl
  all_goals
    first
    | (refine fin _ (by decide))
    | (walk_at "run"
       refine s_isi ht (by decide) ?_
       walk_at "run"
       exact fin _ (by decide))
theorem pyD_str1 {n : Nat} {G : DG} {z : Str} (h : PyData.strOk z = true) : pyD n G (.str z) = some (.str z) := by cases n <;> simp [pyD, h]
theorem s_inDX {z : Str} (hz : PyData.strOk z = true) {G : DG} {Q : DK} (h : Q (.bl (dwB z)) G) : inD false (.str z) (.tup [.str "do", .str "wait"]) G Q := by
  have l : pyD 9 G (.tup [.str "do", .str "wait"]) = some (.tuple [.str "do", .str "wait"]) := pyD_tup (pyAll_c (pyD_str1 (by decide +kernel)) (pyAll_c (pyD_str1 (by decide +kernel)) pyAll_nil))
  unfold inD
  rw [pyD_str1 hz, l]
  have fin : ([PyData.str (Str.ofString "do"), .str (Str.ofString "wait")].any fun w => PyData.eqv w (.str z)) = dwB z := by
    simp only [List.any_cons, List.any_nil, PyData.eqv, Bool.or_false]
    rfl
  show Q (.bl _) G
  rw [fin]
  exact h
theorem oneI_len {t : List D} (h : t.length ≠ 1) : oneI t = false := by
  match t, h with
  | [], _ => rfl
  | [a], h => exact absurd rfl h
  | a :: b :: t, _ => rfl
theorem beq_comm_dec {x z : Str} : (x == z) = decide (z = x) := by
  by_cases e : z = x
  · subst e
    simp
  · rw [decide_eq_false e]
    exact beq_eq_false_iff_ne.mpr fun k => e k.symm
theorem len_br {a b : D} {t : List D} {n : Nat} {A B : Prop} (h1 : (a :: t).length = n → A) (h2 : (a :: t).length ≠ n → B) : br ((((a :: t).length : Nat) : Int) == (n : Int)) A B := by
  refine br_bool (fun e => h1 ?_) (fun e => h2 ?_)
  · have := eq_of_beq e
    omega
  · have := beq_eq_false_iff_ne.mp e
    omega
theorem step_one {C : Ct} (hC : ∀ d t G Q X, tyN d G = some t → Q (.bl (isI d)) G → UpC C [d] G Q X) {E : DX} {t : List D} {z : Str} {G : DG} {Q : DK} (hx : ∀ x ∈ D.str z :: t, TyS G x) (q : Q (.bl (oneI t)) G) : br ((((D.str z :: t).length : Nat) : Int) == 2) (dCall C E (dCons (dOp itemD (dVar 0) (dC (D.int 1))) dNil) [some (D.tup (D.str z :: t))] G Q) (Q (.bl false) G) := by
  refine len_br (n := 2) (b := .non) (fun e => ?_) (fun e => ?_)
  · match t, e, hx, q with
    | [d], _, hx, q =>
      obtain ⟨td, htd⟩ := (hx d (by simp)).ty
      walk_at "run"
      exact hC d td _ _ _ htd q
  · rw [oneI_len (by simpa using e)] at q
    exact q
theorem whole_C {d : D} {t : String} {G : DG} {Q : DK} {X : DX} (h : tyN d G = some t) (q : Q (.bl (isI d)) G) : UpC C_is_whole [d] G Q X := by
  rw [isI_ty h] at q
  exact UpC.of ⟨d, t, rfl, h, q⟩
theorem lwhole_C {d : D} {t : String} {G : DG} {Q : DK} {X : DX} (h : tyN d G = some t) (q : Q (.bl (isI d)) G) : UpC C_law_whole [d] G Q X := by
  rw [isI_ty h] at q
  exact UpC.of ⟨d, t, rfl, h, q⟩
def C_is_step : Ct := fun ds G Q _ => ∃ d, ds = [d] ∧ TyS G d ∧ Q (.bl (stepB d)) G
theorem len_is_step (ds G Q E) (h : C_is_step ds G Q E) : ds.length = 1 := by obtain ⟨_, rfl, _⟩ := h; rfl
abbrev N_is_step : List Str := ["thing"]
def T_is_step : DX → DS := fun E => (dSeq (dIf (dOr (dNot (dTru (dCB isinstD (dCons (dVar 0) (dCons (dC (.ty "tuple")) dNil))))) (dOr (dTest (dOp eqT0D (dVar 0) (dTup dNil))) (dNot (dTru (dCB isinstD (dCons (dOp itemD (dVar 0) (dC (.int 0))) (dCons (dC (.ty "str")) dNil))))))) (dRet (dC (.bl false))) dNext)
    (dSeq (dIf (dTest (dOp (inD false) (dOp itemD (dVar 0) (dC (.int 0))) (dTup (dCons (dC (.str "do")) (dCons (dC (.str "wait")) dNil))))) (dRet (dOp eqD (dCB lenD (dCons (dVar 0) dNil)) (dC (.int 1)))) dNext)
    (dRet (dAndV (dOp eqD (dOp itemD (dVar 0) (dC (.int 0))) (dC (.str "send"))) (dAndV (dOp eqD (dCB lenD (dCons (dVar 0) dNil)) (dC (.int 2))) (dCall C_is_whole E (dCons (dOp itemD (dVar 0) (dC (.int 1))) dNil)))))))
theorem run_is_step (ds G Q E) (h : C_is_step ds G Q E) : T_is_step E { nx := fun _ G' => DrK Q .non G', rt := DrK Q, bk := fun _ _ => False, ct := fun _ _ => False } (dstart N_is_step ds) G := by
  obtain ⟨d, rfl, hT, q⟩ := h
  show T_is_step E _ [some d] G
  unfold T_is_step
  refine hT.cases (fun xs e hx hl => ?_) (fun t ht hn => ?_)
  · subst e
    walk_at "run"
    cases xs with
    | nil =>
      walk_at "run"
      exact s_rt q
    | cons x t =>
      obtain ⟨tx, htx⟩ := (hx x (by simp)).ty
      refine br_ff (by simp) ?_
      walk_at "run"
      refine s_isi htx (by decide) ?_
      by_cases hs : tx = "str"
      · subst hs
        obtain ⟨z, rfl⟩ := ty_str htx
        have zo := (hx (.str z) (by simp)).str
        walk_at "run"
        refine s_inDX zo ?_
        simp only [stepB] at q
        refine br_bool (fun e => ?_) (fun e => ?_)
        · rw [if_pos e] at q
          walk_at "run"
          refine s_rt ?_
          cases t with
          | nil => exact q
          | cons a t =>
            have e3 : ((((D.str z :: a :: t).length : Nat) : Int) == 1) = false := by
              rw [beq_eq_false_iff_ne]
              simp only [List.length_cons]
              omega
            rw [e3]
            exact q
        · rw [if_neg (by rw [e]; exact Bool.false_ne_true)] at q
          walk_at "run"
          refine br_bool (fun e5 => ?_) (fun e5 => ?_)
          · rw [e5, Bool.true_and] at q
            walk_at "run"
            exact step_one (fun _ _ _ _ _ => whole_C) hx (s_rt q)
          · rw [e5, Bool.false_and] at q
            exact s_rt q
      · have e : stepB (.tup (x :: t)) = false := by
          cases x <;> first | rfl | (exact absurd (Option.some.inj htx).symm hs)
        rw [e] at q
        have hm := tyN_m1 htx
        simp only [tys, List.mem_cons, List.not_mem_nil, or_false] at hm
        rcases hm with rfl | rfl | rfl | rfl | rfl | rfl | rfl
        all_goals first
          | exact absurd rfl hs
          | (walk_at "run"
             exact s_rt q)
          | (refine br_tt (by decide) ?_
             walk_at "run"
             exact s_rt q)
  · have e : stepB d = false := by
      cases d <;> first | rfl | (exact absurd (Option.some.inj ht).symm hn)
    rw [e] at q
    walk_at "run"
    refine s_isi ht (by decide) ?_
    have hm := tyN_m1 ht
    simp only [tys, List.mem_cons, List.not_mem_nil, or_false] at hm
    rcases hm with rfl | rfl | rfl | rfl | rfl | rfl | rfl
    all_goals first
      | exact absurd rfl hn
      | (walk_at "run"
         exact s_rt q)
      | (walk_at "run"
         refine br_tt (by decide) ?_
         walk_at "run"
         exact s_rt q)
def C_law_is_step : Ct := C_is_step
theorem len_law_is_step (ds G Q E) (h : C_law_is_step ds G Q E) : ds.length = 1 := by obtain ⟨_, rfl, _⟩ := h; rfl
abbrev N_law_is_step : List Str := ["thing"]
def T_law_is_step : DX → DS := fun E => (dSeq (dIf (dOr (dNot (dTru (dCB isinstD (dCons (dVar 0) (dCons (dC (.ty "tuple")) dNil))))) (dOr (dTest (dOp eqD (dCB lenD (dCons (dVar 0) dNil)) (dC (.int 0)))) (dNot (dTru (dCB isinstD (dCons (dOp itemD (dVar 0) (dC (.int 0))) (dCons (dC (.ty "str")) dNil))))))) (dRet (dC (.bl false))) dNext)
    (dSeq (dIf (dTest (dOp eqD (dOp itemD (dVar 0) (dC (.int 0))) (dC (.str "send")))) (dRet (dAndV (dOp eqD (dCB lenD (dCons (dVar 0) dNil)) (dC (.int 2))) (dCall C_law_whole E (dCons (dOp itemD (dVar 0) (dC (.int 1))) dNil)))) dNext)
    (dRet (dAndV (dOp eqD (dCB lenD (dCons (dVar 0) dNil)) (dC (.int 1))) (dOrV (dOp eqD (dOp itemD (dVar 0) (dC (.int 0))) (dC (.str "do"))) (dOp eqD (dOp itemD (dVar 0) (dC (.int 0))) (dC (.str "wait"))))))))
theorem run_law_is_step (ds G Q E) (h : C_law_is_step ds G Q E) : T_law_is_step E { nx := fun _ G' => DrK Q .non G', rt := DrK Q, bk := fun _ _ => False, ct := fun _ _ => False } (dstart N_law_is_step ds) G := by
  obtain ⟨d, rfl, hT, q⟩ := h
  show T_law_is_step E _ [some d] G
  unfold T_law_is_step
  refine hT.cases (fun xs e hx hl => ?_) (fun t ht hn => ?_)
  · subst e
    walk_at "run"
    cases xs with
    | nil =>
      walk_at "run"
      exact s_rt q
    | cons x t =>
      obtain ⟨tx, htx⟩ := (hx x (by simp)).ty
      refine br_ff (by rw [beq_eq_false_iff_ne]; simp only [List.length_cons]; omega) ?_
      walk_at "run"
      refine s_isi htx (by decide) ?_
      by_cases hs : tx = "str"
      · subst hs
        obtain ⟨z, rfl⟩ := ty_str htx
        walk_at "run"
        simp only [stepB] at q
        refine br_bool (fun e => ?_) (fun e => ?_)
        · have ez := of_decide_eq_true e
          have dz : dwB z = false := by rw [ez]; decide +kernel
          rw [dz, if_neg Bool.false_ne_true, e, Bool.true_and] at q
          walk_at "run"
          exact step_one (fun _ _ _ _ _ => lwhole_C) hx (s_rt q)
        · have ez := of_decide_eq_false e
          rw [show (if dwB z = true then t.isEmpty else decide (z = Str.ofString "send") && oneI t) = (dwB z && t.isEmpty) by rw [e]; cases dwB z <;> simp] at q
          walk_at "run"
          refine len_br (n := 1) (b := .non) (fun e => ?_) (fun e => ?_)
          · have et : t = [] := List.length_eq_zero_iff.mp (by simpa using e)
            rw [et, List.isEmpty_nil, Bool.and_true] at q
            walk_at "run"
            have ed : dwB z = (decide (z = "do") || decide (z = "wait")) := by
              unfold dwB
              rw [beq_comm_dec, beq_comm_dec]
            rw [ed] at q
            refine br_bool (fun e3 => ?_) (fun e3 => ?_)
            · rw [e3, Bool.true_or] at q
              exact s_rt q
            · rw [e3, Bool.false_or] at q
              walk_at "run"
              exact s_rt q
          · have et : t.isEmpty = false := by
              cases t with
              | nil => exact absurd rfl e
              | cons _ _ => rfl
            rw [et, Bool.and_false] at q
            exact s_rt q
      · have e : stepB (.tup (x :: t)) = false := by
          cases x <;> first | rfl | (exact absurd (Option.some.inj htx).symm hs)
        rw [e] at q
        have hm := tyN_m1 htx
        simp only [tys, List.mem_cons, List.not_mem_nil, or_false] at hm
        rcases hm with rfl | rfl | rfl | rfl | rfl | rfl | rfl
        all_goals first
          | exact absurd rfl hs
          | (walk_at "run"
             exact s_rt q)
          | (refine br_tt (by decide) ?_
             walk_at "run"
             exact s_rt q)
  · have e : stepB d = false := by
      cases d <;> first | rfl | (exact absurd (Option.some.inj ht).symm hn)
    rw [e] at q
    walk_at "run"
    refine s_isi ht (by decide) ?_
    have hm := tyN_m1 ht
    simp only [tys, List.mem_cons, List.not_mem_nil, or_false] at hm
    rcases hm with rfl | rfl | rfl | rfl | rfl | rfl | rfl
    all_goals first
      | exact absurd rfl hn
      | (walk_at "run"
         exact s_rt q)
      | (walk_at "run"
         refine br_tt (by decide) ?_
         walk_at "run"
         exact s_rt q)

/-! ### works, sends (k01) -/
theorem workB_len {xs : List D} (h : xs.length ≠ 2) : workB (.tup xs) = false := by
  match xs, h with
  | [], _ => rfl
  | [a], _ => cases a <;> rfl
  | [a, b], h => exact absurd rfl h
  | a :: b :: c :: t, _ => cases a <;> cases b <;> rfl
theorem workB_ty {G : DG} {d : D} {t : String} (h : tyN d G = some t) (hn : t ≠ "tuple") : workB d = false := by
  cases d with
  | tup xs => exact absurd (Option.some.inj h).symm hn
  | _ => rfl
theorem workB_fst {a b : D} (h : isI a = false) : workB (.tup [a, b]) = false := by
  cases a <;> first | rfl | cases h
theorem workB_snd {G : DG} {a b : D} {t : String} (h : tyN b G = some t) (hn : t ≠ "tuple") : workB (.tup [a, b]) = false := by
  cases b with
  | tup xs => exact absurd (Option.some.inj h).symm hn
  | _ => cases a <;> rfl
theorem workB_eq {r : Int} {ss : List D} : workB (.tup [.int r, .tup ss]) = (decide (1 ≤ r ∧ r ≤ 9) && decide (1 ≤ ss.length ∧ ss.length ≤ 8) && ss.all stepB) := rfl
theorem comp_idZ {bd : D → DSt → Option DSt} {vs : List Nat} {te : DE} {ok : DG → Prop} {p : Addr} {σ : DSt} {Q : DK} {G : DG} (xs : List D) (f : D → D) (hlen : xs.length < 100000) (hp : G p = none) (hok : ∀ o, ok (up G p o))
    (hs : ∀ x ∈ xs, ∀ o, ∃ σ', bd x (dwipe σ vs) = some σ' ∧ ∀ QD : DK, QD (f x) (up G p o) → te σ' (up G p o) QD) (h : Q (.ref p) (up G p (.lst (xs.map f)))) : DComp bd vs dYes te ok p σ Q xs (up G p (.lst [])) := by
  have := comp_map xs (fun d => d) f hlen hp hok hs h
  rwa [List.map_id'] at this
def C_is_work : Ct := fun ds G Q _ => ∃ d, ds = [d] ∧ TyS G d ∧ Q (.bl (workB d)) G
theorem len_is_work (ds G Q E) (h : C_is_work ds G Q E) : ds.length = 1 := by obtain ⟨_, rfl, _⟩ := h; rfl
abbrev N_is_work : List Str := ["thing", "step"]
def T_is_work : DX → DS := fun E => (dSeq (dIf (dOr (dNot (dTru (dCB isinstD (dCons (dVar 0) (dCons (dC (.ty "tuple")) dNil))))) (dTest (dOp neD (dCB lenD (dCons (dVar 0) dNil)) (dC (.int 2))))) (dRet (dC (.bl false))) dNext)
    (dSeq (dIf (dOr (dNot (dTru (dCall C_is_whole E (dCons (dOp itemD (dVar 0) (dC (.int 0))) dNil)))) (dOr (dNot (dTest (dChain leD leD (dC (.int 1)) (dOp itemD (dVar 0) (dC (.int 0))) (dC (.int 9))))) (dNot (dTru (dCB isinstD (dCons (dOp itemD (dVar 0) (dC (.int 1))) (dCons (dC (.ty "tuple")) dNil))))))) (dRet (dC (.bl false))) dNext)
    (dRet (dAndV (dChain leD leD (dC (.int 1)) (dCB lenD (dCons (dOp itemD (dVar 0) (dC (.int 1))) dNil)) (dC (.int 8))) (dCB allD (dCons (dLc (diSeq (dOp itemD (dVar 0) (dC (.int 1)))) (bdN 1) [1] dYes (dCall C_is_step noX (dCons (dVar 1) dNil))) dNil))))))
theorem run_is_work (ds G Q E) (h : C_is_work ds G Q E) : T_is_work E { nx := fun _ G' => DrK Q .non G', rt := DrK Q, bk := fun _ _ => False, ct := fun _ _ => False } (dstart N_is_work ds) G := by
  obtain ⟨d, rfl, hT, q⟩ := h
  show T_is_work E _ [some d, none] G
  unfold T_is_work
  refine hT.cases (fun xs e hx hl => ?_) (fun t ht hn => ?_)
  · subst e
    walk_at "run"
    by_cases h2 : xs.length = 2
    · obtain ⟨a, b, rfl⟩ : ∃ a b, xs = [a, b] := by
        match xs, h2 with
        | [a, b], _ => exact ⟨a, b, rfl⟩
      refine br_ff (by simp) ?_
      walk_at "run"
      obtain ⟨ta, hta⟩ := (hx a (by simp)).ty
      obtain ⟨tb, htb⟩ := (hx b (by simp)).ty
      refine whole_C hta ?_
      walk_at "run"
      cases hi : isI a with
      | false =>
        rw [workB_fst hi] at q
        refine br_tt rfl ?_
        walk_at "run"
        exact s_rt q
      | true =>
        obtain ⟨r, rfl⟩ := isI_int hi
        refine br_ff rfl ?_
        walk_at "run"
        have no : ∀ {k : Bool}, workB (.tup [.int r, b]) = false → DrK Q (.bl false) G := fun {k} e => s_rt (by rw [e] at q; exact q)
        refine br_dec (fun h1 => ?_) (fun h1 => ?_)
        case refine_2 =>
          walk_at "run"
          refine no (k := true) ?_
          cases b with
          | tup ss => rw [workB_eq, decide_eq_false (fun z => h1 z.1)]; rfl
          | _ => rfl
        walk_at "run"
        by_cases h9 : r ≤ 9
        case neg =>
          refine br_tt (by rw [decide_eq_false h9]; rfl) ?_
          walk_at "run"
          refine no (k := true) ?_
          cases b with
          | tup ss => rw [workB_eq, decide_eq_false (fun z => h9 z.2)]; rfl
          | _ => rfl
        refine br_ff (by rw [decide_eq_true h9]; rfl) ?_
        walk_at "run"
        refine s_isi htb (by decide) ?_
        by_cases htt : tb = "tuple"
        case neg =>
          have e := workB_snd (a := .int r) htb htt
          have hm := tyN_m1 htb
          simp only [tys, List.mem_cons, List.not_mem_nil, or_false] at hm
          rcases hm with rfl | rfl | rfl | rfl | rfl | rfl | rfl
          all_goals first
            | exact absurd rfl htt
            | (walk_at "run"
               exact no (k := true) e)
            | (walk_at "run"
               refine br_tt (by decide) ?_
               walk_at "run"
               exact no (k := true) e)
        subst htt
        obtain ⟨ss, rfl⟩ := ty_tup htb
        rw [workB_eq, decide_eq_true ⟨h1, h9⟩, Bool.true_and] at q
        have hs : ∀ x ∈ ss, TyS G x := by
          cases hx (.tup ss) (by simp) with
          | leaf h hn _ => exact absurd (Option.some.inj h).symm hn
          | tup h _ => exact h
        walk_at "run"
        refine br_dec (fun h3 => ?_) (fun h3 => ?_)
        case refine_2 =>
          rw [decide_eq_false (fun z => h3 (by omega))] at q
          walk_at "run"
          exact s_rt q
        walk_at "run"
        by_cases h8 : ss.length ≤ 8
        case neg =>
          rw [decide_eq_false (fun z => h8 z.2)] at q
          refine br_ff (decide_eq_false (by omega)) ?_
          exact s_rt q
        rw [decide_eq_true (show 1 ≤ ss.length ∧ ss.length ≤ 8 by omega), Bool.true_and] at q
        refine br_tt (decide_eq_true (by omega)) ?_
        walk_at "run"
        intro c hc
        refine comp_idZ ss (fun z => .bl (stepB z)) (by omega) hc (fun _ => trivial) (fun z hz o => ⟨_, rfl, fun QD h => ?_⟩) ?_
        · walk_at "run"
          exact UpC.of ⟨z, rfl, (hs z hz).len (le_new hc (.refl _) : Le G _).n, h⟩
        walk_at "run"
        refine s_allL (bs := ss.map stepB) (by rw [up_same, List.map_map]; rfl) ?_
        have ea : (ss.map stepB).all id = ss.all stepB := by rw [List.all_map]; rfl
        rw [ea]
        exact s_rtD (le_new hc (.refl _)) q
    · rw [workB_len h2] at q
      refine br_tt (by rw [Bool.not_eq_true', beq_eq_false_iff_ne]; omega) ?_
      walk_at "run"
      exact s_rt q
  · rw [workB_ty ht hn] at q
    walk_at "run"
    refine s_isi ht (by decide) ?_
    have hm := tyN_m1 ht
    simp only [tys, List.mem_cons, List.not_mem_nil, or_false] at hm
    rcases hm with rfl | rfl | rfl | rfl | rfl | rfl | rfl
    all_goals first
      | exact absurd rfl hn
      | (walk_at "run"
         exact s_rt q)
      | (walk_at "run"
         refine br_tt (by decide) ?_
         walk_at "run"
         exact s_rt q)
theorem anyBF1 : ∀ bs : List Bool, ((bs.map PyData.bool).any fun z => PyData.eqv z (.bool false)) = !bs.all id
  | [] => rfl
  | b :: bs => by
    rw [List.map_cons, List.any_cons, anyBF1 bs]
    cases b <;> simp [PyData.eqv]
theorem s_inBF1 {neg : Bool} {bs : List Bool} {G : DG} {Q : DK} {p : Addr} (e : G p = some (.lst (bs.map D.bl))) (k : Q (.bl (if neg then bs.all id else !bs.all id)) G) : inD neg (.bl false) (.ref p) G Q := by
  unfold inD
  have l : pyD 9 G (.ref p) = some (.list (bs.map .bool)) := by
    have h : pyAll (pyD 8 G) (bs.map D.bl) = some (bs.map .bool) := by
      clear e k
      induction bs with
      | nil => rfl
      | cons b bs ih =>
        simp only [List.map_cons]
        unfold pyAll
        rw [ih]
        simp [pyD]
    simp only [pyD, e, h, Option.map_some]
  rw [show pyD 9 G (.bl false) = some (.bool false) by simp [pyD], l]
  show Q (.bl (if neg then !((bs.map PyData.bool).any fun z => PyData.eqv z (.bool false)) else (bs.map PyData.bool).any fun z => PyData.eqv z (.bool false))) G
  rw [anyBF1, Bool.not_not]
  exact k
def C_law_is_work : Ct := C_is_work
theorem len_law_is_work (ds G Q E) (h : C_law_is_work ds G Q E) : ds.length = 1 := by obtain ⟨_, rfl, _⟩ := h; rfl
abbrev N_law_is_work : List Str := ["thing", "step"]
def T_law_is_work : DX → DS := fun E => (dSeq (dIf (dOr (dNot (dTru (dCB isinstD (dCons (dVar 0) (dCons (dC (.ty "tuple")) dNil))))) (dOr (dTest (dOp neD (dCB lenD (dCons (dVar 0) dNil)) (dC (.int 2)))) (dNot (dTru (dCB isinstD (dCons (dOp itemD (dVar 0) (dC (.int 1))) (dCons (dC (.ty "tuple")) dNil))))))) (dRet (dC (.bl false))) dNext)
    (dSeq (dIf (dOr (dNot (dTru (dCall C_law_whole E (dCons (dOp itemD (dVar 0) (dC (.int 0))) dNil)))) (dOr (dTest (dOp ltD (dOp itemD (dVar 0) (dC (.int 0))) (dC (.int 1)))) (dOr (dTest (dOp gtD (dOp itemD (dVar 0) (dC (.int 0))) (dC (.int 9)))) (dNot (dTest (dChain ltD ltD (dC (.int 0)) (dCB lenD (dCons (dOp itemD (dVar 0) (dC (.int 1))) dNil)) (dC (.int 9)))))))) (dRet (dC (.bl false))) dNext)
    (dRet (dOp (inD true) (dC (.bl false)) (dLc (diSeq (dOp itemD (dVar 0) (dC (.int 1)))) (bdN 1) [1] dYes (dCall C_law_is_step noX (dCons (dVar 1) dNil)))))))
theorem run_law_is_work (ds G Q E) (h : C_law_is_work ds G Q E) : T_law_is_work E { nx := fun _ G' => DrK Q .non G', rt := DrK Q, bk := fun _ _ => False, ct := fun _ _ => False } (dstart N_law_is_work ds) G := by
  obtain ⟨d, rfl, hT, q⟩ := h
  show T_law_is_work E _ [some d, none] G
  unfold T_law_is_work
  refine hT.cases (fun xs e hx hl => ?_) (fun t ht hn => ?_)
  · subst e
    walk_at "run"
    by_cases h2 : xs.length = 2
    · obtain ⟨a, b, rfl⟩ : ∃ a b, xs = [a, b] := by
        match xs, h2 with
        | [a, b], _ => exact ⟨a, b, rfl⟩
      refine br_ff (by simp) ?_
      walk_at "run"
      obtain ⟨ta, hta⟩ := (hx a (by simp)).ty
      obtain ⟨tb, htb⟩ := (hx b (by simp)).ty
      refine s_isi htb (by decide) ?_
      by_cases htt : tb = "tuple"
      case neg =>
        have e := workB_snd (a := a) htb htt
        rw [e] at q
        have hm := tyN_m1 htb
        simp only [tys, List.mem_cons, List.not_mem_nil, or_false] at hm
        rcases hm with rfl | rfl | rfl | rfl | rfl | rfl | rfl
        all_goals first
          | exact absurd rfl htt
          | (walk_at "run"
             exact s_rt q)
          | (walk_at "run"
             refine br_tt (by decide) ?_
             walk_at "run"
             exact s_rt q)
      subst htt
      obtain ⟨ss, rfl⟩ := ty_tup htb
      walk_at "run"
      refine lwhole_C hta ?_
      walk_at "run"
      cases hi : isI a with
      | false =>
        rw [workB_fst hi] at q
        refine br_tt rfl ?_
        walk_at "run"
        exact s_rt q
      | true =>
        obtain ⟨r, rfl⟩ := isI_int hi
        refine br_ff rfl ?_
        walk_at "run"
        rw [workB_eq] at q
        have no : ¬ (1 ≤ r ∧ r ≤ 9) ∨ ¬ (1 ≤ ss.length ∧ ss.length ≤ 8) → DrK Q (.bl false) G := fun e => s_rt (by
          rcases e with e | e
          · rw [decide_eq_false e, Bool.false_and, Bool.false_and] at q
            exact q
          · rw [decide_eq_false e, Bool.and_false, Bool.false_and] at q
            exact q)
        refine br_dec (fun h1 => ?_) (fun h1 => ?_)
        · walk_at "run"
          exact no (.inl (by omega))
        walk_at "run"
        refine br_dec (fun h9 => ?_) (fun h9 => ?_)
        · walk_at "run"
          exact no (.inl (by omega))
        walk_at "run"
        by_cases h3 : 0 < ss.length
        case neg =>
          refine br_neg (by omega) ?_
          walk_at "run"
          exact no (.inr (by omega))
        refine br_pos (by omega) ?_
        walk_at "run"
        by_cases h8 : ss.length ≤ 8
        case neg =>
          refine br_tt (by rw [decide_eq_false (show ¬ ((ss.length : Nat) : Int) < 9 by omega)]; rfl) ?_
          walk_at "run"
          exact no (.inr (by omega))
        refine br_ff (by rw [decide_eq_true (show ((ss.length : Nat) : Int) < 9 by omega)]; rfl) ?_
        rw [decide_eq_true (show 1 ≤ r ∧ r ≤ 9 by omega), decide_eq_true (show 1 ≤ ss.length ∧ ss.length ≤ 8 by omega), Bool.true_and, Bool.true_and] at q
        have hs : ∀ x ∈ ss, TyS G x := by
          cases hx (.tup ss) (by simp) with
          | leaf h hn _ => exact absurd (Option.some.inj h).symm hn
          | tup h _ => exact h
        walk_at "run"
        intro c hc
        refine comp_idZ ss (fun z => .bl (stepB z)) (by omega) hc (fun _ => trivial) (fun z hz o => ⟨_, rfl, fun QD h => ?_⟩) ?_
        · walk_at "run"
          exact UpC.of ⟨z, rfl, (hs z hz).len (le_new hc (.refl _) : Le G _).n, h⟩
        walk_at "run"
        have ea : (ss.map stepB).all id = ss.all stepB := by rw [List.all_map]; rfl
        refine s_inBF1 (neg := true) (bs := ss.map stepB) (by rw [up_same, List.map_map]; rfl) ?_
        rw [ea]
        exact s_rtD (le_new hc (.refl _)) q
    · rw [workB_len h2] at q
      refine br_tt (by rw [Bool.not_eq_true', beq_eq_false_iff_ne]; omega) ?_
      walk_at "run"
      exact s_rt q
  · rw [workB_ty ht hn] at q
    walk_at "run"
    refine s_isi ht (by decide) ?_
    have hm := tyN_m1 ht
    simp only [tys, List.mem_cons, List.not_mem_nil, or_false] at hm
    rcases hm with rfl | rfl | rfl | rfl | rfl | rfl | rfl
    all_goals first
      | exact absurd rfl hn
      | (walk_at "run"
         exact s_rt q)
      | (walk_at "run"
         refine br_tt (by decide) ?_
         walk_at "run"
         exact s_rt q)

/-! ### is_job of any thing (k01) -/
def kidsZ (j : List WZ) : List Int := j.flatMap fun w => sendsZ w.2
def rngZ (n : Nat) : List Int := (List.range' 1 (n - 1)).map fun k : Nat => (k : Int)
theorem rngZ_len {n : Nat} : (rngZ n).length = n - 1 := by simp [rngZ]
theorem rngZ_mem {n : Nat} {k : Int} : k ∈ rngZ n ↔ 1 ≤ k ∧ k < (n : Int) := by
  simp only [rngZ, List.mem_map, List.mem_range'_1]
  constructor
  · rintro ⟨m, h, rfl⟩
    omega
  · intro h
    exact ⟨k.toNat, by omega, by omega⟩
theorem rngZ_nodup {n : Nat} : (rngZ n).Nodup := by
  refine List.Pairwise.map _ ?_ (List.nodup_range' (s := 1) (n := n - 1))
  intro a b h z
  exact h (by omega)
theorem nodup_leZ : ∀ {l m : List Int}, l.Nodup → (∀ x ∈ l, x ∈ m) → l.length ≤ m.length
  | [], _, _, _ => Nat.zero_le _
  | x :: l, m, h, hs => by
    have hx := hs x (by simp)
    have h2 := List.nodup_cons.mp h
    have := nodup_leZ (m := m.erase x) h2.2 fun y hy => by
      have e : y ≠ x := fun e => h2.1 (e ▸ hy)
      exact (List.mem_erase_of_ne e).mpr (hs y (List.mem_cons_of_mem _ hy))
    rw [List.length_erase_of_mem hx] at this
    have := List.length_pos_of_mem hx
    simp only [List.length_cons]
    omega
theorem perm_full {l m : List Int} (hl : l.Nodup) (hm : m.Nodup) (hs : ∀ x ∈ l, x ∈ m) (e : m.length ≤ l.length) : l.Perm m := by
  refine (List.perm_ext_iff_of_nodup hl hm).mpr fun x => ⟨hs x, fun hx => ?_⟩
  refine Classical.byContradiction fun hn => ?_
  have := nodup_leZ (l := l) (m := m.erase x) hl fun y hy => (List.mem_erase_of_ne (fun e : y = x => hn (e ▸ hy))).mpr (hs y hy)
  rw [List.length_erase_of_mem hx] at this
  have := List.length_pos_of_mem hx
  omega
theorem jobZ_iff {j : List WZ} (h1 : 1 ≤ j.length) (h12 : j.length ≤ 12) (hw : ∀ w ∈ j, WkZ w) (hup : ∀ (i : Nat) w, j[i]? = some w → ∀ k ∈ sendsZ w.2, (i : Int) < k) : JobZ j ↔ (kidsZ j).Perm (rngZ j.length) :=
  ⟨fun h => h.once, fun h => ⟨h1, h12, hw, hup, h⟩⟩
theorem jobZ_len {j : List WZ} (h1 : 1 ≤ j.length) (h12 : j.length ≤ 12) (hw : ∀ w ∈ j, WkZ w) (hup : ∀ (i : Nat) w, j[i]? = some w → ∀ k ∈ sendsZ w.2, (i : Int) < k) (hb : ∀ k ∈ kidsZ j, k < (j.length : Int)) (nd : (kidsZ j).Nodup) : JobZ j ↔ (kidsZ j).length = j.length - 1 := by
  rw [jobZ_iff h1 h12 hw hup]
  constructor
  · intro h
    rw [h.length_eq, rngZ_len]
  · intro h
    refine perm_full nd rngZ_nodup (fun x hx => rngZ_mem.mpr ⟨?_, hb x hx⟩) (by rw [rngZ_len]; omega)
    obtain ⟨w, hwm, hk⟩ := List.mem_flatMap.mp hx
    obtain ⟨i, hi, e⟩ := List.mem_iff_getElem.mp hwm
    have := hup i w (by rw [List.getElem?_eq_getElem hi, e]) x hk
    omega
theorem JobZ.bd {j : List WZ} (h : JobZ j) : (kidsZ j).Nodup ∧ ∀ k ∈ kidsZ j, k < (j.length : Int) := by
  have p : (kidsZ j).Perm (rngZ j.length) := h.once
  exact ⟨p.nodup_iff.mpr rngZ_nodup, fun k hk => (rngZ_mem.mp (p.mem_iff.mp hk)).2⟩
def roomZ (j : List WZ) (i : Nat) : Int := (j.getD i (0, [])).1
def stepsZ (j : List WZ) (i : Nat) : List SZ := (j.getD i (0, [])).2
theorem jz_at {j : List WZ} {i : Nat} (h : i < j.length) : j[i]? = some (roomZ j i, stepsZ j i) := by
  rw [List.getElem?_eq_getElem h]
  simp [roomZ, stepsZ, List.getD_eq_getElem?_getD, List.getElem?_eq_getElem h]
theorem kids_takeZ {j : List WZ} {i : Nat} (h : i < j.length) : kidsZ (j.take (i + 1)) = kidsZ (j.take i) ++ sendsZ (stepsZ j i) := by
  rw [kidsZ, List.take_succ, jz_at h, List.flatMap_append]
  simp [kidsZ]
theorem kids_fewZ {j : List WZ} (hw : ∀ w ∈ j, WkZ w) : (kidsZ j).length ≤ j.length * 8 := by
  induction j with
  | nil => simp [kidsZ]
  | cons w j ih =>
    have h1 := ih fun w hm => hw w (List.mem_cons_of_mem _ hm)
    have h2 := (hw w (by simp)).l.2
    have h3 : (sendsZ w.2).length ≤ w.2.length := List.length_filterMap_le _ _
    show ((sendsZ w.2) ++ kidsZ j).length ≤ _
    rw [List.length_append, List.length_cons]
    omega
def isSendZ : SZ → Bool
  | .send _ => true
  | _ => false
def toZ : SZ → D
  | .send k => .int k
  | _ => .non
theorem sends_filterZ : ∀ ss : List SZ, (ss.filter isSendZ).map toZ = (sendsZ ss).map D.int
  | [] => rfl
  | s :: ss => by
    have ih := sends_filterZ ss
    cases s with
    | doo => exact ih
    | wait => exact ih
    | send k =>
      show D.int k :: (ss.filter isSendZ).map toZ = D.int k :: (sendsZ ss).map D.int
      rw [ih]
def C_sent_by : Ct := fun ds G Q _ => ∃ (r : Int) (ss : List SZ), ds = [.tup [.int r, .tup (ss.map encSZ)]] ∧ ss.length ≤ 8 ∧ ∀ p, G p = none → Q (.ref p) (up G p (.lst ((sendsZ ss).map D.int)))
theorem len_sent_by (ds G Q E) (h : C_sent_by ds G Q E) : ds.length = 1 := by obtain ⟨_, _, rfl, _⟩ := h; rfl
abbrev N_sent_by : List Str := ["work", "step"]
def T_sent_by : DX → DS := fun E => (dRet (dLc (diSeq (dOp itemD (dVar 0) (dC (.int 1)))) (bdN 1) [1] (dTest (dOp eqD (dOp itemD (dVar 1) (dC (.int 0))) (dC (.str "send")))) (dOp itemD (dVar 1) (dC (.int 1)))))
theorem run_sent_by (ds G Q E) (h : C_sent_by ds G Q E) : T_sent_by E { nx := fun _ G' => DrK Q .non G', rt := DrK Q, bk := fun _ _ => False, ct := fun _ _ => False } (dstart N_sent_by ds) G := by
  obtain ⟨r, ss, rfl, l8, q⟩ := h
  show T_sent_by E _ [some (.tup [.int r, .tup (ss.map encSZ)]), none] G
  unfold T_sent_by
  walk_at "run"
  intro p hp
  have e1 : (Str.ofString "do" : Str) ≠ "send" := by decide +kernel
  have e2 : (Str.ofString "wait" : Str) ≠ "send" := by decide +kernel
  refine comp_pure ss encSZ isSendZ toZ (by omega) hp (fun _ => trivial) (fun s hs o => ⟨_, rfl, fun QB h => ?_, fun hk QD h => ?_⟩) ?_
  · cases s <;> simp only [encSZ]
    · walk_at "run"
      rw [decide_eq_false e1]
      exact h
    · walk_at "run"
      rw [decide_eq_false e2]
      exact h
    · walk_at "run"
      rw [decide_eq_true rfl]
      exact h
  · cases s with
    | send k =>
      simp only [encSZ]
      walk_at "run"
      exact h
    | _ => cases hk
  rw [sends_filterZ]
  exact s_rt (q p hp)
theorem jobD_all {xs : List D} (h : xs.all workB = true) : ∃ j : List WZ, xs = j.map encWZ ∧ ∀ w ∈ j, WkZ w := all_inv (fun _ => workB_inv) h
theorem ints_permZ {ks : List Int} {ls : List Nat} {ms : List Int} (h1 : ms.Perm ks) (h2 : ms.Pairwise (· ≤ ·)) (h3 : ls.Pairwise (· ≤ ·)) : ms = (ls.map fun k : Nat => (k : Int)) ↔ ks.Perm (ls.map fun k : Nat => (k : Int)) := by
  constructor
  · rintro rfl
    exact h1.symm
  · intro h
    refine List.Perm.eq_of_pairwise (le := (· ≤ ·)) (fun a b _ _ x y => by omega) h2 ?_ (h1.trans h)
    rw [List.pairwise_map]
    exact h3.imp fun h => by omega
def C_is_job : Ct := fun ds G Q _ => ∃ d, ds = [d] ∧ TyS G d ∧ ∀ k : Bool, (k = true ↔ JobD d) → Q (.bl k) G
theorem len_is_job (ds G Q E) (h : C_is_job ds G Q E) : ds.length = 1 := by obtain ⟨_, rfl, _⟩ := h; rfl
abbrev N_is_job : List Str := ["thing", "work", "found", "number", "child"]
def T_is_job : DX → DS := fun E => (dSeq (dIf (dOr (dNot (dTru (dCB isinstD (dCons (dVar 0) (dCons (dC (.ty "tuple")) dNil))))) (dNot (dTest (dChain leD leD (dC (.int 1)) (dCB lenD (dCons (dVar 0) dNil)) (dC (.int 12)))))) (dRet (dC (.bl false))) dNext)
    (dSeq (dIf (dNot (dTru (dCB allD (dCons (dLc (diSeq (dVar 0)) (bdN 1) [1] dYes (dCall C_is_work noX (dCons (dVar 1) dNil))) dNil)))) (dRet (dC (.bl false))) dNext)
    (dSeq (dAsg (dLst dNil) (dgName 2))
    (dSeq (dFor (diRange (dCons (dCB lenD (dCons (dVar 0) dNil)) dNil)) (dgName 3) (dSeq (dIf (dNot (dTru (dCB allD (dCons (dLc (diSeq (dCall C_sent_by E (dCons (dOp itemD (dVar 0) (dVar 3)) dNil))) (bdN 4) [4] dYes (dOp gtD (dVar 4) (dVar 3))) dNil)))) (dRet (dC (.bl false))) dNext)
    (dDrop (dMt extendD (dVar 2) (dCons (dCall C_sent_by E (dCons (dOp itemD (dVar 0) (dVar 3)) dNil)) dNil)))))
    (dRet (dOp eqD (dCB sortedD (dCons (dVar 2) dNil)) (dListRange (dCons (dC (.int 1)) (dCons (dCB lenD (dCons (dVar 0) dNil)) dNil)))))))))
theorem run_is_job (ds G Q E) (h : C_is_job ds G Q E) : T_is_job E { nx := fun _ G' => DrK Q .non G', rt := DrK Q, bk := fun _ _ => False, ct := fun _ _ => False } (dstart N_is_job ds) G := by
  obtain ⟨d, rfl, hT, q⟩ := h
  show T_is_job E _ [some d, none, none, none, none] G
  have no : ¬ JobD d → ∀ G', Le G G' → DrK Q (.bl false) G' := fun h G' l => s_rtD l (q false ⟨fun z => Bool.noConfusion z, fun z => absurd z h⟩)
  unfold T_is_job
  refine hT.cases (fun xs e hx hl => ?_) (fun t ht hn => ?_)
  case refine_2 =>
    have e := no (jobD_tup ht hn) _ (.refl _)
    walk_at "run"
    refine s_isi ht (by decide) ?_
    have hm := tyN_m1 ht
    simp only [tys, List.mem_cons, List.not_mem_nil, or_false] at hm
    rcases hm with rfl | rfl | rfl | rfl | rfl | rfl | rfl
    all_goals first
      | exact absurd rfl hn
      | (walk_at "run"
         exact e)
      | (walk_at "run"
         refine br_tt (by decide) ?_
         walk_at "run"
         exact e)
  subst e
  walk_at "run"
  by_cases h1 : 1 ≤ xs.length
  case neg =>
    refine br_neg (by omega) ?_
    walk_at "run"
    exact no (fun J => h1 (jobD_len J).1) _ (.refl _)
  refine br_pos (by omega) ?_
  walk_at "run"
  by_cases h12 : xs.length ≤ 12
  case neg =>
    refine br_tt (by rw [decide_eq_false (show ¬ ((xs.length : Nat) : Int) ≤ 12 by omega)]; rfl) ?_
    walk_at "run"
    exact no (fun J => h12 (jobD_len J).2.1) _ (.refl _)
  refine br_ff (by rw [decide_eq_true (show ((xs.length : Nat) : Int) ≤ 12 by omega)]; rfl) ?_
  walk_at "run"
  intro c hc
  refine comp_idZ xs (fun z => .bl (workB z)) (by omega) hc (fun _ => trivial) (fun z hz o => ⟨_, rfl, fun QD h => ?_⟩) ?_
  · walk_at "run"
    exact UpC.of ⟨z, rfl, (hx z hz).len (le_new hc (.refl _) : Le G _).n, h⟩
  walk_at "run"
  refine s_allL (bs := xs.map workB) (by rw [up_same, List.map_map]; rfl) ?_
  have ea : (xs.map workB).all id = xs.all workB := by rw [List.all_map]; rfl
  rw [ea]
  have l0 : Le G (up G c (.lst (xs.map fun z => D.bl (workB z)))) := le_new hc (.refl _)
  generalize up G c (.lst (xs.map fun z => D.bl (workB z))) = G0 at l0
  clear hc
  cases hall : xs.all workB with
  | false =>
    refine br_tt rfl ?_
    walk_at "run"
    exact no (fun J => by rw [(jobD_len J).2.2] at hall; cases hall) _ l0
  | true =>
    refine br_ff rfl ?_
    obtain ⟨j, rfl, hw⟩ := jobD_all hall
    rw [List.length_map] at h1 h12
    clear hx hl hT hall ea
    walk_at "run"
    intro f hf
    generalize eH1 : up _ f _ = H1
    have lH1 := new_l eH1 hf
    have gf := new_g eH1
    clear eH1
    have l2 := l0.trans lH1
    have ff0 : G f = none := le_none l0 hf
    clear l0 lH1
    walk_at "run"
    refine loop_inv (fun i σ G' => ∃ (f : Addr) (v1 v3 v4 : Option D), Le G G' ∧ G' f = some (.lst ((kidsZ (j.take i)).map D.int)) ∧ G f = none ∧ (∀ (m : Nat) w, m < i → j[m]? = some w → ∀ k ∈ sendsZ w.2, (m : Int) < k) ∧ σ = [some (.tup (j.map encWZ)), v1, some (.ref f), v3, v4]) ⟨f, _, _, _, l2, gf, ff0, (fun m w hm => absurd hm (by omega)), rfl⟩ (fun _ _ _ _ _ => trivial) (fun i d σ' G' N hd hi hP hN => ?_) (fun σ' G' hP => ?_)
    · obtain ⟨f, v1, v3, v4, l, gf, ff, hup, rfl⟩ := hP
      obtain ⟨rfl, hi2⟩ := rangeD_get0 hd
      rw [List.length_map] at hi2
      have hij : i < j.length := by omega
      have e0 := jz_at hij
      have hwi := hw _ (List.mem_of_getElem? e0)
      have s8 : (stepsZ j i).length ≤ 8 := hwi.l.2
      have hkl : (sendsZ (stepsZ j i)).length ≤ 8 := Nat.le_trans (List.length_filterMap_le _ _) s8
      have eD : (j.map encWZ)[i]? = some (.tup [.int (roomZ j i), .tup ((stepsZ j i).map encSZ)]) := by rw [List.getElem?_map, e0]; rfl
      have hsum : (kidsZ (j.take i)).length ≤ 100 := by
        have := kids_fewZ (j := j.take i) fun w hm => hw w (List.mem_of_mem_take hm)
        rw [List.length_take] at this
        omega
      walk_at "run"
      refine UpC.of ⟨roomZ j i, stepsZ j i, rfl, s8, fun p hp => ?_⟩
      have npgf := gne gf hp
      generalize eH2 : up _ p _ = H2
      have lH2 := new_l eH2 hp
      have gp := new_g eH2
      clear eH2
      replace gf := lH2 _ _ gf
      walk_at "run"
      intro c2 hc2
      refine comp_map (sendsZ (stepsZ j i)) D.int (fun k => .bl (decide (k > (i : Int)))) (by omega) hc2 (fun _ => up_nx (gne gp hc2) gp) (fun k hk o => ⟨_, rfl, fun QD h => ?_⟩) ?_
      · walk_at "run"
        exact h
      have nc2gf := gne gf hc2
      generalize eH3 : up _ c2 _ = H3
      have lH3 := new_l eH3 hc2
      have g3 := new_g eH3
      clear eH3
      replace gf := lH3 _ _ gf
      walk_at "run"
      refine s_allL (bs := (sendsZ (stepsZ j i)).map fun k => decide (k > (i : Int))) (by rw [g3, List.map_map]; rfl) ?_
      by_cases hk : ∀ k ∈ sendsZ (stepsZ j i), (i : Int) < k
      · rw [show ((sendsZ (stepsZ j i)).map fun k => decide (k > (i : Int))).all id = true by
          rw [List.all_map, List.all_eq_true]
          intro k m
          exact decide_eq_true (hk k m)]
        walk_at "run"
        refine UpC.of ⟨roomZ j i, stepsZ j i, rfl, s8, fun p2 hp2 => ?_⟩
        have np2gf := gne gf hp2
        generalize eH4 : up _ p2 _ = H4
        have lH4 := new_l eH4 hp2
        have g4 := new_g eH4
        clear eH4
        replace gf := lH4 _ _ gf
        walk_at "run"
        refine s_ext gf g4 (szL (by rw [List.length_map, List.length_map]; omega)) ?_
        walk_at "run"
        refine hN _ _ _ (.refl _) ⟨f, _, _, _, le_new ff (((l.trans lH2).trans lH3).trans lH4), ?_, ff, fun m w hm ew => ?_, rfl⟩
        · rw [up_same, kids_takeZ hij, List.map_append]
        · by_cases e : m = i
          · subst e
            rw [e0] at ew
            cases ew
            exact hk
          · exact hup m w (by omega) ew
      · rw [show ((sendsZ (stepsZ j i)).map fun k => decide (k > (i : Int))).all id = false by
          rw [List.all_map, List.all_eq_false]
          have ⟨k, hk2⟩ := Classical.not_forall.mp hk
          have ⟨m, h3⟩ := Classical.not_imp.mp hk2
          exact ⟨k, m, by simp; omega⟩]
        walk_at "run"
        refine no (fun J => hk fun k m => ?_) _ (((l.trans lH2).trans lH3))
        exact (jobD_enc.mp J).up i _ e0 k m
    · obtain ⟨f, v1, v3, v4, l, gf, ff, hup, rfl⟩ := hP
      rw [rangeD_length, List.length_map, show ((j.length : Int) - 0).toNat = j.length by omega] at gf hup
      rw [List.take_length] at gf
      have hup' : ∀ (i : Nat) w, j[i]? = some w → ∀ k ∈ sendsZ w.2, (i : Int) < k := fun i w e => hup i w (List.getElem?_eq_some_iff.mp e).1 e
      walk_at "run"
      refine s_sortZ (ns := kidsZ j) gf fun ms p hperm hsort hp => ?_
      generalize eH5 : up _ p _ = H5
      have lH5 := new_l eH5 hp
      have gp := new_g eH5
      clear eH5
      walk_at "run"
      rw [List.length_map]
      walk_at "run"
      intro p2 hp2
      have er : rangeD 1 (j.length : Int) = (rngZ j.length).map D.int := by
        rw [rngZ, List.map_map]
        refine List.ext_getElem? fun i => ?_
        by_cases hi : i < j.length - 1
        · rw [List.getElem?_map, List.getElem?_range' hi]
          have : i < (rangeD 1 (j.length : Int)).length := by rw [rangeD_length]; omega
          have h := List.getElem?_eq_getElem this
          rw [h]
          have := (rangeD_get h).1
          rw [this]
          show some (D.int (1 + (i : Int))) = some (D.int ((1 + 1 * i : Nat) : Int))
          congr 2
          omega
        · rw [List.getElem?_eq_none (by rw [rangeD_length]; omega), List.getElem?_eq_none (by rw [List.length_map, List.length_range']; omega)]
      rw [er]
      refine s_eqLE ok_Z (up_nx (gne gp hp2) gp) up_same ?_
      refine s_rtD ((l.trans lH5).trans (le_new hp2 (.refl _))) (q _ ?_)
      rw [decide_eq_true_eq, rngZ, ints_permZ hperm hsort ((List.pairwise_lt_range' (s := 1) (n := j.length - 1)).imp Nat.le_of_lt), jobD_enc]
      exact (jobZ_iff h1 h12 hw hup').symm

/-! ### the law's own look at jobs (k01) -/
/-- a dict by whole numbers -/
theorem lookK_mem {k : Int} : ∀ {kvs : List (Key × D)} {ks : List Int}, kvs.map (·.1) = ks.map Sum.inl → (lookK (.inl k) kvs).isSome = decide (k ∈ ks)
  | [], [], _ => by simp [lookK]
  | [], _ :: _, h => by cases h
  | _ :: _, [], h => by cases h
  | kv :: r, k' :: ks, h => by
    simp only [List.map_cons, List.cons.injEq] at h
    unfold lookK
    by_cases e : k' = k
    · subst e
      rw [if_pos h.1]
      simp
    · rw [if_neg (by rw [h.1]; intro z; exact e (Sum.inl.inj z)), lookK_mem h.2]
      have : ¬ k = k' := fun z => e z.symm
      simp [this]
theorem putKD_new {k : Int} {v : D} {kvs : List (Key × D)} {ks : List Int} (h : kvs.map (·.1) = ks.map Sum.inl) (hk : k ∉ ks) : putKD kvs (.inl k) v = kvs ++ [(.inl k, v)] := by
  unfold putKD
  rw [if_neg]
  intro z
  rw [List.any_eq_true] at z
  obtain ⟨kv, hm, e⟩ := z
  have e := of_decide_eq_true e
  have : kv.1 ∈ kvs.map (·.1) := List.mem_map_of_mem hm
  rw [h, e] at this
  obtain ⟨a, ha, e2⟩ := List.mem_map.mp this
  exact hk (Sum.inl.inj e2 ▸ ha)
theorem sends_takeZ {ss : List SZ} {m : Nat} {s : SZ} (h : ss[m]? = some s) : sendsZ (ss.take (m + 1)) = sendsZ (ss.take m) ++ (sendZ s).toList := by
  rw [sendsZ, List.take_succ, h, List.filterMap_append]
  cases s <;> rfl
structure Rd1 (j : List WZ) (i m : Nat) (kvs : List (Key × D)) : Prop where
  ks : kvs.map (·.1) = (kidsZ (j.take i) ++ sendsZ ((stepsZ j i).take m)).map Sum.inl
  nd : (kidsZ (j.take i) ++ sendsZ ((stepsZ j i).take m)).Nodup
  bd : ∀ k ∈ kidsZ (j.take i) ++ sendsZ ((stepsZ j i).take m), k < (j.length : Int)
  up : ∀ (n : Nat) w, n < i → j[n]? = some w → ∀ k ∈ sendsZ w.2, (n : Int) < k
  up2 : ∀ k ∈ sendsZ ((stepsZ j i).take m), (i : Int) < k
theorem Rd1.next {j : List WZ} {i : Nat} {kvs : List (Key × D)} (h : Rd1 j i (stepsZ j i).length kvs) (hi : i < j.length) : Rd1 j (i + 1) 0 kvs := by
  have e : kidsZ (j.take (i + 1)) = kidsZ (j.take i) ++ sendsZ ((stepsZ j i).take (stepsZ j i).length) := by rw [kids_takeZ hi, List.take_length]
  have e0 : sendsZ ((stepsZ j (i + 1)).take 0) = [] := rfl
  refine ⟨?_, ?_, ?_, fun n w hn ew => ?_, ?_⟩
  · rw [e0, List.append_nil, e]; exact h.ks
  · rw [e0, List.append_nil, e]; exact h.nd
  · rw [e0, List.append_nil, e]; exact h.bd
  · by_cases z : n = i
    · subst z
      rw [jz_at hi] at ew
      cases ew
      have := h.up2
      rw [List.take_length] at this
      exact this
    · exact h.up n w (by omega) ew
  · rw [e0]
    intro k hk
    cases hk
theorem Rd1.stay {j : List WZ} {i m : Nat} {kvs : List (Key × D)} {s : SZ} (h : Rd1 j i m kvs) (es : (stepsZ j i)[m]? = some s) (hs : sendZ s = none) : Rd1 j i (m + 1) kvs := by
  have e : sendsZ ((stepsZ j i).take (m + 1)) = sendsZ ((stepsZ j i).take m) := by rw [sends_takeZ es, hs]; simp
  exact ⟨by rw [e]; exact h.ks, by rw [e]; exact h.nd, by rw [e]; exact h.bd, h.up, by rw [e]; exact h.up2⟩
theorem Rd1.put {j : List WZ} {i m : Nat} {kvs : List (Key × D)} {k : Int} {v : D} (h : Rd1 j i m kvs) (es : (stepsZ j i)[m]? = some (.send k)) (hk : k ∉ kidsZ (j.take i) ++ sendsZ ((stepsZ j i).take m)) (h1 : (i : Int) < k) (h2 : k < (j.length : Int)) : Rd1 j i (m + 1) (putKD kvs (.inl k) v) := by
  have e : sendsZ ((stepsZ j i).take (m + 1)) = sendsZ ((stepsZ j i).take m) ++ [k] := sends_takeZ es
  rw [putKD_new h.ks hk]
  refine ⟨?_, ?_, fun x hx => ?_, h.up, fun x hx => ?_⟩
  · rw [e, ← List.append_assoc, List.map_append, List.map_append, h.ks]
    simp
  · rw [e, ← List.append_assoc, List.nodup_append]
    exact ⟨h.nd, by simp, fun a ha b hb z => by rw [List.mem_singleton.mp hb] at z; exact hk (z ▸ ha)⟩
  · rw [e, ← List.append_assoc] at hx
    rcases List.mem_append.mp hx with hx | hx
    · exact h.bd x hx
    · rw [List.mem_singleton.mp hx]; exact h2
  · rw [e] at hx
    rcases List.mem_append.mp hx with hx | hx
    · exact h.up2 x hx
    · rw [List.mem_singleton.mp hx]; exact h1
/-- a send that is told already, or leads out, makes it no job -/
theorem Rd1.not {j : List WZ} {i m : Nat} {kvs : List (Key × D)} {k : Int} (h : Rd1 j i m kvs) (hi : i < j.length) (es : (stepsZ j i)[m]? = some (.send k)) (hb : k ∈ kidsZ (j.take i) ++ sendsZ ((stepsZ j i).take m) ∨ ¬ ((i : Int) < k ∧ k < (j.length : Int))) : ¬ JobZ j := fun J => by
  have hk : k ∈ sendsZ (stepsZ j i) := List.mem_filterMap.mpr ⟨_, List.mem_of_getElem? es, rfl⟩
  rcases hb with hb | hb
  · have nd := J.bd.1
    have e1 : kidsZ j = kidsZ (j.take (i + 1)) ++ kidsZ (j.drop (i + 1)) := by
      rw [kidsZ, kidsZ, kidsZ, ← List.flatMap_append, List.take_append_drop]
    have e2 : sendsZ (stepsZ j i) = sendsZ ((stepsZ j i).take (m + 1)) ++ sendsZ ((stepsZ j i).drop (m + 1)) := by
      rw [sendsZ, sendsZ, sendsZ, ← List.filterMap_append, List.take_append_drop]
    rw [e1, kids_takeZ hi, e2, sends_takeZ es] at nd
    have n1 := (List.nodup_append.mp nd).1
    rw [← List.append_assoc, ← List.append_assoc] at n1
    have n2 := (List.nodup_append.mp n1).1
    exact (List.nodup_append.mp n2).2.2 k hb k (by simp [sendZ]) rfl
  · refine hb ⟨J.up i _ (jz_at hi) k hk, J.bd.2 k (List.mem_flatMap.mpr ⟨_, List.mem_of_getElem? (jz_at hi), hk⟩)⟩
def C_law_is_job : Ct := C_is_job
theorem len_law_is_job (ds G Q E) (h : C_law_is_job ds G Q E) : ds.length = 1 := by obtain ⟨_, rfl, _⟩ := h; rfl
abbrev N_law_is_job : List Str := ["thing", "work", "senders", "step"]
def T_law_is_job : DX → DS := fun E => (dSeq (dIf (dOr (dNot (dTru (dCB isinstD (dCons (dVar 0) (dCons (dC (.ty "tuple")) dNil))))) (dNot (dTest (dChain ltD ltD (dC (.int 0)) (dCB lenD (dCons (dVar 0) dNil)) (dC (.int 13)))))) (dRet (dC (.bl false))) dNext)
    (dSeq (dIf (dTest (dOp (inD false) (dC (.bl false)) (dLc (diSeq (dVar 0)) (bdN 1) [1] dYes (dCall C_law_is_work noX (dCons (dVar 1) dNil))))) (dRet (dC (.bl false))) dNext)
    (dSeq (dAsg dDicK (dgName 2))
    (dSeq (dFor (diRange (dCons (dCB lenD (dCons (dVar 0) dNil)) dNil)) (dgName 1) (dFor (diSeq (dOp itemD (dOp itemD (dVar 0) (dVar 1)) (dC (.int 1)))) (dgName 3) (dIf (dTest (dOp eqD (dOp itemD (dVar 3) (dC (.int 0))) (dC (.str "send")))) (dSeq (dIf (dOr (dTest (dOp (hasD false) (dOp itemD (dVar 3) (dC (.int 1))) (dVar 2))) (dNot (dTest (dChain ltD ltD (dVar 1) (dOp itemD (dVar 3) (dC (.int 1))) (dCB lenD (dCons (dVar 0) dNil)))))) (dRet (dC (.bl false))) dNext)
    (dDput (dVar 2) (dOp itemD (dVar 3) (dC (.int 1))) (dVar 1))) dNext)))
    (dRet (dOp eqD (dCB lenDicD (dCons (dVar 2) dNil)) (dOp subD (dCB lenD (dCons (dVar 0) dNil)) (dC (.int 1)))))))))
theorem run_law_is_job (ds G Q E) (h : C_law_is_job ds G Q E) : T_law_is_job E { nx := fun _ G' => DrK Q .non G', rt := DrK Q, bk := fun _ _ => False, ct := fun _ _ => False } (dstart N_law_is_job ds) G := by
  obtain ⟨d, rfl, hT, q⟩ := h
  show T_law_is_job E _ [some d, none, none, none] G
  have no : ¬ JobD d → ∀ G', Le G G' → DrK Q (.bl false) G' := fun h G' l => s_rtD l (q false ⟨fun z => Bool.noConfusion z, fun z => absurd z h⟩)
  unfold T_law_is_job
  refine hT.cases (fun xs e hx hl => ?_) (fun t ht hn => ?_)
  case refine_2 =>
    have e := no (jobD_tup ht hn) _ (.refl _)
    walk_at "run"
    refine s_isi ht (by decide) ?_
    have hm := tyN_m1 ht
    simp only [tys, List.mem_cons, List.not_mem_nil, or_false] at hm
    rcases hm with rfl | rfl | rfl | rfl | rfl | rfl | rfl
    all_goals first
      | exact absurd rfl hn
      | (walk_at "run"
         exact e)
      | (walk_at "run"
         refine br_tt (by decide) ?_
         walk_at "run"
         exact e)
  subst e
  walk_at "run"
  by_cases h1 : 1 ≤ xs.length
  case neg =>
    refine br_neg (by omega) ?_
    walk_at "run"
    exact no (fun J => h1 (jobD_len J).1) _ (.refl _)
  refine br_pos (by omega) ?_
  walk_at "run"
  by_cases h12 : xs.length ≤ 12
  case neg =>
    refine br_tt (by rw [decide_eq_false (show ¬ ((xs.length : Nat) : Int) < 13 by omega)]; rfl) ?_
    walk_at "run"
    exact no (fun J => h12 (jobD_len J).2.1) _ (.refl _)
  refine br_ff (by rw [decide_eq_true (show ((xs.length : Nat) : Int) < 13 by omega)]; rfl) ?_
  walk_at "run"
  intro c hc
  refine comp_idZ xs (fun z => .bl (workB z)) (by omega) hc (fun _ => trivial) (fun z hz o => ⟨_, rfl, fun QD h => ?_⟩) ?_
  · walk_at "run"
    exact UpC.of ⟨z, rfl, (hx z hz).len (le_new hc (.refl _) : Le G _).n, h⟩
  refine s_inBF1 (neg := false) (bs := xs.map workB) (by rw [up_same, List.map_map]; rfl) ?_
  have ea : (xs.map workB).all id = xs.all workB := by rw [List.all_map]; rfl
  rw [ea]
  walk_at "run"
  have l0 : Le G (up G c (.lst (xs.map fun z => D.bl (workB z)))) := le_new hc (.refl _)
  generalize up G c (.lst (xs.map fun z => D.bl (workB z))) = G0 at l0
  clear hc
  cases hall : xs.all workB with
  | false =>
    refine br_tt rfl ?_
    walk_at "run"
    exact no (fun J => by rw [(jobD_len J).2.2] at hall; cases hall) _ l0
  | true =>
    refine br_ff rfl ?_
    obtain ⟨j, rfl, hw⟩ := jobD_all hall
    rw [List.length_map] at h1 h12
    clear hx hl hT hall ea
    walk_at "run"
    intro p hp
    generalize eH1 : up _ p _ = H1
    have lH1 := new_l eH1 hp
    have gp := new_g eH1
    clear eH1
    have l2 := l0.trans lH1
    have gf : G p = none := le_none l0 hp
    clear l0 lH1
    walk_at "run"
    refine loop_inv (fun i σ G' => ∃ (kvs : List (Key × D)) (v1 v3 : Option D), Le G G' ∧ G' p = some (.dK kvs) ∧ Rd1 j i 0 kvs ∧ σ = [some (.tup (j.map encWZ)), v1, some (.ref p), v3]) ⟨[], _, _, l2, gp, ⟨rfl, by simp [kidsZ, sendsZ], by simp [kidsZ, sendsZ], fun n w hn => absurd hn (by omega), by simp [sendsZ]⟩, rfl⟩ (fun _ _ _ _ _ => trivial) (fun i d σ' G' N hd hi hP hN => ?_) (fun σ' G' hP => ?_)
    · obtain ⟨kvs, v1, v3, l, gp, rd, rfl⟩ := hP
      obtain ⟨rfl, hi2⟩ := rangeD_get0 hd
      rw [List.length_map] at hi2
      have hij : i < j.length := by omega
      have e0 := jz_at hij
      have hwi := hw _ (List.mem_of_getElem? e0)
      have s8 : (stepsZ j i).length ≤ 8 := hwi.l.2
      have eD : (j.map encWZ)[i]? = some (.tup [.int (roomZ j i), .tup ((stepsZ j i).map encSZ)]) := by rw [List.getElem?_map, e0]; rfl
      walk_at "run"
      refine loop_inv (fun m σ G' => ∃ (kvs : List (Key × D)) (v3 : Option D), Le G G' ∧ G' p = some (.dK kvs) ∧ Rd1 j i m kvs ∧ σ = [some (.tup (j.map encWZ)), some (.int (i : Nat)), some (.ref p), v3]) ⟨kvs, _, l, gp, rd, rfl⟩ (fun _ _ _ _ _ => trivial) (fun m d σ' G' N2 hd2 hm hP hN2 => ?_) (fun σ' G' hP => ?_)
      · obtain ⟨kvs, v3, l, gp, rd, rfl⟩ := hP
        rw [List.length_map] at hm
        rw [List.getElem?_map, List.getElem?_eq_getElem hm] at hd2
        obtain ⟨rfl⟩ := Option.some.inj hd2
        have es : (stepsZ j i)[m]? = some (stepsZ j i)[m] := List.getElem?_eq_getElem hm
        generalize (stepsZ j i)[m] = s at es
        have e1 : (Str.ofString "do" : Str) ≠ "send" := by decide +kernel
        have e2 : (Str.ofString "wait" : Str) ≠ "send" := by decide +kernel
        have hlen : kvs.length ≤ 200 := by
          have h1 := congrArg List.length rd.ks
          rw [List.length_map, List.length_map, List.length_append] at h1
          have h2 := kids_fewZ (j := j.take i) fun w hm => hw w (List.mem_of_mem_take hm)
          have h3 : (sendsZ ((stepsZ j i).take m)).length ≤ ((stepsZ j i).take m).length := List.length_filterMap_le _ _
          rw [List.length_take] at h2 h3
          omega
        cases s with
        | doo =>
          simp only [encSZ]
          walk_at "run"
          walk_at "run"
          exact hN2 _ _ _ (.refl _) ⟨kvs, _, l, gp, rd.stay es rfl, rfl⟩
        | wait =>
          simp only [encSZ]
          walk_at "run"
          walk_at "run"
          exact hN2 _ _ _ (.refl _) ⟨kvs, _, l, gp, rd.stay es rfl, rfl⟩
        | send k =>
          simp only [encSZ]
          walk_at "run"
          refine s_hasK gp rfl ?_
          rw [if_neg Bool.false_ne_true, lookK_mem rd.ks]
          walk_at "run"
          refine br_dec (fun hk => ?_) (fun hk => ?_)
          · walk_at "run"
            exact no (fun J => rd.not hij es (.inl hk) (jobD_enc.mp J)) _ l
          walk_at "run"
          by_cases h1 : (i : Int) < k
          case neg =>
            refine br_neg h1 ?_
            walk_at "run"
            exact no (fun J => rd.not hij es (.inr fun z => h1 z.1) (jobD_enc.mp J)) _ l
          refine br_pos h1 ?_
          walk_at "run"
          by_cases h2 : k < (j.length : Int)
          case neg =>
            refine br_tt (by rw [List.length_map, decide_eq_false h2]; rfl) ?_
            walk_at "run"
            exact no (fun J => rd.not hij es (.inr fun z => h2 z.2) (jobD_enc.mp J)) _ l
          refine br_ff (by rw [List.length_map, decide_eq_true h2]; rfl) ?_
          walk_at "run"
          refine s_dputK gp rfl (by omega) ?_
          exact hN2 _ _ _ (.refl _) ⟨_, _, le_new gf l, up_same, rd.put es hk h1 h2, rfl⟩
      · obtain ⟨kvs, v3, l, gp, rd, rfl⟩ := hP
        rw [List.length_map] at rd
        exact hN _ _ _ (.refl _) ⟨kvs, _, _, l, gp, rd.next hij, rfl⟩
    · obtain ⟨kvs, v1, v3, l, gp, rd, rfl⟩ := hP
      rw [rangeD_length, List.length_map, show ((j.length : Int) - 0).toNat = j.length by omega] at rd
      walk_at "run"
      rw [List.length_map]
      refine s_rtD l (q _ ?_)
      have hk : kidsZ (j.take j.length) ++ sendsZ ((stepsZ j j.length).take 0) = kidsZ j := by simp [sendsZ]
      have h1' := congrArg List.length rd.ks
      rw [hk, List.length_map, List.length_map] at h1'
      have nd := rd.nd
      have bd := rd.bd
      rw [hk] at nd bd
      rw [h1', jobD_enc, jobZ_len h1 h12 hw (fun i w e => rd.up i w (List.getElem?_eq_some_iff.mp e).1 e) bd nd, beq_iff_eq]
      omega

/-! ### things made beside a feed (k01) -/
def rmA (G : DG) (a : Addr) : DG := fun p => if p = a then none else G p
theorem rmA_le {G G' : DG} {a : Addr} (l : Le G G') : Le (rmA G a) (rmA G' a) := fun p o h => by
  unfold rmA at h ⊢
  by_cases e : p = a
  · rw [if_pos e] at h; cases h
  · rw [if_neg e] at h ⊢; exact l p o h
theorem rmA_feed {G : DG} {a : Addr} {o : O} : rmA (up G a o) a = rmA G a := by
  funext p
  unfold rmA
  by_cases e : p = a
  · rw [if_pos e, if_pos e]
  · rw [if_neg e, if_neg e, up_ne e]
theorem rmA_sub {G : DG} {a : Addr} : Le (rmA G a) G := fun p o h => by
  unfold rmA at h
  by_cases e : p = a
  · rw [if_pos e] at h; cases h
  · rw [if_neg e] at h; exact h
theorem rmA_at {G : DG} {a p : Addr} {o : O} (h : G p = some o) (hn : a ≠ p) : rmA G a p = some o := by
  unfold rmA
  rw [if_neg (fun e => hn e.symm)]
  exact h
def TZ (a : Addr) (n b : Nat) (G : DG) (d : D) : Prop := Th n b (rmA G a) d ∧ TyS (rmA G a) d
theorem TZ.le {a : Addr} {n b : Nat} {G G' : DG} {d : D} (h : TZ a n b G d) (l : Le G G') : TZ a n b G' d := ⟨h.1.le (rmA_le l), h.2.len (rmA_le l).n⟩
theorem TZ.feed {a : Addr} {n b : Nat} {G : DG} {d : D} {o : O} (h : TZ a n b G d) : TZ a n b (up G a o) d := by
  unfold TZ
  rw [rmA_feed]
  exact h
theorem TZ.mono {a : Addr} {n b n' b' : Nat} {G : DG} {d : D} (h : TZ a n b G d) (hn : n ≤ n') (hb : b ≤ b') : TZ a n' b' G d := ⟨h.1.mono hn hb, h.2⟩
theorem TZ.ty {a : Addr} {n b : Nat} {G : DG} {d : D} (h : TZ a n b G d) : TyS G d := h.2.len rmA_sub.n
theorem TZ.th {a : Addr} {n b : Nat} {G : DG} {d : D} (h : TZ a n b G d) : Th n b G d := h.1.le rmA_sub
variable {a : Addr} {G : DG} {n b k : Nat}
theorem tz_int {i : Int} (h : i.natAbs < 10 ^ 31) : TZ a 0 0 G (.int i) := ⟨th_int h _, .leaf (t := "int") rfl (by decide) (fun _ e => by cases e)⟩
theorem tz_non : TZ a 0 0 G .non := ⟨th_non _, .leaf (t := "NoneType") rfl (by decide) (fun _ e => by cases e)⟩
theorem tz_bl {v : Bool} : TZ a 0 0 G (.bl v) := ⟨th_bl v _, .leaf (t := "bool") rfl (by decide) (fun _ e => by cases e)⟩
theorem tz_str {x : Str} (h : ((TL.tl x).all fun c => decide (c < 128)) = true) : TZ a 0 x.length G (.str x) := by
  have h' : ∀ c ∈ TL.tl x, c < 128 := fun c hc => by
    have := List.all_eq_true.mp h c hc
    simpa using this
  refine ⟨th_str h' _, .leaf (t := "str") rfl (by decide) (fun z e => ?_)⟩
  cases e
  unfold PyData.strOk
  rw [← Array.all_toList, List.all_eq_true]
  intro c hc
  have := h' c hc
  rw [decide_eq_true_eq]
  omega
theorem tz_tup {xs : List D} (h : ∀ x ∈ xs, TZ a n b G x) (hl : xs.length ≤ k) (hk : k ≤ 100) : TZ a (n + 1) (k * (b + 1)) G (.tup xs) := ⟨th_tup (fun x hx => (h x hx).1) hl, .tup (fun x hx => (h x hx).2) (by omega)⟩
theorem tz_tup0 : TZ a 1 0 G (.tup []) := (tz_tup (k := 0) (n := 0) (b := 0) (fun _ h => by cases h) (by simp) (by decide)).mono (by decide) (by decide)
theorem tz_lst {p : Addr} {xs : List D} (e : G p = some (.lst xs)) (hn : a ≠ p) (h : ∀ x ∈ xs, TZ a n b G x) (hl : xs.length ≤ k) : TZ a (n + 1) (k * (b + 1)) G (.ref p) := by
  have e := rmA_at e hn
  exact ⟨th_lst e (fun x hx => (h x hx).1) hl, .leaf (t := "list") (by simp [tyN, e]) (by decide) (fun _ e => by cases e)⟩
theorem tz_dic0 {p : Addr} (e : G p = some (.dK [])) (hn : a ≠ p) : TZ a 1 0 G (.ref p) := by
  have e := rmA_at e hn
  exact ⟨th_dic0 e, .leaf (t := "dict") (by simp [tyN, e]) (by decide) (fun _ e => by cases e)⟩
theorem th_dic1 {G : DG} {p : Addr} {i : Int} {d : D} (hi : i.natAbs < 10 ^ 31) (e : G p = some (.dK [(.inl i, d)])) (h : Th n b G d) : Th (n + 1) (b + 2) G (.ref p) := by
  obtain ⟨_, q, h1, h2⟩ := h
  have ki := okw_int hi
  refine ⟨.leaf (t := "dict") (by simp [tyN, e]) (by decide), .dict [(.int i, q)], ?_, ?_⟩
  · simp only [pyX, e, List.map_cons, List.map_nil, pyAll, h1, Option.map_some]
    rfl
  · have := h2.w
    have := ki.w
    refine ⟨?_, ?_, ?_⟩
    · show (((PyData.int i).showable && q.showable) && PyData.showableKv []) = true
      rw [ki.s, h2.s]
      rfl
    · show (((PyData.int i).leavesShort 33 && q.leavesShort 33) && PyData.leavesShortKv 33 []) = true
      rw [ki.l, h2.l]
      rfl
    · simp only [PyData.bulk, PyData.bulkKv] at *
      omega
theorem tz_dic1 {p : Addr} {i : Int} {d : D} (hi : i.natAbs < 10 ^ 31) (e : G p = some (.dK [(.inl i, d)])) (hn : a ≠ p) (h : TZ a n b G d) : TZ a (n + 1) (b + 2) G (.ref p) := by
  have e := rmA_at e hn
  exact ⟨th_dic1 hi e h.1, .leaf (t := "dict") (by simp [tyN, e]) (by decide) (fun _ e => by cases e)⟩
theorem tz_all0 : ∀ x ∈ ([] : List D), TZ a n b G x := fun _ h => by cases h
theorem tz_allc {x : D} {xs : List D} (h : TZ a n b G x) (t : ∀ y ∈ xs, TZ a n b G y) : ∀ y ∈ x :: xs, TZ a n b G y := fun y hy => by
  rcases List.mem_cons.mp hy with rfl | hy
  · exact h
  · exact t y hy
theorem tz_app {xs ys : List D} (h : ∀ y ∈ xs, TZ a n b G y) (t : ∀ y ∈ ys, TZ a n b G y) : ∀ y ∈ xs ++ ys, TZ a n b G y := fun y hy => by
  rcases List.mem_append.mp hy with hy | hy
  · exact h y hy
  · exact t y hy
theorem tz_step {s : Stp} (h : ∀ k, s = .send k → k < 1000) : TZ a 1 10 G (encStep s) := by
  cases s with
  | doo => exact (tz_tup (k := 1) (tz_allc (tz_str (by decide +kernel)) tz_all0) (by simp) (by decide)).mono (by decide) (by decide)
  | wait => exact (tz_tup (k := 1) (tz_allc (tz_str (by decide +kernel)) tz_all0) (by simp) (by decide)).mono (by decide) (by decide)
  | send k =>
    have hk := h k rfl
    exact (tz_tup (n := 0) (b := 4) (k := 2) (tz_allc (tz_str (by decide +kernel)) (tz_allc ((tz_int (by omega)).mono (by decide) (by decide)) tz_all0)) (by simp) (by decide)).mono (by decide) (by decide)
local macro_rules | `(tactic| walk_at "tz") => `(tactic| first | exact TZ.mono tz_non (by decide) (by decide) | exact TZ.mono tz_bl (by decide) (by decide) | exact TZ.mono (tz_int (by first | omega | decide | decide +kernel)) (by decide) (by decide) | exact TZ.mono (tz_str (by decide +kernel)) (by decide) (by decide) | exact TZ.mono tz_tup0 (by decide) (by decide) | exact TZ.mono (by assumption) (by decide) (by decide))
local macro_rules | `(tactic| walk_at "tzs") => `(tactic| repeat' (first | exact tz_all0 | refine tz_allc ?_ ?_))
def C_law_put : Ct := fun ds G Q _ => ∃ (xs : List D) (at' : Nat) (d : D), ds = [.tup xs, .int (at' : Nat), d] ∧ xs.length ≤ 100 ∧ Q (.tup (xs.take at' ++ [d] ++ xs.drop (at' + 1))) G
theorem len_law_put (ds G Q E) (h : C_law_put ds G Q E) : ds.length = 3 := by obtain ⟨_, _, _, rfl, _⟩ := h; rfl
abbrev N_law_put : List Str := ["things", "at", "thing"]
def T_law_put : DX → DS := fun E => (dRet (dOp addD (dOp addD (dSl (dVar 0) dNoPart (dPart (dVar 1))) (dTup (dCons (dVar 2) dNil))) (dSl (dVar 0) (dPart (dOp addD (dVar 1) (dC (.int 1)))) dNoPart)))
theorem run_law_put (ds G Q E) (h : C_law_put ds G Q E) : T_law_put E { nx := fun _ G' => DrK Q .non G', rt := DrK Q, bk := fun _ _ => False, ct := fun _ _ => False } (dstart N_law_put ds) G := by
  obtain ⟨xs, at', d, rfl, hl, q⟩ := h
  show T_law_put E _ [some (.tup xs), some (.int at'), some d] G
  unfold T_law_put
  walk_at "run"
  refine s_addT (szL (by rw [cutD_upto, List.length_take, List.length_singleton]; omega)) ?_
  walk_at "run"
  rw [show ((at' : Int) + 1) = ((at' + 1 : Nat) : Int) by omega]
  refine s_addT (szL (by rw [cutD_upto, cutD_from, List.length_append, List.length_take, List.length_singleton, List.length_drop]; omega)) ?_
  rw [cutD_upto, cutD_from]
  exact s_rt q
theorem rmA_feedL {G G' : DG} {a : Addr} {o : O} (l : Le (rmA G a) (rmA G' a)) : Le (rmA G a) (rmA (up G' a o) a) := by
  rw [rmA_feed]
  exact l
def C_law_bent_step : Ct := fun ds G Q _ => ∃ (a : Addr) (x y : Int) (many : Nat) (s : Stp), ds = [.ref a, .int (many : Nat), encStep s] ∧ G a = some (feed x y) ∧ FeedOk x y ∧ many ≤ 100 ∧ (∀ k, s = .send k → k < 1000) ∧
  ∀ d x' y' G', FeedOk x' y' → G' a = some (feed x' y') → Le (rmA G a) (rmA G' a) → TZ a 4 200 G' d → Q d G'
theorem len_law_bent_step (ds G Q E) (h : C_law_bent_step ds G Q E) : ds.length = 3 := by obtain ⟨_, _, _, _, _, rfl, _⟩ := h; rfl
abbrev N_law_bent_step : List Str := ["feed", "many", "step", "number", "far", "odd"]
def T_law_bent_step : DX → DS := fun E => (dSeq (dAsg (dIfE (dTest (dOp eqD (dCB lenD (dCons (dVar 2) dNil)) (dC (.int 2)))) (dOp itemD (dVar 2) (dUn negD (dC (.int 1)))) (dC (.int 1))) (dgName 3))
    (dSeq (dAsg (dLst (dCons (dC (.int 0)) (dCons (dVar 1) (dCons (dOp addD (dVar 3) (dC (.int 1))) (dCons (dOp subD (dVar 3) (dC (.int 1))) (dCons (dUn negD (dC (.int 1))) (dCons (dC (.bl true)) (dCons (dC .non) (dCons (dC (.str "1")) (dCons (dOp powD (dC (.int 10)) (dC (.int 29))) (dCons (dTup (dCons (dVar 3) dNil)) (dCons (dLst (dCons (dVar 3) dNil)) (dCons dDicK (dCons (dDisp [((dC (.int 1)), (dC (.int 2)))]) dNil)))))))))))))) (dgName 4))
    (dSeq (dAsg (dCall C_law_pick E (dCons (dVar 0) (dCons (dVar 4) dNil))) (dgName 4))
    (dSeq (dAsg (dLst (dCons (dTup (dCons (dC (.str "send")) (dCons (dVar 4) dNil))) (dCons (dTup (dCons (dC (.str "send")) dNil)) (dCons (dTup (dCons (dC (.str "do")) (dCons (dC (.int 0)) dNil))) (dCons (dTup (dCons (dC (.str "Do")) dNil)) (dCons (dTup (dCons (dC (.str "wait")) (dCons (dC (.int 1)) dNil))) (dCons (dTup (dCons (dC (.str "")) dNil)) (dCons (dTup dNil) (dCons (dLst (dCons (dC (.str "do")) dNil)) (dCons (dC .non) (dCons (dC (.str "do")) (dCons (dC (.int 5)) dNil)))))))))))) (dgName 5))
    (dSeq (dAsg (dOp addD (dVar 5) (dLst (dCons (dTup (dCons (dC (.str "send")) (dCons (dC (.int 1)) (dCons (dC (.int 2)) dNil)))) (dCons (dTup (dCons (dC (.str "do")) dNil)) (dCons (dTup (dCons (dC (.str "wait")) dNil)) (dCons (dTup (dCons (dC .non) dNil)) (dCons (dTup (dCons (dC (.int 1)) dNil)) (dCons (dTup (dCons (dC (.str "send")) (dCons (dVar 4) dNil))) (dCons (dTup (dCons (dC (.str "send")) (dCons (dVar 4) dNil))) (dCons (dLst (dCons (dVar 2) dNil)) (dCons (dTup (dCons (dTup (dCons (dC (.str "do")) dNil)) dNil)) dNil))))))))))) (dgName 5))
    (dSeq (dAsg (dOp addD (dVar 5) (dLst (dCons (dTup (dCons (dLst (dCons (dC (.str "do")) dNil)) dNil)) (dCons (dTup (dCons dDicK dNil)) (dCons (dTup (dCons dDicK (dCons (dC (.int 1)) dNil))) (dCons (dTup (dCons (dLst dNil) (dCons (dC (.int 1)) dNil))) (dCons (dCB listD (dCons (dVar 2) dNil)) (dCons (dCB listD (dCons (dVar 2) dNil)) (dCons (dTup (dCons (dTup (dCons (dC (.str "send")) dNil)) (dCons (dC (.int 1)) dNil))) dNil))))))))) (dgName 5))
    (dRet (dCall C_law_pick E (dCons (dVar 0) (dCons (dVar 5) dNil))))))))))
theorem run_law_bent_step (ds G Q E) (h : C_law_bent_step ds G Q E) : T_law_bent_step E { nx := fun _ G' => DrK Q .non G', rt := DrK Q, bk := fun _ _ => False, ct := fun _ _ => False } (dstart N_law_bent_step ds) G := by
  obtain ⟨a, x, y, many, s, rfl, ga, hf, hm, hs, q⟩ := h
  show T_law_bent_step E _ [some (.ref a), some (.int many), some (encStep s), none, none, none] G
  have ts : TZ a 1 10 G (encStep s) := tz_step hs
  have en : ∀ Q : DK, (∀ num : Int, num.natAbs < 2000 → Q (.int num) G) → dIfE (dTest (dOp eqD (dCB lenD (dCons (dVar 2) dNil)) (dC (.int 2)))) (dOp itemD (dVar 2) (dUn negD (dC (.int 1)))) (dC (.int 1)) [some (.ref a), some (.int many), some (encStep s), none, none, none] G Q := fun Q h => by
    cases s with
    | doo =>
      simp only [encStep]
      walk_at "run"
      exact h _ (by decide)
    | wait =>
      simp only [encStep]
      walk_at "run"
      exact h _ (by decide)
    | send k =>
      have hk := hs k rfl
      simp only [encStep]
      walk_at "run"
      refine br_tt (by simp) ?_
      walk_at "run"
      exact h _ (by omega)
  obtain ⟨sl, esl, hsl⟩ : ∃ sl, encStep s = .tup sl ∧ sl.length ≤ 2 := by cases s <;> exact ⟨_, rfl, by simp⟩
  have tsl : ∀ z ∈ sl, TZ a 0 10 G z := fun z hz => by
    cases s with
    | doo =>
      cases esl
      rw [List.mem_singleton.mp hz]
      exact (tz_str (by decide +kernel)).mono (by decide) (by decide)
    | wait =>
      cases esl
      rw [List.mem_singleton.mp hz]
      exact (tz_str (by decide +kernel)).mono (by decide) (by decide)
    | send k =>
      have hk := hs k rfl
      cases esl
      refine tz_allc ((tz_str (by decide +kernel)).mono (by decide) (by decide)) (tz_allc ((tz_int (by omega)).mono (by decide) (by decide)) tz_all0) z hz
  unfold T_law_bent_step
  refine s_seq (s_asg (en _ fun num hnum => ?_))
  clear en hs
  rw [esl] at ts ⊢
  walk_at "run"
  intro c1 hc1
  have nc1ga := gne ga hc1
  generalize eH1 : up _ c1 _ = H1
  have lH1 := new_l eH1 hc1
  have k1 := new_g eH1
  clear eH1
  replace ga := lH1 _ _ ga
  replace ts := ts.le lH1
  walk_at "run"
  intro c2 hc2
  have nc2ga := gne ga hc2
  have nc2k1 := gne k1 hc2
  generalize eH2 : up _ c2 _ = H2
  have lH2 := new_l eH2 hc2
  have k2 := new_g eH2
  clear eH2
  replace ga := lH2 _ _ ga
  replace k1 := lH2 _ _ k1
  replace ts := ts.le lH2
  walk_at "run"
  intro c3 hc3
  walk_at "run"
  refine ⟨.inl 1, rfl, ?_⟩
  walk_at "run"
  refine ⟨up_same, by decide, ?_⟩
  rw [up_up, show mergeKD [] [(Sum.inl 1, D.int 2)] = [(Sum.inl 1, D.int 2)] from rfl]
  have nc3ga := gne ga hc3
  have nc3k1 := gne k1 hc3
  have nc3k2 := gne k2 hc3
  generalize eH3 : up _ c3 _ = H3
  have lH3 := new_l eH3 hc3
  have k3 := new_g eH3
  clear eH3
  replace ga := lH3 _ _ ga
  replace k1 := lH3 _ _ k1
  replace k2 := lH3 _ _ k2
  replace ts := ts.le lH3
  walk_at "run"
  intro c4 hc4
  have nc4ga := gne ga hc4
  have nc4k1 := gne k1 hc4
  have nc4k2 := gne k2 hc4
  have nc4k3 := gne k3 hc4
  generalize eH4 : up _ c4 _ = H4
  have lH4 := new_l eH4 hc4
  have k4 := new_g eH4
  clear eH4
  replace ga := lH4 _ _ ga
  replace k1 := lH4 _ _ k1
  replace k2 := lH4 _ _ k2
  replace k3 := lH4 _ _ k3
  replace ts := ts.le lH4
  walk_at "run"
  have tc1 : TZ a 1 10 H4 (.ref c1) := (tz_lst (n := 0) (b := 0) (k := 1) k1 nc1ga (tz_allc (tz_int (by omega)) tz_all0) (by simp)).mono (by decide) (by decide)
  have tc2 : TZ a 1 10 H4 (.ref c2) := (tz_dic0 k2 nc2ga).mono (by decide) (by decide)
  have tc3 : TZ a 1 10 H4 (.ref c3) := (tz_dic1 (n := 0) (b := 0) (by decide) k3 nc3ga (tz_int (by decide))).mono (by decide) (by decide)
  have tt1 : TZ a 1 10 H4 (.tup [.int num]) := (tz_tup (n := 0) (b := 0) (k := 1) (tz_allc (tz_int (by omega)) tz_all0) (by simp) (by decide)).mono (by decide) (by decide)
  have hall : ∀ d ∈ [D.int 0, .int many, .int (num + 1), .int (num - 1), .int (-1), .bl true, .non, .str "1", .int (10 ^ Int.toNat 29), .tup [.int num], .ref c1, .ref c2, .ref c3], TZ a 1 10 H4 d := by
    walk_at "tzs"
    all_goals walk_at "tz"
  have lG : Le (rmA G a) (rmA H4 a) := rmA_le (lH1.trans (lH2.trans (lH3.trans lH4)))
  refine u_pick ga hf nc4ga k4 (by simp) (by simp) fun far x1 y1 hfar hf1 => ?_
  replace hfar : TZ a 1 10 (up H4 a (feed x1 y1)) far := (hall far hfar).feed
  replace ts : TZ a 1 10 (up H4 a (feed x1 y1)) (.tup sl) := ts.feed
  replace lG : Le (rmA G a) (rmA (up H4 a (feed x1 y1)) a) := rmA_feedL lG
  have ga2 : up H4 a (feed x1 y1) a = some (feed x1 y1) := up_same
  clear hall tc1 tc2 tc3 tt1 k1 k2 k3 k4 nc1ga nc2ga nc3ga nc4ga ga hf lH1 lH2 lH3 lH4
  generalize up H4 a (feed x1 y1) = G2 at *
  clear hm
  walk_at "run"
  intro c5 hc5
  have nc5ga2 := gne ga2 hc5
  generalize eH5 : up _ c5 _ = H5
  have lH5 := new_l eH5 hc5
  have k5 := new_g eH5
  clear eH5
  replace ga2 := lH5 _ _ ga2
  replace ts := ts.le lH5
  replace hfar := hfar.le lH5
  walk_at "run"
  intro c6 hc6
  have nc6ga2 := gne ga2 hc6
  have nc6k5 := gne k5 hc6
  generalize eH6 : up _ c6 _ = H6
  have lH6 := new_l eH6 hc6
  have k6 := new_g eH6
  clear eH6
  replace ga2 := lH6 _ _ ga2
  replace k5 := lH6 _ _ k5
  replace ts := ts.le lH6
  replace hfar := hfar.le lH6
  walk_at "run"
  intro c7 hc7
  have nc7ga2 := gne ga2 hc7
  have nc7k5 := gne k5 hc7
  have nc7k6 := gne k6 hc7
  generalize eH7 : up _ c7 _ = H7
  have lH7 := new_l eH7 hc7
  have k7 := new_g eH7
  clear eH7
  replace ga2 := lH7 _ _ ga2
  replace k5 := lH7 _ _ k5
  replace k6 := lH7 _ _ k6
  replace ts := ts.le lH7
  replace hfar := hfar.le lH7
  walk_at "run"
  intro c8 hc8
  have nc8ga2 := gne ga2 hc8
  have nc8k5 := gne k5 hc8
  have nc8k6 := gne k6 hc8
  have nc8k7 := gne k7 hc8
  generalize eH8 : up _ c8 _ = H8
  have lH8 := new_l eH8 hc8
  have k8 := new_g eH8
  clear eH8
  replace ga2 := lH8 _ _ ga2
  replace k5 := lH8 _ _ k5
  replace k6 := lH8 _ _ k6
  replace k7 := lH8 _ _ k7
  replace ts := ts.le lH8
  replace hfar := hfar.le lH8
  walk_at "run"
  intro c9 hc9
  have nc9ga2 := gne ga2 hc9
  have nc9k5 := gne k5 hc9
  have nc9k6 := gne k6 hc9
  have nc9k7 := gne k7 hc9
  have nc9k8 := gne k8 hc9
  generalize eH9 : up _ c9 _ = H9
  have lH9 := new_l eH9 hc9
  have k9 := new_g eH9
  clear eH9
  replace ga2 := lH9 _ _ ga2
  replace k5 := lH9 _ _ k5
  replace k6 := lH9 _ _ k6
  replace k7 := lH9 _ _ k7
  replace k8 := lH9 _ _ k8
  replace ts := ts.le lH9
  replace hfar := hfar.le lH9
  walk_at "run"
  intro d1 hd1
  have nd1ga2 := gne ga2 hd1
  have nd1k5 := gne k5 hd1
  have nd1k7 := gne k7 hd1
  have nd1k9 := gne k9 hd1
  generalize eH10 : up _ d1 _ = H10
  have lH10 := new_l eH10 hd1
  have j1 := new_g eH10
  clear eH10
  replace ga2 := lH10 _ _ ga2
  replace k5 := lH10 _ _ k5
  replace k7 := lH10 _ _ k7
  replace k9 := lH10 _ _ k9
  replace ts := ts.le lH10
  replace hfar := hfar.le lH10
  walk_at "run"
  intro d2 hd2
  have nd2ga2 := gne ga2 hd2
  have nd2k5 := gne k5 hd2
  have nd2k7 := gne k7 hd2
  have nd2k9 := gne k9 hd2
  have nd2j1 := gne j1 hd2
  generalize eH11 : up _ d2 _ = H11
  have lH11 := new_l eH11 hd2
  have j2 := new_g eH11
  clear eH11
  replace ga2 := lH11 _ _ ga2
  replace k5 := lH11 _ _ k5
  replace k7 := lH11 _ _ k7
  replace k9 := lH11 _ _ k9
  replace j1 := lH11 _ _ j1
  replace ts := ts.le lH11
  replace hfar := hfar.le lH11
  walk_at "run"
  intro d3 hd3
  have nd3ga2 := gne ga2 hd3
  have nd3k5 := gne k5 hd3
  have nd3k7 := gne k7 hd3
  have nd3k9 := gne k9 hd3
  have nd3j1 := gne j1 hd3
  have nd3j2 := gne j2 hd3
  generalize eH12 : up _ d3 _ = H12
  have lH12 := new_l eH12 hd3
  have j3 := new_g eH12
  clear eH12
  replace ga2 := lH12 _ _ ga2
  replace k5 := lH12 _ _ k5
  replace k7 := lH12 _ _ k7
  replace k9 := lH12 _ _ k9
  replace j1 := lH12 _ _ j1
  replace j2 := lH12 _ _ j2
  replace ts := ts.le lH12
  replace hfar := hfar.le lH12
  walk_at "run"
  intro d4 hd4
  have nd4ga2 := gne ga2 hd4
  have nd4k5 := gne k5 hd4
  have nd4k7 := gne k7 hd4
  have nd4k9 := gne k9 hd4
  have nd4j1 := gne j1 hd4
  have nd4j2 := gne j2 hd4
  have nd4j3 := gne j3 hd4
  generalize eH13 : up _ d4 _ = H13
  have lH13 := new_l eH13 hd4
  have j4 := new_g eH13
  clear eH13
  replace ga2 := lH13 _ _ ga2
  replace k5 := lH13 _ _ k5
  replace k7 := lH13 _ _ k7
  replace k9 := lH13 _ _ k9
  replace j1 := lH13 _ _ j1
  replace j2 := lH13 _ _ j2
  replace j3 := lH13 _ _ j3
  replace ts := ts.le lH13
  replace hfar := hfar.le lH13
  walk_at "run"
  intro d5 hd5
  have nd5ga2 := gne ga2 hd5
  have nd5k5 := gne k5 hd5
  have nd5k7 := gne k7 hd5
  have nd5k9 := gne k9 hd5
  have nd5j1 := gne j1 hd5
  have nd5j2 := gne j2 hd5
  have nd5j3 := gne j3 hd5
  have nd5j4 := gne j4 hd5
  generalize eH14 : up _ d5 _ = H14
  have lH14 := new_l eH14 hd5
  have j5 := new_g eH14
  clear eH14
  replace ga2 := lH14 _ _ ga2
  replace k5 := lH14 _ _ k5
  replace k7 := lH14 _ _ k7
  replace k9 := lH14 _ _ k9
  replace j1 := lH14 _ _ j1
  replace j2 := lH14 _ _ j2
  replace j3 := lH14 _ _ j3
  replace j4 := lH14 _ _ j4
  replace ts := ts.le lH14
  replace hfar := hfar.le lH14
  walk_at "run"
  intro d6 hd6
  have nd6ga2 := gne ga2 hd6
  have nd6k5 := gne k5 hd6
  have nd6k7 := gne k7 hd6
  have nd6k9 := gne k9 hd6
  have nd6j1 := gne j1 hd6
  have nd6j2 := gne j2 hd6
  have nd6j3 := gne j3 hd6
  have nd6j4 := gne j4 hd6
  have nd6j5 := gne j5 hd6
  generalize eH15 : up _ d6 _ = H15
  have lH15 := new_l eH15 hd6
  have j6 := new_g eH15
  clear eH15
  replace ga2 := lH15 _ _ ga2
  replace k5 := lH15 _ _ k5
  replace k7 := lH15 _ _ k7
  replace k9 := lH15 _ _ k9
  replace j1 := lH15 _ _ j1
  replace j2 := lH15 _ _ j2
  replace j3 := lH15 _ _ j3
  replace j4 := lH15 _ _ j4
  replace j5 := lH15 _ _ j5
  replace ts := ts.le lH15
  replace hfar := hfar.le lH15
  walk_at "run"
  intro d7 hd7
  have nd7ga2 := gne ga2 hd7
  have nd7k5 := gne k5 hd7
  have nd7k7 := gne k7 hd7
  have nd7k9 := gne k9 hd7
  have nd7j1 := gne j1 hd7
  have nd7j2 := gne j2 hd7
  have nd7j3 := gne j3 hd7
  have nd7j4 := gne j4 hd7
  have nd7j5 := gne j5 hd7
  have nd7j6 := gne j6 hd7
  generalize eH16 : up _ d7 _ = H16
  have lH16 := new_l eH16 hd7
  have j7 := new_g eH16
  clear eH16
  replace ga2 := lH16 _ _ ga2
  replace k5 := lH16 _ _ k5
  replace k7 := lH16 _ _ k7
  replace k9 := lH16 _ _ k9
  replace j1 := lH16 _ _ j1
  replace j2 := lH16 _ _ j2
  replace j3 := lH16 _ _ j3
  replace j4 := lH16 _ _ j4
  replace j5 := lH16 _ _ j5
  replace j6 := lH16 _ _ j6
  replace ts := ts.le lH16
  replace hfar := hfar.le lH16
  walk_at "run"
  intro d8 hd8
  have nd8ga2 := gne ga2 hd8
  have nd8k5 := gne k5 hd8
  have nd8k7 := gne k7 hd8
  have nd8k9 := gne k9 hd8
  have nd8j1 := gne j1 hd8
  have nd8j2 := gne j2 hd8
  have nd8j3 := gne j3 hd8
  have nd8j4 := gne j4 hd8
  have nd8j5 := gne j5 hd8
  have nd8j6 := gne j6 hd8
  generalize eH17 : up _ d8 _ = H17
  have lH17 := new_l eH17 hd8
  have j8 := new_g eH17
  clear eH17
  replace ga2 := lH17 _ _ ga2
  replace k5 := lH17 _ _ k5
  replace k7 := lH17 _ _ k7
  replace k9 := lH17 _ _ k9
  replace j1 := lH17 _ _ j1
  replace j2 := lH17 _ _ j2
  replace j3 := lH17 _ _ j3
  replace j4 := lH17 _ _ j4
  replace j5 := lH17 _ _ j5
  replace j6 := lH17 _ _ j6
  replace ts := ts.le lH17
  replace hfar := hfar.le lH17
  have lT := lH5.trans (lH6.trans (lH7.trans (lH8.trans (lH9.trans (lH10.trans (lH11.trans (lH12.trans (lH13.trans (lH14.trans (lH15.trans (lH16.trans lH17)))))))))))
  have t5 : TZ a 2 30 H17 (.ref c5) := (tz_lst (n := 0) (b := 10) (k := 1) k5 nc5ga2 (by walk_at "tzs"; all_goals walk_at "tz") (by simp)).mono (by decide) (by decide)
  have t7 : TZ a 2 30 H17 (.ref c7) := (tz_lst (n := 1) (b := 10) (k := 1) k7 nc7ga2 (by walk_at "tzs"; all_goals walk_at "tz") (by simp)).mono (by decide) (by decide)
  have t1 : TZ a 2 30 H17 (.ref d1) := (tz_lst (n := 0) (b := 10) (k := 1) j1 nd1ga2 (by walk_at "tzs"; all_goals walk_at "tz") (by simp)).mono (by decide) (by decide)
  have t2 : TZ a 2 30 H17 (.ref d2) := (tz_dic0 j2 nd2ga2).mono (by decide) (by decide)
  have t3 : TZ a 2 30 H17 (.ref d3) := (tz_dic0 j3 nd3ga2).mono (by decide) (by decide)
  have t4 : TZ a 2 30 H17 (.ref d4) := (tz_lst (n := 0) (b := 0) (k := 0) j4 nd4ga2 tz_all0 (by simp)).mono (by decide) (by decide)
  have tsl2 : ∀ z ∈ sl, TZ a 0 10 H17 z := fun z hz => by
    have h := tsl z hz
    exact ⟨h.1.le (fun p o e => rmA_le lT p o (lG p o e)), h.2.len (fun p o _ e => rmA_le lT p o (lG p o e))⟩
  have t5' : TZ a 2 30 H17 (.ref d5) := (tz_lst (n := 0) (b := 10) (k := 2) j5 nd5ga2 tsl2 hsl).mono (by decide) (by decide)
  have t6 : TZ a 2 30 H17 (.ref d6) := (tz_lst (n := 0) (b := 10) (k := 2) j6 nd6ga2 tsl2 hsl).mono (by decide) (by decide)
  have u1 : ∀ {z : D}, TZ a 2 30 H17 z → TZ a 3 100 H17 (.tup [z]) := fun h => (tz_tup (k := 1) (tz_allc h tz_all0) (by simp) (by decide)).mono (by decide) (by decide)
  have u2 : ∀ {z w : D}, TZ a 2 30 H17 z → TZ a 2 30 H17 w → TZ a 3 100 H17 (.tup [z, w]) := fun h h2 => (tz_tup (k := 2) (tz_allc h (tz_allc h2 tz_all0)) (by simp) (by decide)).mono (by decide) (by decide)
  have u3 : ∀ {z w v : D}, TZ a 2 30 H17 z → TZ a 2 30 H17 w → TZ a 2 30 H17 v → TZ a 3 100 H17 (.tup [z, w, v]) := fun h h2 h3 => (tz_tup (k := 3) (tz_allc h (tz_allc h2 (tz_allc h3 tz_all0))) (by simp) (by decide)).mono (by decide) (by decide)
  have v1 : ∀ {z : D}, TZ a 0 10 H17 z → TZ a 2 30 H17 (.tup [z]) := fun h => (tz_tup (k := 1) (tz_allc h tz_all0) (by simp) (by decide)).mono (by decide) (by decide)
  have hall : ∀ d ∈ [D.tup [.str "send", far], .tup [.str "send"], .tup [.str "do", .int 0], .tup [.str "Do"], .tup [.str "wait", .int 1], .tup [.str ""], .tup [], .ref c5, .non, .str "do", .int 5] ++ [D.tup [.str "send", .int 1, .int 2], .tup [.str "do"], .tup [.str "wait"], .tup [.non], .tup [.int 1], .tup [.str "send", far], .tup [.str "send", far], .ref c7, .tup [.tup [.str "do"]]] ++
      [D.tup [.ref d1], .tup [.ref d2], .tup [.ref d3, .int 1], .tup [.ref d4, .int 1], .ref d5, .ref d6, .tup [.tup [.str "send"], .int 1]], TZ a 3 100 H17 d := by
    refine tz_app (tz_app ?_ ?_) ?_
    all_goals
      walk_at "tzs"
    all_goals first
      | walk_at "tz"
      | (refine u1 ?_; walk_at "tz")
      | (refine u2 ?_ ?_ <;> walk_at "tz")
      | (refine u3 ?_ ?_ ?_ <;> walk_at "tz")
      | (refine u1 (v1 ?_); walk_at "tz")
      | (refine u2 (v1 ?_) ?_ <;> walk_at "tz")
  walk_at "run"
  refine u_pick ga2 hf1 nd8ga2 j8 (by simp) (by simp) fun odd x2 y2 hodd hf2 => ?_
  refine s_rt (q odd x2 y2 _ hf2 up_same (rmA_feedL (fun p o h => rmA_le lT p o (lG p o h))) ((hall odd hodd).feed.mono (by decide) (by decide)))

/-! ### works and jobs bent (k01) -/
local macro_rules | `(tactic| walk_at "tz") => `(tactic| first | exact TZ.mono tz_non (by decide) (by decide) | exact TZ.mono tz_bl (by decide) (by decide) | exact TZ.mono (tz_int (by first | omega | decide | decide +kernel)) (by decide) (by decide) | exact TZ.mono (tz_str (by decide +kernel)) (by decide) (by decide) | exact TZ.mono tz_tup0 (by decide) (by decide) | exact TZ.mono (by assumption) (by decide) (by decide))
local macro_rules | `(tactic| walk_at "tzs") => `(tactic| repeat' (first | exact tz_all0 | refine tz_allc ?_ ?_))
variable {a : Addr} {G : DG} {n b k : Nat}
theorem tz_t1 {z : D} (h : TZ a n b G z) : TZ a (n + 1) (b + 1) G (.tup [z]) := (tz_tup (k := 1) (tz_allc h tz_all0) (by simp) (by decide)).mono (by omega) (by omega)
theorem tz_t2 {z w : D} (h : TZ a n b G z) (h2 : TZ a n b G w) : TZ a (n + 1) (2 * (b + 1)) G (.tup [z, w]) := tz_tup (k := 2) (tz_allc h (tz_allc h2 tz_all0)) (by simp) (by decide)
theorem tz_t3 {z w v : D} (h : TZ a n b G z) (h2 : TZ a n b G w) (h3 : TZ a n b G v) : TZ a (n + 1) (3 * (b + 1)) G (.tup [z, w, v]) := tz_tup (k := 3) (tz_allc h (tz_allc h2 (tz_allc h3 tz_all0))) (by simp) (by decide)
theorem nat_of {r m : Int} (h0 : 0 ≤ r) (h1 : r < m) : ∃ k : Nat, r = (k : Int) ∧ (k : Int) < m := ⟨r.toNat, by omega, by omega⟩
structure WkJ (w : Work) : Prop where
  r : 1 ≤ w.1 ∧ w.1 ≤ 9
  l : 1 ≤ w.2.length ∧ w.2.length ≤ 8
  s : ∀ s ∈ w.2, ∀ k, s = .send k → k < 1000
theorem tz_steps {ss : List Stp} (h : ∀ s ∈ ss, ∀ k, s = .send k → k < 1000) : ∀ z ∈ ss.map encStep, TZ a 1 10 G z := fun z hz => by
  obtain ⟨s, hs, rfl⟩ := List.mem_map.mp hz
  exact tz_step (h s hs)
theorem tz_work {w : Work} (h : WkJ w) : TZ a 3 200 G (encWork w) := by
  have r := h.r
  exact tz_t2 (n := 2) (b := 99) (tz_int (by omega) |>.mono (by decide) (by decide)) ((tz_tup (k := 8) (tz_steps h.s) (by rw [List.length_map]; exact h.l.2) (by decide)).mono (by decide) (by decide))
def C_law_bent_work : Ct := fun ds G Q _ => ∃ (a : Addr) (x y : Int) (many : Nat) (w : Work), ds = [.ref a, .int (many : Nat), encWork w] ∧ G a = some (feed x y) ∧ FeedOk x y ∧ many ≤ 100 ∧ WkJ w ∧
  ∀ d x' y' G', FeedOk x' y' → G' a = some (feed x' y') → Le (rmA G a) (rmA G' a) → TZ a 6 11000 G' d → Q d G'
theorem len_law_bent_work (ds G Q E) (h : C_law_bent_work ds G Q E) : ds.length = 3 := by obtain ⟨_, _, _, _, _, rfl, _⟩ := h; rfl
abbrev N_law_bent_work : List Str := ["feed", "many", "work", "way", "room", "steps", "at", "odd"]
def T_law_bent_work : DX → DS := fun E => (dSeq (dAsg (dCall C_law_take E (dCons (dVar 0) (dCons (dC (.int 8)) dNil))) (dgName 3))
    (dSeq (dAsg (dVar 2) (dgTup 2 (dgCons (dgName 4) (dgCons (dgName 5) dgNil))))
    (dSeq (dAsg (dCall C_law_take E (dCons (dVar 0) (dCons (dCB lenD (dCons (dVar 5) dNil)) dNil))) (dgName 6))
    (dSeq (dIf (dTest (dOp ltD (dVar 3) (dC (.int 3)))) (dRet (dTup (dCons (dVar 4) (dCons (dCall C_law_put E (dCons (dVar 5) (dCons (dVar 6) (dCons (dCall C_law_bent_step E (dCons (dVar 0) (dCons (dVar 1) (dCons (dOp itemD (dVar 5) (dVar 6)) dNil)))) dNil)))) dNil)))) dNext)
    (dSeq (dIf (dTest (dOp eqD (dVar 3) (dC (.int 3)))) (dSeq (dAsg (dLst (dCons (dC (.int 0)) (dCons (dC (.int 10)) (dCons (dUn negD (dC (.int 1))) (dCons (dC (.bl true)) (dCons (dC .non) (dCons (dC (.str "1")) (dCons (dOp powD (dC (.int 10)) (dC (.int 20))) (dCons (dTup (dCons (dC (.int 1)) dNil)) (dCons (dLst (dCons (dC (.int 1)) dNil)) (dCons dDicK (dCons (dC (.int 9)) (dCons (dC (.int 1)) (dCons (dOp addD (dC (.int 10)) (dCall C_law_take E (dCons (dVar 0) (dCons (dC (.int 20)) dNil)))) (dCons (dUn negD (dCall C_law_take E (dCons (dVar 0) (dCons (dC (.int 9)) dNil)))) dNil))))))))))))))) (dgName 7))
    (dSeq (dAsg (dCall C_law_pick E (dCons (dVar 0) (dCons (dVar 7) dNil))) (dgName 4))
    (dRet (dTup (dCons (dVar 4) (dCons (dVar 5) dNil)))))) dNext)
    (dSeq (dIf (dTest (dOp eqD (dVar 3) (dC (.int 4)))) (dRet (dTup (dCons (dVar 4) (dCons (dOp addD (dOp addD (dSl (dVar 5) dNoPart (dPart (dVar 6))) (dTup (dCons (dCall C_law_pick E (dCons (dVar 0) (dCons (dLst (dCons (dOp itemD (dVar 5) (dVar 6)) (dCons (dTup (dCons (dC (.str "do")) dNil)) (dCons (dTup (dCons (dC (.str "wait")) dNil)) dNil)))) dNil))) dNil))) (dSl (dVar 5) (dPart (dVar 6)) dNoPart)) dNil)))) dNext)
    (dSeq (dIf (dTest (dOp eqD (dVar 3) (dC (.int 5)))) (dRet (dTup (dCons (dVar 4) (dCons (dOp addD (dSl (dVar 5) dNoPart (dPart (dVar 6))) (dSl (dVar 5) (dPart (dOp addD (dVar 6) (dC (.int 1)))) dNoPart)) dNil)))) dNext)
    (dSeq (dIf (dTest (dOp eqD (dVar 3) (dC (.int 6)))) (dRet (dTup (dCons (dVar 4) (dCons (dSl (dOp addD (dVar 5) (dOp mulD (dTup (dCons (dTup (dCons (dC (.str "do")) dNil)) dNil)) (dC (.int 9)))) dNoPart (dPart (dCall C_law_pick E (dCons (dVar 0) (dCons (dLst (dCons (dC (.int 8)) (dCons (dC (.int 9)) (dCons (dC (.int 7)) (dCons (dC (.int 10)) (dCons (dC (.int 16)) dNil)))))) dNil))))) dNil)))) dNext)
    (dSeq (dAsg (dLst (dCons (dTup (dCons (dVar 4) (dCons (dCB listD (dCons (dVar 5) dNil)) dNil))) (dCons (dLst (dCons (dVar 4) (dCons (dVar 5) dNil))) (dCons (dTup (dCons (dVar 4) dNil)) (dCons (dTup (dCons (dVar 4) (dCons (dVar 5) (dCons (dC (.int 0)) dNil)))) (dCons (dTup (dCons (dVar 5) (dCons (dVar 4) dNil))) (dCons (dC .non) (dCons (dC (.int 7)) (dCons (dC (.str "work")) dNil))))))))) (dgName 7))
    (dRet (dCall C_law_pick E (dCons (dVar 0) (dCons (dOp addD (dVar 7) (dLst (dCons (dTup (dCons (dVar 4) (dCons (dTup dNil) dNil))) (dCons (dTup (dCons (dVar 4) (dCons (dC .non) dNil))) (dCons (dTup (dCons (dVar 4) (dCons (dC (.str "do")) dNil))) (dCons (dTup dNil) (dCons (dTup (dCons (dVar 4) (dCons (dTup (dCons (dVar 5) dNil)) dNil))) dNil))))))) dNil)))))))))))))
theorem run_law_bent_work (ds G Q E) (h : C_law_bent_work ds G Q E) : T_law_bent_work E { nx := fun _ G' => DrK Q .non G', rt := DrK Q, bk := fun _ _ => False, ct := fun _ _ => False } (dstart N_law_bent_work ds) G := by
  obtain ⟨a, x, y, many, w, rfl, ga, hf, hm, hw, q⟩ := h
  show T_law_bent_work E _ [some (.ref a), some (.int many), some (encWork w), none, none, none, none, none] G
  have hr := hw.r
  have hl := hw.l
  have ts0 : ∀ G : DG, ∀ z ∈ w.2.map encStep, TZ a 1 10 G z := fun G => tz_steps hw.s
  have hlen : (w.2.map encStep).length = w.2.length := List.length_map _
  unfold T_law_bent_work encWork
  walk_at "run"
  refine u_take ga hf (by decide) (by decide) fun way x1 y1 w0 w1 hf1 => ?_
  have ga1 : up G a (feed x1 y1) a = some (feed x1 y1) := up_same
  have l1 : Le (rmA G a) (rmA (up G a (feed x1 y1)) a) := rmA_feedL (.refl _)
  clear ga hf
  generalize up G a (feed x1 y1) = G1 at *
  walk_at "run"
  rw [hlen]
  refine u_take ga1 hf1 (by omega) (by omega) fun r x2 y2 r0 r1 hf2 => ?_
  obtain ⟨at', rfl, hat⟩ := nat_of r0 r1
  have hat : at' < w.2.length := by omega
  have ga2 : up G1 a (feed x2 y2) a = some (feed x2 y2) := up_same
  have l2 : Le (rmA G a) (rmA (up G1 a (feed x2 y2)) a) := rmA_feedL l1
  clear ga1 hf1 l1
  generalize up G1 a (feed x2 y2) = G2 at *
  obtain ⟨s, es, hsm⟩ : ∃ s, w.2[at']? = some s ∧ s ∈ w.2 := ⟨w.2[at'], List.getElem?_eq_getElem hat, List.getElem_mem hat⟩
  have ea : (w.2.map encStep)[at']? = some (encStep s) := by rw [List.getElem?_map, es]; rfl
  have hss := hw.s s hsm
  walk_at "run"
  refine br_dec (fun h3 => ?_) (fun h3 => ?_)
  · walk_at "run"
    refine UpC.of ⟨a, x2, y2, many, s, rfl, ga2, hf2, hm, hss, fun d x3 y3 G3 hf3 ga3 l3 td => ?_⟩
    walk_at "run"
    refine UpC.of ⟨_, at', d, rfl, by omega, ?_⟩
    walk_at "run"
    refine s_rt (q _ x3 y3 G3 hf3 ga3 (l2.trans l3) ((tz_t2 (n := 5) (b := 4000) ((tz_int (by omega)).mono (by decide) (by decide)) ((tz_tup (n := 4) (b := 200) (k := 9) ?_ (by rw [List.length_append, List.length_append, List.length_take, List.length_drop, List.length_singleton]; omega) (by decide)).mono (by decide) (by decide))).mono (by decide) (by decide)))
    exact tz_app (tz_app (fun z hz => (ts0 G3 z (List.mem_of_mem_take hz)).mono (by decide) (by decide)) (tz_allc td tz_all0)) (fun z hz => (ts0 G3 z (List.mem_of_mem_drop hz)).mono (by decide) (by decide))
  walk_at "run"
  have hsteps : ∀ G : DG, TZ a 2 99 G (.tup (w.2.map encStep)) := fun G => (tz_tup (k := 8) (ts0 G) (by omega) (by decide)).mono (by decide) (by decide)
  refine br_dec (fun h4 => ?_) (fun h4 => ?_)
  · walk_at "run"
    intro c1 hc1
    have nc1ga2 := gne ga2 hc1
    generalize eH1 : up _ c1 _ = H1
    have lH1 := new_l eH1 hc1
    have k1 := new_g eH1
    clear eH1
    replace ga2 := lH1 _ _ ga2
    walk_at "run"
    intro c2 hc2
    have nc2ga2 := gne ga2 hc2
    have nc2k1 := gne k1 hc2
    generalize eH2 : up _ c2 _ = H2
    have lH2 := new_l eH2 hc2
    have k2 := new_g eH2
    clear eH2
    replace ga2 := lH2 _ _ ga2
    replace k1 := lH2 _ _ k1
    walk_at "run"
    refine u_take ga2 hf2 (by decide) (by decide) fun r3 x3 y3 r30 r31 hf3 => ?_
    have ga3 : up H2 a (feed x3 y3) a = some (feed x3 y3) := up_same
    have m1 : up H2 a (feed x3 y3) c1 = some (.lst [.int 1]) := up_nx (Ne.symm nc1ga2) k1
    have m2 : up H2 a (feed x3 y3) c2 = some (.dK []) := up_nx (Ne.symm nc2ga2) k2
    have l3 : Le (rmA G a) (rmA (up H2 a (feed x3 y3)) a) := rmA_feedL (fun p o h => rmA_le (lH1.trans lH2) p o (l2 p o h))
    clear k1 k2 lH1 lH2 ga2 l2
    generalize up H2 a (feed x3 y3) = G3 at *
    walk_at "run"
    refine u_take ga3 hf3 (by decide) (by decide) fun r4 x4 y4 r40 r41 hf4 => ?_
    have ga4 : up G3 a (feed x4 y4) a = some (feed x4 y4) := up_same
    have n1 : up G3 a (feed x4 y4) c1 = some (.lst [.int 1]) := up_nx (Ne.symm nc1ga2) m1
    have n2 : up G3 a (feed x4 y4) c2 = some (.dK []) := up_nx (Ne.symm nc2ga2) m2
    have l4 : Le (rmA G a) (rmA (up G3 a (feed x4 y4)) a) := rmA_feedL l3
    clear m1 m2 ga3 l3
    generalize up G3 a (feed x4 y4) = G4 at *
    walk_at "run"
    intro c3 hc3
    have nc3ga4 := gne ga4 hc3
    have nc3n1 := gne n1 hc3
    have nc3n2 := gne n2 hc3
    generalize eH3 : up _ c3 _ = H3
    have lH3 := new_l eH3 hc3
    have k3 := new_g eH3
    clear eH3
    replace ga4 := lH3 _ _ ga4
    replace n1 := lH3 _ _ n1
    replace n2 := lH3 _ _ n2
    have t1 : TZ a 1 10 H3 (.ref c1) := (tz_lst (n := 0) (b := 0) (k := 1) n1 nc1ga2 (tz_allc (tz_int (by decide)) tz_all0) (by simp)).mono (by decide) (by decide)
    have t2 : TZ a 1 10 H3 (.ref c2) := (tz_dic0 n2 nc2ga2).mono (by decide) (by decide)
    have t3 : TZ a 1 10 H3 (.tup [.int 1]) := (tz_t1 (n := 0) (b := 0) (tz_int (by decide))).mono (by decide) (by decide)
    walk_at "run"
    refine u_pick ga4 hf4 nc3ga4 k3 (by simp) (by simp) fun rm x5 y5 hrm hf5 => ?_
    have trm : TZ a 1 10 H3 rm := by
      refine (show ∀ z ∈ _, TZ a 1 10 H3 z from ?_) rm hrm
      walk_at "tzs"
      all_goals walk_at "tz"
    replace trm : TZ a 1 10 (up H3 a (feed x5 y5)) rm := trm.feed
    walk_at "run"
    exact s_rt (q _ x5 y5 _ hf5 up_same (rmA_feedL fun p o h => rmA_le lH3 p o (l4 p o h)) ((tz_t2 (n := 2) (b := 99) (trm.mono (by decide) (by decide)) (hsteps _)).mono (by decide) (by decide)))
  walk_at "run"
  refine br_dec (fun h5 => ?_) (fun h5 => ?_)
  · walk_at "run"
    intro c1 hc1
    have nc1ga2 := gne ga2 hc1
    generalize eH1 : up _ c1 _ = H1
    have lH1 := new_l eH1 hc1
    have k1 := new_g eH1
    clear eH1
    replace ga2 := lH1 _ _ ga2
    walk_at "run"
    refine u_pick ga2 hf2 nc1ga2 k1 (by simp) (by simp) fun st x5 y5 hst hf5 => ?_
    have ts := tz_step (a := a) (G := H1) hss
    have td : TZ a 1 10 H1 (.tup [.str "do"]) := (tz_t1 (tz_str (by decide +kernel))).mono (by decide) (by decide)
    have tw : TZ a 1 10 H1 (.tup [.str "wait"]) := (tz_t1 (tz_str (by decide +kernel))).mono (by decide) (by decide)
    have trm : TZ a 1 10 H1 st := by
      refine (show ∀ z ∈ _, TZ a 1 10 H1 z from ?_) st hst
      walk_at "tzs"
      all_goals walk_at "tz"
    replace trm : TZ a 1 10 (up H1 a (feed x5 y5)) st := trm.feed
    walk_at "run"
    rw [cutD_upto]
    refine s_addT (szL (by rw [List.length_take, List.length_singleton]; omega)) ?_
    walk_at "run"
    rw [cutD_from]
    refine s_addT (szL (by rw [List.length_append, List.length_take, List.length_singleton, List.length_drop]; omega)) ?_
    walk_at "run"
    refine s_rt (q _ x5 y5 _ hf5 up_same (rmA_feedL fun p o h => rmA_le lH1 p o (l2 p o h)) ((tz_t2 (n := 2) (b := 120) ((tz_int (by omega)).mono (by decide) (by decide)) ((tz_tup (n := 1) (b := 10) (k := 9) (tz_app (tz_app (fun z hz => ts0 _ z (List.mem_of_mem_take hz)) (tz_allc trm tz_all0)) (fun z hz => ts0 _ z (List.mem_of_mem_drop hz))) (by rw [List.length_append, List.length_append, List.length_take, List.length_drop, List.length_singleton]; omega) (by decide)).mono (by decide) (by decide))).mono (by decide) (by decide)))
  walk_at "run"
  refine br_dec (fun h6 => ?_) (fun h6 => ?_)
  · walk_at "run"
    rw [cutD_upto, show ((at' : Int) + 1) = ((at' + 1 : Nat) : Int) by omega, cutD_from]
    refine s_addT (szL (by rw [List.length_take, List.length_drop]; omega)) ?_
    walk_at "run"
    refine s_rt (q _ x2 y2 _ hf2 ga2 l2 ((tz_t2 (n := 2) (b := 120) ((tz_int (by omega)).mono (by decide) (by decide)) ((tz_tup (n := 1) (b := 10) (k := 9) (tz_app (fun z hz => ts0 _ z (List.mem_of_mem_take hz)) (fun z hz => ts0 _ z (List.mem_of_mem_drop hz))) (by rw [List.length_append, List.length_take, List.length_drop]; omega) (by decide)).mono (by decide) (by decide))).mono (by decide) (by decide)))
  walk_at "run"
  refine br_dec (fun h7 => ?_) (fun h7 => ?_)
  · walk_at "run"
    refine s_mulT ⟨by simp, by decide, by decide, by simp⟩ ?_
    have hr9 : (List.replicate (9 : Int).toNat [D.tup [D.str "do"]]).flatten.length = 9 := by simp
    have t9 : ∀ G : DG, ∀ z ∈ (List.replicate (9 : Int).toNat [D.tup [D.str "do"]]).flatten, TZ a 1 10 G z := fun G z hz => by
      obtain ⟨l, hl, hz⟩ := List.mem_flatten.mp hz
      rw [List.eq_of_mem_replicate hl] at hz
      rw [List.mem_singleton.mp hz]
      exact (tz_t1 (tz_str (by decide +kernel))).mono (by decide) (by decide)
    generalize (List.replicate (9 : Int).toNat [D.tup [D.str "do"]]).flatten = R at *
    refine s_addT (szL (by omega)) ?_
    walk_at "run"
    intro c1 hc1
    have nc1ga2 := gne ga2 hc1
    generalize eH1 : up _ c1 _ = H1
    have lH1 := new_l eH1 hc1
    have k1 := new_g eH1
    clear eH1
    replace ga2 := lH1 _ _ ga2
    walk_at "run"
    refine u_pick ga2 hf2 nc1ga2 k1 (by simp) (by simp) fun st x5 y5 hst hf5 => ?_
    obtain ⟨n, rfl⟩ : ∃ n : Nat, st = .int (n : Nat) := by
      simp only [List.mem_cons, List.not_mem_nil, or_false] at hst
      rcases hst with rfl | rfl | rfl | rfl | rfl
      · exact ⟨8, rfl⟩
      · exact ⟨9, rfl⟩
      · exact ⟨7, rfl⟩
      · exact ⟨10, rfl⟩
      · exact ⟨16, rfl⟩
    walk_at "run"
    rw [cutD_upto]
    refine s_rt (q _ x5 y5 _ hf5 up_same (rmA_feedL fun p o h => rmA_le lH1 p o (l2 p o h)) ((tz_t2 (n := 2) (b := 200) ((tz_int (by omega)).mono (by decide) (by decide)) ((tz_tup (n := 1) (b := 10) (k := 17) (fun z hz => tz_app (ts0 _) (t9 _) z (List.mem_of_mem_take hz)) (by rw [List.length_take, List.length_append]; omega) (by decide)).mono (by decide) (by decide))).mono (by decide) (by decide)))
  walk_at "run"
  intro c1 hc1
  have nc1ga2 := gne ga2 hc1
  generalize eH1 : up _ c1 _ = H1
  have lH1 := new_l eH1 hc1
  have k1 := new_g eH1
  clear eH1
  replace ga2 := lH1 _ _ ga2
  walk_at "run"
  intro c2 hc2
  have nc2ga2 := gne ga2 hc2
  have nc2k1 := gne k1 hc2
  generalize eH2 : up _ c2 _ = H2
  have lH2 := new_l eH2 hc2
  have k2 := new_g eH2
  clear eH2
  replace ga2 := lH2 _ _ ga2
  replace k1 := lH2 _ _ k1
  walk_at "run"
  intro c3 hc3
  have nc3ga2 := gne ga2 hc3
  have nc3k1 := gne k1 hc3
  have nc3k2 := gne k2 hc3
  generalize eH3 : up _ c3 _ = H3
  have lH3 := new_l eH3 hc3
  have k3 := new_g eH3
  clear eH3
  replace ga2 := lH3 _ _ ga2
  replace k1 := lH3 _ _ k1
  replace k2 := lH3 _ _ k2
  walk_at "run"
  intro c4 hc4
  have nc4ga2 := gne ga2 hc4
  have nc4k1 := gne k1 hc4
  have nc4k2 := gne k2 hc4
  have nc4k3 := gne k3 hc4
  generalize eH4 : up _ c4 _ = H4
  have lH4 := new_l eH4 hc4
  have k4 := new_g eH4
  clear eH4
  replace ga2 := lH4 _ _ ga2
  replace k1 := lH4 _ _ k1
  replace k2 := lH4 _ _ k2
  replace k3 := lH4 _ _ k3
  walk_at "run"
  intro c5 hc5
  have nc5ga2 := gne ga2 hc5
  have nc5k1 := gne k1 hc5
  have nc5k2 := gne k2 hc5
  generalize eH5 : up _ c5 _ = H5
  have lH5 := new_l eH5 hc5
  have k5 := new_g eH5
  clear eH5
  replace ga2 := lH5 _ _ ga2
  replace k1 := lH5 _ _ k1
  replace k2 := lH5 _ _ k2
  walk_at "run"
  have tr : TZ a 3 400 H5 (.int w.1) := (tz_int (by omega)).mono (by decide) (by decide)
  have tss : TZ a 3 400 H5 (.tup (w.2.map encStep)) := (hsteps _).mono (by decide) (by decide)
  have t1 : TZ a 3 400 H5 (.ref c1) := (tz_lst (n := 1) (b := 10) (k := 8) k1 nc1ga2 (ts0 _) (by omega)).mono (by decide) (by decide)
  have t2 : TZ a 3 400 H5 (.ref c2) := (tz_lst (n := 2) (b := 99) (k := 2) k2 nc2ga2 (tz_allc ((tz_int (by omega)).mono (by decide) (by decide)) (tz_allc (hsteps _) tz_all0)) (by simp)).mono (by decide) (by decide)
  have t3 : TZ a 3 400 H5 (.tup [.tup (w.2.map encStep)]) := (tz_t1 (hsteps _)).mono (by decide) (by decide)
  refine u_pick ga2 hf2 nc5ga2 k5 (by simp) (by simp) fun st x5 y5 hst hf5 => ?_
  refine s_rt (q _ x5 y5 _ hf5 up_same (rmA_feedL fun p o h => rmA_le (lH1.trans (lH2.trans (lH3.trans (lH4.trans lH5)))) p o (l2 p o h)) (TZ.feed (TZ.mono (n := 4) (b := 2000) ?_ (by decide) (by decide))))
  refine (show ∀ z ∈ _, TZ a 4 2000 H5 z from ?_) st hst
  refine tz_app ?_ ?_
  all_goals walk_at "tzs"
  all_goals first
    | walk_at "tz"
    | exact (tz_t1 tr).mono (by decide) (by decide)
    | (refine TZ.mono (tz_t2 (n := 3) (b := 400) ?_ ?_) (by decide) (by decide) <;> walk_at "tz")
    | (refine TZ.mono (tz_t3 (n := 3) (b := 400) ?_ ?_ ?_) (by decide) (by decide) <;> walk_at "tz")
def JbK (j : Job) : Prop := 1 ≤ j.length ∧ j.length ≤ 12 ∧ ∀ w ∈ j, WkJ w
theorem tz_works {j : Job} (h : JbK j) : ∀ z ∈ j.map encWork, TZ a 3 200 G z := fun z hz => by
  obtain ⟨w, hw, rfl⟩ := List.mem_map.mp hz
  exact tz_work (h.2.2 w hw)
def C_law_bent : Ct := fun ds G Q _ => ∃ (a : Addr) (x y : Int) (j : Job), ds = [.ref a, encJob j] ∧ G a = some (feed x y) ∧ FeedOk x y ∧ JbK j ∧
  ∀ d x' y' G', FeedOk x' y' → G' a = some (feed x' y') → Le (rmA G a) (rmA G' a) → TZ a 8 140000 G' d → Q d G'
theorem len_law_bent (ds G Q E) (h : C_law_bent ds G Q E) : ds.length = 2 := by obtain ⟨_, _, _, _, rfl, _⟩ := h; rfl
abbrev N_law_bent : List Str := ["feed", "job", "way", "at", "other", "odd"]
def T_law_bent : DX → DS := fun E => (dSeq (dAsg (dCall C_law_take E (dCons (dVar 0) (dCons (dC (.int 9)) dNil))) (dgName 2))
    (dSeq (dAsg (dCall C_law_take E (dCons (dVar 0) (dCons (dCB lenD (dCons (dVar 1) dNil)) dNil))) (dgName 3))
    (dSeq (dIf (dTest (dOp ltD (dVar 2) (dC (.int 5)))) (dRet (dCall C_law_put E (dCons (dVar 1) (dCons (dVar 3) (dCons (dCall C_law_bent_work E (dCons (dVar 0) (dCons (dCB lenD (dCons (dVar 1) dNil)) (dCons (dOp itemD (dVar 1) (dVar 3)) dNil)))) dNil))))) dNext)
    (dSeq (dIf (dTest (dOp eqD (dVar 2) (dC (.int 5)))) (dRet (dOp addD (dSl (dVar 1) dNoPart (dPart (dVar 3))) (dSl (dVar 1) (dPart (dOp addD (dVar 3) (dC (.int 1)))) dNoPart))) dNext)
    (dSeq (dIf (dTest (dOp eqD (dVar 2) (dC (.int 6)))) (dRet (dOp addD (dOp addD (dSl (dVar 1) dNoPart (dPart (dVar 3))) (dOp mulD (dTup (dCons (dTup (dCons (dC (.int 1)) (dCons (dTup (dCons (dTup (dCons (dC (.str "do")) dNil)) dNil)) dNil))) dNil)) (dOp addD (dC (.int 1)) (dCall C_law_take E (dCons (dVar 0) (dCons (dC (.int 12)) dNil)))))) (dSl (dVar 1) (dPart (dVar 3)) dNoPart))) dNext)
    (dSeq (dAsg (dCall C_law_take E (dCons (dVar 0) (dCons (dCB lenD (dCons (dVar 1) dNil)) dNil))) (dgName 4))
    (dSeq (dIf (dTest (dOp eqD (dVar 2) (dC (.int 7)))) (dRet (dCall C_law_put E (dCons (dCall C_law_put E (dCons (dVar 1) (dCons (dVar 3) (dCons (dOp itemD (dVar 1) (dVar 4)) dNil)))) (dCons (dVar 4) (dCons (dOp itemD (dVar 1) (dVar 3)) dNil))))) dNext)
    (dSeq (dAsg (dLst (dCons (dCB listD (dCons (dVar 1) dNil)) (dCons (dTup (dCons (dVar 1) dNil)) (dCons (dC .non) (dCons (dTup dNil) (dCons (dC (.str "job")) (dCons (dC (.int 3)) (dCons (dOp itemD (dVar 1) (dC (.int 0))) (dCons (dOp mulD (dTup (dCons (dC .non) dNil)) (dC (.int 3))) (dCons (dOp addD (dVar 1) (dTup (dCons (dC .non) dNil))) (dCons (dLst dNil) (dCons (dC (.bl true)) (dCons dDicK (dCons (dDisp [((dC (.int 0)), (dVar 1))]) dNil)))))))))))))) (dgName 5))
    (dRet (dCall C_law_pick E (dCons (dVar 0) (dCons (dVar 5) dNil))))))))))))
theorem run_law_bent (ds G Q E) (h : C_law_bent ds G Q E) : T_law_bent E { nx := fun _ G' => DrK Q .non G', rt := DrK Q, bk := fun _ _ => False, ct := fun _ _ => False } (dstart N_law_bent ds) G := by
  obtain ⟨a, x, y, j, rfl, ga, hf, hj, q⟩ := h
  show T_law_bent E _ [some (.ref a), some (encJob j), none, none, none, none] G
  obtain ⟨l1', l12, hw⟩ := hj
  have ts0 : ∀ G : DG, ∀ z ∈ j.map encWork, TZ a 3 200 G z := fun G => tz_works ⟨l1', l12, hw⟩
  have hlen : (j.map encWork).length = j.length := List.length_map _
  unfold T_law_bent encJob
  walk_at "run"
  refine u_take ga hf (by decide) (by decide) fun way x1 y1 w0 w1 hf1 => ?_
  have ga1 : up G a (feed x1 y1) a = some (feed x1 y1) := up_same
  have l1 : Le (rmA G a) (rmA (up G a (feed x1 y1)) a) := rmA_feedL (.refl _)
  clear ga hf
  generalize up G a (feed x1 y1) = G1 at *
  walk_at "run"
  rw [hlen]
  refine u_take ga1 hf1 (by omega) (by omega) fun r x2 y2 r0 r1 hf2 => ?_
  obtain ⟨at', rfl, hat⟩ := nat_of r0 r1
  have hat : at' < j.length := by omega
  have ga2 : up G1 a (feed x2 y2) a = some (feed x2 y2) := up_same
  have l2 : Le (rmA G a) (rmA (up G1 a (feed x2 y2)) a) := rmA_feedL l1
  clear ga1 hf1 l1
  generalize up G1 a (feed x2 y2) = G2 at *
  obtain ⟨w, es, hsm⟩ : ∃ s, j[at']? = some s ∧ s ∈ j := ⟨j[at'], List.getElem?_eq_getElem hat, List.getElem_mem hat⟩
  have ea : (j.map encWork)[at']? = some (encWork w) := by rw [List.getElem?_map, es]; rfl
  have hww := hw w hsm
  walk_at "run"
  refine br_dec (fun h3 => ?_) (fun h3 => ?_)
  · walk_at "run"
    rw [hlen]
    refine UpC.of ⟨a, x2, y2, j.length, w, rfl, ga2, hf2, by omega, hww, fun d x3 y3 G3 hf3 ga3 l3 td => ?_⟩
    walk_at "run"
    refine UpC.of ⟨_, at', d, rfl, by omega, ?_⟩
    refine s_rt (q _ x3 y3 G3 hf3 ga3 (l2.trans l3) ((tz_tup (n := 6) (b := 11000) (k := 12) ?_ (by rw [List.length_append, List.length_append, List.length_take, List.length_drop, List.length_singleton]; omega) (by decide)).mono (by decide) (by decide)))
    exact tz_app (tz_app (fun z hz => (ts0 G3 z (List.mem_of_mem_take hz)).mono (by decide) (by decide)) (tz_allc td tz_all0)) (fun z hz => (ts0 G3 z (List.mem_of_mem_drop hz)).mono (by decide) (by decide))
  walk_at "run"
  refine br_dec (fun h5 => ?_) (fun h5 => ?_)
  · walk_at "run"
    rw [cutD_upto, show ((at' : Int) + 1) = ((at' + 1 : Nat) : Int) by omega, cutD_from]
    refine s_addT (szL (by rw [List.length_take, List.length_drop]; omega)) ?_
    refine s_rt (q _ x2 y2 _ hf2 ga2 l2 ((tz_tup (n := 3) (b := 200) (k := 12) (tz_app (fun z hz => ts0 _ z (List.mem_of_mem_take hz)) (fun z hz => ts0 _ z (List.mem_of_mem_drop hz))) (by rw [List.length_append, List.length_take, List.length_drop]; omega) (by decide)).mono (by decide) (by decide)))
  walk_at "run"
  refine br_dec (fun h6 => ?_) (fun h6 => ?_)
  · walk_at "run"
    refine u_take ga2 hf2 (by decide) (by decide) fun r3 x3 y3 r30 r31 hf3 => ?_
    obtain ⟨n, rfl, hn⟩ := nat_of r30 r31
    walk_at "run"
    refine s_mulT ⟨by simp, by omega, by omega, by simp⟩ ?_
    have en : (1 + (n : Int)).toNat = n + 1 := by omega
    rw [en]
    have hr9 : (List.replicate (n + 1) [D.tup [D.int 1, D.tup [D.tup [D.str "do"]]]]).flatten.length = n + 1 := by simp
    have t9 : ∀ G : DG, ∀ z ∈ (List.replicate (n + 1) [D.tup [D.int 1, D.tup [D.tup [D.str "do"]]]]).flatten, TZ a 3 200 G z := fun G z hz => by
      obtain ⟨l, hl, hz⟩ := List.mem_flatten.mp hz
      rw [List.eq_of_mem_replicate hl] at hz
      rw [List.mem_singleton.mp hz]
      exact (tz_t2 (n := 2) (b := 50) (tz_int (by decide) |>.mono (by decide) (by decide)) ((tz_t1 (n := 1) (b := 20) ((tz_t1 (tz_str (by decide +kernel))).mono (by decide) (by decide))).mono (by decide) (by decide))).mono (by decide) (by decide)
    generalize (List.replicate (n + 1) [D.tup [D.int 1, D.tup [D.tup [D.str "do"]]]]).flatten = R at *
    rw [cutD_upto]
    refine s_addT (szL (by rw [List.length_take]; omega)) ?_
    walk_at "run"
    rw [cutD_from]
    refine s_addT (szL (by rw [List.length_append, List.length_take, List.length_drop]; omega)) ?_
    refine s_rt (q _ x3 y3 _ hf3 up_same (rmA_feedL l2) ((tz_tup (n := 3) (b := 200) (k := 24) (tz_app (tz_app (fun z hz => ts0 _ z (List.mem_of_mem_take hz)) (t9 _)) (fun z hz => ts0 _ z (List.mem_of_mem_drop hz))) (by rw [List.length_append, List.length_append, List.length_take, List.length_drop]; omega) (by decide)).mono (by decide) (by decide)))
  walk_at "run"
  rw [hlen]
  refine u_take ga2 hf2 (by omega) (by omega) fun r3 x3 y3 r30 r31 hf3 => ?_
  obtain ⟨ot, rfl, hot⟩ := nat_of r30 r31
  have hot : ot < j.length := by omega
  have ga3 : up G2 a (feed x3 y3) a = some (feed x3 y3) := up_same
  have l3 : Le (rmA G a) (rmA (up G2 a (feed x3 y3)) a) := rmA_feedL l2
  clear ga2 hf2 l2
  generalize up G2 a (feed x3 y3) = G3 at *
  obtain ⟨w2, es2, hsm2⟩ : ∃ s, j[ot]? = some s ∧ s ∈ j := ⟨j[ot], List.getElem?_eq_getElem hot, List.getElem_mem hot⟩
  have ea2 : (j.map encWork)[ot]? = some (encWork w2) := by rw [List.getElem?_map, es2]; rfl
  walk_at "run"
  refine br_dec (fun h7 => ?_) (fun h7 => ?_)
  · walk_at "run"
    refine UpC.of ⟨_, at', encWork w2, rfl, by omega, ?_⟩
    walk_at "run"
    refine UpC.of ⟨_, ot, encWork w, rfl, by simp only [List.length_append, List.length_take, List.length_drop, List.length_singleton]; omega, ?_⟩
    have ti : ∀ G : DG, ∀ z ∈ (j.map encWork).take at' ++ [encWork w2] ++ (j.map encWork).drop (at' + 1), TZ a 3 200 G z := fun G => tz_app (tz_app (fun z hz => ts0 _ z (List.mem_of_mem_take hz)) (tz_allc (tz_work (hw w2 hsm2)) tz_all0)) (fun z hz => ts0 _ z (List.mem_of_mem_drop hz))
    have li : ((j.map encWork).take at' ++ [encWork w2] ++ (j.map encWork).drop (at' + 1)).length ≤ 13 := by simp only [List.length_append, List.length_take, List.length_drop, List.length_singleton]; omega
    generalize (j.map encWork).take at' ++ [encWork w2] ++ (j.map encWork).drop (at' + 1) = X at *
    refine s_rt (q _ x3 y3 _ hf3 ga3 l3 ((tz_tup (n := 3) (b := 200) (k := 24) (tz_app (tz_app (fun z hz => ti _ z (List.mem_of_mem_take hz)) (tz_allc (tz_work hww) tz_all0)) (fun z hz => ti _ z (List.mem_of_mem_drop hz))) (by rw [List.length_append, List.length_append, List.length_take, List.length_drop, List.length_singleton]; omega) (by decide)).mono (by decide) (by decide)))
  have ez : atI (j.map encWork) 0 = some (encWork (j[0]'(by omega))) := by
    show atI (j.map encWork) ((0 : Nat) : Int) = _
    rw [atI_cast, List.getElem?_map, List.getElem?_eq_getElem (by omega)]
    rfl
  have tz0 := hw _ (List.getElem_mem (show 0 < j.length by omega))
  generalize j[0]'(by omega) = w0 at ez tz0
  walk_at "run"
  intro c1 hc1
  have nc1ga3 := gne ga3 hc1
  generalize eH1 : up _ c1 _ = H1
  have lH1 := new_l eH1 hc1
  have k1 := new_g eH1
  clear eH1
  replace ga3 := lH1 _ _ ga3
  walk_at "run"
  refine s_mulT ⟨by simp, by decide, by decide, by simp⟩ ?_
  walk_at "run"
  intro c2 hc2
  have nc2ga3 := gne ga3 hc2
  have nc2k1 := gne k1 hc2
  generalize eH2 : up _ c2 _ = H2
  have lH2 := new_l eH2 hc2
  have k2 := new_g eH2
  clear eH2
  replace ga3 := lH2 _ _ ga3
  replace k1 := lH2 _ _ k1
  walk_at "run"
  intro c3 hc3
  have nc3ga3 := gne ga3 hc3
  have nc3k1 := gne k1 hc3
  have nc3k2 := gne k2 hc3
  generalize eH3 : up _ c3 _ = H3
  have lH3 := new_l eH3 hc3
  have k3 := new_g eH3
  clear eH3
  replace ga3 := lH3 _ _ ga3
  replace k1 := lH3 _ _ k1
  replace k2 := lH3 _ _ k2
  walk_at "run"
  intro c4 hc4
  walk_at "run"
  refine ⟨.inl 0, rfl, ?_⟩
  walk_at "run"
  refine ⟨up_same, by simp, ?_⟩
  rw [up_up, show mergeKD [] [(Sum.inl 0, D.tup (j.map encWork))] = [(Sum.inl 0, D.tup (j.map encWork))] from rfl]
  have nc4ga3 := gne ga3 hc4
  have nc4k1 := gne k1 hc4
  have nc4k2 := gne k2 hc4
  have nc4k3 := gne k3 hc4
  generalize eH4 : up _ c4 _ = H4
  have lH4 := new_l eH4 hc4
  have k4 := new_g eH4
  clear eH4
  replace ga3 := lH4 _ _ ga3
  replace k1 := lH4 _ _ k1
  replace k2 := lH4 _ _ k2
  replace k3 := lH4 _ _ k3
  walk_at "run"
  intro c5 hc5
  have nc5ga3 := gne ga3 hc5
  have nc5k1 := gne k1 hc5
  have nc5k2 := gne k2 hc5
  have nc5k3 := gne k3 hc5
  have nc5k4 := gne k4 hc5
  generalize eH5 : up _ c5 _ = H5
  have lH5 := new_l eH5 hc5
  have k5 := new_g eH5
  clear eH5
  replace ga3 := lH5 _ _ ga3
  replace k1 := lH5 _ _ k1
  replace k2 := lH5 _ _ k2
  replace k3 := lH5 _ _ k3
  replace k4 := lH5 _ _ k4
  walk_at "run"
  have tj : TZ a 4 2500 H5 (.tup (j.map encWork)) := (tz_tup (n := 3) (b := 200) (k := 12) (ts0 _) (by omega) (by decide)).mono (by decide) (by decide)
  have t1 : TZ a 5 4000 H5 (.ref c1) := (tz_lst (n := 3) (b := 200) (k := 12) k1 nc1ga3 (ts0 _) (by omega)).mono (by decide) (by decide)
  have t2 : TZ a 5 4000 H5 (.ref c2) := (tz_lst (n := 0) (b := 0) (k := 0) k2 nc2ga3 tz_all0 (by simp)).mono (by decide) (by decide)
  have t3 : TZ a 5 4000 H5 (.ref c3) := (tz_dic0 k3 nc3ga3).mono (by decide) (by decide)
  have t4 : TZ a 5 4000 H5 (.ref c4) := (tz_dic1 (n := 4) (b := 2500) (by decide) k4 nc4ga3 tj).mono (by decide) (by decide)
  have t5 : TZ a 5 4000 H5 (.tup [.tup (j.map encWork)]) := (tz_t1 tj).mono (by decide) (by decide)
  have t6 : TZ a 5 4000 H5 (encWork w0) := (tz_work tz0).mono (by decide) (by decide)
  have t7 : TZ a 5 4000 H5 (.tup (List.replicate (3 : Int).toNat [D.non]).flatten) := (tz_t3 (n := 0) (b := 0) tz_non tz_non tz_non).mono (by decide) (by decide)
  have t8 : TZ a 5 4000 H5 (.tup (j.map encWork ++ [.non])) := (tz_tup (n := 3) (b := 200) (k := 13) (tz_app (ts0 _) (tz_allc (tz_non.mono (by decide) (by decide)) tz_all0)) (by rw [List.length_append, List.length_singleton]; omega) (by decide)).mono (by decide) (by decide)
  refine u_pick ga3 hf3 nc5ga3 k5 (by simp) (by simp) fun st x5 y5 hst hf5 => ?_
  refine s_rt (q _ x5 y5 _ hf5 up_same (rmA_feedL fun p o h => rmA_le (lH1.trans (lH2.trans (lH3.trans (lH4.trans lH5)))) p o (l3 p o h)) (TZ.feed (TZ.mono (n := 5) (b := 4000) ?_ (by decide) (by decide))))
  refine (show ∀ z ∈ _, TZ a 5 4000 H5 z from ?_) st hst
  walk_at "tzs"
  all_goals walk_at "tz"
theorem jbk_of {j : Job} (h : JobOk j) : JbK j := ⟨h.l1, h.l12, fun w hw => ⟨h.rooms w hw, h.steps w hw, fun s hs k e => by
  subst e
  have hk : k ∈ j.flatMap fun w => sends w.2 := List.mem_flatMap.mpr ⟨w, hw, List.mem_filterMap.mpr ⟨_, hs, rfl⟩⟩
  have := List.mem_range'_1.mp (h.once.mem_iff.mp hk)
  have := h.l12
  omega⟩⟩
def szOf : Stp → SZ
  | .doo => .doo
  | .wait => .wait
  | .send k => .send (k : Int)
def ofSz : SZ → Stp
  | .doo => .doo
  | .wait => .wait
  | .send k => .send k.toNat
def wzOf (w : Work) : WZ := (w.1, w.2.map szOf)
theorem encSz_of (s : Stp) : encSZ (szOf s) = encStep s := by cases s <;> rfl
theorem encWz_of (w : Work) : encWZ (wzOf w) = encWork w := by
  simp only [encWZ, wzOf, encWork, List.map_map]
  congr 2
  refine congrArg (· :: []) (congrArg D.tup (List.map_congr_left fun s _ => encSz_of s))
theorem sendsZ_of (ss : List Stp) : sendsZ (ss.map szOf) = (sends ss).map fun k : Nat => (k : Int) := by
  induction ss with
  | nil => rfl
  | cons s ss ih =>
    cases s with
    | doo => exact ih
    | wait => exact ih
    | send k =>
      show (k : Int) :: sendsZ (ss.map szOf) = (k : Int) :: (sends ss).map _
      rw [ih]
theorem jobZ_of {j : Job} (h : JobOk j) : JobZ (j.map wzOf) := by
  refine ⟨by rw [List.length_map]; exact h.l1, by rw [List.length_map]; exact h.l12, fun w hw => ?_, fun i w e k hk => ?_, ?_⟩
  · obtain ⟨v, hv, rfl⟩ := List.mem_map.mp hw
    exact ⟨h.rooms v hv, by show 1 ≤ (v.2.map szOf).length ∧ (v.2.map szOf).length ≤ 8; rw [List.length_map]; exact h.steps v hv⟩
  · rw [List.getElem?_map, Option.map_eq_some_iff] at e
    obtain ⟨v, e, rfl⟩ := e
    rw [show (wzOf v).2 = v.2.map szOf from rfl, sendsZ_of] at hk
    obtain ⟨m, hm, rfl⟩ := List.mem_map.mp hk
    have := h.up i v e m hm
    omega
  · have e : (j.map wzOf).flatMap (fun w => sendsZ w.2) = (j.flatMap fun w => sends w.2).map fun k : Nat => (k : Int) := by
      rw [List.flatMap_map, List.map_flatMap]
      exact congrArg List.flatten (List.map_congr_left fun w _ => sendsZ_of w.2)
    rw [e, List.length_map]
    exact h.once.map _
theorem jobD_of {j : Job} (h : JobOk j) : JobD (encJob j) := ⟨j.map wzOf, by
  rw [List.map_map]
  exact congrArg D.tup (List.map_congr_left fun w _ => (encWz_of w).symm), jobZ_of h⟩
/-- what is a job has the form of one -/
theorem jobD_form {d : D} (h : JobD d) : ∃ j : Job, d = encJob j ∧ JbK j := by
  obtain ⟨z, rfl, h⟩ := h
  have p : (kidsZ z).Perm (rngZ z.length) := h.once
  have hb : ∀ w ∈ z, ∀ s ∈ w.2, ∀ k, s = .send k → 1 ≤ k ∧ k < 12 := fun w hw s hs k e => by
    subst e
    have hk : k ∈ kidsZ z := List.mem_flatMap.mpr ⟨w, hw, List.mem_filterMap.mpr ⟨_, hs, rfl⟩⟩
    have := rngZ_mem.mp (p.mem_iff.mp hk)
    have := h.l12
    omega
  have es : ∀ w ∈ z, ∀ s ∈ w.2, encStep (ofSz s) = encSZ s := fun w hw s hs => by
    cases s with
    | doo => rfl
    | wait => rfl
    | send k =>
      have := hb w hw _ hs k rfl
      show D.tup [.str "send", .int ((k.toNat : Nat) : Int)] = .tup [.str "send", .int k]
      rw [Int.toNat_of_nonneg (by omega)]
  refine ⟨z.map fun w => (w.1, w.2.map ofSz), ?_, ?_⟩
  · rw [encJob, List.map_map]
    refine congrArg D.tup (List.map_congr_left fun w hw => ?_)
    show D.tup [.int w.1, .tup (w.2.map encSZ)] = .tup [.int w.1, .tup ((w.2.map ofSz).map encStep)]
    rw [List.map_map]
    refine congrArg D.tup (congrArg (D.int w.1 :: ·) (congrArg (· :: []) (congrArg D.tup (List.map_congr_left fun s hs => (es w hw s hs).symm))))
  · refine ⟨by rw [List.length_map]; exact h.l1, by rw [List.length_map]; exact h.l12, fun v hv => ?_⟩
    obtain ⟨w, hw, rfl⟩ := List.mem_map.mp hv
    have wk := h.w w hw
    refine ⟨wk.r, by show 1 ≤ (w.2.map ofSz).length ∧ (w.2.map ofSz).length ≤ 8; rw [List.length_map]; exact wk.l, fun s hs k e => ?_⟩
    obtain ⟨s', hs', rfl⟩ := List.mem_map.mp hs
    cases s' with
    | send m =>
      have := hb w hw _ hs' m rfl
      injection e with e
      omega
    | _ => cases e

def C_law : Ct := spLaw 63
theorem len_law (ds G Q E) (h : C_law ds G Q E) : ds.length = 1 := by obtain ⟨_, rfl, _⟩ := h; rfl
theorem s_neBB01 {i : Bool} {G : DG} {Q : DK} (h : Q (.bl false) G) : neD (.bl i) (.bl i) G Q := by
  show Q (.bl (!PyData.eqv (.bool i) (.bool i))) G
  rw [SeqAt.eqv_refl (.bool i) rfl]
  exact h
abbrev N_law : List Str := ["script", "k", "job", "feed", "turn", "thing", "shown", "found"]
def T_law : DX → DS := fun E => (dSeq (dFor (diRange3 (dCons (dC (.int 0)) (dCons (dCB maxD (dCons (dC (.int 2)) (dCons (dCB minD (dCons (dC (.int 6)) (dCons (dCB lenD (dCons (dVar 0) dNil)) dNil))) dNil))) (dCons (dC (.int 2)) dNil)))) (dgName 1) (dSeq (dAsg (dCall C_law_job E (dCons (dCall C_law_feed E (dCons (dVar 0) (dCons (dVar 1) dNil))) (dCons (dC (.int 12)) dNil))) (dgName 2))
    (dSeq (dIf (dTest (dOp (isD true) (dCall C_is_job E (dCons (dVar 2) dNil)) (dC (.bl true)))) (dRet (dC (.bl false))) dNext)
    (dSeq (dAsg (dCall C_law_feed E (dCons (dVar 0) (dCons (dOp addD (dVar 1) (dC (.int 1))) dNil))) (dgName 3))
    (dFor (diRange (dCons (dC (.int 15)) dNil)) (dgName 4) (dSeq (dAsg (dCall C_law_bent E (dCons (dVar 3) (dCons (dVar 2) dNil))) (dgName 5))
    (dSeq (dIf (dAnd (dTru (dCall C_law_is_job E (dCons (dVar 5) dNil))) (dTest (dOp eqD (dCall C_law_take E (dCons (dVar 3) (dCons (dC (.int 2)) dNil))) (dC (.int 0))))) (dAsg (dCall C_law_bent E (dCons (dVar 3) (dCons (dVar 5) dNil))) (dgName 5)) dNext)
    (dSeq (dAsg (dCB reprXD (dCons (dVar 5) dNil)) (dgName 6))
    (dSeq (dAsg (dCall C_is_job E (dCons (dVar 5) dNil)) (dgName 7))
    (dIf (dOr (dNot (dTru (dCB isinstD (dCons (dVar 7) (dCons (dC (.ty "bool")) dNil))))) (dOr (dTest (dOp neD (dVar 7) (dCall C_law_is_job E (dCons (dVar 5) dNil)))) (dTest (dOp neD (dCB reprXD (dCons (dVar 5) dNil)) (dVar 6))))) (dRet (dC (.bl false))) dNext))))))))))
    (dRet (dC (.bl true))))
theorem run_law (ds G Q E) (h : C_law ds G Q E) : T_law E { nx := fun _ G' => DrK Q .non G', rt := DrK Q, bk := fun _ _ => False, ct := fun _ _ => False } (dstart N_law ds) G := by
  obtain ⟨ns, rfl, hl, q⟩ := h
  show T_law E _ [some (.lis (ns.map .int)), none, none, none, none, none, none, none] G
  unfold T_law
  walk_at "run"
  obtain ⟨m, em, rg⟩ : ∃ m : Nat, m ≤ 3 ∧ RgC 0 (if (if ((ns.map D.int).length : Int) < 6 then ((ns.map D.int).length : Int) else 6) > 2 then (if ((ns.map D.int).length : Int) < 6 then ((ns.map D.int).length : Int) else 6) else 2) 2 m := by
    generalize hz : (if (if ((ns.map D.int).length : Int) < 6 then ((ns.map D.int).length : Int) else 6) > 2 then (if ((ns.map D.int).length : Int) < 6 then ((ns.map D.int).length : Int) else 6) else 2) = z
    have hz2 : z = 2 ∨ z = 3 ∨ z = 4 ∨ z = 5 ∨ z = 6 := by
      rw [← hz]
      split <;> split <;> omega
    rcases hz2 with rfl | rfl | rfl | rfl | rfl
    · exact ⟨1, by decide, by decide, by decide, by decide, by decide⟩
    · exact ⟨2, by decide, by decide, by decide, by decide, by decide⟩
    · exact ⟨2, by decide, by decide, by decide, by decide, by decide⟩
    · exact ⟨3, by decide, by decide, by decide, by decide, by decide⟩
    · exact ⟨3, by decide, by decide, by decide, by decide, by decide⟩
  refine s_rng3C rg ?_
  refine loop_inv (fun i σ G' => ∃ v1 v2 v3 v4 v5 v6 v7, σ = [some (.lis (ns.map .int)), v1, v2, v3, v4, v5, v6, v7]) ⟨none, none, none, none, none, none, none, rfl⟩ (fun _ _ _ _ _ => trivial) (fun i d σ' G' N hd hi hP hN => ?_) (fun σ' G' hP => ?_)
  · obtain ⟨v1, v2, v3, v4, v5, v6, v7, rfl⟩ := hP
    obtain ⟨k, hk, rfl⟩ : ∃ k : Int, (0 ≤ k ∧ k < 10) ∧ d = .int k := by
      have hi' : i < m := by simpa [stepD] using hi
      unfold stepD at hd
      rw [List.getElem?_map, List.getElem?_range hi'] at hd
      cases hd
      exact ⟨_, ⟨by omega, by omega⟩, rfl⟩
    clear hd hi
    walk_at "run"
    refine UpC.of ⟨ns, k, rfl, by omega, by omega, fun x y a hf ha => ?_⟩
    generalize eH1 : up _ a _ = H1
    have lH1 := new_l eH1 ha
    have ga := new_g eH1
    clear eH1
    walk_at "run"
    refine UpC.of ⟨a, x, y, 12, rfl, ga, hf, by decide, by decide, fun j x2 y2 hj hjl hf2 => ?_⟩
    generalize up H1 a (feed x2 y2) = H2
    have tj : TZ 0 4 2500 H2 (encJob j) := (tz_tup (n := 3) (b := 200) (k := 12) (tz_works (jbk_of hj)) (by rw [List.length_map]; exact hj.l12) (by decide)).mono (by decide) (by decide)
    walk_at "run"
    refine UpC.of ⟨encJob j, rfl, tj.ty, fun b hb => ?_⟩
    obtain rfl : b = true := hb.mpr (jobD_of hj)
    walk_at "run"
    refine s_isnBB ?_
    walk_at "run"
    refine UpC.of ⟨ns, k + 1, rfl, by omega, by omega, fun x y a hf ha => ?_⟩
    generalize eH3 : up _ a _ = H3
    have lH3 := new_l eH3 ha
    have ga := new_g eH3
    clear eH3
    have jb := jbk_of hj
    clear tj hb hf2 hjl hj lH1
    walk_at "run"
    refine loop_inv (fun i σ G' => ∃ x y v1 v4 v5 v6 v7, G' a = some (feed x y) ∧ FeedOk x y ∧ σ = [some (.lis (ns.map .int)), v1, some (encJob j), some (.ref a), v4, v5, v6, v7]) ⟨x, y, _, _, _, _, _, ga, hf, rfl⟩ (fun _ _ _ _ _ => trivial) (fun i d σ' G' N2 hd hi hP hN2 => ?_) (fun σ' G' hP => ?_)
    · obtain ⟨x, y, v1, v4, v5, v6, v7, ga, hf, rfl⟩ := hP
      walk_at "run"
      refine UpC.of ⟨a, x, y, j, rfl, ga, hf, jb, fun d x3 y3 G3 hf3 ga3 l3 td => ?_⟩
      walk_at "run"
      refine UpC.of ⟨d, rfl, td.ty, fun b hb => ?_⟩
      generalize hT2 : Go _ _ = N4
      have go : ∀ d x4 y4 G4 v1 v4 v6 v7, G4 a = some (feed x4 y4) → FeedOk x4 y4 → TZ a 8 140000 G4 d → N4 [some (.lis (ns.map .int)), v1, some (encJob j), some (.ref a), v4, some d, v6, v7] G4 := by
        intro d x4 y4 G4 v1 v4 v6 v7 ga4 hf4 td4
        obtain ⟨_, pd, e1, e2⟩ := td4.th
        have e1 := pyX_len (m := 9) (LeN.refl _) (by decide) e1
        have e2 := e2.rep (by decide)
        rw [← hT2]
        refine s_go ?_
        clear hT2
        walk_at "run"
        refine s_reprX e1 e2 ?_
        walk_at "run"
        obtain ⟨b, hb⟩ : ∃ b : Bool, b = true ↔ JobD d := by
          by_cases z : JobD d
          · exact ⟨true, by simp [z]⟩
          · exact ⟨false, by simp [z]⟩
        refine UpC.of ⟨d, rfl, td4.ty, fun b1 hb1 => ?_⟩
        obtain rfl : b1 = b := by
          rw [Bool.eq_iff_iff, hb1, hb]
        walk_at "run"
        refine UpC.of ⟨d, rfl, td4.ty, fun b2 hb2 => ?_⟩
        obtain rfl : b2 = b1 := by
          rw [Bool.eq_iff_iff, hb2, hb]
        walk_at "run"
        refine s_neBB01 ?_
        walk_at "run"
        refine s_reprX e1 e2 ?_
        walk_at "run"
        refine br_ff (by simp) ?_
        walk_at "run"
        exact hN2 _ _ _ (.refl _) ⟨_, _, _, _, _, _, _, ga4, hf4, rfl⟩
      clear hT2
      cases b with
      | false =>
        walk_at "run"
        exact go _ _ _ _ _ _ _ _ ga3 hf3 td
      | true =>
        walk_at "run"
        refine u_take ga3 hf3 (by decide) (by decide) fun r x4 y4 r0 r1 hf4 => ?_
        walk_at "run"
        refine br_dec (fun h0 => ?_) (fun h0 => ?_)
        · obtain ⟨j2, rfl, jb2⟩ := jobD_form (hb.mp rfl)
          walk_at "run"
          refine UpC.of ⟨a, x4, y4, j2, rfl, up_same, hf4, jb2, fun d x5 y5 G5 hf5 ga5 l5 td5 => ?_⟩
          walk_at "run"
          exact go _ _ _ _ _ _ _ _ ga5 hf5 td5
        · walk_at "run"
          exact go _ _ _ _ _ _ _ _ up_same hf4 td.feed
    · obtain ⟨x, y, v1, v4, v5, v6, v7, ga, hf, rfl⟩ := hP
      exact hN _ _ _ (.refl _) ⟨_, _, _, _, _, _, _, rfl⟩
  · walk_at "run"
    exact s_rt (q _)

def top (i : Nat) : Stmt := PySem.Challenge.pw_farend_k01_what_is_a_job.main.body.getD i (.Pass ⟨0, 0, 0, 0⟩)
structure Nb (mg : Str → Option Value) : Prop where
  n_all : mg "all" = none
  n_bool : mg "bool" = none
  n_int : mg "int" = none
  n_isinstance : mg "isinstance" = none
  n_len : mg "len" = none
  n_list : mg "list" = none
  n_max : mg "max" = none
  n_min : mg "min" = none
  n_range : mg "range" = none
  n_repr : mg "repr" = none
  n_sorted : mg "sorted" = none
  n_str : mg "str" = none
  n_tuple : mg "tuple" = none
structure Nc (mg : Str → Option Value) : Prop where
  c_MOST_ROOM : ∃ t, mg "MOST_ROOM" = some (.int 9 t)
  c_MOST_STEPS : ∃ t, mg "MOST_STEPS" = some (.int 8 t)
  c_MOST_WORKS : ∃ t, mg "MOST_WORKS" = some (.int 12 t)
abbrev s_law_take : Stmt := top 11
theorem sc_law_take : FnScope N_law_take ["feed", "many"] (defScope s_law_take) := ⟨rfl, rfl, rfl, by decide +kernel, rfl, by decide +kernel, by decide +kernel⟩
theorem ok_law_take {P : Program} {w : World} {K : PySem.W.Frag} {mg : Str → Option Value} {base : Heap} (nb : Nb mg) (nc : Nc mg) (sm : SysB base)  (D0 : DefAt K mg "_law_take" s_law_take ["feed", "many"]) : CallOk P w K mg base 1 "_law_take" C_law_take := by
  have nd : N_law_take.Nodup := sc_law_take.nd
  refine call_ok (T := T_law_take) D0 sc_law_take len_law_take (fun f cdv A outer s H EL E hr hgd hp hE => ?_) run_law_take
  exact (dss_cons (ds_if (dt_gt (de_ix (de_var 0) de_int) de_int) (dss_cons (ds_set 2 nd (de_mod (de_ix (de_var 0) de_int) (de_var 1)))
    (dss_cons (ds_asg (de_div (de_ix (de_var 0) de_int) (de_var 1)) (dg_sub (de_var 0) de_int))
    (dss_one (ds_ret (de_var 2))))) dss_nil)
    (dss_cons (ds_asg (de_mod (de_add (de_mul (de_ix (de_var 0) de_int) de_int) de_int) de_int) (dg_sub (de_var 0) de_int))
    (dss_one (ds_ret (de_mod (de_div (de_ix (de_var 0) de_int) de_int) (de_var 1))))))
abbrev s_law_pick : Stmt := top 12
theorem sc_law_pick : FnScope N_law_pick ["feed", "some"] (defScope s_law_pick) := ⟨rfl, rfl, rfl, by decide +kernel, rfl, by decide +kernel, by decide +kernel⟩
theorem ok_law_pick {P : Program} {w : World} {K : PySem.W.Frag} {mg : Str → Option Value} {base : Heap} (nb : Nb mg) (nc : Nc mg) (sm : SysB base) (h_law_take : CallOk P w K mg base 1 "_law_take" C_law_take) (D0 : DefAt K mg "_law_pick" s_law_pick ["feed", "some"]) : CallOk P w K mg base 2 "_law_pick" C_law_pick := by
  have nd : N_law_pick.Nodup := sc_law_pick.nd
  refine call_ok (T := T_law_pick) D0 sc_law_pick len_law_pick (fun f cdv A outer s H EL E hr hgd hp hE => ?_) run_law_pick
  exact (dss_one (ds_ret (de_ix (de_var 1) (de_fn h_law_take (hr.mono (by first | decide | omega)) hgd hE (da_cons (de_var 0) (da_cons (de_len rfl nb.n_len (da_cons (de_var 1) da_nil)) da_nil))))))
abbrev s_law_steps : Stmt := top 14
theorem sc_law_steps : FnScope N_law_steps ["feed", "children"] (defScope s_law_steps) := ⟨rfl, rfl, rfl, by decide +kernel, rfl, by decide +kernel, by decide +kernel⟩
theorem ok_law_steps {P : Program} {w : World} {K : PySem.W.Frag} {mg : Str → Option Value} {base : Heap} (nb : Nb mg) (nc : Nc mg) (sm : SysB base) (h_law_take : CallOk P w K mg base 1 "_law_take" C_law_take) (h_law_pick : CallOk P w K mg base 2 "_law_pick" C_law_pick) (D0 : DefAt K mg "_law_steps" s_law_steps ["feed", "children"]) : CallOk P w K mg base 3 "_law_steps" C_law_steps := by
  have nd : N_law_steps.Nodup := sc_law_steps.nd
  refine call_ok (T := T_law_steps) D0 sc_law_steps len_law_steps (fun f cdv A outer s H EL E hr hgd hp hE => ?_) run_law_steps
  exact (dss_cons (ds_setLcN 2 [("child", 3)] (bd_name 3) rfl nd (sw_true rfl rfl rfl (by decide +kernel)) (di_seq (de_var 1)) (blkOk_by (by show blkC N_law_steps (defScope s_law_steps) _ _ = true; decide +kernel)) (fun _ _ _ _ _ => pgN 3 nd) (fun _ _ _ _ _ => dts_nil) (fun _ _ _ _ _ => (de_tup (da_cons de_str (da_cons (de_var 3) da_nil)))))
    (dss_cons (ds_for hp rfl (di_range1 rfl nb.n_range (de_len rfl nb.n_len (da_cons (de_var 2) da_nil))) (dg_name 4 nd) (dss_cons (ds_set 5 nd (de_fn h_law_take (hr.mono (by first | decide | omega)) hgd hE (da_cons (de_var 0) (da_cons (de_len rfl nb.n_len (da_cons (de_var 2) da_nil)) da_nil))))
    (dss_one (ds_asg (de_tup (da_cons (de_ix (de_var 2) (de_var 5)) (da_cons (de_ix (de_var 2) (de_var 4)) da_nil))) (dg_tup rfl (dgs_cons (dg_sub (de_var 2) (de_var 4)) (dgs_cons (dg_sub (de_var 2) (de_var 5)) dgs_nil)))))))
    (dss_cons (ds_set 6 nd (de_fn h_law_pick (hr.mono (by first | decide | omega)) hgd hE (da_cons (de_var 0) (da_cons (de_lst (da_cons (de_len rfl nb.n_len (da_cons (de_var 2) da_nil)) (da_cons (de_add (de_len rfl nb.n_len (da_cons (de_var 2) da_nil)) de_int) (da_cons (de_add (de_len rfl nb.n_len (da_cons (de_var 2) da_nil)) de_int) (da_cons (de_add de_int (de_fn h_law_take (hr.mono (by first | decide | omega)) hgd hE (da_cons (de_var 0) (da_cons de_int da_nil)))) da_nil))))) da_nil))))
    (dss_cons (ds_for hp rfl (di_range1 rfl nb.n_range (de_sub (de_min rfl rfl nb.n_min (da_cons de_int (da_cons (de_max rfl rfl nb.n_max (da_cons de_int (da_cons (de_var 6) da_nil))) da_nil))) (de_len rfl nb.n_len (da_cons (de_var 2) da_nil)))) (dg_name 7 nd) (dss_cons (ds_set 8 nd (de_fn h_law_pick (hr.mono (by first | decide | omega)) hgd hE (da_cons (de_var 0) (da_cons (de_lst (da_cons (de_tup (da_cons de_str da_nil)) (da_cons (de_tup (da_cons de_str da_nil)) (da_cons (de_tup (da_cons de_str da_nil)) da_nil)))) da_nil))))
    (dss_one (ds_expr (de_insert (de_var 2) (da_cons (de_fn h_law_take (hr.mono (by first | decide | omega)) hgd hE (da_cons (de_var 0) (da_cons (de_add (de_len rfl nb.n_len (da_cons (de_var 2) da_nil)) de_int) da_nil))) (da_cons (de_var 8) da_nil)))))))
    (dss_one (ds_ret (de_tuple rfl nb.n_tuple (da_cons (de_slice (de_var 2) do_none (do_some de_int)) da_nil))))))))
abbrev s_law_job : Stmt := top 15
theorem sc_law_job : FnScope N_law_job ["feed", "most"] (defScope s_law_job) := ⟨rfl, rfl, rfl, by decide +kernel, rfl, by decide +kernel, by decide +kernel⟩
theorem ok_law_job {P : Program} {w : World} {K : PySem.W.Frag} {mg : Str → Option Value} {base : Heap} (nb : Nb mg) (nc : Nc mg) (sm : SysB base) (h_law_pick : CallOk P w K mg base 2 "_law_pick" C_law_pick) (h_law_take : CallOk P w K mg base 1 "_law_take" C_law_take) (h_law_steps : CallOk P w K mg base 3 "_law_steps" C_law_steps) (D0 : DefAt K mg "_law_job" s_law_job ["feed", "most"]) : CallOk P w K mg base 4 "_law_job" C_law_job := by
  have nd : N_law_job.Nodup := sc_law_job.nd
  refine call_ok (T := T_law_job) D0 sc_law_job len_law_job (fun f cdv A outer s H EL E hr hgd hp hE => ?_) run_law_job
  exact (dss_cons (ds_set 2 nd (de_fn h_law_pick (hr.mono (by first | decide | omega)) hgd hE (da_cons (de_var 0) (da_cons (de_lst (da_cons (de_var 1) (da_cons (de_var 1) (da_cons (de_sub (de_var 1) de_int) (da_cons (de_add de_int (de_fn h_law_take (hr.mono (by first | decide | omega)) hgd hE (da_cons (de_var 0) (da_cons (de_var 1) da_nil)))) da_nil))))) da_nil))))
    (dss_cons (ds_set 2 nd (de_max rfl rfl nb.n_max (da_cons de_int (da_cons (de_var 2) da_nil))))
    (dss_cons (ds_set 3 nd (de_fn h_law_take (hr.mono (by first | decide | omega)) hgd hE (da_cons (de_var 0) (da_cons de_int da_nil))))
    (dss_cons (ds_set 4 nd (de_lcN [("work", 5)] (bd_name 5) rfl nd (di_range1 rfl nb.n_range (de_var 2)) (blkOk_by (by show blkC N_law_job (defScope s_law_job) _ _ = true; decide +kernel)) (fun _ _ _ _ _ => pgN 5 nd) (fun _ _ _ _ _ => dts_nil) (fun _ _ _ _ _ => (de_lst da_nil))))
    (dss_cons (ds_for hp rfl (di_range2 rfl nb.n_range de_int (de_var 2)) (dg_name 5 nd) (dss_cons (ds_set 6 nd (de_lst (da_cons (de_fn h_law_take (hr.mono (by first | decide | omega)) hgd hE (da_cons (de_var 0) (da_cons (de_var 5) da_nil))) (da_cons (de_sub (de_var 5) de_int) (da_cons (de_fn h_law_take (hr.mono (by first | decide | omega)) hgd hE (da_cons (de_var 0) (da_cons (de_var 5) da_nil))) (da_cons (de_max rfl rfl nb.n_max (da_cons de_int (da_cons (de_sub (de_sub (de_var 5) de_int) (de_fn h_law_take (hr.mono (by first | decide | omega)) hgd hE (da_cons (de_var 0) (da_cons de_int da_nil)))) da_nil))) da_nil))))))
    (dss_cons (ds_set 7 nd (de_ix (de_add (de_var 6) (de_lst (da_cons de_int da_nil))) (de_var 3)))
    (dss_cons (ds_if (dt_eq (u64 hr) (de_len rfl nb.n_len (da_cons (de_ix (de_var 4) (de_var 7)) da_nil)) de_int) (dss_one (ds_set 7 nd (de_ix (de_lcN [("one", 8)] (bd_name 8) rfl nd (di_range1 rfl nb.n_range (de_var 5)) (blkOk_by (by show blkC N_law_job (defScope s_law_job) _ _ = true; decide +kernel)) (fun _ _ _ _ _ => pgN 8 nd) (fun _ _ _ _ _ => (dts_one (dt_lt (de_len rfl nb.n_len (da_cons (de_ix (de_var 4) (de_var 8)) da_nil)) de_int))) (fun _ _ _ _ _ => (de_var 8))) de_int))) dss_nil)
    (dss_one (ds_expr (de_append (de_ix (de_var 4) (de_var 7)) (da_cons (de_var 5) da_nil))))))))
    (dss_cons (ds_set 9 nd (de_lcN [("work", 5)] (bd_name 5) rfl nd (di_range1 rfl nb.n_range (de_var 2)) (blkOk_by (by show blkC N_law_job (defScope s_law_job) _ _ = true; decide +kernel)) (fun _ _ _ _ _ => pgN 5 nd) (fun _ _ _ _ _ => dts_nil) (fun _ _ _ _ _ => (de_fn h_law_pick (hr.mono (by first | decide | omega)) hgd passD_no (da_cons (de_var 0) (da_cons (de_lst (da_cons de_int (da_cons de_int (da_cons (de_add de_int (de_fn h_law_take (hr.mono (by first | decide | omega)) hgd passD_no (da_cons (de_var 0) (da_cons de_int da_nil)))) da_nil)))) da_nil))))))
    (dss_one (ds_ret (de_tuple rfl nb.n_tuple (da_cons (de_lcN [("work", 5)] (bd_name 5) rfl nd (di_range1 rfl nb.n_range (de_var 2)) (blkOk_by (by show blkC N_law_job (defScope s_law_job) _ _ = true; decide +kernel)) (fun _ _ _ _ _ => pgN 5 nd) (fun _ _ _ _ _ => dts_nil) (fun _ _ _ _ _ => (de_tup (da_cons (de_ix (de_var 9) (de_var 5)) (da_cons (de_fn h_law_steps (hr.mono (by first | decide | omega)) hgd passD_no (da_cons (de_var 0) (da_cons (de_ix (de_var 4) (de_var 5)) da_nil))) da_nil))))) da_nil))))))))))
abbrev s_law_feed : Stmt := top 10
theorem sc_law_feed : FnScope N_law_feed ["script", "k"] (defScope s_law_feed) := ⟨rfl, rfl, rfl, by decide +kernel, rfl, by decide +kernel, by decide +kernel⟩
theorem ok_law_feed {P : Program} {w : World} {K : PySem.W.Frag} {mg : Str → Option Value} {base : Heap} (nb : Nb mg) (nc : Nc mg) (sm : SysB base)  (D0 : DefAt K mg "_law_feed" s_law_feed ["script", "k"]) : CallOk P w K mg base 1 "_law_feed" C_law_feed := by
  have nd : N_law_feed.Nodup := sc_law_feed.nd
  refine call_ok (T := T_law_feed) D0 sc_law_feed len_law_feed (fun f cdv A outer s H EL E hr hgd hp hE => ?_) run_law_feed
  exact (dss_cons (ds_set 2 nd de_int)
    (dss_cons (ds_if (dt_lt (de_var 1) (de_len rfl nb.n_len (da_cons (de_var 0) da_nil))) (dss_one (ds_set 2 nd (de_ix (de_var 0) (de_var 1)))) dss_nil)
    (dss_cons (ds_set 3 nd de_int)
    (dss_cons (ds_if (dt_ge (de_var 2) (de_pow de_int de_int)) (dss_one (ds_set 3 nd (de_sub (de_var 2) (de_pow de_int de_int)))) dss_nil)
    (dss_cons (ds_set 4 nd (de_mod (de_add (de_add (de_mul (de_mod (de_var 2) de_int) de_int) (de_mul de_int (de_var 1))) de_int) de_int))
    (dss_one (ds_ret (de_lst (da_cons (de_var 3) (da_cons (de_add (de_mod (de_pow (de_var 4) de_int) de_int) de_int) da_nil))))))))))
abbrev s_is_whole : Stmt := top 4
theorem sc_is_whole : FnScope N_is_whole ["thing"] (defScope s_is_whole) := ⟨rfl, rfl, rfl, by decide +kernel, rfl, by decide +kernel, by decide +kernel⟩
theorem ok_is_whole {P : Program} {w : World} {K : PySem.W.Frag} {mg : Str → Option Value} {base : Heap} (nb : Nb mg) (nc : Nc mg) (sm : SysB base)  (D0 : DefAt K mg "is_whole" s_is_whole ["thing"]) : CallOk P w K mg base 1 "is_whole" C_is_whole := by
  have nd : N_is_whole.Nodup := sc_is_whole.nd
  refine call_ok (T := T_is_whole) D0 sc_is_whole len_is_whole (fun f cdv A outer s H EL E hr hgd hp hE => ?_) run_is_whole
  exact (dss_one (ds_ret (de_and (de_isinst rfl nb.n_isinstance (da_cons (de_var 0) (da_cons (de_bltn (by rfl) nb.n_int (by decide +kernel)) da_nil))) (de_one (de_not (de_isinst rfl nb.n_isinstance (da_cons (de_var 0) (da_cons (de_bltn (by rfl) nb.n_bool (by decide +kernel)) da_nil))))))))
abbrev s_is_step : Stmt := top 5
theorem sc_is_step : FnScope N_is_step ["thing"] (defScope s_is_step) := ⟨rfl, rfl, rfl, by decide +kernel, rfl, by decide +kernel, by decide +kernel⟩
theorem ok_is_step {P : Program} {w : World} {K : PySem.W.Frag} {mg : Str → Option Value} {base : Heap} (nb : Nb mg) (nc : Nc mg) (sm : SysB base) (h_is_whole : CallOk P w K mg base 1 "is_whole" C_is_whole) (D0 : DefAt K mg "is_step" s_is_step ["thing"]) : CallOk P w K mg base 2 "is_step" C_is_step := by
  have nd : N_is_step.Nodup := sc_is_step.nd
  refine call_ok (T := T_is_step) D0 sc_is_step len_is_step (fun f cdv A outer s H EL E hr hgd hp hE => ?_) run_is_step
  exact (dss_cons (ds_if (DPW.dt (dw_or (dt_not (dt_tru (de_isinst rfl nb.n_isinstance (da_cons (de_var 0) (da_cons (de_bltn (by rfl) nb.n_tuple (by decide +kernel)) da_nil))))) (dw_or (dt_eqT0 (u64 hr) (de_var 0) (de_tup da_nil)) (dw_or1 (dt_not (dt_tru (de_isinst rfl nb.n_isinstance (da_cons (de_ix (de_var 0) de_int) (da_cons (de_bltn (by rfl) nb.n_str (by decide +kernel)) da_nil))))))))) (dss_one (ds_ret de_bl)) dss_nil)
    (dss_cons (ds_if (dt_in (u65 hr) (de_ix (de_var 0) de_int) (de_tup (da_cons de_str (da_cons de_str da_nil)))) (dss_one (ds_ret (de_eq (u64 hr) (de_len rfl nb.n_len (da_cons (de_var 0) da_nil)) de_int))) dss_nil)
    (dss_one (ds_ret (de_and (de_eq (u64 hr) (de_ix (de_var 0) de_int) de_str) (de_and (de_eq (u64 hr) (de_len rfl nb.n_len (da_cons (de_var 0) da_nil)) de_int) (de_one (de_fn h_is_whole (hr.mono (by first | decide | omega)) hgd hE (da_cons (de_ix (de_var 0) de_int) da_nil)))))))))
abbrev s_is_work : Stmt := top 6
theorem sc_is_work : FnScope N_is_work ["thing"] (defScope s_is_work) := ⟨rfl, rfl, rfl, by decide +kernel, rfl, by decide +kernel, by decide +kernel⟩
theorem ok_is_work {P : Program} {w : World} {K : PySem.W.Frag} {mg : Str → Option Value} {base : Heap} (nb : Nb mg) (nc : Nc mg) (sm : SysB base) (h_is_whole : CallOk P w K mg base 1 "is_whole" C_is_whole) (h_is_step : CallOk P w K mg base 2 "is_step" C_is_step) (D0 : DefAt K mg "is_work" s_is_work ["thing"]) : CallOk P w K mg base 3 "is_work" C_is_work := by
  have nd : N_is_work.Nodup := sc_is_work.nd
  refine call_ok (T := T_is_work) D0 sc_is_work len_is_work (fun f cdv A outer s H EL E hr hgd hp hE => ?_) run_is_work
  exact (dss_cons (ds_if (DPW.dt (dw_or (dt_not (dt_tru (de_isinst rfl nb.n_isinstance (da_cons (de_var 0) (da_cons (de_bltn (by rfl) nb.n_tuple (by decide +kernel)) da_nil))))) (dw_or1 (dt_ne (u64 hr) (de_len rfl nb.n_len (da_cons (de_var 0) da_nil)) de_int)))) (dss_one (ds_ret de_bl)) dss_nil)
    (dss_cons (ds_if (DPW.dt (dw_or (dt_not (dt_tru (de_fn h_is_whole (hr.mono (by first | decide | omega)) hgd hE (da_cons (de_ix (de_var 0) de_int) da_nil)))) (dw_or (dt_not (dt_lele de_int (de_ix (de_var 0) de_int) (de_globI nc.c_MOST_ROOM))) (dw_or1 (dt_not (dt_tru (de_isinst rfl nb.n_isinstance (da_cons (de_ix (de_var 0) de_int) (da_cons (de_bltn (by rfl) nb.n_tuple (by decide +kernel)) da_nil))))))))) (dss_one (ds_ret de_bl)) dss_nil)
    (dss_one (ds_ret (de_and (de_lele de_int (de_len rfl nb.n_len (da_cons (de_ix (de_var 0) de_int) da_nil)) (de_globI nc.c_MOST_STEPS)) (de_one (de_all rfl rfl nb.n_all (da_cons (de_lcN [("step", 1)] (bd_name 1) rfl nd (di_seq (de_ix (de_var 0) de_int)) (blkOk_by (by show blkC N_is_work (defScope s_is_work) _ _ = true; decide +kernel)) (fun _ _ _ _ _ => pgN 1 nd) (fun _ _ _ _ _ => dts_nil) (fun _ _ _ _ _ => (de_fn h_is_step (hr.mono (by first | decide | omega)) hgd passD_no (da_cons (de_var 1) da_nil)))) da_nil))))))))
abbrev s_sent_by : Stmt := top 7
theorem sc_sent_by : FnScope N_sent_by ["work"] (defScope s_sent_by) := ⟨rfl, rfl, rfl, by decide +kernel, rfl, by decide +kernel, by decide +kernel⟩
theorem ok_sent_by {P : Program} {w : World} {K : PySem.W.Frag} {mg : Str → Option Value} {base : Heap} (nb : Nb mg) (nc : Nc mg) (sm : SysB base)  (D0 : DefAt K mg "sent_by" s_sent_by ["work"]) : CallOk P w K mg base 1 "sent_by" C_sent_by := by
  have nd : N_sent_by.Nodup := sc_sent_by.nd
  refine call_ok (T := T_sent_by) D0 sc_sent_by len_sent_by (fun f cdv A outer s H EL E hr hgd hp hE => ?_) run_sent_by
  exact (dss_one (ds_ret (de_lcN [("step", 1)] (bd_name 1) rfl nd (di_seq (de_ix (de_var 0) de_int)) (blkOk_by (by show blkC N_sent_by (defScope s_sent_by) _ _ = true; decide +kernel)) (fun _ _ _ _ _ => pgN 1 nd) (fun _ _ _ _ _ => (dts_one (dt_eq (u64 hr) (de_ix (de_var 1) de_int) de_str))) (fun _ _ _ _ _ => (de_ix (de_var 1) de_int)))))
abbrev s_is_job : Stmt := top 8
theorem sc_is_job : FnScope N_is_job ["thing"] (defScope s_is_job) := ⟨rfl, rfl, rfl, by decide +kernel, rfl, by decide +kernel, by decide +kernel⟩
theorem ok_is_job {P : Program} {w : World} {K : PySem.W.Frag} {mg : Str → Option Value} {base : Heap} (nb : Nb mg) (nc : Nc mg) (sm : SysB base) (h_is_work : CallOk P w K mg base 3 "is_work" C_is_work) (h_sent_by : CallOk P w K mg base 1 "sent_by" C_sent_by) (D0 : DefAt K mg "is_job" s_is_job ["thing"]) : CallOk P w K mg base 4 "is_job" C_is_job := by
  have nd : N_is_job.Nodup := sc_is_job.nd
  refine call_ok (T := T_is_job) D0 sc_is_job len_is_job (fun f cdv A outer s H EL E hr hgd hp hE => ?_) run_is_job
  exact (dss_cons (ds_if (DPW.dt (dw_or (dt_not (dt_tru (de_isinst rfl nb.n_isinstance (da_cons (de_var 0) (da_cons (de_bltn (by rfl) nb.n_tuple (by decide +kernel)) da_nil))))) (dw_or1 (dt_not (dt_lele de_int (de_len rfl nb.n_len (da_cons (de_var 0) da_nil)) (de_globI nc.c_MOST_WORKS)))))) (dss_one (ds_ret de_bl)) dss_nil)
    (dss_cons (ds_if (dt_not (dt_tru (de_all rfl rfl nb.n_all (da_cons (de_lcN [("work", 1)] (bd_name 1) rfl nd (di_seq (de_var 0)) (blkOk_by (by show blkC N_is_job (defScope s_is_job) _ _ = true; decide +kernel)) (fun _ _ _ _ _ => pgN 1 nd) (fun _ _ _ _ _ => dts_nil) (fun _ _ _ _ _ => (de_fn h_is_work (hr.mono (by first | decide | omega)) hgd passD_no (da_cons (de_var 1) da_nil)))) da_nil)))) (dss_one (ds_ret de_bl)) dss_nil)
    (dss_cons (ds_set 2 nd (de_lst da_nil))
    (dss_cons (ds_for hp rfl (di_range1 rfl nb.n_range (de_len rfl nb.n_len (da_cons (de_var 0) da_nil))) (dg_name 3 nd) (dss_cons (ds_if (dt_not (dt_tru (de_all rfl rfl nb.n_all (da_cons (de_lcN [("child", 4)] (bd_name 4) rfl nd (di_seq (de_fn h_sent_by (hr.mono (by first | decide | omega)) hgd hE (da_cons (de_ix (de_var 0) (de_var 3)) da_nil))) (blkOk_by (by show blkC N_is_job (defScope s_is_job) _ _ = true; decide +kernel)) (fun _ _ _ _ _ => pgN 4 nd) (fun _ _ _ _ _ => dts_nil) (fun _ _ _ _ _ => (de_gt (de_var 4) (de_var 3)))) da_nil)))) (dss_one (ds_ret de_bl)) dss_nil)
    (dss_one (ds_expr (de_extend (de_var 2) (da_cons (de_fn h_sent_by (hr.mono (by first | decide | omega)) hgd hE (da_cons (de_ix (de_var 0) (de_var 3)) da_nil)) da_nil))))))
    (dss_one (ds_ret (de_eq (u64 hr) (de_sortedI rfl nb.n_sorted (da_cons (de_var 2) da_nil)) (de_listRange2 rfl nb.n_list rfl nb.n_range rfl de_int (de_len rfl nb.n_len (da_cons (de_var 0) da_nil))))))))))
abbrev s_law_put : Stmt := top 19
theorem sc_law_put : FnScope N_law_put ["things", "at", "thing"] (defScope s_law_put) := ⟨rfl, rfl, rfl, by decide +kernel, rfl, by decide +kernel, by decide +kernel⟩
theorem ok_law_put {P : Program} {w : World} {K : PySem.W.Frag} {mg : Str → Option Value} {base : Heap} (nb : Nb mg) (nc : Nc mg) (sm : SysB base)  (D0 : DefAt K mg "_law_put" s_law_put ["things", "at", "thing"]) : CallOk P w K mg base 1 "_law_put" C_law_put := by
  have nd : N_law_put.Nodup := sc_law_put.nd
  refine call_ok (T := T_law_put) D0 sc_law_put len_law_put (fun f cdv A outer s H EL E hr hgd hp hE => ?_) run_law_put
  exact (dss_one (ds_ret (de_add (de_add (de_slice (de_var 0) do_none (do_some (de_var 1))) (de_tup (da_cons (de_var 2) da_nil))) (de_slice (de_var 0) (do_some (de_add (de_var 1) de_int)) do_none))))
abbrev s_law_bent_step : Stmt := top 20
theorem sc_law_bent_step : FnScope N_law_bent_step ["feed", "many", "step"] (defScope s_law_bent_step) := ⟨rfl, rfl, rfl, by decide +kernel, rfl, by decide +kernel, by decide +kernel⟩
theorem ok_law_bent_step {P : Program} {w : World} {K : PySem.W.Frag} {mg : Str → Option Value} {base : Heap} (nb : Nb mg) (nc : Nc mg) (sm : SysB base) (h_law_pick : CallOk P w K mg base 2 "_law_pick" C_law_pick) (D0 : DefAt K mg "_law_bent_step" s_law_bent_step ["feed", "many", "step"]) : CallOk P w K mg base 3 "_law_bent_step" C_law_bent_step := by
  have nd : N_law_bent_step.Nodup := sc_law_bent_step.nd
  refine call_ok (T := T_law_bent_step) D0 sc_law_bent_step len_law_bent_step (fun f cdv A outer s H EL E hr hgd hp hE => ?_) run_law_bent_step
  exact (dss_cons (ds_set 3 nd (de_if (dt_eq (u64 hr) (de_len rfl nb.n_len (da_cons (de_var 2) da_nil)) de_int) (de_ix (de_var 2) (de_neg de_int)) de_int))
    (dss_cons (ds_set 4 nd (de_lst (da_cons de_int (da_cons (de_var 1) (da_cons (de_add (de_var 3) de_int) (da_cons (de_sub (de_var 3) de_int) (da_cons (de_neg de_int) (da_cons de_bl (da_cons de_non (da_cons de_str (da_cons (de_pow de_int de_int) (da_cons (de_tup (da_cons (de_var 3) da_nil)) (da_cons (de_lst (da_cons (de_var 3) da_nil)) (da_cons de_dicK (da_cons (de_disp (dpps_cons de_int de_int dpps_nil)) da_nil)))))))))))))))
    (dss_cons (ds_set 4 nd (de_fn h_law_pick (hr.mono (by first | decide | omega)) hgd hE (da_cons (de_var 0) (da_cons (de_var 4) da_nil))))
    (dss_cons (ds_set 5 nd (de_lst (da_cons (de_tup (da_cons de_str (da_cons (de_var 4) da_nil))) (da_cons (de_tup (da_cons de_str da_nil)) (da_cons (de_tup (da_cons de_str (da_cons de_int da_nil))) (da_cons (de_tup (da_cons de_str da_nil)) (da_cons (de_tup (da_cons de_str (da_cons de_int da_nil))) (da_cons (de_tup (da_cons de_str da_nil)) (da_cons (de_tup da_nil) (da_cons (de_lst (da_cons de_str da_nil)) (da_cons de_non (da_cons de_str (da_cons de_int da_nil)))))))))))))
    (dss_cons (ds_set 5 nd (de_add (de_var 5) (de_lst (da_cons (de_tup (da_cons de_str (da_cons de_int (da_cons de_int da_nil)))) (da_cons (de_tup (da_cons de_str da_nil)) (da_cons (de_tup (da_cons de_str da_nil)) (da_cons (de_tup (da_cons de_non da_nil)) (da_cons (de_tup (da_cons de_int da_nil)) (da_cons (de_tup (da_cons de_str (da_cons (de_var 4) da_nil))) (da_cons (de_tup (da_cons de_str (da_cons (de_var 4) da_nil))) (da_cons (de_lst (da_cons (de_var 2) da_nil)) (da_cons (de_tup (da_cons (de_tup (da_cons de_str da_nil)) da_nil)) da_nil))))))))))))
    (dss_cons (ds_set 5 nd (de_add (de_var 5) (de_lst (da_cons (de_tup (da_cons (de_lst (da_cons de_str da_nil)) da_nil)) (da_cons (de_tup (da_cons de_dicK da_nil)) (da_cons (de_tup (da_cons de_dicK (da_cons de_int da_nil))) (da_cons (de_tup (da_cons (de_lst da_nil) (da_cons de_int da_nil))) (da_cons (de_list rfl nb.n_list (da_cons (de_var 2) da_nil)) (da_cons (de_list rfl nb.n_list (da_cons (de_var 2) da_nil)) (da_cons (de_tup (da_cons (de_tup (da_cons de_str da_nil)) (da_cons de_int da_nil))) da_nil))))))))))
    (dss_one (ds_ret (de_fn h_law_pick (hr.mono (by first | decide | omega)) hgd hE (da_cons (de_var 0) (da_cons (de_var 5) da_nil)))))))))))
abbrev s_law_bent_work : Stmt := top 21
theorem sc_law_bent_work : FnScope N_law_bent_work ["feed", "many", "work"] (defScope s_law_bent_work) := ⟨rfl, rfl, rfl, by decide +kernel, rfl, by decide +kernel, by decide +kernel⟩
theorem ok_law_bent_work {P : Program} {w : World} {K : PySem.W.Frag} {mg : Str → Option Value} {base : Heap} (nb : Nb mg) (nc : Nc mg) (sm : SysB base) (h_law_take : CallOk P w K mg base 1 "_law_take" C_law_take) (h_law_put : CallOk P w K mg base 1 "_law_put" C_law_put) (h_law_bent_step : CallOk P w K mg base 3 "_law_bent_step" C_law_bent_step) (h_law_pick : CallOk P w K mg base 2 "_law_pick" C_law_pick) (D0 : DefAt K mg "_law_bent_work" s_law_bent_work ["feed", "many", "work"]) : CallOk P w K mg base 4 "_law_bent_work" C_law_bent_work := by
  have nd : N_law_bent_work.Nodup := sc_law_bent_work.nd
  refine call_ok (T := T_law_bent_work) D0 sc_law_bent_work len_law_bent_work (fun f cdv A outer s H EL E hr hgd hp hE => ?_) run_law_bent_work
  exact (dss_cons (ds_set 3 nd (de_fn h_law_take (hr.mono (by first | decide | omega)) hgd hE (da_cons (de_var 0) (da_cons de_int da_nil))))
    (dss_cons (ds_asg (de_var 2) (dg_tup rfl (dgs_cons (dg_name 4 nd) (dgs_cons (dg_name 5 nd) dgs_nil))))
    (dss_cons (ds_set 6 nd (de_fn h_law_take (hr.mono (by first | decide | omega)) hgd hE (da_cons (de_var 0) (da_cons (de_len rfl nb.n_len (da_cons (de_var 5) da_nil)) da_nil))))
    (dss_cons (ds_if (dt_lt (de_var 3) de_int) (dss_one (ds_ret (de_tup (da_cons (de_var 4) (da_cons (de_fn h_law_put (hr.mono (by first | decide | omega)) hgd hE (da_cons (de_var 5) (da_cons (de_var 6) (da_cons (de_fn h_law_bent_step (hr.mono (by first | decide | omega)) hgd hE (da_cons (de_var 0) (da_cons (de_var 1) (da_cons (de_ix (de_var 5) (de_var 6)) da_nil)))) da_nil)))) da_nil))))) dss_nil)
    (dss_cons (ds_if (dt_eq (u64 hr) (de_var 3) de_int) (dss_cons (ds_set 7 nd (de_lst (da_cons de_int (da_cons de_int (da_cons (de_neg de_int) (da_cons de_bl (da_cons de_non (da_cons de_str (da_cons (de_pow de_int de_int) (da_cons (de_tup (da_cons de_int da_nil)) (da_cons (de_lst (da_cons de_int da_nil)) (da_cons de_dicK (da_cons de_int (da_cons de_int (da_cons (de_add de_int (de_fn h_law_take (hr.mono (by first | decide | omega)) hgd hE (da_cons (de_var 0) (da_cons de_int da_nil)))) (da_cons (de_neg (de_fn h_law_take (hr.mono (by first | decide | omega)) hgd hE (da_cons (de_var 0) (da_cons de_int da_nil)))) da_nil))))))))))))))))
    (dss_cons (ds_set 4 nd (de_fn h_law_pick (hr.mono (by first | decide | omega)) hgd hE (da_cons (de_var 0) (da_cons (de_var 7) da_nil))))
    (dss_one (ds_ret (de_tup (da_cons (de_var 4) (da_cons (de_var 5) da_nil))))))) dss_nil)
    (dss_cons (ds_if (dt_eq (u64 hr) (de_var 3) de_int) (dss_one (ds_ret (de_tup (da_cons (de_var 4) (da_cons (de_add (de_add (de_slice (de_var 5) do_none (do_some (de_var 6))) (de_tup (da_cons (de_fn h_law_pick (hr.mono (by first | decide | omega)) hgd hE (da_cons (de_var 0) (da_cons (de_lst (da_cons (de_ix (de_var 5) (de_var 6)) (da_cons (de_tup (da_cons de_str da_nil)) (da_cons (de_tup (da_cons de_str da_nil)) da_nil)))) da_nil))) da_nil))) (de_slice (de_var 5) (do_some (de_var 6)) do_none)) da_nil))))) dss_nil)
    (dss_cons (ds_if (dt_eq (u64 hr) (de_var 3) de_int) (dss_one (ds_ret (de_tup (da_cons (de_var 4) (da_cons (de_add (de_slice (de_var 5) do_none (do_some (de_var 6))) (de_slice (de_var 5) (do_some (de_add (de_var 6) de_int)) do_none)) da_nil))))) dss_nil)
    (dss_cons (ds_if (dt_eq (u64 hr) (de_var 3) de_int) (dss_one (ds_ret (de_tup (da_cons (de_var 4) (da_cons (de_slice (de_add (de_var 5) (de_mul (de_tup (da_cons (de_tup (da_cons de_str da_nil)) da_nil)) de_int)) do_none (do_some (de_fn h_law_pick (hr.mono (by first | decide | omega)) hgd hE (da_cons (de_var 0) (da_cons (de_lst (da_cons de_int (da_cons de_int (da_cons de_int (da_cons de_int (da_cons de_int da_nil)))))) da_nil))))) da_nil))))) dss_nil)
    (dss_cons (ds_set 7 nd (de_lst (da_cons (de_tup (da_cons (de_var 4) (da_cons (de_list rfl nb.n_list (da_cons (de_var 5) da_nil)) da_nil))) (da_cons (de_lst (da_cons (de_var 4) (da_cons (de_var 5) da_nil))) (da_cons (de_tup (da_cons (de_var 4) da_nil)) (da_cons (de_tup (da_cons (de_var 4) (da_cons (de_var 5) (da_cons de_int da_nil)))) (da_cons (de_tup (da_cons (de_var 5) (da_cons (de_var 4) da_nil))) (da_cons de_non (da_cons de_int (da_cons de_str da_nil))))))))))
    (dss_one (ds_ret (de_fn h_law_pick (hr.mono (by first | decide | omega)) hgd hE (da_cons (de_var 0) (da_cons (de_add (de_var 7) (de_lst (da_cons (de_tup (da_cons (de_var 4) (da_cons (de_tup da_nil) da_nil))) (da_cons (de_tup (da_cons (de_var 4) (da_cons de_non da_nil))) (da_cons (de_tup (da_cons (de_var 4) (da_cons de_str da_nil))) (da_cons (de_tup da_nil) (da_cons (de_tup (da_cons (de_var 4) (da_cons (de_tup (da_cons (de_var 5) da_nil)) da_nil))) da_nil))))))) da_nil))))))))))))))
abbrev s_law_bent : Stmt := top 22
theorem sc_law_bent : FnScope N_law_bent ["feed", "job"] (defScope s_law_bent) := ⟨rfl, rfl, rfl, by decide +kernel, rfl, by decide +kernel, by decide +kernel⟩
theorem ok_law_bent {P : Program} {w : World} {K : PySem.W.Frag} {mg : Str → Option Value} {base : Heap} (nb : Nb mg) (nc : Nc mg) (sm : SysB base) (h_law_take : CallOk P w K mg base 1 "_law_take" C_law_take) (h_law_put : CallOk P w K mg base 1 "_law_put" C_law_put) (h_law_bent_work : CallOk P w K mg base 4 "_law_bent_work" C_law_bent_work) (h_law_pick : CallOk P w K mg base 2 "_law_pick" C_law_pick) (D0 : DefAt K mg "_law_bent" s_law_bent ["feed", "job"]) : CallOk P w K mg base 5 "_law_bent" C_law_bent := by
  have nd : N_law_bent.Nodup := sc_law_bent.nd
  refine call_ok (T := T_law_bent) D0 sc_law_bent len_law_bent (fun f cdv A outer s H EL E hr hgd hp hE => ?_) run_law_bent
  exact (dss_cons (ds_set 2 nd (de_fn h_law_take (hr.mono (by first | decide | omega)) hgd hE (da_cons (de_var 0) (da_cons de_int da_nil))))
    (dss_cons (ds_set 3 nd (de_fn h_law_take (hr.mono (by first | decide | omega)) hgd hE (da_cons (de_var 0) (da_cons (de_len rfl nb.n_len (da_cons (de_var 1) da_nil)) da_nil))))
    (dss_cons (ds_if (dt_lt (de_var 2) de_int) (dss_one (ds_ret (de_fn h_law_put (hr.mono (by first | decide | omega)) hgd hE (da_cons (de_var 1) (da_cons (de_var 3) (da_cons (de_fn h_law_bent_work (hr.mono (by first | decide | omega)) hgd hE (da_cons (de_var 0) (da_cons (de_len rfl nb.n_len (da_cons (de_var 1) da_nil)) (da_cons (de_ix (de_var 1) (de_var 3)) da_nil)))) da_nil)))))) dss_nil)
    (dss_cons (ds_if (dt_eq (u64 hr) (de_var 2) de_int) (dss_one (ds_ret (de_add (de_slice (de_var 1) do_none (do_some (de_var 3))) (de_slice (de_var 1) (do_some (de_add (de_var 3) de_int)) do_none)))) dss_nil)
    (dss_cons (ds_if (dt_eq (u64 hr) (de_var 2) de_int) (dss_one (ds_ret (de_add (de_add (de_slice (de_var 1) do_none (do_some (de_var 3))) (de_mul (de_tup (da_cons (de_tup (da_cons de_int (da_cons (de_tup (da_cons (de_tup (da_cons de_str da_nil)) da_nil)) da_nil))) da_nil)) (de_add de_int (de_fn h_law_take (hr.mono (by first | decide | omega)) hgd hE (da_cons (de_var 0) (da_cons de_int da_nil)))))) (de_slice (de_var 1) (do_some (de_var 3)) do_none)))) dss_nil)
    (dss_cons (ds_set 4 nd (de_fn h_law_take (hr.mono (by first | decide | omega)) hgd hE (da_cons (de_var 0) (da_cons (de_len rfl nb.n_len (da_cons (de_var 1) da_nil)) da_nil))))
    (dss_cons (ds_if (dt_eq (u64 hr) (de_var 2) de_int) (dss_one (ds_ret (de_fn h_law_put (hr.mono (by first | decide | omega)) hgd hE (da_cons (de_fn h_law_put (hr.mono (by first | decide | omega)) hgd hE (da_cons (de_var 1) (da_cons (de_var 3) (da_cons (de_ix (de_var 1) (de_var 4)) da_nil)))) (da_cons (de_var 4) (da_cons (de_ix (de_var 1) (de_var 3)) da_nil)))))) dss_nil)
    (dss_cons (ds_set 5 nd (de_lst (da_cons (de_list rfl nb.n_list (da_cons (de_var 1) da_nil)) (da_cons (de_tup (da_cons (de_var 1) da_nil)) (da_cons de_non (da_cons (de_tup da_nil) (da_cons de_str (da_cons de_int (da_cons (de_ix (de_var 1) de_int) (da_cons (de_mul (de_tup (da_cons de_non da_nil)) de_int) (da_cons (de_add (de_var 1) (de_tup (da_cons de_non da_nil))) (da_cons (de_lst da_nil) (da_cons de_bl (da_cons de_dicK (da_cons (de_disp (dpps_cons de_int (de_var 1) dpps_nil)) da_nil)))))))))))))))
    (dss_one (ds_ret (de_fn h_law_pick (hr.mono (by first | decide | omega)) hgd hE (da_cons (de_var 0) (da_cons (de_var 5) da_nil)))))))))))))
abbrev s_law_whole : Stmt := top 13
theorem sc_law_whole : FnScope N_law_whole ["found"] (defScope s_law_whole) := ⟨rfl, rfl, rfl, by decide +kernel, rfl, by decide +kernel, by decide +kernel⟩
theorem ok_law_whole {P : Program} {w : World} {K : PySem.W.Frag} {mg : Str → Option Value} {base : Heap} (nb : Nb mg) (nc : Nc mg) (sm : SysB base)  (D0 : DefAt K mg "_law_whole" s_law_whole ["found"]) : CallOk P w K mg base 1 "_law_whole" C_law_whole := by
  have nd : N_law_whole.Nodup := sc_law_whole.nd
  refine call_ok (T := T_law_whole) D0 sc_law_whole len_law_whole (fun f cdv A outer s H EL E hr hgd hp hE => ?_) run_law_whole
  exact (dss_one (ds_ret (de_and (de_isinst rfl nb.n_isinstance (da_cons (de_var 0) (da_cons (de_bltn (by rfl) nb.n_int (by decide +kernel)) da_nil))) (de_one (de_not (de_isinst rfl nb.n_isinstance (da_cons (de_var 0) (da_cons (de_bltn (by rfl) nb.n_bool (by decide +kernel)) da_nil))))))))
abbrev s_law_is_step : Stmt := top 16
theorem sc_law_is_step : FnScope N_law_is_step ["thing"] (defScope s_law_is_step) := ⟨rfl, rfl, rfl, by decide +kernel, rfl, by decide +kernel, by decide +kernel⟩
theorem ok_law_is_step {P : Program} {w : World} {K : PySem.W.Frag} {mg : Str → Option Value} {base : Heap} (nb : Nb mg) (nc : Nc mg) (sm : SysB base) (h_law_whole : CallOk P w K mg base 1 "_law_whole" C_law_whole) (D0 : DefAt K mg "_law_is_step" s_law_is_step ["thing"]) : CallOk P w K mg base 2 "_law_is_step" C_law_is_step := by
  have nd : N_law_is_step.Nodup := sc_law_is_step.nd
  refine call_ok (T := T_law_is_step) D0 sc_law_is_step len_law_is_step (fun f cdv A outer s H EL E hr hgd hp hE => ?_) run_law_is_step
  exact (dss_cons (ds_if (DPW.dt (dw_or (dt_not (dt_tru (de_isinst rfl nb.n_isinstance (da_cons (de_var 0) (da_cons (de_bltn (by rfl) nb.n_tuple (by decide +kernel)) da_nil))))) (dw_or (dt_eq (u64 hr) (de_len rfl nb.n_len (da_cons (de_var 0) da_nil)) de_int) (dw_or1 (dt_not (dt_tru (de_isinst rfl nb.n_isinstance (da_cons (de_ix (de_var 0) de_int) (da_cons (de_bltn (by rfl) nb.n_str (by decide +kernel)) da_nil))))))))) (dss_one (ds_ret de_bl)) dss_nil)
    (dss_cons (ds_if (dt_eq (u64 hr) (de_ix (de_var 0) de_int) de_str) (dss_one (ds_ret (de_and (de_eq (u64 hr) (de_len rfl nb.n_len (da_cons (de_var 0) da_nil)) de_int) (de_one (de_fn h_law_whole (hr.mono (by first | decide | omega)) hgd hE (da_cons (de_ix (de_var 0) de_int) da_nil)))))) dss_nil)
    (dss_one (ds_ret (de_and (de_eq (u64 hr) (de_len rfl nb.n_len (da_cons (de_var 0) da_nil)) de_int) (de_one (de_or (de_eq (u64 hr) (de_ix (de_var 0) de_int) de_str) (de_one (de_eq (u64 hr) (de_ix (de_var 0) de_int) de_str)))))))))
abbrev s_law_is_work : Stmt := top 17
theorem sc_law_is_work : FnScope N_law_is_work ["thing"] (defScope s_law_is_work) := ⟨rfl, rfl, rfl, by decide +kernel, rfl, by decide +kernel, by decide +kernel⟩
theorem ok_law_is_work {P : Program} {w : World} {K : PySem.W.Frag} {mg : Str → Option Value} {base : Heap} (nb : Nb mg) (nc : Nc mg) (sm : SysB base) (h_law_whole : CallOk P w K mg base 1 "_law_whole" C_law_whole) (h_law_is_step : CallOk P w K mg base 2 "_law_is_step" C_law_is_step) (D0 : DefAt K mg "_law_is_work" s_law_is_work ["thing"]) : CallOk P w K mg base 3 "_law_is_work" C_law_is_work := by
  have nd : N_law_is_work.Nodup := sc_law_is_work.nd
  refine call_ok (T := T_law_is_work) D0 sc_law_is_work len_law_is_work (fun f cdv A outer s H EL E hr hgd hp hE => ?_) run_law_is_work
  exact (dss_cons (ds_if (DPW.dt (dw_or (dt_not (dt_tru (de_isinst rfl nb.n_isinstance (da_cons (de_var 0) (da_cons (de_bltn (by rfl) nb.n_tuple (by decide +kernel)) da_nil))))) (dw_or (dt_ne (u64 hr) (de_len rfl nb.n_len (da_cons (de_var 0) da_nil)) de_int) (dw_or1 (dt_not (dt_tru (de_isinst rfl nb.n_isinstance (da_cons (de_ix (de_var 0) de_int) (da_cons (de_bltn (by rfl) nb.n_tuple (by decide +kernel)) da_nil))))))))) (dss_one (ds_ret de_bl)) dss_nil)
    (dss_cons (ds_if (DPW.dt (dw_or (dt_not (dt_tru (de_fn h_law_whole (hr.mono (by first | decide | omega)) hgd hE (da_cons (de_ix (de_var 0) de_int) da_nil)))) (dw_or (dt_lt (de_ix (de_var 0) de_int) de_int) (dw_or (dt_gt (de_ix (de_var 0) de_int) de_int) (dw_or1 (dt_not (dt_ltlt de_int (de_len rfl nb.n_len (da_cons (de_ix (de_var 0) de_int) da_nil)) de_int))))))) (dss_one (ds_ret de_bl)) dss_nil)
    (dss_one (ds_ret (de_notin (u65 hr) de_bl (de_lcN [("step", 1)] (bd_name 1) rfl nd (di_seq (de_ix (de_var 0) de_int)) (blkOk_by (by show blkC N_law_is_work (defScope s_law_is_work) _ _ = true; decide +kernel)) (fun _ _ _ _ _ => pgN 1 nd) (fun _ _ _ _ _ => dts_nil) (fun _ _ _ _ _ => (de_fn h_law_is_step (hr.mono (by first | decide | omega)) hgd passD_no (da_cons (de_var 1) da_nil)))))))))
abbrev s_law_is_job : Stmt := top 18
theorem sc_law_is_job : FnScope N_law_is_job ["thing"] (defScope s_law_is_job) := ⟨rfl, rfl, rfl, by decide +kernel, rfl, by decide +kernel, by decide +kernel⟩
theorem ok_law_is_job {P : Program} {w : World} {K : PySem.W.Frag} {mg : Str → Option Value} {base : Heap} (nb : Nb mg) (nc : Nc mg) (sm : SysB base) (h_law_is_work : CallOk P w K mg base 3 "_law_is_work" C_law_is_work) (D0 : DefAt K mg "_law_is_job" s_law_is_job ["thing"]) : CallOk P w K mg base 4 "_law_is_job" C_law_is_job := by
  have nd : N_law_is_job.Nodup := sc_law_is_job.nd
  refine call_ok (T := T_law_is_job) D0 sc_law_is_job len_law_is_job (fun f cdv A outer s H EL E hr hgd hp hE => ?_) run_law_is_job
  exact (dss_cons (ds_if (DPW.dt (dw_or (dt_not (dt_tru (de_isinst rfl nb.n_isinstance (da_cons (de_var 0) (da_cons (de_bltn (by rfl) nb.n_tuple (by decide +kernel)) da_nil))))) (dw_or1 (dt_not (dt_ltlt de_int (de_len rfl nb.n_len (da_cons (de_var 0) da_nil)) de_int))))) (dss_one (ds_ret de_bl)) dss_nil)
    (dss_cons (ds_if (dt_in (u65 hr) de_bl (de_lcN [("work", 1)] (bd_name 1) rfl nd (di_seq (de_var 0)) (blkOk_by (by show blkC N_law_is_job (defScope s_law_is_job) _ _ = true; decide +kernel)) (fun _ _ _ _ _ => pgN 1 nd) (fun _ _ _ _ _ => dts_nil) (fun _ _ _ _ _ => (de_fn h_law_is_work (hr.mono (by first | decide | omega)) hgd passD_no (da_cons (de_var 1) da_nil))))) (dss_one (ds_ret de_bl)) dss_nil)
    (dss_cons (ds_set 2 nd de_dicK)
    (dss_cons (ds_for hp rfl (di_range1 rfl nb.n_range (de_len rfl nb.n_len (da_cons (de_var 0) da_nil))) (dg_name 1 nd) (dss_one (ds_for hp rfl (di_seq (de_ix (de_ix (de_var 0) (de_var 1)) de_int)) (dg_name 3 nd) (dss_one (ds_if (dt_eq (u64 hr) (de_ix (de_var 3) de_int) de_str) (dss_cons (ds_if (DPW.dt (dw_or (dt_din (u64 hr) (de_ix (de_var 3) de_int) (de_var 2)) (dw_or1 (dt_not (dt_ltlt (de_var 1) (de_ix (de_var 3) de_int) (de_len rfl nb.n_len (da_cons (de_var 0) da_nil))))))) (dss_one (ds_ret de_bl)) dss_nil)
    (dss_one (ds_dput (u64 hr) (de_var 2) (de_ix (de_var 3) de_int) (de_var 1)))) dss_nil)))))
    (dss_one (ds_ret (de_eq (u64 hr) (de_lenDic rfl nb.n_len (da_cons (de_var 2) da_nil)) (de_sub (de_len rfl nb.n_len (da_cons (de_var 0) da_nil)) de_int))))))))
abbrev s_law : Stmt := top 23
theorem sc_law : FnScope N_law ["script"] (defScope s_law) := ⟨rfl, rfl, rfl, by decide +kernel, rfl, by decide +kernel, by decide +kernel⟩
theorem all_mk {l : PySem.W.OpenLaw} {w : World} {K : PySem.W.Frag} {h : Heap} {mg : Str → Option Value} {fa : Addr} {f1 f2 f3 f4 f5 f6 f7 f8 f9 f10 f11 f12 f13 f14 f15 f16 f17 f18 f19 : Addr} (X : K.In h) (G : h.Ns mainGlobals mg) (hfa : mg "law" = some (.ref fa))
    {od1 an1 : Option Addr} {sl1 : Array (Option Value)} {oc1 kV1 dc1 pm1 cd1 ct1 : Value}
    (a1 : PySem.W.nsIn K mainGlobals "_law_take" = some (some (.ref f1)))
    (l1 : K.lookup f1 = some ⟨oc1, od1, .func (PySem.W.fnOf "_law_take" "_law_take" (defArgs s_law_take) (defBody s_law_take) (defScope s_law_take) .none kV1 dc1 pm1 an1 cd1 ct1), sl1⟩) (c1 : PySem.W.codeIn K cd1 "_law_take" = true) (k1 : PySem.W.keepIn K (.ref f1) = true)
    {od2 an2 : Option Addr} {sl2 : Array (Option Value)} {oc2 kV2 dc2 pm2 cd2 ct2 : Value}
    (a2 : PySem.W.nsIn K mainGlobals "_law_pick" = some (some (.ref f2)))
    (l2 : K.lookup f2 = some ⟨oc2, od2, .func (PySem.W.fnOf "_law_pick" "_law_pick" (defArgs s_law_pick) (defBody s_law_pick) (defScope s_law_pick) .none kV2 dc2 pm2 an2 cd2 ct2), sl2⟩) (c2 : PySem.W.codeIn K cd2 "_law_pick" = true) (k2 : PySem.W.keepIn K (.ref f2) = true)
    {od3 an3 : Option Addr} {sl3 : Array (Option Value)} {oc3 kV3 dc3 pm3 cd3 ct3 : Value}
    (a3 : PySem.W.nsIn K mainGlobals "_law_steps" = some (some (.ref f3)))
    (l3 : K.lookup f3 = some ⟨oc3, od3, .func (PySem.W.fnOf "_law_steps" "_law_steps" (defArgs s_law_steps) (defBody s_law_steps) (defScope s_law_steps) .none kV3 dc3 pm3 an3 cd3 ct3), sl3⟩) (c3 : PySem.W.codeIn K cd3 "_law_steps" = true) (k3 : PySem.W.keepIn K (.ref f3) = true)
    {od4 an4 : Option Addr} {sl4 : Array (Option Value)} {oc4 kV4 dc4 pm4 cd4 ct4 : Value}
    (a4 : PySem.W.nsIn K mainGlobals "_law_job" = some (some (.ref f4)))
    (l4 : K.lookup f4 = some ⟨oc4, od4, .func (PySem.W.fnOf "_law_job" "_law_job" (defArgs s_law_job) (defBody s_law_job) (defScope s_law_job) .none kV4 dc4 pm4 an4 cd4 ct4), sl4⟩) (c4 : PySem.W.codeIn K cd4 "_law_job" = true) (k4 : PySem.W.keepIn K (.ref f4) = true)
    {od5 an5 : Option Addr} {sl5 : Array (Option Value)} {oc5 kV5 dc5 pm5 cd5 ct5 : Value}
    (a5 : PySem.W.nsIn K mainGlobals "_law_feed" = some (some (.ref f5)))
    (l5 : K.lookup f5 = some ⟨oc5, od5, .func (PySem.W.fnOf "_law_feed" "_law_feed" (defArgs s_law_feed) (defBody s_law_feed) (defScope s_law_feed) .none kV5 dc5 pm5 an5 cd5 ct5), sl5⟩) (c5 : PySem.W.codeIn K cd5 "_law_feed" = true) (k5 : PySem.W.keepIn K (.ref f5) = true)
    {od6 an6 : Option Addr} {sl6 : Array (Option Value)} {oc6 kV6 dc6 pm6 cd6 ct6 : Value}
    (a6 : PySem.W.nsIn K mainGlobals "is_whole" = some (some (.ref f6)))
    (l6 : K.lookup f6 = some ⟨oc6, od6, .func (PySem.W.fnOf "is_whole" "is_whole" (defArgs s_is_whole) (defBody s_is_whole) (defScope s_is_whole) .none kV6 dc6 pm6 an6 cd6 ct6), sl6⟩) (c6 : PySem.W.codeIn K cd6 "is_whole" = true) (k6 : PySem.W.keepIn K (.ref f6) = true)
    {od7 an7 : Option Addr} {sl7 : Array (Option Value)} {oc7 kV7 dc7 pm7 cd7 ct7 : Value}
    (a7 : PySem.W.nsIn K mainGlobals "is_step" = some (some (.ref f7)))
    (l7 : K.lookup f7 = some ⟨oc7, od7, .func (PySem.W.fnOf "is_step" "is_step" (defArgs s_is_step) (defBody s_is_step) (defScope s_is_step) .none kV7 dc7 pm7 an7 cd7 ct7), sl7⟩) (c7 : PySem.W.codeIn K cd7 "is_step" = true) (k7 : PySem.W.keepIn K (.ref f7) = true)
    {od8 an8 : Option Addr} {sl8 : Array (Option Value)} {oc8 kV8 dc8 pm8 cd8 ct8 : Value}
    (a8 : PySem.W.nsIn K mainGlobals "is_work" = some (some (.ref f8)))
    (l8 : K.lookup f8 = some ⟨oc8, od8, .func (PySem.W.fnOf "is_work" "is_work" (defArgs s_is_work) (defBody s_is_work) (defScope s_is_work) .none kV8 dc8 pm8 an8 cd8 ct8), sl8⟩) (c8 : PySem.W.codeIn K cd8 "is_work" = true) (k8 : PySem.W.keepIn K (.ref f8) = true)
    {od9 an9 : Option Addr} {sl9 : Array (Option Value)} {oc9 kV9 dc9 pm9 cd9 ct9 : Value}
    (a9 : PySem.W.nsIn K mainGlobals "sent_by" = some (some (.ref f9)))
    (l9 : K.lookup f9 = some ⟨oc9, od9, .func (PySem.W.fnOf "sent_by" "sent_by" (defArgs s_sent_by) (defBody s_sent_by) (defScope s_sent_by) .none kV9 dc9 pm9 an9 cd9 ct9), sl9⟩) (c9 : PySem.W.codeIn K cd9 "sent_by" = true) (k9 : PySem.W.keepIn K (.ref f9) = true)
    {od10 an10 : Option Addr} {sl10 : Array (Option Value)} {oc10 kV10 dc10 pm10 cd10 ct10 : Value}
    (a10 : PySem.W.nsIn K mainGlobals "is_job" = some (some (.ref f10)))
    (l10 : K.lookup f10 = some ⟨oc10, od10, .func (PySem.W.fnOf "is_job" "is_job" (defArgs s_is_job) (defBody s_is_job) (defScope s_is_job) .none kV10 dc10 pm10 an10 cd10 ct10), sl10⟩) (c10 : PySem.W.codeIn K cd10 "is_job" = true) (k10 : PySem.W.keepIn K (.ref f10) = true)
    {od11 an11 : Option Addr} {sl11 : Array (Option Value)} {oc11 kV11 dc11 pm11 cd11 ct11 : Value}
    (a11 : PySem.W.nsIn K mainGlobals "_law_put" = some (some (.ref f11)))
    (l11 : K.lookup f11 = some ⟨oc11, od11, .func (PySem.W.fnOf "_law_put" "_law_put" (defArgs s_law_put) (defBody s_law_put) (defScope s_law_put) .none kV11 dc11 pm11 an11 cd11 ct11), sl11⟩) (c11 : PySem.W.codeIn K cd11 "_law_put" = true) (k11 : PySem.W.keepIn K (.ref f11) = true)
    {od12 an12 : Option Addr} {sl12 : Array (Option Value)} {oc12 kV12 dc12 pm12 cd12 ct12 : Value}
    (a12 : PySem.W.nsIn K mainGlobals "_law_bent_step" = some (some (.ref f12)))
    (l12 : K.lookup f12 = some ⟨oc12, od12, .func (PySem.W.fnOf "_law_bent_step" "_law_bent_step" (defArgs s_law_bent_step) (defBody s_law_bent_step) (defScope s_law_bent_step) .none kV12 dc12 pm12 an12 cd12 ct12), sl12⟩) (c12 : PySem.W.codeIn K cd12 "_law_bent_step" = true) (k12 : PySem.W.keepIn K (.ref f12) = true)
    {od13 an13 : Option Addr} {sl13 : Array (Option Value)} {oc13 kV13 dc13 pm13 cd13 ct13 : Value}
    (a13 : PySem.W.nsIn K mainGlobals "_law_bent_work" = some (some (.ref f13)))
    (l13 : K.lookup f13 = some ⟨oc13, od13, .func (PySem.W.fnOf "_law_bent_work" "_law_bent_work" (defArgs s_law_bent_work) (defBody s_law_bent_work) (defScope s_law_bent_work) .none kV13 dc13 pm13 an13 cd13 ct13), sl13⟩) (c13 : PySem.W.codeIn K cd13 "_law_bent_work" = true) (k13 : PySem.W.keepIn K (.ref f13) = true)
    {od14 an14 : Option Addr} {sl14 : Array (Option Value)} {oc14 kV14 dc14 pm14 cd14 ct14 : Value}
    (a14 : PySem.W.nsIn K mainGlobals "_law_bent" = some (some (.ref f14)))
    (l14 : K.lookup f14 = some ⟨oc14, od14, .func (PySem.W.fnOf "_law_bent" "_law_bent" (defArgs s_law_bent) (defBody s_law_bent) (defScope s_law_bent) .none kV14 dc14 pm14 an14 cd14 ct14), sl14⟩) (c14 : PySem.W.codeIn K cd14 "_law_bent" = true) (k14 : PySem.W.keepIn K (.ref f14) = true)
    {od15 an15 : Option Addr} {sl15 : Array (Option Value)} {oc15 kV15 dc15 pm15 cd15 ct15 : Value}
    (a15 : PySem.W.nsIn K mainGlobals "_law_whole" = some (some (.ref f15)))
    (l15 : K.lookup f15 = some ⟨oc15, od15, .func (PySem.W.fnOf "_law_whole" "_law_whole" (defArgs s_law_whole) (defBody s_law_whole) (defScope s_law_whole) .none kV15 dc15 pm15 an15 cd15 ct15), sl15⟩) (c15 : PySem.W.codeIn K cd15 "_law_whole" = true) (k15 : PySem.W.keepIn K (.ref f15) = true)
    {od16 an16 : Option Addr} {sl16 : Array (Option Value)} {oc16 kV16 dc16 pm16 cd16 ct16 : Value}
    (a16 : PySem.W.nsIn K mainGlobals "_law_is_step" = some (some (.ref f16)))
    (l16 : K.lookup f16 = some ⟨oc16, od16, .func (PySem.W.fnOf "_law_is_step" "_law_is_step" (defArgs s_law_is_step) (defBody s_law_is_step) (defScope s_law_is_step) .none kV16 dc16 pm16 an16 cd16 ct16), sl16⟩) (c16 : PySem.W.codeIn K cd16 "_law_is_step" = true) (k16 : PySem.W.keepIn K (.ref f16) = true)
    {od17 an17 : Option Addr} {sl17 : Array (Option Value)} {oc17 kV17 dc17 pm17 cd17 ct17 : Value}
    (a17 : PySem.W.nsIn K mainGlobals "_law_is_work" = some (some (.ref f17)))
    (l17 : K.lookup f17 = some ⟨oc17, od17, .func (PySem.W.fnOf "_law_is_work" "_law_is_work" (defArgs s_law_is_work) (defBody s_law_is_work) (defScope s_law_is_work) .none kV17 dc17 pm17 an17 cd17 ct17), sl17⟩) (c17 : PySem.W.codeIn K cd17 "_law_is_work" = true) (k17 : PySem.W.keepIn K (.ref f17) = true)
    {od18 an18 : Option Addr} {sl18 : Array (Option Value)} {oc18 kV18 dc18 pm18 cd18 ct18 : Value}
    (a18 : PySem.W.nsIn K mainGlobals "_law_is_job" = some (some (.ref f18)))
    (l18 : K.lookup f18 = some ⟨oc18, od18, .func (PySem.W.fnOf "_law_is_job" "_law_is_job" (defArgs s_law_is_job) (defBody s_law_is_job) (defScope s_law_is_job) .none kV18 dc18 pm18 an18 cd18 ct18), sl18⟩) (c18 : PySem.W.codeIn K cd18 "_law_is_job" = true) (k18 : PySem.W.keepIn K (.ref f18) = true)
    {od19 an19 : Option Addr} {sl19 : Array (Option Value)} {oc19 kV19 dc19 pm19 cd19 ct19 : Value}
    (a19 : PySem.W.nsIn K mainGlobals "law" = some (some (.ref f19)))
    (l19 : K.lookup f19 = some ⟨oc19, od19, .func (PySem.W.fnOf "law" "law" (defArgs s_law) (defBody s_law) (defScope s_law) .none kV19 dc19 pm19 an19 cd19 ct19), sl19⟩) (c19 : PySem.W.codeIn K cd19 "law" = true) (k19 : PySem.W.keepIn K (.ref f19) = true)
    (z_all : PySem.W.nsIn K mainGlobals "all" = some none)
    (z_bool : PySem.W.nsIn K mainGlobals "bool" = some none)
    (z_int : PySem.W.nsIn K mainGlobals "int" = some none)
    (z_isinstance : PySem.W.nsIn K mainGlobals "isinstance" = some none)
    (z_len : PySem.W.nsIn K mainGlobals "len" = some none)
    (z_list : PySem.W.nsIn K mainGlobals "list" = some none)
    (z_max : PySem.W.nsIn K mainGlobals "max" = some none)
    (z_min : PySem.W.nsIn K mainGlobals "min" = some none)
    (z_range : PySem.W.nsIn K mainGlobals "range" = some none)
    (z_repr : PySem.W.nsIn K mainGlobals "repr" = some none)
    (z_sorted : PySem.W.nsIn K mainGlobals "sorted" = some none)
    (z_str : PySem.W.nsIn K mainGlobals "str" = some none)
    (z_tuple : PySem.W.nsIn K mainGlobals "tuple" = some none)
    {t_MOST_ROOM : Tok} (zc_MOST_ROOM : PySem.W.nsIn K mainGlobals "MOST_ROOM" = some (some (.int 9 t_MOST_ROOM)))
    {t_MOST_STEPS : Tok} (zc_MOST_STEPS : PySem.W.nsIn K mainGlobals "MOST_STEPS" = some (some (.int 8 t_MOST_STEPS)))
    {t_MOST_WORKS : Tok} (zc_MOST_WORKS : PySem.W.nsIn K mainGlobals "MOST_WORKS" = some (some (.int 12 t_MOST_WORKS))) :
    ∃ fd : FuncData, (∀ (s : Shared) (v : Value), BindsTo s fd ⟨[v], []⟩ [("script", v)]) ∧ ∀ base : Heap, K.In base → base.Ns mainGlobals mg → SysB base → FK l.prog w K mg base 6 fa fd ["script"] (spOf K (spLaw 63)) := by
  have nb : Nb mg := ⟨PySem.W.mg_none_of X G z_all, PySem.W.mg_none_of X G z_bool, PySem.W.mg_none_of X G z_int, PySem.W.mg_none_of X G z_isinstance, PySem.W.mg_none_of X G z_len, PySem.W.mg_none_of X G z_list, PySem.W.mg_none_of X G z_max, PySem.W.mg_none_of X G z_min, PySem.W.mg_none_of X G z_range, PySem.W.mg_none_of X G z_repr, PySem.W.mg_none_of X G z_sorted, PySem.W.mg_none_of X G z_str, PySem.W.mg_none_of X G z_tuple⟩
  have nc : Nc mg := ⟨⟨_, PySem.W.mg_of X G zc_MOST_ROOM⟩, ⟨_, PySem.W.mg_of X G zc_MOST_STEPS⟩, ⟨_, PySem.W.mg_of X G zc_MOST_WORKS⟩⟩
  have F1 : Fun K "_law_take" "_law_take" s_law_take f1 _ := fun_mk (st := s_law_take) l1 c1 k1
  have b1 := F1.binds (ps := ["feed", "many"]) fun _ _ _ _ _ _ us hl => match us, hl with | [_, _], _ => rfl
  have D1 : DefAt K mg "_law_take" s_law_take ["feed", "many"] := ⟨_, _, F1, PySem.W.mg_of X G a1, b1⟩
  have F2 : Fun K "_law_pick" "_law_pick" s_law_pick f2 _ := fun_mk (st := s_law_pick) l2 c2 k2
  have b2 := F2.binds (ps := ["feed", "some"]) fun _ _ _ _ _ _ us hl => match us, hl with | [_, _], _ => rfl
  have D2 : DefAt K mg "_law_pick" s_law_pick ["feed", "some"] := ⟨_, _, F2, PySem.W.mg_of X G a2, b2⟩
  have F3 : Fun K "_law_steps" "_law_steps" s_law_steps f3 _ := fun_mk (st := s_law_steps) l3 c3 k3
  have b3 := F3.binds (ps := ["feed", "children"]) fun _ _ _ _ _ _ us hl => match us, hl with | [_, _], _ => rfl
  have D3 : DefAt K mg "_law_steps" s_law_steps ["feed", "children"] := ⟨_, _, F3, PySem.W.mg_of X G a3, b3⟩
  have F4 : Fun K "_law_job" "_law_job" s_law_job f4 _ := fun_mk (st := s_law_job) l4 c4 k4
  have b4 := F4.binds (ps := ["feed", "most"]) fun _ _ _ _ _ _ us hl => match us, hl with | [_, _], _ => rfl
  have D4 : DefAt K mg "_law_job" s_law_job ["feed", "most"] := ⟨_, _, F4, PySem.W.mg_of X G a4, b4⟩
  have F5 : Fun K "_law_feed" "_law_feed" s_law_feed f5 _ := fun_mk (st := s_law_feed) l5 c5 k5
  have b5 := F5.binds (ps := ["script", "k"]) fun _ _ _ _ _ _ us hl => match us, hl with | [_, _], _ => rfl
  have D5 : DefAt K mg "_law_feed" s_law_feed ["script", "k"] := ⟨_, _, F5, PySem.W.mg_of X G a5, b5⟩
  have F6 : Fun K "is_whole" "is_whole" s_is_whole f6 _ := fun_mk (st := s_is_whole) l6 c6 k6
  have b6 := F6.binds (ps := ["thing"]) fun _ _ _ _ _ _ us hl => match us, hl with | [_], _ => rfl
  have D6 : DefAt K mg "is_whole" s_is_whole ["thing"] := ⟨_, _, F6, PySem.W.mg_of X G a6, b6⟩
  have F7 : Fun K "is_step" "is_step" s_is_step f7 _ := fun_mk (st := s_is_step) l7 c7 k7
  have b7 := F7.binds (ps := ["thing"]) fun _ _ _ _ _ _ us hl => match us, hl with | [_], _ => rfl
  have D7 : DefAt K mg "is_step" s_is_step ["thing"] := ⟨_, _, F7, PySem.W.mg_of X G a7, b7⟩
  have F8 : Fun K "is_work" "is_work" s_is_work f8 _ := fun_mk (st := s_is_work) l8 c8 k8
  have b8 := F8.binds (ps := ["thing"]) fun _ _ _ _ _ _ us hl => match us, hl with | [_], _ => rfl
  have D8 : DefAt K mg "is_work" s_is_work ["thing"] := ⟨_, _, F8, PySem.W.mg_of X G a8, b8⟩
  have F9 : Fun K "sent_by" "sent_by" s_sent_by f9 _ := fun_mk (st := s_sent_by) l9 c9 k9
  have b9 := F9.binds (ps := ["work"]) fun _ _ _ _ _ _ us hl => match us, hl with | [_], _ => rfl
  have D9 : DefAt K mg "sent_by" s_sent_by ["work"] := ⟨_, _, F9, PySem.W.mg_of X G a9, b9⟩
  have F10 : Fun K "is_job" "is_job" s_is_job f10 _ := fun_mk (st := s_is_job) l10 c10 k10
  have b10 := F10.binds (ps := ["thing"]) fun _ _ _ _ _ _ us hl => match us, hl with | [_], _ => rfl
  have D10 : DefAt K mg "is_job" s_is_job ["thing"] := ⟨_, _, F10, PySem.W.mg_of X G a10, b10⟩
  have F11 : Fun K "_law_put" "_law_put" s_law_put f11 _ := fun_mk (st := s_law_put) l11 c11 k11
  have b11 := F11.binds (ps := ["things", "at", "thing"]) fun _ _ _ _ _ _ us hl => match us, hl with | [_, _, _], _ => rfl
  have D11 : DefAt K mg "_law_put" s_law_put ["things", "at", "thing"] := ⟨_, _, F11, PySem.W.mg_of X G a11, b11⟩
  have F12 : Fun K "_law_bent_step" "_law_bent_step" s_law_bent_step f12 _ := fun_mk (st := s_law_bent_step) l12 c12 k12
  have b12 := F12.binds (ps := ["feed", "many", "step"]) fun _ _ _ _ _ _ us hl => match us, hl with | [_, _, _], _ => rfl
  have D12 : DefAt K mg "_law_bent_step" s_law_bent_step ["feed", "many", "step"] := ⟨_, _, F12, PySem.W.mg_of X G a12, b12⟩
  have F13 : Fun K "_law_bent_work" "_law_bent_work" s_law_bent_work f13 _ := fun_mk (st := s_law_bent_work) l13 c13 k13
  have b13 := F13.binds (ps := ["feed", "many", "work"]) fun _ _ _ _ _ _ us hl => match us, hl with | [_, _, _], _ => rfl
  have D13 : DefAt K mg "_law_bent_work" s_law_bent_work ["feed", "many", "work"] := ⟨_, _, F13, PySem.W.mg_of X G a13, b13⟩
  have F14 : Fun K "_law_bent" "_law_bent" s_law_bent f14 _ := fun_mk (st := s_law_bent) l14 c14 k14
  have b14 := F14.binds (ps := ["feed", "job"]) fun _ _ _ _ _ _ us hl => match us, hl with | [_, _], _ => rfl
  have D14 : DefAt K mg "_law_bent" s_law_bent ["feed", "job"] := ⟨_, _, F14, PySem.W.mg_of X G a14, b14⟩
  have F15 : Fun K "_law_whole" "_law_whole" s_law_whole f15 _ := fun_mk (st := s_law_whole) l15 c15 k15
  have b15 := F15.binds (ps := ["found"]) fun _ _ _ _ _ _ us hl => match us, hl with | [_], _ => rfl
  have D15 : DefAt K mg "_law_whole" s_law_whole ["found"] := ⟨_, _, F15, PySem.W.mg_of X G a15, b15⟩
  have F16 : Fun K "_law_is_step" "_law_is_step" s_law_is_step f16 _ := fun_mk (st := s_law_is_step) l16 c16 k16
  have b16 := F16.binds (ps := ["thing"]) fun _ _ _ _ _ _ us hl => match us, hl with | [_], _ => rfl
  have D16 : DefAt K mg "_law_is_step" s_law_is_step ["thing"] := ⟨_, _, F16, PySem.W.mg_of X G a16, b16⟩
  have F17 : Fun K "_law_is_work" "_law_is_work" s_law_is_work f17 _ := fun_mk (st := s_law_is_work) l17 c17 k17
  have b17 := F17.binds (ps := ["thing"]) fun _ _ _ _ _ _ us hl => match us, hl with | [_], _ => rfl
  have D17 : DefAt K mg "_law_is_work" s_law_is_work ["thing"] := ⟨_, _, F17, PySem.W.mg_of X G a17, b17⟩
  have F18 : Fun K "_law_is_job" "_law_is_job" s_law_is_job f18 _ := fun_mk (st := s_law_is_job) l18 c18 k18
  have b18 := F18.binds (ps := ["thing"]) fun _ _ _ _ _ _ us hl => match us, hl with | [_], _ => rfl
  have D18 : DefAt K mg "_law_is_job" s_law_is_job ["thing"] := ⟨_, _, F18, PySem.W.mg_of X G a18, b18⟩
  have F19 : Fun K "law" "law" s_law f19 _ := fun_mk (st := s_law) l19 c19 k19
  have b19 := F19.binds (ps := ["script"]) fun _ _ _ _ _ _ us hl => match us, hl with | [_], _ => rfl
  have D19 : DefAt K mg "law" s_law ["script"] := ⟨_, _, F19, PySem.W.mg_of X G a19, b19⟩
  have e := hfa.symm.trans (PySem.W.mg_of X G a19)
  cases e
  refine ⟨PySem.W.fnOf "law" "law" (defArgs s_law) (defBody s_law) (defScope s_law) .none kV19 dc19 pm19 an19 cd19 ct19, fun s v => .of_eq rfl, fun base _ _ sm => ?_⟩
  have h_law_take : CallOk l.prog w K mg base 1 "_law_take" C_law_take := ok_law_take nb nc sm  D1
  have h_law_pick : CallOk l.prog w K mg base 2 "_law_pick" C_law_pick := ok_law_pick nb nc sm h_law_take D2
  have h_law_steps : CallOk l.prog w K mg base 3 "_law_steps" C_law_steps := ok_law_steps nb nc sm h_law_take h_law_pick D3
  have h_law_job : CallOk l.prog w K mg base 4 "_law_job" C_law_job := ok_law_job nb nc sm h_law_pick h_law_take h_law_steps D4
  have h_law_feed : CallOk l.prog w K mg base 1 "_law_feed" C_law_feed := ok_law_feed nb nc sm  D5
  have h_is_whole : CallOk l.prog w K mg base 1 "is_whole" C_is_whole := ok_is_whole nb nc sm  D6
  have h_is_step : CallOk l.prog w K mg base 2 "is_step" C_is_step := ok_is_step nb nc sm h_is_whole D7
  have h_is_work : CallOk l.prog w K mg base 3 "is_work" C_is_work := ok_is_work nb nc sm h_is_whole h_is_step D8
  have h_sent_by : CallOk l.prog w K mg base 1 "sent_by" C_sent_by := ok_sent_by nb nc sm  D9
  have h_is_job : CallOk l.prog w K mg base 4 "is_job" C_is_job := ok_is_job nb nc sm h_is_work h_sent_by D10
  have h_law_put : CallOk l.prog w K mg base 1 "_law_put" C_law_put := ok_law_put nb nc sm  D11
  have h_law_bent_step : CallOk l.prog w K mg base 3 "_law_bent_step" C_law_bent_step := ok_law_bent_step nb nc sm h_law_pick D12
  have h_law_bent_work : CallOk l.prog w K mg base 4 "_law_bent_work" C_law_bent_work := ok_law_bent_work nb nc sm h_law_take h_law_put h_law_bent_step h_law_pick D13
  have h_law_bent : CallOk l.prog w K mg base 5 "_law_bent" C_law_bent := ok_law_bent nb nc sm h_law_take h_law_put h_law_bent_work h_law_pick D14
  have h_law_whole : CallOk l.prog w K mg base 1 "_law_whole" C_law_whole := ok_law_whole nb nc sm  D15
  have h_law_is_step : CallOk l.prog w K mg base 2 "_law_is_step" C_law_is_step := ok_law_is_step nb nc sm h_law_whole D16
  have h_law_is_work : CallOk l.prog w K mg base 3 "_law_is_work" C_law_is_work := ok_law_is_work nb nc sm h_law_whole h_law_is_step D17
  have h_law_is_job : CallOk l.prog w K mg base 4 "_law_is_job" C_law_is_job := ok_law_is_job nb nc sm h_law_is_work D18
  have nd : N_law.Nodup := sc_law.nd
  exact fk_ok (T := T_law) F19 sc_law len_law (fun cdv A outer s H EL E hr hgd hp hE => (dss_cons (ds_for hp rfl (di_range3 rfl nb.n_range de_int (de_max rfl rfl nb.n_max (da_cons de_int (da_cons (de_min rfl rfl nb.n_min (da_cons de_int (da_cons (de_len rfl nb.n_len (da_cons (de_var 0) da_nil)) da_nil))) da_nil))) de_int) (dg_name 1 nd) (dss_cons (ds_set 2 nd (de_fn h_law_job (hr.mono (by first | decide | omega)) hgd hE (da_cons (de_fn h_law_feed (hr.mono (by first | decide | omega)) hgd hE (da_cons (de_var 0) (da_cons (de_var 1) da_nil))) (da_cons de_int da_nil))))
    (dss_cons (ds_if (dt_isnot (de_fn h_is_job (hr.mono (by first | decide | omega)) hgd hE (da_cons (de_var 2) da_nil)) de_bl) (dss_one (ds_ret de_bl)) dss_nil)
    (dss_cons (ds_set 3 nd (de_fn h_law_feed (hr.mono (by first | decide | omega)) hgd hE (da_cons (de_var 0) (da_cons (de_add (de_var 1) de_int) da_nil))))
    (dss_one (ds_for hp rfl (di_range1 rfl nb.n_range de_int) (dg_name 4 nd) (dss_cons (ds_set 5 nd (de_fn h_law_bent (hr.mono (by first | decide | omega)) hgd hE (da_cons (de_var 3) (da_cons (de_var 2) da_nil))))
    (dss_cons (ds_if (DPW.dt (dw_and (dt_tru (de_fn h_law_is_job (hr.mono (by first | decide | omega)) hgd hE (da_cons (de_var 5) da_nil))) (dw_and1 (dt_eq (u64 hr) (de_fn h_law_take (hr.mono (by first | decide | omega)) hgd hE (da_cons (de_var 3) (da_cons de_int da_nil))) de_int)))) (dss_one (ds_set 5 nd (de_fn h_law_bent (hr.mono (by first | decide | omega)) hgd hE (da_cons (de_var 3) (da_cons (de_var 5) da_nil))))) dss_nil)
    (dss_cons (ds_set 6 nd (de_reprX hgd (u65 hr) sm rfl nb.n_repr (da_cons (de_var 5) da_nil)))
    (dss_cons (ds_set 7 nd (de_fn h_is_job (hr.mono (by first | decide | omega)) hgd hE (da_cons (de_var 5) da_nil)))
    (dss_one (ds_if (DPW.dt (dw_or (dt_not (dt_tru (de_isinst rfl nb.n_isinstance (da_cons (de_var 7) (da_cons (de_bltn (by rfl) nb.n_bool (by decide +kernel)) da_nil))))) (dw_or (dt_ne (u64 hr) (de_var 7) (de_fn h_law_is_job (hr.mono (by first | decide | omega)) hgd hE (da_cons (de_var 5) da_nil))) (dw_or1 (dt_ne (u64 hr) (de_reprX hgd (u65 hr) sm rfl nb.n_repr (da_cons (de_var 5) da_nil)) (de_var 6)))))) (dss_one (ds_ret de_bl)) dss_nil))))))))))))
    (dss_one (ds_ret de_bl)))) run_law
end FD
open PySem PySem.W PyProof.Rows
set_option maxRecDepth 100000 in
set_option maxHeartbeats 0 in
theorem PySem.Challenge.cw_farend_k01_what_is_a_job_holds : PySem.Challenge.rw_farend_k01_what_is_a_job.Holds := by
  w_on; o_law; k_head; (case hw => w_witness2)
  k_fill
  refine FD.walk_fkS (n := 63) (k := 6) (x := "script") rfl (by decide) rfl ⟨rfl, by decide, by decide⟩ (fun w h Y => PySem.W.kIn_of Y) (by decide +kernel) ?F
  case F =>
    intro w mg fa h KX G hmg
    refine' FD.all_mk (l := PySem.Challenge.rw_farend_k01_what_is_a_job) KX G hmg ?a1 ?l1 ?c1 ?k1 ?a2 ?l2 ?c2 ?k2 ?a3 ?l3 ?c3 ?k3 ?a4 ?l4 ?c4 ?k4 ?a5 ?l5 ?c5 ?k5 ?a6 ?l6 ?c6 ?k6 ?a7 ?l7 ?c7 ?k7 ?a8 ?l8 ?c8 ?k8 ?a9 ?l9 ?c9 ?k9 ?a10 ?l10 ?c10 ?k10 ?a11 ?l11 ?c11 ?k11 ?a12 ?l12 ?c12 ?k12 ?a13 ?l13 ?c13 ?k13 ?a14 ?l14 ?c14 ?k14 ?a15 ?l15 ?c15 ?k15 ?a16 ?l16 ?c16 ?k16 ?a17 ?l17 ?c17 ?k17 ?a18 ?l18 ?c18 ?k18 ?a19 ?l19 ?c19 ?k19 ?z_all ?z_bool ?z_int ?z_isinstance ?z_len ?z_list ?z_max ?z_min ?z_range ?z_repr ?z_sorted ?z_str ?z_tuple ?zc_MOST_ROOM ?zc_MOST_STEPS ?zc_MOST_WORKS
    (case a1 => k_is)
    (case l1 => k_is)
    (case c1 => k_is)
    (case k1 => k_is)
    (case a2 => k_is)
    (case l2 => k_is)
    (case c2 => k_is)
    (case k2 => k_is)
    (case a3 => k_is)
    (case l3 => k_is)
    (case c3 => k_is)
    (case k3 => k_is)
    (case a4 => k_is)
    (case l4 => k_is)
    (case c4 => k_is)
    (case k4 => k_is)
    (case a5 => k_is)
    (case l5 => k_is)
    (case c5 => k_is)
    (case k5 => k_is)
    (case a6 => k_is)
    (case l6 => k_is)
    (case c6 => k_is)
    (case k6 => k_is)
    (case a7 => k_is)
    (case l7 => k_is)
    (case c7 => k_is)
    (case k7 => k_is)
    (case a8 => k_is)
    (case l8 => k_is)
    (case c8 => k_is)
    (case k8 => k_is)
    (case a9 => k_is)
    (case l9 => k_is)
    (case c9 => k_is)
    (case k9 => k_is)
    (case a10 => k_is)
    (case l10 => k_is)
    (case c10 => k_is)
    (case k10 => k_is)
    (case a11 => k_is)
    (case l11 => k_is)
    (case c11 => k_is)
    (case k11 => k_is)
    (case a12 => k_is)
    (case l12 => k_is)
    (case c12 => k_is)
    (case k12 => k_is)
    (case a13 => k_is)
    (case l13 => k_is)
    (case c13 => k_is)
    (case k13 => k_is)
    (case a14 => k_is)
    (case l14 => k_is)
    (case c14 => k_is)
    (case k14 => k_is)
    (case a15 => k_is)
    (case l15 => k_is)
    (case c15 => k_is)
    (case k15 => k_is)
    (case a16 => k_is)
    (case l16 => k_is)
    (case c16 => k_is)
    (case k16 => k_is)
    (case a17 => k_is)
    (case l17 => k_is)
    (case c17 => k_is)
    (case k17 => k_is)
    (case a18 => k_is)
    (case l18 => k_is)
    (case c18 => k_is)
    (case k18 => k_is)
    (case a19 => k_is)
    (case l19 => k_is)
    (case c19 => k_is)
    (case k19 => k_is)
    (case z_all => k_is)
    (case z_bool => k_is)
    (case z_int => k_is)
    (case z_isinstance => k_is)
    (case z_len => k_is)
    (case z_list => k_is)
    (case z_max => k_is)
    (case z_min => k_is)
    (case z_range => k_is)
    (case z_repr => k_is)
    (case z_sorted => k_is)
    (case z_str => k_is)
    (case z_tuple => k_is)
    (case zc_MOST_ROOM => k_is)
    (case zc_MOST_STEPS => k_is)
    (case zc_MOST_WORKS => k_is)
#print axioms PySem.Challenge.cw_farend_k01_what_is_a_job_holds
