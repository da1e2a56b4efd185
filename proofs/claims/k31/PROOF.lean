import PyProof.Rows.All
import Wide.All
import OpenK.AllK
import Wide.FinOn
import HandS.ForMost
import HandS.Deep
import HandS.TupAny
import HandS.TupMul
import HandS.TupLe
import HandS.IsInst
import HandS.Conv
import HandS.Flow
import HandS.Exc
import KE.KDictKeyed
import HandS.More
import HandS.SortInts
import HandS.RaiseMore
import HandS.ExcOwn
import HandS.WordsExc
import PyProof.ReprBulk
import HandS.Iter
import KE.GoesEnum
import HandS.SortOrd
import KE.DataFind
import PySem.Challenge.RW_farend_k31_beats
set_option Elab.async false
set_option linter.all false
set_option maxRecDepth 100000
set_option maxHeartbeats 4000000

/-! The data layer: tuples as values, an own small heap of lists and instances, readings by continuation. -/
namespace FD
open PySem L2

/-- data: tuples are values; whatever changes is named by its address -/
inductive D where
  | non | bl (b : Bool) | int (i : Int) | str (x : Str) | tup (xs : List D) | tpl (xs : List D) | lis (xs : List D) | ref (a : Addr) | ty (n : String)

inductive O where
  | lst (xs : List D)
  | ins (n : Str) (fs : List (Str × D))
  | dK (kvs : List (Key × D))
  | dT (kvs : List (List Key × D))
  /-- a dict by nested keys; without a world: keys without texts -/
  | dic (ow : Option World) (kvs : List (D × D))
  /-- an exception that was caught and kept, its dict -/
  | exc (n : Str) (od : Option Addr)
  /-- the dict of such a one -/
  | xd (fs : List (Str × D))

abbrev DG := Addr → Option O
def up (G : DG) (a : Addr) (o : O) : DG := fun b => if b = a then some o else G b
theorem up_same {G : DG} {a : Addr} {o : O} : up G a o a = some o := by unfold up; rw [if_pos rfl]
theorem up_ne {G : DG} {a b : Addr} {o : O} (h : b ≠ a) : up G a o b = G b := by unfold up; rw [if_neg h]
theorem up_up {G : DG} {a : Addr} {o u : O} : up (up G a o) a u = up G a u := by
  funext b; unfold up; split <;> rfl
theorem gne {G : DG} {a b : Addr} {o : O} (h : G a = some o) (h' : G b = none) : a ≠ b := by
  intro e; subst e; rw [h] at h'; cases h'
/-- what is known is still known -/
def Le (G G' : DG) : Prop := ∀ a o, G a = some o → G' a = some o
theorem Le.refl (G : DG) : Le G G := fun _ _ h => h
theorem Le.trans {G G1 G2 : DG} (a : Le G G1) (b : Le G1 G2) : Le G G2 := fun c o h => b c o (a c o h)

/-! ### data as values of the hand layer -/
/-- a tuple whose object is known to have no dict of its own -/
def SqP (K : PySem.W.Frag) (H : Hp) (a : Addr) (vs : List V) : Prop := (∃ o : Obj, H a = some (.frz o (.tup vs)) ∧ o.dict = none) ∨
  ∃ (o : Obj) (its : Array Value) (n : Nat), K.lookup a = some o ∧ o.cls = .type "tuple" ∧ o.dict = none ∧ o.data = .seq its n ∧ its.size ≤ sizeLine ∧ Vals vs its.toList
theorem SqP.t {K : PySem.W.Frag} {H : Hp} {a : Addr} {vs : List V} (h : SqP K H a vs) : SqT K H a vs := by
  rcases h with ⟨o, h, _⟩ | ⟨o, its, n, h1, h2, _, h3, h4, h5⟩
  · exact .inl (.inr ⟨o, h⟩)
  · exact .inr ⟨o, its, n, h1, h2, h3, h4, h5⟩
/-- a list that stays as it is -/
def SqR (K : PySem.W.Frag) (H : Hp) (a : Addr) (vs : List V) : Prop := (∃ o : Obj, H a = some (.frz o (.lst vs))) ∨
  ∃ (o : Obj) (its : Array Value) (n : Nat), K.lookup a = some o ∧ o.cls = .type "list" ∧ o.dict = none ∧ o.data = .seq its n ∧ its.size ≤ sizeLine ∧ Vals vs its.toList
theorem SqR.l {K : PySem.W.Frag} {H : Hp} {a : Addr} {vs : List V} (h : SqR K H a vs) : SqL K H a vs := by
  rcases h with ⟨o, h⟩ | h
  · exact .inl (.inr ⟨o, h⟩)
  · exact .inr h
theorem SqP.new {K : PySem.W.Frag} {H : Hp} {a : Addr} {o : Obj} {vs : List V} (h : o.dict = none) : SqP K (upd H a (.frz o (.tup vs))) a vs := .inl ⟨o, upd_same, h⟩
inductive RD (K : PySem.W.Frag) (H : Hp) : D → V → Prop
  | non : RD K H .non .non
  | bl (b : Bool) : RD K H (.bl b) (.bl b)
  | int (i : Int) : RD K H (.int i) (.int i)
  | str (x : Str) : RD K H (.str x) (.str x)
  | ty (n : String) : RD K H (.ty n) (.ty n)
  | ref (a : Addr) : RD K H (.ref a) (.ref a)
  | lis {a : Addr} {xs : List D} {vs : List V} (h : SqR K H a vs) (hl : xs.length = vs.length) (hi : ∀ (i : Nat) (x : D) (v : V), xs[i]? = some x → vs[i]? = some v → RD K H x v) : RD K H (.lis xs) (.ref a)
  | tpl {a : Addr} {xs : List D} {vs : List V} (h : SqT K H a vs) (hl : xs.length = vs.length) (hi : ∀ (i : Nat) (x : D) (v : V), xs[i]? = some x → vs[i]? = some v → RD K H x v) : RD K H (.tpl xs) (.ref a)
  | tup {a : Addr} {xs : List D} {vs : List V} (h : SqP K H a vs) (hl : xs.length = vs.length) (hi : ∀ (i : Nat) (x : D) (v : V), xs[i]? = some x → vs[i]? = some v → RD K H x v) : RD K H (.tup xs) (.ref a)
def RDs (K : PySem.W.Frag) (H : Hp) (xs : List D) (vs : List V) : Prop := xs.length = vs.length ∧ ∀ (i : Nat) (x : D) (v : V), xs[i]? = some x → vs[i]? = some v → RD K H x v
structure KT (K : PySem.W.Frag) (H H' : Hp) : Prop where
  tup : ∀ a vs, H a = some (.tup vs) → H' a = some (.tup vs)
  frz : ∀ a o vs, H a = some (.frz o (.tup vs)) → H' a = some (.frz o (.tup vs))
  lis : ∀ a o vs, H a = some (.frz o (.lst vs)) → H' a = some (.frz o (.lst vs))
theorem KT.refl {K : PySem.W.Frag} {H : Hp} : KT K H H := ⟨fun _ _ h => h, fun _ _ _ h => h, fun _ _ _ h => h⟩
theorem KT.trans {K : PySem.W.Frag} {H H1 H2 : Hp} (a : KT K H H1) (b : KT K H1 H2) : KT K H H2 := ⟨fun c o h => b.1 c o (a.1 c o h), fun c o u h => b.2 c o u (a.2 c o u h), fun c o u h => b.3 c o u (a.3 c o u h)⟩
theorem KT.sqr {K : PySem.W.Frag} {H H' : Hp} (k : KT K H H') {a : Addr} {vs : List V} (h : SqR K H a vs) : SqR K H' a vs := by
  rcases h with ⟨o, h⟩ | h
  · exact .inl ⟨o, k.3 _ _ _ h⟩
  · exact .inr h
theorem KT.sqt {K : PySem.W.Frag} {H H' : Hp} (k : KT K H H') {a : Addr} {vs : List V} (h : SqT K H a vs) : SqT K H' a vs := by
  rcases h with (h | ⟨o, h⟩) | h
  · exact .inl (.inl (k.1 _ _ h))
  · exact .inl (.inr ⟨o, k.2 _ _ _ h⟩)
  · exact .inr h
theorem KT.sqp {K : PySem.W.Frag} {H H' : Hp} (k : KT K H H') {a : Addr} {vs : List V} (h : SqP K H a vs) : SqP K H' a vs := by
  rcases h with ⟨o, h, d⟩ | h
  · exact .inl ⟨o, k.2 _ _ _ h, d⟩
  · exact .inr h
theorem RD.kt {K : PySem.W.Frag} {H H' : Hp} (k : KT K H H') {d : D} {v : V} (r : RD K H d v) : RD K H' d v := by
  induction r with
  | non => exact .non
  | bl b => exact .bl b
  | int i => exact .int i
  | str x => exact .str x
  | ty n => exact .ty n
  | ref a => exact .ref a
  | tup h hl _ ih => exact .tup (k.sqp h) hl ih
  | tpl h hl _ ih => exact .tpl (k.sqt h) hl ih
  | lis h hl _ ih => exact .lis (k.sqr h) hl ih
theorem RDs.kt {K : PySem.W.Frag} {H H' : Hp} (k : KT K H H') {xs : List D} {vs : List V} (r : RDs K H xs vs) : RDs K H' xs vs := ⟨r.1, fun i x v a b => (r.2 i x v a b).kt k⟩
theorem RDs.nil {K : PySem.W.Frag} {H : Hp} : RDs K H [] [] := ⟨rfl, fun i x v a _ => by simp at a⟩
theorem RDs.cons {K : PySem.W.Frag} {H : Hp} {x : D} {v : V} {xs : List D} {vs : List V} (r : RD K H x v) (rs : RDs K H xs vs) : RDs K H (x :: xs) (v :: vs) :=
  ⟨by simp [rs.1], fun i y u a b => by
    cases i with
    | zero => simp at a b; subst a; subst b; exact r
    | succ i => exact rs.2 i y u (by simpa using a) (by simpa using b)⟩
theorem RDs.nil_inv {K : PySem.W.Frag} {H : Hp} {vs : List V} (r : RDs K H [] vs) : vs = [] := by
  have h := r.1
  cases vs with
  | nil => rfl
  | cons v vs => simp at h
theorem RDs.cons_inv {K : PySem.W.Frag} {H : Hp} {x : D} {xs : List D} {vs : List V} (r : RDs K H (x :: xs) vs) : ∃ v vs', vs = v :: vs' ∧ RD K H x v ∧ RDs K H xs vs' := by
  obtain ⟨hl, hi⟩ := r
  cases vs with
  | nil => simp at hl
  | cons v vs' => exact ⟨v, vs', rfl, hi 0 x v rfl rfl, by simpa using hl, fun i y u a b => hi (i + 1) y u (by simpa using a) (by simpa using b)⟩
theorem RDs.get {K : PySem.W.Frag} {H : Hp} {xs : List D} {vs : List V} (r : RDs K H xs vs) {i : Nat} {x : D} (h : xs[i]? = some x) : ∃ v, vs[i]? = some v ∧ RD K H x v := by
  have hi : i < vs.length := by
    have := (List.getElem?_eq_some_iff.mp h).1
    rw [← r.1]; exact this
  exact ⟨vs[i], List.getElem?_eq_getElem hi, r.2 i x _ h (List.getElem?_eq_getElem hi)⟩
theorem RDs.append {K : PySem.W.Frag} {H : Hp} : ∀ {xs ys : List D} {vs ws : List V}, RDs K H xs vs → RDs K H ys ws → RDs K H (xs ++ ys) (vs ++ ws)
  | [], ys, vs, ws, r, s => by
    have e := r.nil_inv
    subst e
    exact s
  | x :: xs, ys, vs, ws, r, s => by
    obtain ⟨v, vs', rfl, a, b⟩ := r.cons_inv
    exact (b.append s).cons a
theorem RDs.set {K : PySem.W.Frag} {H : Hp} {xs : List D} {vs : List V} {x : D} {v : V} (r : RDs K H xs vs) (a : RD K H x v) (i : Nat) : RDs K H (xs.set i x) (vs.set i v) := by
  refine ⟨by simp [r.1], fun j y u b c => ?_⟩
  by_cases e : i = j
  · subst e
    have h1 : i < xs.length := by
      have := (List.getElem?_eq_some_iff.mp b).1
      simpa using this
    rw [List.getElem?_set_self h1] at b
    rw [List.getElem?_set_self (by rw [← r.1]; exact h1)] at c
    cases b; cases c
    exact a
  · rw [List.getElem?_set_ne e] at b c
    exact r.2 j y u b c
theorem RDs.drop {K : PySem.W.Frag} {H : Hp} {xs : List D} {vs : List V} (r : RDs K H xs vs) (n : Nat) : RDs K H (xs.drop n) (vs.drop n) :=
  ⟨by simp [r.1], fun i x v a b => r.2 (n + i) x v (by simpa using a) (by simpa using b)⟩
theorem RDs.take {K : PySem.W.Frag} {H : Hp} {xs : List D} {vs : List V} (r : RDs K H xs vs) (n : Nat) : RDs K H (xs.take n) (vs.take n) :=
  ⟨by simp [r.1], fun i x v a b => by
    by_cases h : i < n
    · rw [List.getElem?_take_of_lt h] at a b
      exact r.2 i x v a b
    · rw [List.getElem?_take_eq_none (by omega)] at a
      cases a⟩
theorem RDs.at {K : PySem.W.Frag} {H : Hp} {xs : List D} {vs : List V} (r : RDs K H xs vs) {i : Int} {x : D} (h : atI xs i = some x) : ∃ v, atI vs i = some v ∧ RD K H x v := by
  unfold atI at h ⊢
  rw [← r.1]
  cases e : ixN xs.length i with
  | none => rw [e] at h; cases h
  | some j =>
    rw [e] at h
    exact r.get h
theorem RDs.int_inv {K : PySem.W.Frag} {H : Hp} : ∀ {ns : List Int} {vs : List V}, RDs K H (ns.map D.int) vs → vs = ns.map V.int
  | [], vs, r => r.nil_inv
  | n :: ns, vs, r => by
    obtain ⟨v, vs', rfl, a, b⟩ := RDs.cons_inv (by simpa using r)
    cases a
    rw [b.int_inv]
    rfl
theorem RDs.str_inv {K : PySem.W.Frag} {H : Hp} : ∀ {ns : List Str} {vs : List V}, RDs K H (ns.map D.str) vs → vs = ns.map V.str
  | [], vs, r => r.nil_inv
  | n :: ns, vs, r => by
    obtain ⟨v, vs', rfl, a, b⟩ := RDs.cons_inv (by simpa using r)
    cases a
    rw [b.str_inv]
    rfl
theorem RDs.bl_inv {K : PySem.W.Frag} {H : Hp} : ∀ {ns : List Bool} {vs : List V}, RDs K H (ns.map D.bl) vs → vs = ns.map V.bl
  | [], vs, r => r.nil_inv
  | n :: ns, vs, r => by
    obtain ⟨v, vs', rfl, a, b⟩ := RDs.cons_inv (by simpa using r)
    cases a
    rw [b.bl_inv]
    rfl
theorem RDs.of_int {K : PySem.W.Frag} {H : Hp} : ∀ (ns : List Int), RDs K H (ns.map D.int) (ns.map V.int)
  | [] => .nil
  | n :: ns => by simpa using (RDs.of_int ns).cons (.int n)
theorem RDs.of_str {K : PySem.W.Frag} {H : Hp} : ∀ (ns : List Str), RDs K H (ns.map D.str) (ns.map V.str)
  | [] => .nil
  | n :: ns => by simpa using (RDs.of_str ns).cons (.str n)

/-! ### the small heap over the hand layer's -/
/-- the class of a name, at the program's top -/
def ClsAt (K : PySem.W.Frag) (n : Str) (C : Addr) : Prop := PySem.W.nsIn K mainGlobals n = some (some (.ref C))
theorem ClsAt.uniq {K : PySem.W.Frag} {n : Str} {C C' : Addr} (h : ClsAt K n C) (h' : ClsAt K n C') : C = C' := by
  unfold ClsAt at h h'
  rw [h] at h'
  cases h'
  rfl
/-! ### nested keys -/
mutual
def nkD : D → Option NestedKey
  | .non => some .none
  | .int i => some (.num i)
  | .bl b => some (.num (if b = true then 1 else 0))
  | .str x => some (.text x)
  | .tup xs => (nkDs xs).map .tup
  | .tpl xs => (nkDs xs).map .tup
  | .lis _ => none
  | .ref _ => none
  | .ty _ => none
def nkDs : List D → Option (List NestedKey)
  | [] => some []
  | x :: xs => match nkD x, nkDs xs with
    | some k, some ks => some (k :: ks)
    | _, _ => none
end
def HashOk (ow : Option World) (k : NestedKey) (z : Int) : Prop := match ow with
  | none => ∀ w : World, z = k.hash w
  | some w => z = k.hash w
/-- a dict's entries: keys at their places, values -/
def dicP (ow : Option World) (ks : List (NestedKey × Addr)) (vs : List V) (es : List DictEntry) : Prop := es.length = ks.length ∧ vs.length = ks.length ∧
  ∀ (i : Nat) (e : DictEntry) (k : NestedKey × Addr) (v : V), es[i]? = some e → ks[i]? = some k → vs[i]? = some v → HashOk ow k.1 e.hash ∧ e.key = .ref k.2 ∧ RelV v e.val
def dicO (ow : Option World) (a : Addr) (ks : List (NestedKey × Addr)) (vs : List V) : HO := .ext fun h => ∃ o es ep, h.get? a = some o ∧ o.ExactDict ∧ o.data = .dict es ep ∧ dicP ow ks vs es.toList
/-- an exception's object -/
def excO (a : Addr) (cls : Value) (d : Option Addr) : HO := .ext fun h => ∃ oe vs, h.get? a = some oe ∧ oe.cls = cls ∧ oe.dict = d ∧ oe.data = .fields vs
def MO (K : PySem.W.Frag) (H : Hp) (a : Addr) : O → Prop
  | .lst xs => ∃ vs, H a = some (.lst vs) ∧ RDs K H xs vs
  | .ins n fs => ∃ C dx fvs, ClsAt K n C ∧ H a = some (.ins C dx fvs) ∧ fvs.map (·.1) = fs.map (·.1) ∧ RDs K H (fs.map (·.2)) (fvs.map (·.2))
  | .dK kvs => ∃ kvs', H a = some (.dK kvs') ∧ kvs'.map (·.1) = kvs.map (·.1) ∧ RDs K H (kvs.map (·.2)) (kvs'.map (·.2))
  | .dT kvs => ∃ kvs', H a = some (.dT kvs') ∧ kvs'.map (·.1) = kvs.map (·.1) ∧ RDs K H (kvs.map (·.2)) (kvs'.map (·.2))
  | .dic ow kvs => ∃ ks vs, H a = some (dicO ow a ks vs) ∧ (a == sysModules) = false ∧ kvs.length ≤ sizeLine ∧ (ks.map (·.1)).Nodup ∧ kvs.length = ks.length ∧
      (∀ (i : Nat) (kv : D × D) (k : NestedKey × Addr), kvs[i]? = some kv → ks[i]? = some k → nkD kv.1 = some k.1 ∧ k.1.depth ≤ 8 ∧ RD K H kv.1 (.ref k.2)) ∧ RDs K H (kvs.map (·.2)) vs
  | .exc n od => ∃ C, ClsAt K n C ∧ H a = some (excO a (.ref C) od)
  | .xd fs => ∃ fvs, H a = some (.xd fvs) ∧ fvs.map (·.1) = fs.map (·.1) ∧ RDs K H (fs.map (·.2)) (fvs.map (·.2))
def MH (K : PySem.W.Frag) (G : DG) (H : Hp) : Prop := ∀ a o, G a = some o → MO K H a o
theorem MO.keep {K : PySem.W.Frag} {H H' : Hp} {a : Addr} {o : O} (m : MO K H a o) (e : H' a = H a) (k : KT K H H') : MO K H' a o := by
  cases o with
  | lst xs => obtain ⟨vs, h, r⟩ := m; exact ⟨vs, e.trans h, r.kt k⟩
  | ins n fs => obtain ⟨C, dx, fvs, hc, h, q, r⟩ := m; exact ⟨C, dx, fvs, hc, e.trans h, q, r.kt k⟩
  | dK kvs => obtain ⟨kvs', h, q, r⟩ := m; exact ⟨kvs', e.trans h, q, r.kt k⟩
  | dT kvs => obtain ⟨kvs', h, q, r⟩ := m; exact ⟨kvs', e.trans h, q, r.kt k⟩
  | dic ow kvs => obtain ⟨ks, vs, h, a1, a2, a3, a4, a5, r⟩ := m; exact ⟨ks, vs, e.trans h, a1, a2, a3, a4, fun i kv x e1 e2 => let ⟨b1, b2, b3⟩ := a5 i kv x e1 e2; ⟨b1, b2, b3.kt k⟩, r.kt k⟩
  | exc n od => obtain ⟨C, hc, h⟩ := m; exact ⟨C, hc, e.trans h⟩
  | xd fs => obtain ⟨fvs, h, q, r⟩ := m; exact ⟨fvs, e.trans h, q, r.kt k⟩
theorem MH.le {K : PySem.W.Frag} {G G' : DG} {H : Hp} (m : MH K G H) (l : Le G' G) : MH K G' H := fun a o h => m a o (l a o h)
theorem MH.upd {K : PySem.W.Frag} {G : DG} {H : Hp} {p : Addr} {o : O} {u : HO} (m : MH K G H) (k : KT K H (upd H p u)) (n : MO K (L2.upd H p u) p o) : MH K (up G p o) (L2.upd H p u) := fun a x h => by
  by_cases e : a = p
  · subst e
    rw [up_same] at h
    cases h
    exact n
  · rw [up_ne e] at h
    exact (m a x h).keep (upd_ne e) k
/-- behind a new object that isn't tracked -/
theorem MH.new {K : PySem.W.Frag} {G : DG} {H : Hp} {p : Addr} {u : HO} (m : MH K G H) (k : KT K H (L2.upd H p u)) (n : G p = none) : MH K G (L2.upd H p u) := fun a x h => (m a x h).keep (upd_ne (gne h n)) k
theorem KT.upd_new {K : PySem.W.Frag} {H : Hp} {p : Addr} {u : HO} (h : H p = none) : KT K H (L2.upd H p u) :=
  ⟨fun a vs s => by rw [upd_ne (ne_of_none s h)]; exact s, fun a o vs s => by rw [upd_ne (ne_of_none s h)]; exact s, fun a o vs s => by rw [upd_ne (ne_of_none s h)]; exact s⟩
/-- .. behind a change of what is neither a tuple nor locked -/
theorem KT.upd_mut {K : PySem.W.Frag} {H : Hp} {p : Addr} {u w : HO} (h : H p = some w) (ht : ∀ xs, w ≠ .tup xs) (hf : ∀ o x, w ≠ .frz o x) : KT K H (L2.upd H p u) :=
  ⟨fun a vs s => by rw [upd_ne (ne_of s h (fun e => ht _ e.symm))]; exact s, fun a o vs s => by rw [upd_ne (ne_of s h (fun e => hf _ _ e.symm))]; exact s, fun a o vs s => by rw [upd_ne (ne_of s h (fun e => hf _ _ e.symm))]; exact s⟩
theorem MH.fresh {K : PySem.W.Frag} {G : DG} {H : Hp} {p : Addr} (m : MH K G H) (h : H p = none) : G p = none := by
  cases e : G p with
  | none => rfl
  | some o =>
    have q := m p o e
    cases o with
    | lst xs => obtain ⟨vs, h1, _⟩ := q; rw [h] at h1; cases h1
    | ins n fs => obtain ⟨C, dx, fvs, _, h1, _⟩ := q; rw [h] at h1; cases h1
    | dK kvs => obtain ⟨kvs', h1, _⟩ := q; rw [h] at h1; cases h1
    | dT kvs => obtain ⟨kvs', h1, _⟩ := q; rw [h] at h1; cases h1
    | dic ow kvs => obtain ⟨_, _, h1, _⟩ := q; rw [h] at h1; cases h1
    | exc n od => obtain ⟨_, _, h1⟩ := q; rw [h] at h1; cases h1
    | xd fs => obtain ⟨_, h1, _⟩ := q; rw [h] at h1; cases h1
end FD

namespace FD
open PySem L2

abbrev DSt := List (Option D)
abbrev DK := D → DG → Prop
abbrev DE := DSt → DG → DK → Prop
abbrev DTt := DSt → DG → (Bool → DG → Prop) → Prop
abbrev DA := DSt → DG → (List D → DG → Prop) → Prop
structure DEnds where
  nx : DSt → DG → Prop
  rt : DK
  bk : DSt → DG → Prop
  ct : DSt → DG → Prop
abbrev DS := DEnds → DSt → DG → Prop
def DEnds.Le (D D' : DEnds) : Prop := (∀ σ G, D.nx σ G → D'.nx σ G) ∧ (∀ d G, D.rt d G → D'.rt d G) ∧ (∀ σ G, D.bk σ G → D'.bk σ G) ∧ (∀ σ G, D.ct σ G → D'.ct σ G)

def SR (K : PySem.W.Frag) (H : Hp) (σd : DSt) (σ : St) : Prop := σd.length = σ.length ∧ ∀ (i : Nat) (d : D), σd[i]? = some (some d) → ∃ v, σ[i]? = some (some v) ∧ RD K H d v
theorem SR.kt {K : PySem.W.Frag} {H H' : Hp} {σd : DSt} {σ : St} (s : SR K H σd σ) (k : KT K H H') : SR K H' σd σ := ⟨s.1, fun i d h => let ⟨v, a, b⟩ := s.2 i d h; ⟨v, a, b.kt k⟩⟩
theorem SR.set {K : PySem.W.Frag} {H : Hp} {σd : DSt} {σ : St} (s : SR K H σd σ) {d : D} {v : V} (r : RD K H d v) (i : Nat) : SR K H (σd.set i (some d)) (σ.set i (some v)) := by
  refine ⟨by simp [s.1], fun j e h => ?_⟩
  by_cases q : i = j
  · subst q
    have h1 : i < σd.length := by
      have := (List.getElem?_eq_some_iff.mp h).1
      simpa using this
    rw [List.getElem?_set_self h1] at h
    cases h
    exact ⟨v, List.getElem?_set_self (by rw [← s.1]; exact h1), r⟩
  · rw [List.getElem?_set_ne q] at h ⊢
    exact s.2 j e h
theorem SR.forget {K : PySem.W.Frag} {H : Hp} {σd : DSt} {σ : St} (s : SR K H σd σ) (i : Nat) (o : Option V) : SR K H (σd.set i none) (σ.set i o) := by
  refine ⟨by simp [s.1], fun j e h => ?_⟩
  by_cases q : i = j
  · subst q
    have h1 : i < σd.length := by
      have := (List.getElem?_eq_some_iff.mp h).1
      simpa using this
    rw [List.getElem?_set_self h1] at h
    cases h
  · rw [List.getElem?_set_ne q] at h ⊢
    exact s.2 j e h

def lf (K : PySem.W.Frag) (H : Hp) (Q : VK) : DK := fun d G' => ∀ v H', MH K G' H' → RD K H' d v → KT K H H' → Q v H'
def lfT (K : PySem.W.Frag) (H : Hp) (Q : Bool → Hp → Prop) : Bool → DG → Prop := fun b G' => ∀ H', MH K G' H' → KT K H H' → Q b H'
def lfA (K : PySem.W.Frag) (H : Hp) (Q : List V → Hp → Prop) : List D → DG → Prop := fun ds G' => ∀ vs H', MH K G' H' → RDs K H' ds vs → KT K H H' → Q vs H'
def lfS (K : PySem.W.Frag) (H : Hp) (Q : St → Hp → Prop) : DSt → DG → Prop := fun σd G' => ∀ σ H', MH K G' H' → SR K H' σd σ → KT K H H' → Q σ H'
def lfE (K : PySem.W.Frag) (H : Hp) (D : Ends) : DEnds := { nx := lfS K H D.nx, rt := lf K H D.rt, bk := lfS K H D.bk, ct := lfS K H D.ct }
theorem lf_kt {K : PySem.W.Frag} {H H' : Hp} {Q : VK} (k : KT K H H') {d : D} {G : DG} (h : lf K H Q d G) : lf K H' Q d G := fun v H2 a b c => h v H2 a b (k.trans c)
theorem lfT_kt {K : PySem.W.Frag} {H H' : Hp} {Q : Bool → Hp → Prop} (k : KT K H H') {d : Bool} {G : DG} (h : lfT K H Q d G) : lfT K H' Q d G := fun H2 a c => h H2 a (k.trans c)
theorem lfA_kt {K : PySem.W.Frag} {H H' : Hp} {Q : List V → Hp → Prop} (k : KT K H H') {d : List D} {G : DG} (h : lfA K H Q d G) : lfA K H' Q d G := fun v H2 a b c => h v H2 a b (k.trans c)
theorem lfS_kt {K : PySem.W.Frag} {H H' : Hp} {Q : St → Hp → Prop} (k : KT K H H') {d : DSt} {G : DG} (h : lfS K H Q d G) : lfS K H' Q d G := fun v H2 a b c => h v H2 a b (k.trans c)
theorem lfE_kt {K : PySem.W.Frag} {H H' : Hp} {D : Ends} (k : KT K H H') : (lfE K H D).Le (lfE K H' D) := ⟨fun _ _ h => lfS_kt k h, fun _ _ h => lf_kt k h, fun _ _ h => lfS_kt k h, fun _ _ h => lfS_kt k h⟩

def MonoE (t : DE) : Prop := ∀ σ G (Q Q' : DK), (∀ d G', Q d G' → Q' d G') → t σ G Q → t σ G Q'
def MonoT (t : DTt) : Prop := ∀ σ G (Q Q' : Bool → DG → Prop), (∀ d G', Q d G' → Q' d G') → t σ G Q → t σ G Q'
def MonoA (t : DA) : Prop := ∀ σ G (Q Q' : List D → DG → Prop), (∀ d G', Q d G' → Q' d G') → t σ G Q → t σ G Q'
def MonoS (t : DS) : Prop := ∀ σ G (D D' : DEnds), D.Le D' → t D σ G → t D' σ G

structure DPE (X : Cx) (e : Expr) (t : DE) : Prop where
  mono : MonoE t
  run : ∃ tt, PE X e tt ∧ ∀ σ H σd G Q, MH X.K G H → SR X.K H σd σ → t σd G (lf X.K H Q) → tt σ H Q
structure DPT (X : Cx) (e : Expr) (t : DTt) : Prop where
  mono : MonoT t
  run : ∃ tt, PT X e tt ∧ ∀ σ H σd G Q, MH X.K G H → SR X.K H σd σ → t σd G (lfT X.K H Q) → tt σ H Q
structure DPW (X : Cx) (e : Expr) (t : DTt) : Prop where
  mono : MonoT t
  run : ∃ tt, PW X e tt ∧ ∀ σ H σd G Q, MH X.K G H → SR X.K H σd σ → t σd G (lfT X.K H Q) → tt σ H Q
structure DPA (X : Cx) (es : List Expr) (t : DA) : Prop where
  mono : MonoA t
  run : ∃ tt, PA X es tt ∧ ∀ σ H σd G Q, MH X.K G H → SR X.K H σd σ → t σd G (lfA X.K H Q) → tt σ H Q
structure DPS (X : Cx) (st : Stmt) (t : DS) : Prop where
  mono : MonoS t
  run : ∃ tt, PS X st tt ∧ ∀ σ H σd G D, MH X.K G H → SR X.K H σd σ → t (lfE X.K H D) σd G → tt D σ H
structure DPSs (X : Cx) (st : List Stmt) (t : DS) : Prop where
  mono : MonoS t
  run : ∃ tt, PSs X st tt ∧ ∀ σ H σd G D, MH X.K G H → SR X.K H σd σ → t (lfE X.K H D) σd G → tt D σ H

section
variable {X : Cx} {a b c e : Expr} {es rest : List Expr} {ta tb tc : DE} {pos : Pos}

/-! ### names and constants -/
def getS (σ : DSt) (i : Nat) : Option D := match σ[i]? with | some (some d) => some d | _ => none
def opt (o : Option D) (G : DG) (Q : DK) : Prop := match o with | some d => Q d G | none => False
theorem opt_some {d : D} {G : DG} {Q : DK} : opt (some d) G Q = Q d G := rfl
theorem opt_mono {o : Option D} {G : DG} {Q Q' : DK} (h : ∀ d G', Q d G' → Q' d G') (q : opt o G Q) : opt o G Q' := by
  cases o with
  | none => exact q
  | some d => exact h _ _ q
def dVar (i : Nat) : DE := fun σ G Q => opt (getS σ i) G Q
def dC (d : D) : DE := fun _ G Q => Q d G
theorem de_var (i : Nat) {x : Str} (hN : X.N[i]? = some x := by rfl) (hv : Vis X.env.scope x := by first | exact Or.inl rfl | exact Or.inr (Or.inl rfl) | exact Or.inr (Or.inr rfl)) (hd : (x == ("__debug__" : Str)) = false := by decide)
    (hcd : (x == ("__classdict__" : Str)) = false := by decide) : DPE X (.Name x pos) (dVar i) := by
  refine ⟨fun σ G Q Q' h q => opt_mono h q, tVar i, pe_var hN hv hd hcd, fun σ H σd G Q m s h => ?_⟩
  unfold dVar getS at h
  cases e : σd[i]? with
  | none => rw [e] at h; exact False.elim h
  | some o =>
    cases o with
    | none => rw [e] at h; exact False.elim h
    | some d =>
      rw [e] at h
      obtain ⟨v, h1, h2⟩ := s.2 i d e
      exact ⟨v, h1, h v H m h2 .refl⟩
theorem de_const {v : V} {d : D} (p : PE X e (tC v)) (r : ∀ H, RD X.K H d v) : DPE X e (dC d) :=
  ⟨fun σ G Q Q' h q => h _ _ q, tC v, p, fun σ H σd G Q m s h => h v H m (r H) .refl⟩
theorem de_int {i : Int} {j} : DPE X (.Constant (.int i) j pos) (dC (.int i)) := de_const pe_int fun _ => .int i
theorem de_bl {b : Bool} {j} : DPE X (.Constant (.bool b) j pos) (dC (.bl b)) := de_const pe_bl fun _ => .bl b
theorem de_non {j} : DPE X (.Constant .none j pos) (dC .non) := de_const pe_non fun _ => .non
theorem de_str {x : Str} {j} : DPE X (.Constant (.str x) j pos) (dC (.str x)) := de_const pe_str fun _ => .str x
theorem de_glob {x : Str} {v : V} {d : D} {u : Value} (hg : Gl X x) (hm : X.mg x = some u) (r : RelV v u) (rd : ∀ H, RD X.K H d v) (hd : (x == ("__debug__" : Str)) = false := by decide) : DPE X (.Name x pos) (dC d) := de_const (pe_glob hg hm r hd) rd
theorem de_bltn {x : Str} {T : String} (hg : Gl X x) (hm : X.mg x = none) (hv : bootBuiltins x = some (.type T)) (hn : x ≠ "__name__" := by decide) (hd : (x == ("__debug__" : Str)) = false := by decide) : DPE X (.Name x pos) (dC (.ty T)) :=
  de_const (pe_bltn hg hm hv (v := .ty T) rfl hn hd) fun _ => .ty T

/-! ### operators by two values -/
abbrev F2 := D → D → DG → DK → Prop
def MonoF2 (f : F2) : Prop := ∀ x y G (Q Q' : DK), (∀ d G', Q d G' → Q' d G') → f x y G Q → f x y G Q'
def dOp (f : F2) (ta tb : DE) : DE := fun σ G Q => ta σ G fun x G1 => tb σ G1 fun y G2 => f x y G2 Q
def Sim2 (K : PySem.W.Frag) (r : R2) (f : F2) : Prop := ∀ H G x y dx dy Q, MH K G H → RD K H dx x → RD K H dy y → f dx dy G (lf K H Q) → r x y H Q
theorem dOp_mono {f : F2} (hm : MonoF2 f) (ha : MonoE ta) (hb : MonoE tb) : MonoE (dOp f ta tb) := fun σ G Q Q' h q =>
  ha σ G _ _ (fun x G1 q1 => hb σ G1 _ _ (fun y G2 q2 => hm x y G2 Q Q' h q2) q1) q
theorem dOp_run {K : PySem.W.Frag} {r : R2} {f : F2} {tta ttb : TE} (hm : MonoF2 f) (hs : Sim2 K r f) (ma : MonoE ta) (mb : MonoE tb)
    (ra : ∀ σ H σd G Q, MH K G H → SR K H σd σ → ta σd G (lf K H Q) → tta σ H Q) (rb : ∀ σ H σd G Q, MH K G H → SR K H σd σ → tb σd G (lf K H Q) → ttb σ H Q) :
    ∀ σ H σd G Q, MH K G H → SR K H σd σ → dOp f ta tb σd G (lf K H Q) → tOp r tta ttb σ H Q := fun σ H σd G Q m s h =>
  ra σ H σd G _ m s (ma _ _ _ _ (fun dx G1 h1 x H1 m1 r1 k1 => rb σ H1 σd G1 _ m1 (s.kt k1) (mb _ _ _ _ (fun dy G2 h2 y H2 m2 r2 k2 =>
    hs H2 G2 x y dx dy Q m2 (r1.kt k2) r2 (hm _ _ _ _ _ (fun d G' z => lf_kt (k1.trans k2) z) h2)) h1)) h)
theorem de_op {op : Operator} {r : R2} {f : F2} (ho : OpR X (binaryOp op) r) (hm : MonoF2 f) (hs : Sim2 X.K r f) (ha : DPE X a ta) (hb : DPE X b tb) : DPE X (.BinOp a op b pos) (dOp f ta tb) := by
  obtain ⟨ma, tta, pa, ra⟩ := ha
  obtain ⟨mb, ttb, pb, rb⟩ := hb
  exact ⟨dOp_mono hm ma mb, _, pe_op ho pa pb, dOp_run hm hs ma mb ra rb⟩
theorem de_cmpR {op : CmpOp} {r : R2} {f : F2} (ho : OpR X (compareOp op) r) (hm : MonoF2 f) (hs : Sim2 X.K r f) (ha : DPE X a ta) (hb : DPE X b tb) (hk : behindInMarks op b = false) : DPE X (.Compare a [op] [b] pos) (dOp f ta tb) := by
  obtain ⟨ma, tta, pa, ra⟩ := ha
  obtain ⟨mb, ttb, pb, rb⟩ := hb
  exact ⟨dOp_mono hm ma mb, _, pe_cmpR ho pa pb hk, dOp_run hm hs ma mb ra rb⟩
/-- a value that is a truth, as a test -/
def dTest (t : DE) : DTt := fun σ G Q => t σ G fun d G' => match d with | .bl k => Q k G' | _ => False
theorem dTest_mono (ha : MonoE ta) : MonoT (dTest ta) := fun σ G Q Q' h q => ha σ G _ _ (fun x G1 q1 => by
  cases x <;> first | exact h _ _ q1 | exact False.elim q1) q
theorem dTest_run {K : PySem.W.Frag} {tta : TE} (ma : MonoE ta) (ra : ∀ σ H σd G Q, MH K G H → SR K H σd σ → ta σd G (lf K H Q) → tta σ H Q) :
    ∀ σ H σd G Q, MH K G H → SR K H σd σ → dTest ta σd G (lfT K H Q) → tTest tta σ H Q := fun σ H σd G Q m s h =>
  ra σ H σd G _ m s (ma _ _ _ _ (fun d G' q v H' m' r' k' => by
    cases d with
    | bl k => cases r'; exact ⟨k, rfl, q H' m' k'⟩
    | _ => exact False.elim q) h)
theorem dt_cmpR {op : CmpOp} {r : R2} {f : F2} (ho : OpR X (compareOp op) r) (hm : MonoF2 f) (hs : Sim2 X.K r f) (ha : DPE X a ta) (hb : DPE X b tb) (hk : behindInMarks op b = false) : DPT X (.Compare a [op] [b] pos) (dTest (dOp f ta tb)) := by
  obtain ⟨ma, tta, pa, ra⟩ := ha
  obtain ⟨mb, ttb, pb, rb⟩ := hb
  exact ⟨dTest_mono (dOp_mono hm ma mb), _, pt_cmpR ho pa pb hk, dTest_run (dOp_mono hm ma mb) (dOp_run hm hs ma mb ra rb)⟩
/-- one place -/
abbrev F1 := D → DG → DK → Prop
def MonoF1 (f : F1) : Prop := ∀ x G (Q Q' : DK), (∀ d G', Q d G' → Q' d G') → f x G Q → f x G Q'
def dUn (f : F1) (ta : DE) : DE := fun σ G Q => ta σ G fun x G1 => f x G1 Q
def Sim1 (K : PySem.W.Frag) (r : V → Hp → VK → Prop) (f : F1) : Prop := ∀ H G x dx Q, MH K G H → RD K H dx x → f dx G (lf K H Q) → r x H Q
theorem dUn_mono {f : F1} (hm : MonoF1 f) (ha : MonoE ta) : MonoE (dUn f ta) := fun σ G Q Q' h q => ha σ G _ _ (fun x G1 q1 => hm x G1 Q Q' h q1) q
theorem dUn_run {K : PySem.W.Frag} {r : V → Hp → VK → Prop} {f : F1} {tta : TE} (hm : MonoF1 f) (hs : Sim1 K r f) (ma : MonoE ta)
    (ra : ∀ σ H σd G Q, MH K G H → SR K H σd σ → ta σd G (lf K H Q) → tta σ H Q) :
    ∀ σ H σd G Q, MH K G H → SR K H σd σ → dUn f ta σd G (lf K H Q) → tUn r tta σ H Q := fun σ H σd G Q m s h =>
  ra σ H σd G _ m s (ma _ _ _ _ (fun dx G1 h1 x H1 m1 r1 k1 => hs H1 G1 x dx Q m1 r1 (hm _ _ _ _ (fun d G' z => lf_kt k1 z) h1)) h)
theorem de_un {op : UnaryOp} {r : V → Hp → VK → Prop} {f : F1} (ho : UnR X (unaryOp op) r) (hm : MonoF1 f) (hs : Sim1 X.K r f) (ha : DPE X a ta) : DPE X (.UnaryOp op a pos) (dUn f ta) := by
  obtain ⟨ma, tta, pa, ra⟩ := ha
  exact ⟨dUn_mono hm ma, _, pe_un ho pa, dUn_run hm hs ma ra⟩

/-! ### argument lists, tuples, lists -/
def dNil : DA := fun _ G Q => Q [] G
def dCons (t : DE) (ts : DA) : DA := fun σ G Q => t σ G fun x G1 => ts σ G1 fun xs G2 => Q (x :: xs) G2
theorem da_nil : DPA X [] dNil := ⟨fun σ G Q Q' h q => h _ _ q, tNil, pa_nil, fun σ H σd G Q m s h => h [] H m .nil .refl⟩
theorem da_cons {ts : DA} (ha : DPE X e ta) (hr : DPA X es ts) (hs : starEach (e :: es) X.env = (false, eval e X.env) :: starEach es X.env := by rfl) : DPA X (e :: es) (dCons ta ts) := by
  obtain ⟨ma, tta, pa, ra⟩ := ha
  obtain ⟨mr, ttr, pr, rr⟩ := hr
  refine ⟨fun σ G Q Q' h q => ma σ G _ _ (fun x G1 q1 => mr σ G1 _ _ (fun xs G2 q2 => h _ _ q2) q1) q, _, pa_cons pa pr hs, fun σ H σd G Q m s h => ?_⟩
  exact ra σ H σd G _ m s (ma _ _ _ _ (fun dx G1 h1 x H1 m1 r1 k1 => rr σ H1 σd G1 _ m1 (s.kt k1) (mr _ _ _ _ (fun dxs G2 h2 xs H2 m2 r2 k2 => h2 (x :: xs) H2 m2 (r2.cons (r1.kt k2)) (k1.trans k2)) h1)) h)
def dTup (t : DA) : DE := fun σ G Q => t σ G fun xs G1 => xs.length ≤ sizeLine ∧ Q (.tup xs) G1
def dLst (t : DA) : DE := fun σ G Q => t σ G fun xs G1 => xs.length ≤ sizeLine ∧ ∀ p, G1 p = none → Q (.ref p) (up G1 p (.lst xs))
theorem RD.new_tup {K : PySem.W.Frag} {H : Hp} {p : Addr} {o : Obj} {ds : List D} {vs : List V} (r : RDs K H ds vs) (hp : H p = none) (hd : o.dict = none) : RD K (L2.upd H p (.frz o (.tup vs))) (.tup ds) (.ref p) :=
  .tup (.new hd) r.1 fun i x v a b => (r.2 i x v a b).kt (KT.upd_new hp)
/-- a new tuple, known as an object -/
def NewT (H : Hp) (xs : List V) (Q : VK) : Prop := ∀ (p : Addr) (o : Obj), H p = none → o.dict = none → Q (.ref p) (upd H p (.frz o (.tup xs)))
theorem newT_inv {pins : List (Addr × Obj)} {σ : St} {H : Hp} {s : Shared} {Q : VK} {xs : List V} {its : List Value} {h' : Heap} {n : Nat} (I : Inv X pins σ H { s with heap := h' }) (r : Vals xs its) (z : xs.length ≤ sizeLine) (q : NewT H xs Q) :
    EP X pins σ Q (.ref h'.objs.size) { s with heap := h'.push { cls := .type "tuple", data := .seq its.toArray n } } := by
  have hf : H h'.objs.size = none := I.hok.fresh (Nat.le_refl _)
  refine ⟨.ref h'.objs.size, _, I.laid (t' := s.toks) (fun b u e => Heap.get?_push_of_some _ e) (Nat.le_refl _) ?_, rfl, q _ { cls := .type "tuple", data := .seq its.toArray n } hf rfl⟩
  exact ⟨Heap.get?_push_size _ rfl, z, its, r, ⟨_, Heap.get?_push_size _ rfl, rfl, _, rfl⟩⟩
def tTupP (t : TA) : TE := fun σ H Q => t σ H fun xs H1 => xs.length ≤ sizeLine ∧ NewT H1 xs Q
theorem pe_tupP {x1} {t : TA} (h : PA X es t) : PE X (.Tuple es x1 pos) (tTupP t) := by
  refine ⟨fun pins s σ H Q I hq => ?_⟩
  refine wpAny_Tuple_spliced (thn (h.run pos pins s σ H _ I hq) fun us s1 ⟨xs, H1, I1, r, z, q⟩ => ⟨by rw [← r.length]; exact z, ?_⟩)
  exact newT_inv (s := s1) (h' := s1.heap) I1 r z q
theorem MO.new_lst {K : PySem.W.Frag} {H : Hp} {p : Addr} {ds : List D} {vs : List V} (r : RDs K H ds vs) (k : KT K H (L2.upd H p (.lst vs))) : MO K (L2.upd H p (.lst vs)) p (.lst ds) := ⟨vs, upd_same, r.kt k⟩
theorem de_tup {x1} {t : DA} (h : DPA X es t) : DPE X (.Tuple es x1 pos) (dTup t) := by
  obtain ⟨ma, tta, pa, ra⟩ := h
  refine ⟨fun σ G Q Q' h q => ma σ G _ _ (fun x G1 q1 => ⟨q1.1, h _ _ q1.2⟩) q, _, pe_tupP pa, fun σ H σd G Q m s h => ?_⟩
  refine ra σ H σd G _ m s (ma _ _ _ _ (fun ds G1 h1 vs H1 m1 r1 k1 => ?_) h)
  refine ⟨by rw [← r1.1]; exact h1.1, fun p o hp hd => ?_⟩
  exact h1.2 (.ref p) _ (m1.new (.upd_new hp) (m1.fresh hp)) (.new_tup r1 hp hd) (k1.trans (.upd_new hp))
theorem de_lst {t : DA} (h : DPA X es t) : DPE X (.List es pos) (dLst t) := by
  obtain ⟨ma, tta, pa, ra⟩ := h
  refine ⟨fun σ G Q Q' h q => ma σ G _ _ (fun x G1 q1 => ⟨q1.1, fun p hp => h _ _ (q1.2 p hp)⟩) q, _, pe_lst pa, fun σ H σd G Q m s h => ?_⟩
  refine ra σ H σd G _ m s (ma _ _ _ _ (fun ds G1 h1 vs H1 m1 r1 k1 => ?_) h)
  refine ⟨by rw [← r1.1]; exact h1.1, fun p hp => ?_⟩
  exact h1.2 p (m1.fresh hp) (.ref p) _ (m1.upd (.upd_new hp) (.new_lst r1 (.upd_new hp))) (.ref p) (k1.trans (.upd_new hp))

/-! ### calls of built-ins by values -/
abbrev FL := List D → DG → DK → Prop
def MonoFL (f : FL) : Prop := ∀ x G (Q Q' : DK), (∀ d G', Q d G' → Q' d G') → f x G Q → f x G Q'
def SimL (K : PySem.W.Frag) (r : List V → Hp → VK → Prop) (f : FL) : Prop := ∀ H G xs dxs Q, MH K G H → RDs K H dxs xs → f dxs G (lf K H Q) → r xs H Q
def dCB (f : FL) (t : DA) : DE := fun σ G Q => t σ G fun xs G1 => f xs G1 Q
theorem dCB_mono {f : FL} {t : DA} (hm : MonoFL f) (ha : MonoA t) : MonoE (dCB f t) := fun σ G Q Q' h q => ha σ G _ _ (fun x G1 q1 => hm x G1 Q Q' h q1) q
theorem dCB_run {K : PySem.W.Frag} {r : List V → Hp → VK → Prop} {f : FL} {t : DA} {tta : TA} (hm : MonoFL f) (hs : SimL K r f) (ma : MonoA t)
    (ra : ∀ σ H σd G Q, MH K G H → SR K H σd σ → t σd G (lfA K H Q) → tta σ H Q) :
    ∀ σ H σd G Q, MH K G H → SR K H σd σ → dCB f t σd G (lf K H Q) → tCB r tta σ H Q := fun σ H σd G Q m s h =>
  ra σ H σd G _ m s (ma _ _ _ _ (fun dx G1 h1 x H1 m1 r1 k1 => hs H1 G1 x dx Q m1 r1 (hm _ _ _ _ (fun d G' z => lf_kt k1 z) h1)) h)
theorem de_callB {x : Str} {id : String} {p : Pos} {r : List V → Hp → VK → Prop} {f : FL} {t : DA} (hc : CallR X (.builtin id) r) (hmf : MonoFL f) (hs : SimL X.K r f) (hg : Gl X x) (hm : X.mg x = none) (hv : bootBuiltins x = some (.builtin id)) (ha : DPA X (e :: es) t) (hn : x ≠ "__name__" := by decide) (hdb : (x == ("__debug__" : Str)) = false := by decide)
    (h1 : starEach (e :: es) X.env = (false, eval e X.env) :: starEach es X.env := by rfl) (h2 : ((backTo pos (starEach es X.env)).any fun x => x.fst) = false := by rfl) : DPE X (.Call (.Name x p) (e :: es) [] pos) (dCB f t) := by
  obtain ⟨ma, tta, pa, ra⟩ := ha
  exact ⟨dCB_mono hmf ma, _, pe_callB hc hg hm hv pa hn hdb h1 h2, dCB_run hmf hs ma ra⟩
theorem de_callTy {x : Str} {T : String} {p : Pos} {r : List V → Hp → VK → Prop} {f : FL} {t : DA} (hc : CallR X (.type T) r) (hmf : MonoFL f) (hs : SimL X.K r f) (hg : Gl X x) (hm : X.mg x = none) (hv : bootBuiltins x = some (.type T)) (ha : DPA X (e :: es) t) (hn : x ≠ "__name__" := by decide) (hdb : (x == ("__debug__" : Str)) = false := by decide)
    (h1 : starEach (e :: es) X.env = (false, eval e X.env) :: starEach es X.env := by rfl) (h2 : ((backTo pos (starEach es X.env)).any fun x => x.fst) = false := by rfl) : DPE X (.Call (.Name x p) (e :: es) [] pos) (dCB f t) := by
  obtain ⟨ma, tta, pa, ra⟩ := ha
  exact ⟨dCB_mono hmf ma, _, pe_callTy hc hg hm hv pa hn hdb h1 h2, dCB_run hmf hs ma ra⟩

/-! ### tests -/
def dAnd (t u : DTt) : DTt := fun σ G Q => t σ G fun k G1 => if k = true then u σ G1 Q else Q false G1
def dOr (t u : DTt) : DTt := fun σ G Q => t σ G fun k G1 => if k = true then Q true G1 else u σ G1 Q
def dNot (t : DTt) : DTt := fun σ G Q => t σ G fun k G1 => Q (!k) G1
variable {tA tB' : DTt}
theorem dw_and1 (ha : DPT X a tA) : DPW X (.BoolOp .And [a] pos) tA := let ⟨m, tt, p, r⟩ := ha; ⟨m, tt, pw_and1 p, r⟩
theorem dw_or1 (ha : DPT X a tA) : DPW X (.BoolOp .Or [a] pos) tA := let ⟨m, tt, p, r⟩ := ha; ⟨m, tt, pw_or1 p, r⟩
theorem dw_and (ha : DPT X a tA) (hb : DPW X (.BoolOp .And (b :: rest) pos) tB') : DPW X (.BoolOp .And (a :: b :: rest) pos) (dAnd tA tB') := by
  obtain ⟨ma, tta, pa, ra⟩ := ha
  obtain ⟨mb, ttb, pb, rb⟩ := hb
  refine ⟨fun σ G Q Q' h q => ma σ G _ _ (fun k G1 q1 => ?_) q, _, pw_and pa pb, fun σ H σd G Q m s h => ra σ H σd G _ m s (ma _ _ _ _ (fun k G1 h1 H1 m1 k1 => ?_) h)⟩
  · cases k with
    | true => exact mb σ G1 Q Q' h q1
    | false => exact h _ _ q1
  · cases k with
    | true => exact rb σ H1 σd G1 Q m1 (s.kt k1) (mb _ _ _ _ (fun d G' z => lfT_kt k1 z) h1)
    | false => exact h1 H1 m1 k1
theorem dw_or (ha : DPT X a tA) (hb : DPW X (.BoolOp .Or (b :: rest) pos) tB') : DPW X (.BoolOp .Or (a :: b :: rest) pos) (dOr tA tB') := by
  obtain ⟨ma, tta, pa, ra⟩ := ha
  obtain ⟨mb, ttb, pb, rb⟩ := hb
  refine ⟨fun σ G Q Q' h q => ma σ G _ _ (fun k G1 q1 => ?_) q, _, pw_or pa pb, fun σ H σd G Q m s h => ra σ H σd G _ m s (ma _ _ _ _ (fun k G1 h1 H1 m1 k1 => ?_) h)⟩
  · cases k with
    | false => exact mb σ G1 Q Q' h q1
    | true => exact h _ _ q1
  · cases k with
    | false => exact rb σ H1 σd G1 Q m1 (s.kt k1) (mb _ _ _ _ (fun d G' z => lfT_kt k1 z) h1)
    | true => exact h1 H1 m1 k1
theorem DPW.dt (h : DPW X e tA) : DPT X e tA := let ⟨m, tt, p, r⟩ := h; ⟨m, tt, p.pt, r⟩
theorem dt_not (ha : DPT X a tA) : DPT X (.UnaryOp .Not a pos) (dNot tA) := by
  obtain ⟨ma, tta, pa, ra⟩ := ha
  exact ⟨fun σ G Q Q' h q => ma σ G _ _ (fun k G1 q1 => h _ _ q1) q, _, pt_not pa, fun σ H σd G Q m s h => ra σ H σd G _ m s (ma _ _ _ _ (fun k G1 h1 H1 m1 k1 => h1 H1 m1 k1) h)⟩
/-- the truth of any value -/
def truD (d : D) (G : DG) : Option Bool := match d with
  | .non => some false
  | .bl b => some b
  | .int i => some (i != 0)
  | .str x => if x.length ≤ sizeLine then some ((x.length : Int) != 0) else none
  | .tup xs => some (!xs.isEmpty)
  | .lis xs => some (!xs.isEmpty)
  | .ref a => match G a with
    | some (.lst xs) => some (!xs.isEmpty)
    | some (.dK kvs) => some (!kvs.isEmpty)
    | _ => none
  | .ty _ => none
  | .tpl _ => none
def optT (o : Option Bool) (G : DG) (Q : Bool → DG → Prop) : Prop := match o with | some d => Q d G | none => False
def dTru (t : DE) : DTt := fun σ G Q => t σ G fun d G' => optT (truD d G') G' Q
theorem RDs.isEmpty {K : PySem.W.Frag} {H : Hp} {xs : List D} {vs : List V} (r : RDs K H xs vs) : xs.isEmpty = vs.isEmpty := by
  have h := r.1
  cases xs <;> cases vs <;> simp at h ⊢
theorem truD_ok {K : PySem.W.Frag} {H : Hp} {G : DG} {d : D} {v : V} {k : Bool} (m : MH K G H) (r : RD K H d v) (h : truD d G = some k) : TruV K v H k := by
  cases r with
  | non => simpa [truD, TruV, eq_comm] using h
  | bl b => simpa [truD, TruV, eq_comm] using h
  | int i => simpa [truD, TruV, eq_comm] using h
  | str x =>
    simp only [truD] at h
    split at h
    · exact ⟨by assumption, by simpa [eq_comm] using h⟩
    · cases h
  | ty n => simp [truD] at h
  | tpl => simp [truD] at h
  | lis hs hl hi =>
    refine Or.inl ⟨_, hs.l, ?_⟩
    simp only [truD, Option.some.injEq] at h
    rw [← h, RDs.isEmpty (K := K) (H := H) ⟨hl, hi⟩]
  | tup hs hl hi =>
    refine Or.inr (Or.inl ⟨_, hs.t, ?_⟩)
    simp only [truD, Option.some.injEq] at h
    rw [← h, RDs.isEmpty (K := K) (H := H) ⟨hl, hi⟩]
  | ref a =>
    simp only [truD] at h
    split at h
    · rename_i xs e
      obtain ⟨vs, h1, h2⟩ := m a _ e
      exact Or.inl ⟨vs, SqL.of h1, by rw [← h2.isEmpty]; simpa [eq_comm] using h⟩
    · rename_i xs e
      obtain ⟨vs, h1, h2, h3⟩ := m a _ e
      refine Or.inr (Or.inr ⟨vs, h1, ?_⟩)
      have e2 : xs.isEmpty = vs.isEmpty := by
        have := congrArg List.length h2
        cases xs <;> cases vs <;> simp at this ⊢
      rw [← e2]; simpa [eq_comm] using h
    · cases h
theorem dt_tru (ha : DPE X e ta) (he : ∀ whole, isTrue e X.env whole = (do let v ← whole; standAt e.pos; holding [v] (truthy v)) := by intro _; rfl) : DPT X e (dTru ta) := by
  obtain ⟨ma, tta, pa, ra⟩ := ha
  refine ⟨fun σ G Q Q' h q => ma σ G _ _ (fun d G1 q1 => ?_) q, _, pt_truth pa he, fun σ H σd G Q m s h => ra σ H σd G _ m s (ma _ _ _ _ (fun d G1 h1 v H1 m1 r1 k1 => ?_) h)⟩
  · unfold optT at q1 ⊢
    split <;> rename_i e
    · rw [e] at q1; exact h _ _ q1
    · rw [e] at q1; exact q1
  · unfold optT at h1
    split at h1 <;> rename_i e
    · exact ⟨_, truD_ok m1 r1 e, h1 H1 m1 k1⟩
    · exact False.elim h1
/-- a if t else b -/
def dIfE (t : DTt) (ta tb : DE) : DE := fun σ G Q => t σ G fun k G1 => if k = true then ta σ G1 Q else tb σ G1 Q
theorem de_if (hc : DPT X c tA) (ha : DPE X a ta) (hb : DPE X b tb) : DPE X (.IfExp c a b pos) (dIfE tA ta tb) := by
  obtain ⟨mc, ttc, pc, rc⟩ := hc
  obtain ⟨ma, tta, pa, ra⟩ := ha
  obtain ⟨mb, ttb, pb, rb⟩ := hb
  refine ⟨fun σ G Q Q' h q => mc σ G _ _ (fun k G1 q1 => ?_) q, _, pe_ifExp pc pa pb, fun σ H σd G Q m s h => rc σ H σd G _ m s (mc _ _ _ _ (fun k G1 h1 H1 m1 k1 => ?_) h)⟩
  · cases k with
    | true => exact ma σ G1 Q Q' h q1
    | false => exact mb σ G1 Q Q' h q1
  · cases k with
    | true => exact ra σ H1 σd G1 Q m1 (s.kt k1) (ma _ _ _ _ (fun d G' z => lf_kt k1 z) h1)
    | false => exact rb σ H1 σd G1 Q m1 (s.kt k1) (mb _ _ _ _ (fun d G' z => lf_kt k1 z) h1)
/-- and, or, not as values -/
def dAndV (ta tb : DE) : DE := fun σ G Q => ta σ G fun x G1 => match x with | .bl true => tb σ G1 Q | .bl false => Q (.bl false) G1 | _ => False
def dOrV (ta tb : DE) : DE := fun σ G Q => ta σ G fun x G1 => match x with | .bl false => tb σ G1 Q | .bl true => Q (.bl true) G1 | _ => False
def dNotV (ta : DE) : DE := fun σ G Q => ta σ G fun x G1 => match x with | .bl k => Q (.bl (!k)) G1 | _ => False
theorem de_one {op} (h : DPE X a ta) : DPE X (.BoolOp op [a] pos) ta := let ⟨m, tt, p, r⟩ := h; ⟨m, tt, pe_one p, r⟩
theorem de_and (ha : DPE X a ta) (hb : DPE X (.BoolOp .And (b :: rest) pos) tb) : DPE X (.BoolOp .And (a :: b :: rest) pos) (dAndV ta tb) := by
  obtain ⟨ma, tta, pa, ra⟩ := ha
  obtain ⟨mb, ttb, pb, rb⟩ := hb
  refine ⟨fun σ G Q Q' h q => ma σ G _ _ (fun x G1 q1 => ?_) q, _, pe_and pa pb, fun σ H σd G Q m s h => ra σ H σd G _ m s (ma _ _ _ _ (fun x G1 h1 v H1 m1 r1 k1 => ?_) h)⟩
  · cases x with
    | bl k =>
      cases k with
      | true => exact mb σ G1 Q Q' h q1
      | false => exact h _ _ q1
    | _ => exact False.elim q1
  · cases x with
    | bl k =>
      cases r1
      cases k with
      | true => exact ⟨true, rfl, rb σ H1 σd G1 Q m1 (s.kt k1) (mb _ _ _ _ (fun d G' z => lf_kt k1 z) h1)⟩
      | false => exact ⟨false, rfl, h1 (.bl false) H1 m1 (.bl false) k1⟩
    | _ => exact False.elim h1
theorem de_or (ha : DPE X a ta) (hb : DPE X (.BoolOp .Or (b :: rest) pos) tb) : DPE X (.BoolOp .Or (a :: b :: rest) pos) (dOrV ta tb) := by
  obtain ⟨ma, tta, pa, ra⟩ := ha
  obtain ⟨mb, ttb, pb, rb⟩ := hb
  refine ⟨fun σ G Q Q' h q => ma σ G _ _ (fun x G1 q1 => ?_) q, _, pe_or pa pb, fun σ H σd G Q m s h => ra σ H σd G _ m s (ma _ _ _ _ (fun x G1 h1 v H1 m1 r1 k1 => ?_) h)⟩
  · cases x with
    | bl k =>
      cases k with
      | false => exact mb σ G1 Q Q' h q1
      | true => exact h _ _ q1
    | _ => exact False.elim q1
  · cases x with
    | bl k =>
      cases r1
      cases k with
      | false => exact ⟨false, rfl, rb σ H1 σd G1 Q m1 (s.kt k1) (mb _ _ _ _ (fun d G' z => lf_kt k1 z) h1)⟩
      | true => exact ⟨true, rfl, h1 (.bl true) H1 m1 (.bl true) k1⟩
    | _ => exact False.elim h1
theorem de_not (ha : DPE X a ta) : DPE X (.UnaryOp .Not a pos) (dNotV ta) := by
  obtain ⟨ma, tta, pa, ra⟩ := ha
  refine ⟨fun σ G Q Q' h q => ma σ G _ _ (fun x G1 q1 => ?_) q, _, pe_not pa, fun σ H σd G Q m s h => ra σ H σd G _ m s (ma _ _ _ _ (fun x G1 h1 v H1 m1 r1 k1 => ?_) h)⟩
  · cases x with
    | bl k => exact h _ _ q1
    | _ => exact False.elim q1
  · cases x with
    | bl k => cases r1; exact ⟨k, rfl, h1 (.bl (!k)) H1 m1 (.bl _) k1⟩
    | _ => exact False.elim h1
/-- a < b < c -/
def dChain (f g : F2) (ta tb tc : DE) : DE := fun σ G Q => ta σ G fun x G1 => tb σ G1 fun y G2 => f x y G2 fun z G3 => match z with
  | .bl true => tc σ G3 fun u G4 => g y u G4 Q
  | .bl false => Q (.bl false) G3
  | _ => False
end
end FD

namespace FD
open PySem L2
section
variable {X : Cx} {a b c e : Expr} {es rest : List Expr} {ta tb tc : DE} {pos : Pos}

theorem de_chain {op op' : CmpOp} {r r' : R2} {f g : F2} (ho : OpR X (compareOp op) r) (ho' : OpR X (compareOp op') r') (hf : MonoF2 f) (hg : MonoF2 g) (sf : Sim2 X.K r f) (sg : Sim2 X.K r' g)
    (ha : DPE X a ta) (hb : DPE X b tb) (hc : DPE X c tc) (hm : lastMarks [op, op'] [b, c] = false := by with_unfolding_all rfl) : DPE X (.Compare a [op, op'] [b, c] pos) (dChain f g ta tb tc) ∧ DPT X (.Compare a [op, op'] [b, c] pos) (dTest (dChain f g ta tb tc)) := by
  obtain ⟨ma, tta, pa, ra⟩ := ha
  obtain ⟨mb, ttb, pb, rb⟩ := hb
  obtain ⟨mc, ttc, pc, rc⟩ := hc
  have mono : MonoE (dChain f g ta tb tc) := fun σ G Q Q' h q => ma σ G _ _ (fun x G1 q1 => mb σ G1 _ _ (fun y G2 q2 => hf x y G2 _ _ (fun z G3 q3 => by
    cases z with
    | bl k =>
      cases k with
      | true => exact mc σ G3 _ _ (fun u G4 q4 => hg y u G4 Q Q' h q4) q3
      | false => exact h _ _ q3
    | _ => exact False.elim q3) q2) q1) q
  have run : ∀ σ H σd G Q, MH X.K G H → SR X.K H σd σ → dChain f g ta tb tc σd G (lf X.K H Q) → tChain r r' tta ttb ttc σ H Q := fun σ H σd G Q m s h =>
    ra σ H σd G _ m s (ma _ _ _ _ (fun dx G1 h1 x H1 m1 r1 k1 => rb σ H1 σd G1 _ m1 (s.kt k1) (mb _ _ _ _ (fun dy G2 h2 y H2 m2 r2 k2 => by
      refine sf H2 G2 x y dx dy _ m2 (r1.kt k2) r2 (hf _ _ _ _ _ (fun z G3 q3 v H3 m3 r3 k3 => ?_) h2)
      cases z with
      | bl k =>
        cases r3
        cases k with
        | true =>
          refine ⟨true, rfl, ?_⟩
          show ttc σ H3 fun z H4 => r' y z H4 Q
          refine rc σ H3 σd G3 _ m3 (s.kt ((k1.trans k2).trans k3)) (mc _ _ _ _ (fun u G4 h4 w H4 m4 r4 k4 => ?_) q3)
          exact sg H4 G4 y w dy u Q m4 ((r2.kt k3).kt k4) r4 (hg _ _ _ _ _ (fun d G' z => lf_kt (((k1.trans k2).trans k3).trans k4) z) h4)
        | false =>
          refine ⟨false, rfl, ?_⟩
          exact q3 (.bl false) H3 m3 (.bl false) ((k1.trans k2).trans k3)
      | _ => exact False.elim q3) h1)) h)
  exact ⟨⟨mono, _, pe_chain ho ho' pa pb pc hm, run⟩, ⟨dTest_mono mono, _, pt_chain ho ho' pa pb pc hm, dTest_run mono run⟩⟩

/-! ### arithmetic -/
def addD : F2 := fun x y G Q => match x, y with
  | .int i, .int j => Q (.int (i + j)) G
  | .str s, .str t => s.length + t.length ≤ sizeLine ∧ Q (.str (s ++ t)) G
  | .tup xs, .tup ys => xs.length + ys.length ≤ sizeLine ∧ Q (.tup (xs ++ ys)) G
  | .ref p, .ref q => ∃ xs ys, G p = some (.lst xs) ∧ G q = some (.lst ys) ∧ xs.length + ys.length ≤ sizeLine ∧ ∀ n, G n = none → Q (.ref n) (up G n (.lst (xs ++ ys)))
  | _, _ => False
theorem addD_mono : MonoF2 addD := fun x y G Q Q' h q => by
  unfold addD at q ⊢
  split at q
  · exact h _ _ q
  · exact ⟨q.1, h _ _ q.2⟩
  · exact ⟨q.1, h _ _ q.2⟩
  · obtain ⟨xs, ys, h1, h2, h3, h4⟩ := q
    exact ⟨xs, ys, h1, h2, h3, fun n hn => h _ _ (h4 n hn)⟩
  · exact q
def rCatP (K : PySem.W.Frag) : R2 := fun x y H Q => ∃ a b xs ys, x = .ref a ∧ y = .ref b ∧ SqT K H a xs ∧ SqT K H b ys ∧ xs.length + ys.length ≤ sizeLine ∧
  (xs = [] → Q (.ref b) H) ∧ (xs ≠ [] → ys = [] → Q (.ref a) H) ∧ (xs ≠ [] → ys ≠ [] → NewT H (xs ++ ys) Q)
theorem op_catP : OpR X (binaryOp .Add) (rCatP X.K) := by
  intro pins s σ H x y v u Q I rx ry h
  obtain ⟨a, b, xs, ys, rfl, rfl, ha, hb, hz, q0, q1, q2⟩ := h
  cases rx
  cases ry
  obtain ⟨its, r1, p1, _⟩ := I.tuple ha
  obtain ⟨its2, r2, p2, _⟩ := I.tuple hb
  by_cases hx : xs = []
  · subst hx
    cases r1
    exact cat_tup0 p1 p2 ⟨.ref b, H, I, rfl, q0 rfl⟩
  · refine HT.cat_tup p1 p2 (fun z => hx (r1.nil_iff.mp z)) (fun z => ⟨.ref a, H, I, rfl, q1 hx (r2.nil_iff.mp z)⟩) (fun z => ?_) (by rw [← r1.length, ← r2.length]; exact hz)
    exact newT_inv (s := s) (h' := s.heap) I (r1.append r2) (by rw [List.length_append]; exact hz) (q2 hx fun w => z (r2.nil_iff.mpr w))
def rAddAll (K : PySem.W.Frag) : R2 := fun x y H Q => rI0 (fun i j => .int (i + j)) x y H Q ∨ (∃ i j, x = .str i ∧ y = .str j ∧ i.length + j.length ≤ sizeLine ∧ Q (.str (i ++ j)) H) ∨ rCatP K x y H Q ∨ rCat x y H Q
theorem op_addAll : OpR X (binaryOp .Add) (rAddAll X.K) := op_add.or (op_add_str.or (op_catP.or op_cat))
theorem addD_sim {K : PySem.W.Frag} : Sim2 K (rAddAll K) addD := fun H G x y dx dy Q m rx ry h => by
  unfold addD at h
  split at h
  · cases rx; cases ry
    exact .inl ⟨_, _, rfl, rfl, h _ _ m (.int _) .refl⟩
  · cases rx; cases ry
    exact .inr (.inl ⟨_, _, rfl, rfl, h.1, h.2 _ _ m (.str _) .refl⟩)
  · rename_i xs ys
    cases rx with
    | @tup p _ vs hs hl hi =>
      cases ry with
      | @tup q _ ws hs' hl' hi' =>
        refine .inr (.inr (.inl ⟨p, q, vs, ws, rfl, rfl, hs.t, hs'.t, by rw [← hl, ← hl']; exact h.1, ?_⟩))
        have r1 : RDs K H xs vs := ⟨hl, hi⟩
        have r2 : RDs K H ys ws := ⟨hl', hi'⟩
        refine ⟨fun e => ?_, fun e e2 => ?_, fun _ _ n o hn hd => ?_⟩
        · subst e
          have e2 : xs = [] := by cases xs with | nil => rfl | cons _ _ => simp at hl
          subst e2
          exact h.2 _ _ m (.tup hs' hl' hi') .refl
        · subst e2
          have e2 : ys = [] := by cases ys with | nil => rfl | cons _ _ => simp at hl'
          subst e2
          have h2 := h.2 (.ref p) H m (by simpa using RD.tup hs hl hi) .refl
          exact h2
        · exact h.2 (.ref n) _ (m.new (.upd_new hn) (m.fresh hn)) (.new_tup (r1.append r2) hn hd) (.upd_new hn)
  · obtain ⟨xs, ys, h1, h2, h3, h4⟩ := h
    cases rx; cases ry
    obtain ⟨vs, g1, r1⟩ := m _ _ h1
    obtain ⟨ws, g2, r2⟩ := m _ _ h2
    refine .inr (.inr (.inr ⟨_, _, vs, ws, rfl, rfl, g1, g2, by rw [← r1.1, ← r2.1]; exact h3, fun n hn => ?_⟩))
    exact h4 n (m.fresh hn) (.ref n) _ (m.upd (.upd_new hn) (.new_lst (r1.append r2) (.upd_new hn))) (.ref n) (.upd_new hn)
  · exact False.elim h
theorem de_add (ha : DPE X a ta) (hb : DPE X b tb) : DPE X (.BinOp a .Add b pos) (dOp addD ta tb) := de_op op_addAll addD_mono addD_sim ha hb
/-- two ints -/
def intD (C : Int → Int → Prop) (g : Int → Int → D) : F2 := fun x y G Q => match x, y with
  | .int i, .int j => C i j ∧ Q (g i j) G
  | _, _ => False
theorem intD_mono {C : Int → Int → Prop} {g : Int → Int → D} : MonoF2 (intD C g) := fun x y G Q Q' h q => by
  unfold intD at q ⊢
  split at q
  · exact ⟨q.1, h _ _ q.2⟩
  · exact q
theorem intD_sim {K : PySem.W.Frag} {C : Int → Int → Prop} {g : Int → Int → Int} : Sim2 K (rI C fun i j => .int (g i j)) (intD C fun i j => .int (g i j)) := fun H G x y dx dy Q m rx ry h => by
  unfold intD at h
  split at h
  · cases rx; cases ry
    exact ⟨_, _, rfl, rfl, h.1, h.2 _ _ m (.int _) .refl⟩
  · exact False.elim h
theorem intD_sim0 {K : PySem.W.Frag} {g : Int → Int → Int} : Sim2 K (rI0 fun i j => .int (g i j)) (intD (fun _ _ => True) fun i j => .int (g i j)) := fun H G x y dx dy Q m rx ry h => by
  unfold intD at h
  split at h
  · cases rx; cases ry
    exact ⟨_, _, rfl, rfl, h.2 _ _ m (.int _) .refl⟩
  · exact False.elim h
theorem intD_simB {K : PySem.W.Frag} {g : Int → Int → Bool} : Sim2 K (rI0 fun i j => .bl (g i j)) (intD (fun _ _ => True) fun i j => .bl (g i j)) := fun H G x y dx dy Q m rx ry h => by
  unfold intD at h
  split at h
  · cases rx; cases ry
    exact ⟨_, _, rfl, rfl, h.2 _ _ m (.bl _) .refl⟩
  · exact False.elim h
def subD : F2 := intD (fun _ _ => True) fun i j => .int (i - j)
def modD : F2 := intD (fun _ j => 0 < j) fun i j => .int (i % j)
def divD : F2 := intD CDiv fun i j => .int (i / j)
def powD : F2 := intD CPow fun i j => .int (i ^ j.toNat)
theorem de_sub (ha : DPE X a ta) (hb : DPE X b tb) : DPE X (.BinOp a .Sub b pos) (dOp subD ta tb) := de_op op_sub intD_mono intD_sim0 ha hb
theorem de_mod (ha : DPE X a ta) (hb : DPE X b tb) : DPE X (.BinOp a .Mod b pos) (dOp modD ta tb) := de_op op_mod intD_mono intD_sim ha hb
theorem de_div (ha : DPE X a ta) (hb : DPE X b tb) : DPE X (.BinOp a .FloorDiv b pos) (dOp divD ta tb) := de_op op_fdiv intD_mono intD_sim ha hb
theorem de_pow (ha : DPE X a ta) (hb : DPE X b tb) : DPE X (.BinOp a .Pow b pos) (dOp powD ta tb) := de_op op_pow intD_mono intD_sim ha hb
def negD : F1 := fun x G Q => match x with | .int i => Q (.int (-i)) G | _ => False
theorem de_neg (ha : DPE X a ta) : DPE X (.UnaryOp .USub a pos) (dUn negD ta) := de_un un_neg
  (fun x G Q Q' h q => by unfold negD at q ⊢; split at q; exact h _ _ q; exact q)
  (fun H G x dx Q m rx h => by
    unfold negD at h
    split at h
    · cases rx
      exact ⟨_, rfl, h _ _ m (.int _) .refl⟩
    · exact False.elim h) ha
/-! ### a tuple by an int: once, it is the same tuple -/
theorem tupOnce (l : Addr) (items : Array Value) (n : Nat) (dd : Option Addr) (sl : Array (Option Value)) (x : Int) (u : Tok) (hx : x = 1) :
    Meets (Builtin.«tuple.__mul__» ⟨[.ref l, .int x u], []⟩) (fun _ R s => s.heap.get? l = some { cls := .type "tuple", dict := dd, data := .seq items n, slots := sl } ∧ R (.ok (.ret (.ref l))) s) := by
  refine .of_wp fun prog w A R s h => ?_
  obtain ⟨hp, gg, ds, tk, os⟩ := s
  obtain ⟨hl, h⟩ := h
  subst hx
  have f1 := AutoSeq1.idx_int
  have c0 : (decide ((1 : Int) < -(2 ^ 63)) || decide ((1 : Int) ≥ 2 ^ 63)) = false := by decide
  have c1 : (items.isEmpty || (1 : Int) == 1) = true := by simp
  wp_walk using AutoSeq1.wpAny_loadPart' hl
  repeat (first
    | (refine wpAny_ite_false (decide_eq_false (by rw [c0]; exact Bool.false_ne_true)) ?_; wp_walk using AutoSeq1.wpAny_loadPart' hl)
    | (refine wpAny_ite_true (decide_eq_true (by rw [c1])) ?_; wp_walk using AutoSeq1.wpAny_loadPart' hl))
  exact ⟨_, rfl, h⟩
theorem tupNone (l : Addr) (items : Array Value) (n : Nat) (dd : Option Addr) (sl : Array (Option Value)) (x : Int) (u : Tok) (c0 : (decide (x < -(2 ^ 63)) || decide (x ≥ 2 ^ 63)) = false) (c1 : (items.isEmpty || x == 1) = false) (c2 : (decide (x ≤ 0) || items.isEmpty) = true) :
    Meets (Builtin.«tuple.__mul__» ⟨[.ref l, .int x u], []⟩) (fun _ R s => s.heap.get? l = some { cls := .type "tuple", dict := dd, data := .seq items n, slots := sl } ∧ R (.ok (.ret (.ref s.heap.objs.size))) { s with heap := s.heap.push { cls := .type "tuple", data := .seq #[] }, toks := s.toks }) := by
  refine .of_wp fun prog w A R s h => ?_
  obtain ⟨hp, gg, ds, tk, os⟩ := s
  obtain ⟨hl, h⟩ := h
  have f1 := AutoSeq1.idx_int
  wp_walk using AutoSeq1.wpAny_loadPart' hl
  repeat (first
    | (refine wpAny_ite_false (decide_eq_false (by rw [c0]; exact Bool.false_ne_true)) ?_; wp_walk using AutoSeq1.wpAny_loadPart' hl)
    | (refine wpAny_ite_false (decide_eq_false (by rw [c1]; exact Bool.false_ne_true)) ?_; wp_walk using AutoSeq1.wpAny_loadPart' hl)
    | (refine wpAny_ite_true (decide_eq_true (by rw [c2])) ?_; wp_walk using AutoSeq1.wpAny_loadPart' hl))
  exact ⟨_, rfl, h⟩
def rRepP (K : PySem.W.Frag) : R2 := fun x y H Q => ∃ l k xs, x = .ref l ∧ y = .int k ∧ SqP K H l xs ∧ xs ≠ [] ∧ -1000 ≤ k ∧ k ≤ 1000 ∧ xs.length ≤ 1000 ∧ (k = 1 → Q (.ref l) H) ∧ (k ≠ 1 → NewT H (List.replicate k.toNat xs).flatten Q)
theorem op_repP : OpR X (binaryOp .Mult) (rRepP X.K) := by
  intro pins s σ H x y v u Q I rx ry h
  obtain ⟨l, k, xs, rfl, rfl, hP, hne, h0, h2, hz, q1, q2⟩ := h
  cases rx
  obtain ⟨t, rfl⟩ := ry
  obtain ⟨its, r, ⟨⟨cls, dd, data, sl⟩, ho, hc, n, hd⟩, hs⟩ := I.tuple hP.t
  simp only at hc hd
  subst hc hd
  have hle : its.length = xs.length := r.length.symm
  have hi : its.toArray.isEmpty = false := by
    cases its with
    | nil => exact absurd (List.eq_nil_of_length_eq_zero hle.symm) hne
    | cons a b => rfl
  have c0 : (decide (k < -(2 ^ 63)) || decide (k ≥ 2 ^ 63)) = false := by
    rw [decide_eq_false (by omega), decide_eq_false (by omega)] <;> rfl
  have road : ∀ {R : Value → Shared → Prop}, (wpAny (model X.prog X.w) X.A (call (.builtin "tuple.__mul__") [.ref l, .int k t]) R X.xe s) → wpAny (model X.prog X.w) X.A (binaryOp .Mult (.ref l) (.int k t)) R X.xe s := fun z =>
    wpAny_binaryOp_repeat_ref (T := "tuple") (U := "int") (by decide) ⟨_, ho, rfl⟩ (fun s' => typeIs_int s' k t) noFill_tuple_mul F.fills_int_mul F.slot_int_rmul repeat_tuple F.slot_int_index.lookup
      (call_meets F.slot_int_rmul (typeIs_int s k t) F.entry_int_rmul (F.args_int_rmul_2 _ _) (int_rmul_tuple k t l its.toArray n dd sl) ⟨ho, rfl, ⟨_, ho, rfl⟩, z⟩)
  by_cases h1 : k = 1
  · exact road (call_meets F.slot_tuple_mul ⟨_, ho, rfl⟩ F.entry_tuple_mul (F.args_tuple_mul_2 _ _) (tupOnce l its.toArray n dd sl k t h1) ⟨ho, .ref l, _, I, rfl, q1 h1⟩)
  · have c1 : (its.toArray.isEmpty || k == 1) = false := by
      rw [hi, Bool.false_or]
      exact beq_eq_false_iff_ne.mpr h1
    by_cases h3 : k ≤ 0
    · refine road (call_meets F.slot_tuple_mul ⟨_, ho, rfl⟩ F.entry_tuple_mul (F.args_tuple_mul_2 _ _) (tupNone l its.toArray n dd sl k t c0 c1 (by rw [decide_eq_true h3]; rfl)) ⟨ho, ?_⟩)
      have e0 : (List.replicate k.toNat xs).flatten = [] := by
        rw [show k.toNat = 0 by omega]
        rfl
      have q3 := q2 h1
      rw [e0] at q3
      exact newT_inv (s := s) (h' := s.heap) (its := []) I .nil (by decide) q3
    · have c2 : (decide (k ≤ 0) || its.toArray.isEmpty) = false := by
        rw [hi, Bool.or_false]
        exact decide_eq_false h3
      have hsz0 : its.toArray.size = xs.length := by rw [List.size_toArray, hle]
      have hm : ((its.toArray.size : Nat) : Int) * k ≤ 1000000 := by
        rw [hsz0]
        have a1 : ((xs.length : Nat) : Int) * k ≤ 1000 * k := Int.mul_le_mul_of_nonneg_right (by omega) (by omega)
        omega
      have f1 : k.toNat * xs.length ≤ sizeLine := Nat.le_trans (Nat.mul_le_mul (show k.toNat ≤ 1000 by omega) hz) (by decide)
      have c4 : Builtin.Tuple.tupleTooMany (((its.toArray.size : Nat) : Int) * k) = false := by
        unfold Builtin.Tuple.tupleTooMany
        rw [sizeLine_eq]
        exact decide_eq_false (by omega)
      refine road (call_meets F.slot_tuple_mul ⟨_, ho, rfl⟩ F.entry_tuple_mul (F.args_tuple_mul_2 _ _) (tuple_mulW l its.toArray n dd sl k t c0 c1 c2 (by omega) c4 (by rw [size_rep, List.size_toArray, PyProof.Rows.lm_len_rep_flat, hle]; exact f1)) ⟨ho, ?_⟩)
      rw [size_rep]
      exact newT_inv (s := s) (h' := s.heap) I (r.rep k.toNat) (by rw [PyProof.Rows.lm_len_rep_flat]; exact f1) (q2 h1)
/-- * : two ints, a list or a tuple by an int -/
def mulD : F2 := fun x y G Q => match x, y with
  | .int i, .int j => CMul i j ∧ Q (.int (i * j)) G
  | .ref p, .int k => ∃ xs, G p = some (.lst xs) ∧ -(2 ^ 63) ≤ k ∧ k < 2 ^ 63 ∧ xs.length * k.toNat ≤ sizeLine ∧ ∀ n, G n = none → Q (.ref n) (up G n (.lst (List.replicate k.toNat xs).flatten))
  | .tup xs, .int k => xs ≠ [] ∧ -1000 ≤ k ∧ k ≤ 1000 ∧ xs.length ≤ 1000 ∧ Q (.tup (List.replicate k.toNat xs).flatten) G
  | _, _ => False
theorem RDs.rep {K : PySem.W.Frag} {H : Hp} {xs : List D} {vs : List V} (r : RDs K H xs vs) : ∀ k : Nat, RDs K H (List.replicate k xs).flatten (List.replicate k vs).flatten
  | 0 => by simpa using RDs.nil
  | k + 1 => by simpa [List.replicate_succ] using r.append (r.rep k)
theorem mulD_mono : MonoF2 mulD := fun x y G Q Q' h q => by
  unfold mulD at q ⊢
  split at q
  · exact ⟨q.1, h _ _ q.2⟩
  · obtain ⟨xs, h1, h2, h3, h4, h5⟩ := q
    exact ⟨xs, h1, h2, h3, h4, fun n hn => h _ _ (h5 n hn)⟩
  · exact ⟨q.1, q.2.1, q.2.2.1, q.2.2.2.1, h _ _ q.2.2.2.2⟩
  · exact q
def rMulAll (K : PySem.W.Frag) : R2 := fun x y H Q => (rI CMul (fun i j => .int (i * j)) x y H Q ∨ rRep x y H Q) ∨ rRepP K x y H Q
theorem op_mulAll : OpR X (binaryOp .Mult) (rMulAll X.K) := (op_mul.or op_rep).or op_repP
theorem mulD_sim {K : PySem.W.Frag} : Sim2 K (rMulAll K) mulD := fun H G x y dx dy Q m rx ry h => by
  unfold mulD at h
  split at h
  · cases rx; cases ry
    exact .inl (.inl ⟨_, _, rfl, rfl, h.1, h.2 _ _ m (.int _) .refl⟩)
  · obtain ⟨xs, h1, h2, h3, h4, h5⟩ := h
    cases rx; cases ry
    obtain ⟨vs, g1, r1⟩ := m _ _ h1
    refine .inl (.inr ?_)
    refine ⟨_, _, vs, rfl, rfl, g1, h2, h3, by rw [← r1.1]; exact h4, fun n hn => ?_⟩
    exact h5 n (m.fresh hn) (.ref n) _ (m.upd (.upd_new hn) (.new_lst (r1.rep _) (.upd_new hn))) (.ref n) (.upd_new hn)
  · rename_i xs k
    obtain ⟨h1, h2, h3, h4, h5⟩ := h
    cases ry
    cases rx with
    | @tup p _ vs hs hl hi =>
      have r : RDs K H xs vs := ⟨hl, hi⟩
      refine .inr ⟨p, k, vs, rfl, rfl, hs, fun e => h1 (List.eq_nil_of_length_eq_zero (by rw [hl, e]; rfl)), h2, h3, by rw [← hl]; exact h4, fun e => ?_, fun e p' o' hp hd => ?_⟩
      · subst e
        have e1 : (List.replicate (1 : Int).toNat xs).flatten = xs := by simp
        rw [e1] at h5
        exact h5 _ _ m (.tup hs hl hi) .refl
      · exact h5 _ _ (m.new (.upd_new hp) (m.fresh hp)) (.new_tup (r.rep k.toNat) hp hd) (.upd_new hp)
  · exact False.elim h
theorem de_mul (ha : DPE X a ta) (hb : DPE X b tb) : DPE X (.BinOp a .Mult b pos) (dOp mulD ta tb) := de_op op_mulAll mulD_mono mulD_sim ha hb

/-! ### subscripts -/
def itemD : F2 := fun x y G Q => match x, y with
  | .tup xs, .int i => opt (atI xs i) G Q
  | .lis xs, .int i => opt (atI xs i) G Q
  | .ref p, .int i => match G p with
    | some (.lst xs) => opt (atI xs i) G Q
    | _ => False
  | .str s, .int i => s.length ≤ sizeLine ∧ match atI s.cps.toList i with | some k => Q (.str ⟨#[k]⟩) G | none => False
  | _, _ => False
theorem itemD_mono : MonoF2 itemD := fun x y G Q Q' h q => by
  unfold itemD at q ⊢
  split at q
  · exact opt_mono h q
  · exact opt_mono h q
  · split at q <;> first | exact opt_mono h q | exact q
  · refine ⟨q.1, ?_⟩
    have q2 := q.2
    split at q2
    · exact h _ _ q2
    · exact q2
  · exact q
theorem itemD_sim {K : PySem.W.Frag} : Sim2 K (rIx K) itemD := fun H G x y dx dy Q m rx ry h => by
  unfold itemD at h
  split at h
  · rename_i xs i
    cases ry
    cases rx with
    | @tup p _ vs hs hl hi =>
      cases e : atI xs i with
      | none => rw [e] at h; exact False.elim h
      | some d =>
        rw [e] at h
        obtain ⟨v, h1, h2⟩ := RDs.at (K := K) (H := H) ⟨hl, hi⟩ e
        exact .inr (.inl ⟨p, vs, i, v, rfl, rfl, hs.t, h1, h v H m h2 .refl⟩)
  · rename_i xs i
    cases ry
    cases rx with
    | @lis p _ vs hs hl hi =>
      cases e : atI xs i with
      | none => rw [e] at h; exact False.elim h
      | some d =>
        rw [e] at h
        obtain ⟨v, h1, h2⟩ := RDs.at (K := K) (H := H) ⟨hl, hi⟩ e
        exact .inl ⟨p, vs, i, v, rfl, rfl, hs.l, h1, h v H m h2 .refl⟩
  · rename_i p i
    cases ry
    cases rx
    split at h
    · rename_i xs e2
      obtain ⟨vs, g, r⟩ := m _ _ e2
      cases e : atI xs i with
      | none => rw [e] at h; exact False.elim h
      | some d =>
        rw [e] at h
        obtain ⟨v, h1, h2⟩ := r.at e
        exact .inl ⟨p, vs, i, v, rfl, rfl, SqL.of g, h1, h v H m h2 .refl⟩
    · exact False.elim h
  · cases rx; cases ry
    obtain ⟨h1, h2⟩ := h
    split at h2
    · rename_i k e
      exact .inr (.inr ⟨_, _, k, rfl, rfl, h1, e, h2 _ _ m (.str _) .refl⟩)
    · exact False.elim h2
  · exact False.elim h
theorem de_ix (ha : DPE X a ta) (hb : DPE X b tb) (hs : PlainIx b := by exact fun _ _ => rfl) : DPE X (.Subscript a b pos) (dOp itemD ta tb) := by
  obtain ⟨ma, tta, pa, ra⟩ := ha
  obtain ⟨mb, ttb, pb, rb⟩ := hb
  exact ⟨dOp_mono itemD_mono ma mb, _, pe_ix ix_seq pa pb hs, dOp_run itemD_mono itemD_sim ma mb ra rb⟩
/-! ### slices -/
abbrev DO := DSt → DG → (Option Int → DG → Prop) → Prop
def lfO (K : PySem.W.Frag) (H : Hp) (Q : Option Int → Hp → Prop) : Option Int → DG → Prop := fun b G' => ∀ H', MH K G' H' → KT K H H' → Q b H'
structure DPO (X : Cx) (e : Option Expr) (t : DO) : Prop where
  mono : ∀ σ G (Q Q' : Option Int → DG → Prop), (∀ d G', Q d G' → Q' d G') → t σ G Q → t σ G Q'
  run : ∃ tt, PO X e tt ∧ ∀ σ H σd G Q, MH X.K G H → SR X.K H σd σ → t σd G (lfO X.K H Q) → tt σ H Q
def dNoPart : DO := fun _ G Q => Q none G
def dPart (t : DE) : DO := fun σ G Q => t σ G fun x G1 => match x with | .int i => Q (some i) G1 | _ => False
theorem do_none : DPO X none dNoPart := ⟨fun σ G Q Q' h q => h _ _ q, _, po_none, fun σ H σd G Q m s h => h H m .refl⟩
theorem do_some (ha : DPE X e ta) : DPO X (some e) (dPart ta) := by
  obtain ⟨ma, tta, pa, ra⟩ := ha
  refine ⟨fun σ G Q Q' h q => ma σ G _ _ (fun x G1 q1 => ?_) q, _, po_some pa, fun σ H σd G Q m s h => ra σ H σd G _ m s (ma _ _ _ _ (fun x G1 h1 v H1 m1 r1 k1 => ?_) h)⟩
  · cases x with
    | int i => exact h _ _ q1
    | _ => exact False.elim q1
  · cases x with
    | int i => cases r1; exact ⟨i, rfl, h1 H1 m1 k1⟩
    | _ => exact False.elim h1
def cutD (xs : List D) (lo hi : Option Int) : List D := (xs.drop (HT.sIx xs.length 0 lo)).take (HT.sIx xs.length xs.length hi - HT.sIx xs.length 0 lo)
def sliceD (x : D) (lo hi : Option Int) (G : DG) (Q : DK) : Prop := match x with
  | .tup xs => Q (.tup (cutD xs lo hi)) G
  | .str s => s.length ≤ sizeLine ∧ Q (.str (cutS s lo hi)) G
  | .lis xs => ∀ n, G n = none → Q (.ref n) (up G n (.lst (cutD xs lo hi)))
  | .ref p => match G p with
    | some (.lst xs) => ∀ n, G n = none → Q (.ref n) (up G n (.lst (cutD xs lo hi)))
    | _ => False
  | _ => False
theorem sliceD_mono {x : D} {lo hi : Option Int} {G : DG} {Q Q' : DK} (h : ∀ d G', Q d G' → Q' d G') (q : sliceD x lo hi G Q) : sliceD x lo hi G Q' := by
  unfold sliceD at q ⊢
  split at q
  · exact h _ _ q
  · exact ⟨q.1, h _ _ q.2⟩
  · exact fun n hn => h _ _ (q n hn)
  · split at q
    · exact fun n hn => h _ _ (q n hn)
    · exact q
  · exact q
theorem RDs.cut {K : PySem.W.Frag} {H : Hp} {xs : List D} {vs : List V} (r : RDs K H xs vs) (lo hi : Option Int) : RDs K H (cutD xs lo hi) (cutV vs lo hi) := by
  unfold cutD cutV
  rw [r.1]
  exact (r.drop _).take _
def rSlP (K : PySem.W.Frag) : V → Option Int → Option Int → Hp → VK → Prop := fun x lo hi H Q => ∃ a xs, x = .ref a ∧ SqT K H a xs ∧
  (HT.sIx xs.length 0 lo = 0 ∧ HT.sIx xs.length xs.length hi = xs.length → Q (.ref a) H) ∧ (¬ (HT.sIx xs.length 0 lo = 0 ∧ HT.sIx xs.length xs.length hi = xs.length) → NewT H (cutV xs lo hi) Q)
theorem sl_tupP : SlR X (rSlP X.K) := by
  intro pins s σ H x v vl vu lo hi sl Q I rx hs pl pu h
  obtain ⟨a, xs, rfl, hx, q1, q2⟩ := h
  cases rx
  obtain ⟨its, r, ht, hz⟩ := I.tuple hx
  have hlen : its.toArray.size = xs.length := by rw [List.size_toArray]; exact r.length.symm
  refine ⟨"tuple", _, PyProof.Rows.slot_tuple_getitem.lookup, ht.typeIs, ?_⟩
  by_cases hw : HT.sIx xs.length 0 lo = 0 ∧ HT.sIx xs.length xs.length hi = xs.length
  · exact getItem_tuple_whole ht hs pl pu (by rw [hlen]; exact hw) ⟨.ref a, H, I, rfl, q1 hw⟩
  · refine HT.getItem_tuple_cut ht hs pl pu (by rw [hlen]; exact hw) ?_ (by rw [hlen]; exact hz)
    rw [hlen]
    exact newT_inv (s := s) (h' := s.heap) I ((r.drop (HT.sIx xs.length 0 lo)).take (HT.sIx xs.length xs.length hi - HT.sIx xs.length 0 lo)) (Nat.le_trans (cutV_length xs lo hi) hz) (q2 hw)
def rSlAll (K : PySem.W.Frag) : V → Option Int → Option Int → Hp → VK → Prop := fun x lo hi H Q => rSlL K x lo hi H Q ∨ rSlP K x lo hi H Q ∨ ∃ z, x = .str z ∧ z.length ≤ sizeLine ∧ Q (.str (cutS z lo hi)) H
theorem sl_all : SlR X (rSlAll X.K) := sl_list.or (sl_tupP.or sl_str)
def dSl (te : DE) (tl th : DO) : DE := fun σ G Q => te σ G fun x G1 => tl σ G1 fun l G2 => th σ G2 fun u G3 => sliceD x l u G3 Q
theorem sliceD_sim {K : PySem.W.Frag} {H : Hp} {G : DG} {x : V} {d : D} {lo hi : Option Int} {Q : VK} (m : MH K G H) (rx : RD K H d x) (h : sliceD d lo hi G (lf K H Q)) : rSlAll K x lo hi H Q := by
  unfold sliceD at h
  split at h
  · rename_i xs
    cases rx with
    | @tup p _ vs hs hl hi' =>
      have r : RDs K H xs vs := ⟨hl, hi'⟩
      refine .inr (.inl ⟨p, vs, rfl, hs.t, ⟨fun e => ?_, fun _ n o hn hd => ?_⟩⟩)
      · refine h (.ref p) H m ?_ .refl
        have q := r.cut lo hi
        have e2 : cutV vs lo hi = vs := by
          unfold cutV
          rw [e.1, e.2]
          simp
        rw [e2] at q
        exact .tup hs q.1 q.2
      · exact h (.ref n) _ (m.new (.upd_new hn) (m.fresh hn)) (.new_tup (r.cut lo hi) hn hd) (.upd_new hn)
  · cases rx
    exact .inr (.inr ⟨_, rfl, h.1, h.2 _ _ m (.str _) .refl⟩)
  · cases rx with
    | @lis p _ vs hs hl hi' =>
      have r : RDs K H _ vs := ⟨hl, hi'⟩
      exact .inl ⟨_, vs, rfl, hs.l, fun n hn => h n (m.fresh hn) (.ref n) _ (m.upd (.upd_new hn) (.new_lst (r.cut lo hi) (.upd_new hn))) (.ref n) (.upd_new hn)⟩
  · cases rx
    split at h
    · rename_i e
      obtain ⟨vs, g, r⟩ := m _ _ e
      exact .inl ⟨_, vs, rfl, SqL.of g, fun n hn => h n (m.fresh hn) (.ref n) _ (m.upd (.upd_new hn) (.new_lst (r.cut lo hi) (.upd_new hn))) (.ref n) (.upd_new hn)⟩
    · exact False.elim h
  · exact False.elim h
theorem de_slice {lo hi : Option Expr} {p2 : Pos} {tl th : DO} (ha : DPE X e ta) (hl : DPO X lo tl) (hh : DPO X hi th) : DPE X (.Subscript e (.Slice lo hi none p2) pos) (dSl ta tl th) := by
  obtain ⟨ma, tta, pa, ra⟩ := ha
  obtain ⟨ml, ttl, pl, rl⟩ := hl
  obtain ⟨mh, tth, ph, rh⟩ := hh
  refine ⟨fun σ G Q Q' h q => ma σ G _ _ (fun x G1 q1 => ml σ G1 _ _ (fun l G2 q2 => mh σ G2 _ _ (fun u G3 q3 => sliceD_mono h q3) q2) q1) q, _, pe_slice sl_all pa pl ph, fun σ H σd G Q m s h => ?_⟩
  exact ra σ H σd G _ m s (ma _ _ _ _ (fun x G1 h1 v H1 m1 r1 k1 => rl σ H1 σd G1 _ m1 (s.kt k1) (ml _ _ _ _ (fun l G2 h2 H2 m2 k2 => rh σ H2 σd G2 _ m2 ((s.kt k1).kt k2) (mh _ _ _ _ (fun u G3 h3 H3 m3 k3 =>
    sliceD_sim m3 ((r1.kt k2).kt k3) (sliceD_mono (fun d G' z => lf_kt ((k1.trans k2).trans k3) z) h3)) h2)) h1)) h)
end
end FD

namespace FD
open PySem L2
/-! ### data seen through the small heap -/
def pyAll (f : D → Option PyData) : List D → Option (List PyData)
  | [] => some []
  | x :: r => match f x, pyAll f r with
    | some d, some ds => some (d :: ds)
    | _, _ => none
def pyD : Nat → DG → D → Option PyData
  | _, _, .non => some .none
  | _, _, .bl b => some (.bool b)
  | _, _, .int i => some (.int i)
  | _, _, .str x => if PyData.strOk x then some (.str x) else none
  | 0, _, _ => none
  | n + 1, G, .tup xs => (pyAll (pyD n G) xs).map .tuple
  | n + 1, G, .lis xs => (pyAll (pyD n G) xs).map .list
  | n + 1, G, .ref a => match G a with
    | some (.lst xs) => (pyAll (pyD n G) xs).map .list
    | _ => none
  | _, _, _ => none
theorem pyAll_cons {f : D → Option PyData} {x : D} {r : List D} {ps : List PyData} (h : pyAll f (x :: r) = some ps) : ∃ p ps', ps = p :: ps' ∧ f x = some p ∧ pyAll f r = some ps' := by
  unfold pyAll at h
  split at h
  · rename_i d ds e1 e2
    cases h
    exact ⟨d, ds, rfl, e1, e2⟩
  · cases h
theorem dpAll_of {K : PySem.W.Frag} {H : Hp} {f : D → Option PyData} (hf : ∀ d v p, RD K H d v → f d = some p → Dp K H v p) : ∀ (xs : List D) (vs : List V) (ps : List PyData), RDs K H xs vs → pyAll f xs = some ps → DpAll K H vs ps
  | [], vs, ps, r, h => by
    have e := r.nil_inv
    subst e
    cases h
    exact .nil
  | x :: xs, vs, ps, r, h => by
    obtain ⟨v, vs', rfl, a, b⟩ := r.cons_inv
    obtain ⟨p, ps', rfl, e1, e2⟩ := pyAll_cons h
    exact .cons (hf x v p a e1) (dpAll_of hf xs vs' ps' b e2)
theorem pyD_dp {K : PySem.W.Frag} {H : Hp} {G : DG} (m : MH K G H) : ∀ (n : Nat) (d : D) (v : V) (p : PyData), RD K H d v → pyD n G d = some p → Dp K H v p := by
  intro n
  induction n with
  | zero =>
    intro d v p r h
    cases r <;> simp [pyD] at h
    · subst h; exact .non
    · subst h; exact .bl _
    · subst h; exact .int _
    · obtain ⟨_, h⟩ := h; subst h; exact .str _
  | succ n ih =>
    intro d v p r h
    cases r with
    | non => simp [pyD] at h; subst h; exact .non
    | bl b => simp [pyD] at h; subst h; exact .bl _
    | int i => simp [pyD] at h; subst h; exact .int _
    | str x => simp [pyD] at h; obtain ⟨_, h⟩ := h; subst h; exact .str _
    | ty x => simp [pyD] at h
    | tpl _ _ _ => simp [pyD] at h
    | @tup a xs vs hs hl hi =>
      simp only [pyD, Option.map_eq_some_iff] at h
      obtain ⟨ps, h1, rfl⟩ := h
      exact .tup hs.t (dpAll_of ih xs vs ps ⟨hl, hi⟩ h1)
    | @lis a xs vs hs hl hi =>
      simp only [pyD, Option.map_eq_some_iff] at h
      obtain ⟨ps, h1, rfl⟩ := h
      exact .lst hs.l (dpAll_of ih xs vs ps ⟨hl, hi⟩ h1)
    | ref a =>
      simp only [pyD] at h
      split at h
      · rename_i xs e
        obtain ⟨vs, g, r⟩ := m a _ e
        obtain ⟨ps, h1, rfl⟩ := Option.map_eq_some_iff.mp h
        exact .lst (SqL.of g) (dpAll_of ih xs vs ps r h1)
      · cases h
theorem pyAll_ok {f : D → Option PyData} {n : Nat} (hf : ∀ d p, f d = some p → p.canLay0 = true ∧ p.depth ≤ n) : ∀ (xs : List D) (ps : List PyData), pyAll f xs = some ps → PyData.canLayAll0 ps = true ∧ PyData.depthAll ps ≤ n
  | [], ps, h => by cases h; simp [PyData.canLayAll0, PyData.depthAll]
  | x :: xs, ps, h => by
    obtain ⟨p, ps', rfl, e1, e2⟩ := pyAll_cons h
    obtain ⟨h1, h2⟩ := hf x p e1
    obtain ⟨h3, h4⟩ := pyAll_ok hf xs ps' e2
    simp only [PyData.canLayAll0, PyData.depthAll, h1, h3, Bool.and_self, true_and]
    omega
theorem pyD_ok (G : DG) : ∀ (n : Nat) (d : D) (p : PyData), pyD n G d = some p → p.canLay0 = true ∧ p.depth ≤ n := by
  intro n
  induction n with
  | zero =>
    intro d p h
    cases d <;> simp [pyD] at h
    · subst h; simp [PyData.canLay0, PyData.depth]
    · subst h; simp [PyData.canLay0, PyData.depth]
    · subst h; simp [PyData.canLay0, PyData.depth]
    · obtain ⟨h1, h⟩ := h; subst h; simp [PyData.canLay0, PyData.depth, h1]
  | succ n ih =>
    intro d p h
    cases d with
    | non => simp [pyD] at h; subst h; simp [PyData.canLay0, PyData.depth]
    | bl b => simp [pyD] at h; subst h; simp [PyData.canLay0, PyData.depth]
    | int i => simp [pyD] at h; subst h; simp [PyData.canLay0, PyData.depth]
    | str x => simp [pyD] at h; obtain ⟨h1, h⟩ := h; subst h; simp [PyData.canLay0, PyData.depth, h1]
    | ty x => simp [pyD] at h
    | tpl x => simp [pyD] at h
    | tup xs =>
      simp only [pyD, Option.map_eq_some_iff] at h
      obtain ⟨ps, h1, rfl⟩ := h
      obtain ⟨a, b⟩ := pyAll_ok ih xs ps h1
      simp only [PyData.canLay0, PyData.depth, a, true_and]
      omega
    | lis xs =>
      simp only [pyD, Option.map_eq_some_iff] at h
      obtain ⟨ps, h1, rfl⟩ := h
      obtain ⟨a, b⟩ := pyAll_ok ih xs ps h1
      simp only [PyData.canLay0, PyData.depth, a, true_and]
      omega
    | ref a =>
      simp only [pyD] at h
      split at h
      · obtain ⟨ps, h1, rfl⟩ := Option.map_eq_some_iff.mp h
        obtain ⟨a, b⟩ := pyAll_ok ih _ ps h1
        simp only [PyData.canLay0, PyData.depth, a, true_and]
        omega
      · cases h
theorem pyD_shaped {G : DG} {n : Nat} {d : D} {p : PyData} (h : pyD n G d = some p) (hn : n ≤ 64) : SeqAt.shaped p = true := by
  obtain ⟨a, b⟩ := pyD_ok G n d p h
  unfold SeqAt.shaped
  rw [a, decide_eq_true (Nat.le_trans b hn)]
  rfl
section
variable {X : Cx} {a b c e : Expr} {es rest : List Expr} {ta tb tc : DE} {pos : Pos}
def py2 (x y : D) (G : DG) (f : PyData → PyData → Prop) : Prop := match pyD 9 G x, pyD 9 G y with
  | some p, some q => f p q
  | _, _ => False
def eqD : F2 := fun x y G Q => match x, y with
  | .str s, .str t => Q (.bl (decide (s = t))) G
  | x, y => py2 x y G fun p q => Q (.bl (PyData.eqv p q)) G
def neD : F2 := fun x y G Q => match x, y with
  | .str s, .str t => Q (.bl (!decide (s = t))) G
  | x, y => py2 x y G fun p q => Q (.bl (!PyData.eqv p q)) G
theorem py2_mono {x y : D} {G : DG} {f g : PyData → PyData → Prop} (h : ∀ p q, f p q → g p q) (q : py2 x y G f) : py2 x y G g := by
  unfold py2 at q ⊢
  split at q
  · exact h _ _ q
  · exact q
theorem py2_of {K : PySem.W.Frag} {H : Hp} {G : DG} {x y : V} {dx dy : D} {f : PyData → PyData → Prop} (m : MH K G H) (rx : RD K H dx x) (ry : RD K H dy y) (h : py2 dx dy G f) :
    ∃ p q, Dp K H x p ∧ Dp K H y q ∧ SeqAt.shaped p = true ∧ SeqAt.shaped q = true ∧ f p q := by
  unfold py2 at h
  split at h
  · rename_i p q e1 e2
    exact ⟨p, q, pyD_dp m 9 _ _ p rx e1, pyD_dp m 9 _ _ q ry e2, pyD_shaped e1 (by decide), pyD_shaped e2 (by decide), h⟩
  · exact False.elim h
def rEqA (K : PySem.W.Frag) : R2 := fun x y H Q => rEq x y H Q ∨ rEqD K x y H Q
def rNeA (K : PySem.W.Frag) : R2 := fun x y H Q => rNe x y H Q ∨ rNeD K x y H Q
theorem op_eqA (hu : X.A.units + 64 < cLine) : OpR X (compareOp .Eq) (rEqA X.K) := op_eq.or (op_eqD hu)
theorem op_neA (hu : X.A.units + 64 < cLine) : OpR X (compareOp .NotEq) (rNeA X.K) := op_ne.or (op_neD hu)
theorem dec_strs {s t : Str} : decide (V.str s = V.str t) = decide (s = t) := by
  by_cases h : s = t
  · subst h; simp
  · rw [decide_eq_false h, decide_eq_false fun e => h (V.str.inj e)]
theorem eqD_sim {K : PySem.W.Frag} : Sim2 K (rEqA K) eqD := fun H G x y dx dy Q m rx ry h => by
  unfold eqD at h
  split at h
  · cases rx; cases ry
    refine .inl ⟨rfl, ?_⟩
    rw [dec_strs]
    exact h _ _ m (.bl _) .refl
  · obtain ⟨p, q, h1, h2, h3, h4, h5⟩ := py2_of m rx ry h
    exact .inr ⟨p, q, h1, h2, h3, h4, h5 _ _ m (.bl _) .refl⟩
theorem neD_sim {K : PySem.W.Frag} : Sim2 K (rNeA K) neD := fun H G x y dx dy Q m rx ry h => by
  unfold neD at h
  split at h
  · cases rx; cases ry
    refine .inl ⟨rfl, ?_⟩
    rw [dec_strs]
    exact h _ _ m (.bl _) .refl
  · obtain ⟨p, q, h1, h2, h3, h4, h5⟩ := py2_of m rx ry h
    exact .inr ⟨p, q, h1, h2, h3, h4, h5 _ _ m (.bl _) .refl⟩
theorem eqD_mono : MonoF2 eqD := fun x y G Q Q' h q => by
  unfold eqD at q ⊢
  split at q
  · exact h _ _ q
  · exact py2_mono (fun _ _ z => h _ _ z) q
theorem neD_mono : MonoF2 neD := fun x y G Q Q' h q => by
  unfold neD at q ⊢
  split at q
  · exact h _ _ q
  · exact py2_mono (fun _ _ z => h _ _ z) q
theorem de_eq (hu : X.A.units + 64 < cLine) (ha : DPE X a ta) (hb : DPE X b tb) : DPE X (.Compare a [.Eq] [b] pos) (dOp eqD ta tb) := de_cmpR (op_eqA hu) eqD_mono eqD_sim ha hb (nomark _)
theorem dt_eq (hu : X.A.units + 64 < cLine) (ha : DPE X a ta) (hb : DPE X b tb) : DPT X (.Compare a [.Eq] [b] pos) (dTest (dOp eqD ta tb)) := dt_cmpR (op_eqA hu) eqD_mono eqD_sim ha hb (nomark _)
theorem de_ne (hu : X.A.units + 64 < cLine) (ha : DPE X a ta) (hb : DPE X b tb) : DPE X (.Compare a [.NotEq] [b] pos) (dOp neD ta tb) := de_cmpR (op_neA hu) neD_mono neD_sim ha hb (nomark _)
theorem dt_ne (hu : X.A.units + 64 < cLine) (ha : DPE X a ta) (hb : DPE X b tb) : DPT X (.Compare a [.NotEq] [b] pos) (dTest (dOp neD ta tb)) := dt_cmpR (op_neA hu) neD_mono neD_sim ha hb (nomark _)
/-! ### orders of ints -/
def ltD : F2 := intD (fun _ _ => True) fun i j => .bl (decide (i < j))
def leD : F2 := intD (fun _ _ => True) fun i j => .bl (decide (i ≤ j))
def gtD : F2 := intD (fun _ _ => True) fun i j => .bl (decide (j < i))
def geD : F2 := intD (fun _ _ => True) fun i j => .bl (decide (j ≤ i))
theorem de_lt (ha : DPE X a ta) (hb : DPE X b tb) : DPE X (.Compare a [.Lt] [b] pos) (dOp ltD ta tb) := de_cmpR op_lt intD_mono intD_simB ha hb (nomark _)
theorem de_le (ha : DPE X a ta) (hb : DPE X b tb) : DPE X (.Compare a [.LtE] [b] pos) (dOp leD ta tb) := de_cmpR op_le intD_mono intD_simB ha hb (nomark _)
theorem de_gt (ha : DPE X a ta) (hb : DPE X b tb) : DPE X (.Compare a [.Gt] [b] pos) (dOp gtD ta tb) := de_cmpR op_gt intD_mono intD_simB ha hb (nomark _)
theorem de_ge (ha : DPE X a ta) (hb : DPE X b tb) : DPE X (.Compare a [.GtE] [b] pos) (dOp geD ta tb) := de_cmpR op_ge intD_mono intD_simB ha hb (nomark _)
theorem dt_lt (ha : DPE X a ta) (hb : DPE X b tb) : DPT X (.Compare a [.Lt] [b] pos) (dTest (dOp ltD ta tb)) := dt_cmpR op_lt intD_mono intD_simB ha hb (nomark _)
theorem dt_le (ha : DPE X a ta) (hb : DPE X b tb) : DPT X (.Compare a [.LtE] [b] pos) (dTest (dOp leD ta tb)) := dt_cmpR op_le intD_mono intD_simB ha hb (nomark _)
theorem dt_gt (ha : DPE X a ta) (hb : DPE X b tb) : DPT X (.Compare a [.Gt] [b] pos) (dTest (dOp gtD ta tb)) := dt_cmpR op_gt intD_mono intD_simB ha hb (nomark _)
theorem dt_ge (ha : DPE X a ta) (hb : DPE X b tb) : DPT X (.Compare a [.GtE] [b] pos) (dTest (dOp geD ta tb)) := dt_cmpR op_ge intD_mono intD_simB ha hb (nomark _)
theorem de_lele (ha : DPE X a ta) (hb : DPE X b tb) (hc : DPE X c tc) (hm : lastMarks [.LtE, .LtE] [b, c] = false := by with_unfolding_all rfl) : DPE X (.Compare a [.LtE, .LtE] [b, c] pos) (dChain leD leD ta tb tc) := (de_chain op_le op_le intD_mono intD_mono intD_simB intD_simB ha hb hc hm).1
theorem dt_lele (ha : DPE X a ta) (hb : DPE X b tb) (hc : DPE X c tc) (hm : lastMarks [.LtE, .LtE] [b, c] = false := by with_unfolding_all rfl) : DPT X (.Compare a [.LtE, .LtE] [b, c] pos) (dTest (dChain leD leD ta tb tc)) := (de_chain op_le op_le intD_mono intD_mono intD_simB intD_simB ha hb hc hm).2
theorem de_lelt (ha : DPE X a ta) (hb : DPE X b tb) (hc : DPE X c tc) (hm : lastMarks [.LtE, .Lt] [b, c] = false := by with_unfolding_all rfl) : DPE X (.Compare a [.LtE, .Lt] [b, c] pos) (dChain leD ltD ta tb tc) := (de_chain op_le op_lt intD_mono intD_mono intD_simB intD_simB ha hb hc hm).1
theorem dt_lelt (ha : DPE X a ta) (hb : DPE X b tb) (hc : DPE X c tc) (hm : lastMarks [.LtE, .Lt] [b, c] = false := by with_unfolding_all rfl) : DPT X (.Compare a [.LtE, .Lt] [b, c] pos) (dTest (dChain leD ltD ta tb tc)) := (de_chain op_le op_lt intD_mono intD_mono intD_simB intD_simB ha hb hc hm).2
/-! ### in -/
def items? : PyData → Option (List PyData)
  | .list xs => some xs
  | .tuple xs => some xs
  | _ => none
def inD (neg : Bool) : F2 := fun x y G Q => match pyD 9 G x, (pyD 9 G y).bind items? with
  | some p, some qs => Q (.bl (if neg then !(qs.any fun z => PyData.eqv z p) else qs.any fun z => PyData.eqv z p)) G
  | _, _ => False
theorem inD_mono {neg : Bool} : MonoF2 (inD neg) := fun x y G Q Q' h q => by
  unfold inD at q ⊢
  split at q
  · exact h _ _ q
  · exact q
def rInA (K : PySem.W.Frag) (neg : Bool) : R2 := fun x y H Q => ∃ d e ds, Dp K H x d ∧ Dp K H y e ∧ SeqAt.shaped d = true ∧ SeqAt.shaped e = true ∧ items? e = some ds ∧ Q (.bl (if neg then !(ds.any fun z => PyData.eqv z d) else ds.any fun z => PyData.eqv z d)) H
theorem op_inA (hu : X.A.units + 65 < cLine) : OpR X (compareOp .In) (rInA X.K false) := by
  intro pins s σ H x y v u Q I rx ry h
  obtain ⟨d, e, ds, hd, he, sd, se, hi, q⟩ := h
  obtain ⟨as, r1⟩ := Dp.reads I d x v hd rx
  obtain ⟨bs, r2⟩ := Dp.reads I e y u he ry
  have room := PyProof.Rows.room_in_shaped (A := X.A) (xs := ds) sd hu
  cases e with
  | list xs => cases hi; exact SeqAt.in_list_reads r2 r1 (SeqAt.canLay_of_shaped se) (SeqAt.canLay_of_shaped sd) room ⟨.bl _, H, I, rfl, q⟩
  | tuple xs => cases hi; exact SeqAt.in_tuple_reads r2 r1 (SeqAt.canLay_of_shaped se) (SeqAt.canLay_of_shaped sd) room ⟨.bl _, H, I, rfl, q⟩
  | _ => cases hi
theorem op_notInA (hu : X.A.units + 65 < cLine) : OpR X (compareOp .NotIn) (rInA X.K true) := by
  intro pins s σ H x y v u Q I rx ry h
  obtain ⟨d, e, ds, hd, he, sd, se, hi, q⟩ := h
  obtain ⟨as, r1⟩ := Dp.reads I d x v hd rx
  obtain ⟨bs, r2⟩ := Dp.reads I e y u he ry
  have room := PyProof.Rows.room_in_shaped (A := X.A) (xs := ds) sd hu
  cases e with
  | list xs => cases hi; exact SeqAt.notIn_list_reads r2 r1 (SeqAt.canLay_of_shaped se) (SeqAt.canLay_of_shaped sd) room ⟨.bl _, H, I, rfl, q⟩
  | tuple xs => cases hi; exact SeqAt.notIn_tuple_reads r2 r1 (SeqAt.canLay_of_shaped se) (SeqAt.canLay_of_shaped sd) room ⟨.bl _, H, I, rfl, q⟩
  | _ => cases hi
theorem inD_sim {K : PySem.W.Frag} {neg : Bool} : Sim2 K (rInA K neg) (inD neg) := fun H G x y dx dy Q m rx ry h => by
  unfold inD at h
  split at h
  · rename_i p qs e1 e2
    obtain ⟨q, e3, e4⟩ := Option.bind_eq_some_iff.mp e2
    exact ⟨p, q, qs, pyD_dp m 9 _ _ p rx e1, pyD_dp m 9 _ _ q ry e3, pyD_shaped e1 (by decide), pyD_shaped e3 (by decide), e4, h _ _ m (.bl _) .refl⟩
  · exact False.elim h
theorem de_in (hu : X.A.units + 65 < cLine) (ha : DPE X a ta) (hb : DPE X b tb) (hk : behindInMarks .In b = false := by rfl) : DPE X (.Compare a [.In] [b] pos) (dOp (inD false) ta tb) := de_cmpR (op_inA hu) inD_mono inD_sim ha hb hk
theorem dt_in (hu : X.A.units + 65 < cLine) (ha : DPE X a ta) (hb : DPE X b tb) (hk : behindInMarks .In b = false := by rfl) : DPT X (.Compare a [.In] [b] pos) (dTest (dOp (inD false) ta tb)) := dt_cmpR (op_inA hu) inD_mono inD_sim ha hb hk
theorem de_notin (hu : X.A.units + 65 < cLine) (ha : DPE X a ta) (hb : DPE X b tb) (hk : behindInMarks .NotIn b = false := by rfl) : DPE X (.Compare a [.NotIn] [b] pos) (dOp (inD true) ta tb) := de_cmpR (op_notInA hu) inD_mono inD_sim ha hb hk
theorem dt_notin (hu : X.A.units + 65 < cLine) (ha : DPE X a ta) (hb : DPE X b tb) (hk : behindInMarks .NotIn b = false := by rfl) : DPT X (.Compare a [.NotIn] [b] pos) (dTest (dOp (inD true) ta tb)) := dt_cmpR (op_notInA hu) inD_mono inD_sim ha hb hk
/-! ### is: None, truths -/
def isD (neg : Bool) : F2 := fun x y G Q => match x, y with
  | .bl i, .bl j => Q (.bl (if neg then !decide (i = j) else decide (i = j))) G
  | .non, .non => Q (.bl (!neg)) G
  | _, .non => Q (.bl neg) G
  | _, _ => False
theorem isD_mono {neg : Bool} : MonoF2 (isD neg) := fun x y G Q Q' h q => by
  unfold isD at q ⊢
  split at q <;> first | exact h _ _ q | exact q
def rIs (neg : Bool) : R2 := fun x y H Q => (y = .non ∧ Q (.bl (if neg then !decide (x = .non) else decide (x = .non))) H) ∨ ∃ a b, x = .bl a ∧ y = .bl b ∧ Q (.bl (if neg then !decide (a = b) else decide (a = b))) H
theorem op_is1 : OpR X (compareOp .Is) (rIs false) := op_isN.or op_is_bl
theorem op_is2 : OpR X (compareOp .IsNot) (rIs true) := op_notN.or op_isnot_bl
theorem isD_sim {K : PySem.W.Frag} {neg : Bool} : Sim2 K (rIs neg) (isD neg) := fun H G x y dx dy Q m rx ry h => by
  unfold isD at h
  split at h
  · cases rx; cases ry
    exact .inr ⟨_, _, rfl, rfl, h _ _ m (.bl _) .refl⟩
  · cases rx; cases ry
    refine .inl ⟨rfl, ?_⟩
    cases neg <;> exact h _ _ m (.bl _) .refl
  · rename_i hx
    cases ry
    have hn : x ≠ .non := by
      intro e
      subst e
      cases rx
      exact hx rfl
    refine .inl ⟨rfl, ?_⟩
    have e : decide (x = V.non) = false := decide_eq_false hn
    rw [e]
    cases neg <;> exact h _ _ m (.bl _) .refl
  · exact False.elim h
theorem de_is (ha : DPE X a ta) (hb : DPE X b tb) : DPE X (.Compare a [.Is] [b] pos) (dOp (isD false) ta tb) := de_cmpR op_is1 isD_mono isD_sim ha hb (nomark _)
theorem dt_is (ha : DPE X a ta) (hb : DPE X b tb) : DPT X (.Compare a [.Is] [b] pos) (dTest (dOp (isD false) ta tb)) := dt_cmpR op_is1 isD_mono isD_sim ha hb (nomark _)
theorem de_isnot (ha : DPE X a ta) (hb : DPE X b tb) : DPE X (.Compare a [.IsNot] [b] pos) (dOp (isD true) ta tb) := de_cmpR op_is2 isD_mono isD_sim ha hb (nomark _)
theorem dt_isnot (ha : DPE X a ta) (hb : DPE X b tb) : DPT X (.Compare a [.IsNot] [b] pos) (dTest (dOp (isD true) ta tb)) := dt_cmpR op_is2 isD_mono isD_sim ha hb (nomark _)
end
end FD

namespace FD
open PySem L2
section
variable {X : Cx} {a b c e : Expr} {es rest : List Expr} {ta tb tc : DE} {pos : Pos}
/-! ### sequences: what a value holds -/
def seqD (x : D) (G : DG) : Option (List D) := match x with
  | .tup xs => some xs
  | .lis xs => some xs
  | .ref p => match G p with
    | some (.lst xs) => some xs
    | _ => none
  | _ => none
theorem seqD_ok {K : PySem.W.Frag} {H : Hp} {G : DG} {x : V} {d : D} {xs : List D} (m : MH K G H) (r : RD K H d x) (h : seqD d G = some xs) : ∃ p vs, x = .ref p ∧ RDs K H xs vs ∧ (SqL K H p vs ∨ SqT K H p vs) := by
  unfold seqD at h
  split at h
  · cases h
    cases r with
    | @tup p _ vs hs hl hi => exact ⟨p, vs, rfl, ⟨hl, hi⟩, .inr hs.t⟩
  · cases h
    cases r with
    | @lis p _ vs hs hl hi => exact ⟨p, vs, rfl, ⟨hl, hi⟩, .inl hs.l⟩
  · cases r
    split at h
    · rename_i e
      cases h
      obtain ⟨vs, g, r⟩ := m _ _ e
      exact ⟨_, vs, rfl, r, .inl (SqL.of g)⟩
    · cases h
  · cases h
/-- a list's items -/
def lstD (x : D) (G : DG) : Option (List D) := match x with
  | .lis xs => some xs
  | .ref p => match G p with
    | some (.lst xs) => some xs
    | _ => none
  | _ => none
theorem lstD_ok {K : PySem.W.Frag} {H : Hp} {G : DG} {x : V} {d : D} {xs : List D} (m : MH K G H) (r : RD K H d x) (h : lstD d G = some xs) : ∃ p vs, x = .ref p ∧ RDs K H xs vs ∧ SqL K H p vs := by
  unfold lstD at h
  split at h
  · cases h
    cases r with
    | @lis p _ vs hs hl hi => exact ⟨p, vs, rfl, ⟨hl, hi⟩, hs.l⟩
  · cases r
    split at h
    · rename_i e
      cases h
      obtain ⟨vs, g, r⟩ := m _ _ e
      exact ⟨_, vs, rfl, r, SqL.of g⟩
    · cases h
  · cases h
def optL (o : Option (List D)) (f : List D → Prop) : Prop := match o with | some xs => f xs | none => False
theorem optL_mono {o : Option (List D)} {f g : List D → Prop} (h : ∀ xs, f xs → g xs) (q : optL o f) : optL o g := by
  cases o with
  | none => exact q
  | some xs => exact h xs q
/-! ### len -/
def lenD : FL := fun xs G Q => match xs with
  | [.str s] => s.length ≤ sizeLine ∧ Q (.int s.length) G
  | [x] => optL (seqD x G) fun ys => Q (.int ys.length) G
  | _ => False
theorem lenD_mono : MonoFL lenD := fun xs G Q Q' h q => by
  unfold lenD at q ⊢
  split at q
  · exact ⟨q.1, h _ _ q.2⟩
  · exact optL_mono (fun _ z => h _ _ z) q
  · exact q
theorem lenD_sim {K : PySem.W.Frag} : SimL K (fun xs H Q => ∃ x n, xs = [x] ∧ LenV K x H n ∧ Q (.int n) H) lenD := fun H G xs ds Q m r h => by
  unfold lenD at h
  split at h
  · obtain ⟨v, vs', rfl, r1, r2⟩ := r.cons_inv
    have e := r2.nil_inv
    subst e
    cases r1
    exact ⟨_, _, rfl, ⟨h.1, rfl⟩, h.2 _ _ m (.int _) .refl⟩
  · obtain ⟨v, vs', rfl, r1, r2⟩ := r.cons_inv
    have e := r2.nil_inv
    subst e
    unfold optL at h
    split at h
    · rename_i ys e
      obtain ⟨p, ws, rfl, rr, hq⟩ := seqD_ok m r1 e
      refine ⟨_, ws.length, rfl, ?_, ?_⟩
      · rcases hq with hq | hq
        · exact .inl ⟨ws, hq, rfl⟩
        · exact .inr ⟨ws, hq, rfl⟩
      · rw [← rr.1]
        exact h _ _ m (.int _) .refl
    · exact False.elim h
  · exact False.elim h
theorem de_len {p : Pos} {t : DA} (hg : Gl X "len") (hm : X.mg "len" = none) (ha : DPA X (e :: es) t) (h1 : starEach (e :: es) X.env = (false, eval e X.env) :: starEach es X.env := by rfl) (h2 : ((backTo pos (starEach es X.env)).any fun x => x.fst) = false := by rfl) :
    DPE X (.Call (.Name "len" p) (e :: es) [] pos) (dCB lenD t) := de_callB call_len lenD_mono lenD_sim hg hm PySem.boot_len ha (by decide) (by decide) h1 h2
/-! ### list(..), tuple(..) -/
def listD : FL := fun xs G Q => match xs with
  | [x] => optL (seqD x G) fun ys => ∀ p, G p = none → Q (.ref p) (up G p (.lst ys))
  | _ => False
theorem listD_mono : MonoFL listD := fun xs G Q Q' h q => by
  unfold listD at q ⊢
  split at q
  · exact optL_mono (fun _ z p hp => h _ _ (z p hp)) q
  · exact q
theorem listD_sim {K : PySem.W.Frag} : SimL K (fun xs H Q => ∃ p ys, xs = [.ref p] ∧ (SqL K H p ys ∨ SqT K H p ys) ∧ ∀ l, H l = none → Q (.ref l) (upd H l (.lst ys))) listD := fun H G xs ds Q m r h => by
  unfold listD at h
  split at h
  · obtain ⟨v, vs', rfl, r1, r2⟩ := r.cons_inv
    have e := r2.nil_inv
    subst e
    unfold optL at h
    split at h
    · rename_i ys e
      obtain ⟨p, ws, rfl, rr, hq⟩ := seqD_ok m r1 e
      exact ⟨p, ws, rfl, hq, fun l hl => h l (m.fresh hl) (.ref l) _ (m.upd (.upd_new hl) (.new_lst rr (.upd_new hl))) (.ref l) (.upd_new hl)⟩
    · exact False.elim h
  · exact False.elim h
theorem de_list {p : Pos} {t : DA} (hg : Gl X "list") (hm : X.mg "list" = none) (ha : DPA X (e :: es) t) (h1 : starEach (e :: es) X.env = (false, eval e X.env) :: starEach es X.env := by rfl) (h2 : ((backTo pos (starEach es X.env)).any fun x => x.fst) = false := by rfl) :
    DPE X (.Call (.Name "list" p) (e :: es) [] pos) (dCB listD t) := de_callTy call_list_of listD_mono listD_sim hg hm (by decide +kernel) ha (by decide) (by decide) h1 h2
def tupleD : FL := fun xs G Q => match xs with
  | [x] => optL (seqD x G) fun ys => Q (.tup ys) G
  | _ => False
theorem tupleD_mono : MonoFL tupleD := fun xs G Q Q' h q => by
  unfold tupleD at q ⊢
  split at q
  · exact optL_mono (fun _ z => h _ _ z) q
  · exact q
theorem call_tupleP : CallR X (.type "tuple") (fun xs H Q => ∃ p ys, xs = [.ref p] ∧ ((SqL X.K H p ys ∧ NewT H ys Q) ∨ (SqP X.K H p ys ∧ Q (.ref p) H))) := by
  intro pins s σ H xs us Q I r h
  obtain ⟨p, ys, rfl, h⟩ := h
  obtain ⟨u, rfl, rx⟩ := vals1 r
  cases rx
  rcases h with ⟨hq, q⟩ | ⟨hq, q⟩
  · obtain ⟨its, r', pl, hz⟩ := I.list hq
    have hlen := r'.length
    refine call_tuple_list pl.isList (fun h' kp => ?_) (by simp only [List.size_toArray] <;> omega)
    exact newT_inv (s := s) (h' := h') (I.kept (t' := s.toks) kp) r' hz q
  · obtain ⟨its, r', pl, hz⟩ := I.tuple hq.t
    exact call_tuple_same pl ⟨.ref p, H, I, rfl, q⟩
theorem tupleD_sim {K : PySem.W.Frag} : SimL K (fun xs H Q => ∃ p ys, xs = [.ref p] ∧ ((SqL K H p ys ∧ NewT H ys Q) ∨ (SqP K H p ys ∧ Q (.ref p) H))) tupleD := fun H G xs ds Q m r h => by
  unfold tupleD at h
  split at h
  · rename_i x
    obtain ⟨v, vs', rfl, r1, r2⟩ := r.cons_inv
    have e := r2.nil_inv
    subst e
    unfold optL at h
    split at h
    · rename_i ys e
      cases x with
      | tup zs =>
        simp [seqD] at e
        subst e
        cases r1 with
        | @tup p _ vs hs hl hi => exact ⟨p, vs, rfl, .inr ⟨hs, h _ _ m (.tup hs hl hi) .refl⟩⟩
      | ref p =>
        have e2 : lstD (.ref p) G = some ys := by simpa [seqD, lstD] using e
        obtain ⟨p', ws, hp, rr, hq⟩ := lstD_ok m r1 e2
        exact ⟨p', ws, by rw [hp], .inl ⟨hq, fun n o hn hd => h (.ref n) _ (m.new (.upd_new hn) (m.fresh hn)) (.new_tup rr hn hd) (.upd_new hn)⟩⟩
      | lis zs =>
        have e2 : lstD (.lis zs) G = some ys := by simpa [seqD, lstD] using e
        obtain ⟨p', ws, hp, rr, hq⟩ := lstD_ok m r1 e2
        exact ⟨p', ws, by rw [hp], .inl ⟨hq, fun n o hn hd => h (.ref n) _ (m.new (.upd_new hn) (m.fresh hn)) (.new_tup rr hn hd) (.upd_new hn)⟩⟩
      | _ => simp [seqD] at e
    · exact False.elim h
  · exact False.elim h
theorem de_tuple {p : Pos} {t : DA} (hg : Gl X "tuple") (hm : X.mg "tuple" = none) (ha : DPA X (e :: es) t) (h1 : starEach (e :: es) X.env = (false, eval e X.env) :: starEach es X.env := by rfl) (h2 : ((backTo pos (starEach es X.env)).any fun x => x.fst) = false := by rfl) :
    DPE X (.Call (.Name "tuple" p) (e :: es) [] pos) (dCB tupleD t) := de_callTy call_tupleP tupleD_mono tupleD_sim hg hm (by decide +kernel) ha (by decide) (by decide) h1 h2
/-! ### min, max of two ints or of a list; sum; abs; all -/
def intsD : List D → Option (List Int)
  | [] => some []
  | .int i :: r => (intsD r).map (i :: ·)
  | _ :: _ => none
theorem intsD_map : ∀ ns : List Int, intsD (ns.map .int) = some ns
  | [] => rfl
  | n :: ns => by simp [intsD, intsD_map ns]
theorem intsD_inv : ∀ {ds : List D} {ns : List Int}, intsD ds = some ns → ds = ns.map .int
  | [], ns, h => by cases h; rfl
  | .int i :: r, ns, h => by
    simp only [intsD, Option.map_eq_some_iff] at h
    obtain ⟨a, h1, rfl⟩ := h
    rw [intsD_inv h1]
    rfl
  | .non :: r, ns, h => by simp [intsD] at h
  | .bl b :: r, ns, h => by simp [intsD] at h
  | .str b :: r, ns, h => by simp [intsD] at h
  | .tup b :: r, ns, h => by simp [intsD] at h
  | .tpl b :: r, ns, h => by simp [intsD] at h
  | .lis b :: r, ns, h => by simp [intsD] at h
  | .ref b :: r, ns, h => by simp [intsD] at h
  | .ty b :: r, ns, h => by simp [intsD] at h
def maxD : FL := fun xs G Q => match xs with
  | [.int i, .int j] => Q (.int (if j > i then j else i)) G
  | [x] => ∃ ns, (lstD x G).bind intsD = some ns ∧ 0 < ns.length ∧ ∀ m, m ∈ ns → (∀ y, y ∈ ns → y ≤ m) → Q (.int m) G
  | _ => False
def minD : FL := fun xs G Q => match xs with
  | [.int i, .int j] => Q (.int (if j < i then j else i)) G
  | [x] => ∃ ns, (lstD x G).bind intsD = some ns ∧ 0 < ns.length ∧ ∀ m, m ∈ ns → (∀ y, y ∈ ns → m ≤ y) → Q (.int m) G
  | _ => False
theorem maxD_mono : MonoFL maxD := fun xs G Q Q' h q => by
  unfold maxD at q ⊢
  split at q
  · exact h _ _ q
  · obtain ⟨ns, h1, h2, h3⟩ := q
    exact ⟨ns, h1, h2, fun m a b => h _ _ (h3 m a b)⟩
  · exact q
theorem minD_mono : MonoFL minD := fun xs G Q Q' h q => by
  unfold minD at q ⊢
  split at q
  · exact h _ _ q
  · obtain ⟨ns, h1, h2, h3⟩ := q
    exact ⟨ns, h1, h2, fun m a b => h _ _ (h3 m a b)⟩
  · exact q
theorem ints_ok {K : PySem.W.Frag} {H : Hp} {G : DG} {x : V} {d : D} {ns : List Int} (m : MH K G H) (r : RD K H d x) (h : (lstD d G).bind intsD = some ns) : ∃ p, x = .ref p ∧ SqL K H p (ns.map V.int) := by
  obtain ⟨ds, h1, h2⟩ := Option.bind_eq_some_iff.mp h
  obtain ⟨p, vs, rfl, rr, hq⟩ := lstD_ok m r h1
  rw [intsD_inv h2] at rr
  exact ⟨p, rfl, by rw [← rr.int_inv]; exact hq⟩
theorem maxD_sim {K : PySem.W.Frag} : SimL K (fun xs H Q => (∃ i j, xs = [.int i, .int j] ∧ Q (.int (if j > i then j else i)) H) ∨ rMax K xs H Q) maxD := fun H G xs ds Q m r h => by
  unfold maxD at h
  split at h
  · obtain ⟨v, vs', rfl, r1, r2⟩ := r.cons_inv
    obtain ⟨v2, vs2, rfl, r3, r4⟩ := r2.cons_inv
    have e := r4.nil_inv
    subst e
    cases r1; cases r3
    exact .inl ⟨_, _, rfl, h _ _ m (.int _) .refl⟩
  · obtain ⟨v, vs', rfl, r1, r2⟩ := r.cons_inv
    have e := r2.nil_inv
    subst e
    obtain ⟨ns, h1, h2, h3⟩ := h
    obtain ⟨p, rfl, hq⟩ := ints_ok m r1 h1
    exact .inr ⟨p, ns, rfl, hq, h2, fun m' a b => h3 m' a b _ _ m (.int _) .refl⟩
  · exact False.elim h
theorem minD_sim {K : PySem.W.Frag} : SimL K (fun xs H Q => (∃ i j, xs = [.int i, .int j] ∧ Q (.int (if j < i then j else i)) H) ∨ rMin K xs H Q) minD := fun H G xs ds Q m r h => by
  unfold minD at h
  split at h
  · obtain ⟨v, vs', rfl, r1, r2⟩ := r.cons_inv
    obtain ⟨v2, vs2, rfl, r3, r4⟩ := r2.cons_inv
    have e := r4.nil_inv
    subst e
    cases r1; cases r3
    exact .inl ⟨_, _, rfl, h _ _ m (.int _) .refl⟩
  · obtain ⟨v, vs', rfl, r1, r2⟩ := r.cons_inv
    have e := r2.nil_inv
    subst e
    obtain ⟨ns, h1, h2, h3⟩ := h
    obtain ⟨p, rfl, hq⟩ := ints_ok m r1 h1
    exact .inr ⟨p, ns, rfl, hq, h2, fun m' a b => h3 m' a b _ _ m (.int _) .refl⟩
  · exact False.elim h
theorem de_max {p : Pos} {t : DA} (hc : X.calm = true) (hg : Gl X "max") (hm : X.mg "max" = none) (ha : DPA X (e :: es) t) (h1 : starEach (e :: es) X.env = (false, eval e X.env) :: starEach es X.env := by rfl) (h2 : ((backTo pos (starEach es X.env)).any fun x => x.fst) = false := by rfl) :
    DPE X (.Call (.Name "max" p) (e :: es) [] pos) (dCB maxD t) := de_callB ((call_max2 hc).or (cr_max hc)) maxD_mono maxD_sim hg hm (by decide +kernel) ha (by decide) (by decide) h1 h2
theorem de_min {p : Pos} {t : DA} (hc : X.calm = true) (hg : Gl X "min") (hm : X.mg "min" = none) (ha : DPA X (e :: es) t) (h1 : starEach (e :: es) X.env = (false, eval e X.env) :: starEach es X.env := by rfl) (h2 : ((backTo pos (starEach es X.env)).any fun x => x.fst) = false := by rfl) :
    DPE X (.Call (.Name "min" p) (e :: es) [] pos) (dCB minD t) := de_callB ((call_min2 hc).or (cr_min hc)) minD_mono minD_sim hg hm (by decide +kernel) ha (by decide) (by decide) h1 h2
def sumD : FL := fun xs G Q => match xs with
  | [x] => ∃ ns, (lstD x G).bind intsD = some ns ∧ Q (.int ns.sum) G
  | _ => False
theorem sumD_mono : MonoFL sumD := fun xs G Q Q' h q => by
  unfold sumD at q ⊢
  split at q
  · obtain ⟨ns, h1, h2⟩ := q
    exact ⟨ns, h1, h _ _ h2⟩
  · exact q
theorem sumD_sim {K : PySem.W.Frag} : SimL K (rSum K) sumD := fun H G xs ds Q m r h => by
  unfold sumD at h
  split at h
  · obtain ⟨v, vs', rfl, r1, r2⟩ := r.cons_inv
    have e := r2.nil_inv
    subst e
    obtain ⟨ns, h1, h2⟩ := h
    obtain ⟨p, rfl, hq⟩ := ints_ok m r1 h1
    exact ⟨p, ns, rfl, hq, h2 _ _ m (.int _) .refl⟩
  · exact False.elim h
theorem de_sum {p : Pos} {t : DA} (hc : X.calm = true) (hg : Gl X "sum") (hm : X.mg "sum" = none) (ha : DPA X (e :: es) t) (h1 : starEach (e :: es) X.env = (false, eval e X.env) :: starEach es X.env := by rfl) (h2 : ((backTo pos (starEach es X.env)).any fun x => x.fst) = false := by rfl) :
    DPE X (.Call (.Name "sum" p) (e :: es) [] pos) (dCB sumD t) := de_callB (cr_sum hc) sumD_mono sumD_sim hg hm (by decide +kernel) ha (by decide) (by decide) h1 h2
def absD : FL := fun xs G Q => match xs with
  | [.int i] => Q (.int (if i < 0 then -i else i)) G
  | _ => False
theorem de_abs {p : Pos} {t : DA} (hg : Gl X "abs") (hm : X.mg "abs" = none) (ha : DPA X (e :: es) t) (h1 : starEach (e :: es) X.env = (false, eval e X.env) :: starEach es X.env := by rfl) (h2 : ((backTo pos (starEach es X.env)).any fun x => x.fst) = false := by rfl) :
    DPE X (.Call (.Name "abs" p) (e :: es) [] pos) (dCB absD t) := de_callB call_abs
  (fun xs G Q Q' h q => by unfold absD at q ⊢; split at q; exact h _ _ q; exact q)
  (fun H G xs ds Q m r h => by
    unfold absD at h
    split at h
    · obtain ⟨v, vs', rfl, r1, r2⟩ := r.cons_inv
      have e := r2.nil_inv
      subst e
      cases r1
      exact ⟨_, rfl, h _ _ m (.int _) .refl⟩
    · exact False.elim h) hg hm (by decide +kernel) ha (by decide) (by decide) h1 h2
def blsD : List D → Option (List Bool)
  | [] => some []
  | .bl i :: r => (blsD r).map (i :: ·)
  | _ :: _ => none
theorem blsD_map : ∀ ns : List Bool, blsD (ns.map .bl) = some ns
  | [] => rfl
  | n :: ns => by simp [blsD, blsD_map ns]
theorem blsD_inv : ∀ {ds : List D} {ns : List Bool}, blsD ds = some ns → ds = ns.map .bl
  | [], ns, h => by cases h; rfl
  | .bl i :: r, ns, h => by
    simp only [blsD, Option.map_eq_some_iff] at h
    obtain ⟨a, h1, rfl⟩ := h
    rw [blsD_inv h1]
    rfl
  | .non :: r, ns, h => by simp [blsD] at h
  | .int b :: r, ns, h => by simp [blsD] at h
  | .str b :: r, ns, h => by simp [blsD] at h
  | .tup b :: r, ns, h => by simp [blsD] at h
  | .tpl b :: r, ns, h => by simp [blsD] at h
  | .lis b :: r, ns, h => by simp [blsD] at h
  | .ref b :: r, ns, h => by simp [blsD] at h
  | .ty b :: r, ns, h => by simp [blsD] at h
theorem bls_ok {K : PySem.W.Frag} {H : Hp} {G : DG} {x : V} {d : D} {ns : List Bool} (m : MH K G H) (r : RD K H d x) (h : (lstD d G).bind blsD = some ns) : ∃ p, x = .ref p ∧ SqL K H p (ns.map V.bl) := by
  obtain ⟨ds, h1, h2⟩ := Option.bind_eq_some_iff.mp h
  obtain ⟨p, vs, rfl, rr, hq⟩ := lstD_ok m r h1
  rw [blsD_inv h2] at rr
  exact ⟨p, rfl, by rw [← rr.bl_inv]; exact hq⟩
def allD : FL := fun xs G Q => match xs with
  | [x] => ∃ bs, (lstD x G).bind blsD = some bs ∧ Q (.bl (bs.all id)) G
  | _ => False
theorem de_all {p : Pos} {t : DA} (hc : X.calm = true) (hg : Gl X "all") (hm : X.mg "all" = none) (ha : DPA X (e :: es) t) (h1 : starEach (e :: es) X.env = (false, eval e X.env) :: starEach es X.env := by rfl) (h2 : ((backTo pos (starEach es X.env)).any fun x => x.fst) = false := by rfl) :
    DPE X (.Call (.Name "all" p) (e :: es) [] pos) (dCB allD t) := de_callB (cr_all hc)
  (fun xs G Q Q' h q => by
    unfold allD at q ⊢
    split at q
    · obtain ⟨bs, z1, z2⟩ := q
      exact ⟨bs, z1, h _ _ z2⟩
    · exact q)
  (fun H G xs ds Q m r h => by
    unfold allD at h
    split at h
    · obtain ⟨v, vs', rfl, r1, r2⟩ := r.cons_inv
      have e := r2.nil_inv
      subst e
      obtain ⟨bs, z1, z2⟩ := h
      obtain ⟨p, rfl, hq⟩ := bls_ok m r1 z1
      exact ⟨p, bs, rfl, hq, z2 _ _ m (.bl _) .refl⟩
    · exact False.elim h) hg hm (by decide +kernel) ha (by decide) (by decide) h1 h2
/-! ### sorted, ints -/
def sortedD : FL := fun xs G Q => match xs with
  | [x] => ∃ ns, (lstD x G).bind intsD = some ns ∧ ∀ ns' : List Int, ns'.Perm ns → ns'.Pairwise (· ≤ ·) → ∀ p, G p = none → Q (.ref p) (up G p (.lst (ns'.map .int)))
  | _ => False
theorem de_sortedI {p : Pos} {t : DA} (hg : Gl X "sorted") (hm : X.mg "sorted" = none) (ha : DPA X (e :: es) t) (h1 : starEach (e :: es) X.env = (false, eval e X.env) :: starEach es X.env := by rfl) (h2 : ((backTo pos (starEach es X.env)).any fun x => x.fst) = false := by rfl) :
    DPE X (.Call (.Name "sorted" p) (e :: es) [] pos) (dCB sortedD t) := de_callB cr_sortedI
  (fun xs G Q Q' h q => by
    unfold sortedD at q ⊢
    split at q
    · obtain ⟨bs, z1, z2⟩ := q
      exact ⟨bs, z1, fun ns' a b p hp => h _ _ (z2 ns' a b p hp)⟩
    · exact q)
  (fun H G xs ds Q m r h => by
    unfold sortedD at h
    split at h
    · obtain ⟨v, vs', rfl, r1, r2⟩ := r.cons_inv
      have e := r2.nil_inv
      subst e
      obtain ⟨bs, z1, z2⟩ := h
      obtain ⟨p, rfl, hq⟩ := ints_ok m r1 z1
      exact ⟨p, bs, rfl, hq, fun ns' n a b hn => z2 ns' a b n (m.fresh hn) (.ref n) _ (m.upd (.upd_new hn) (.new_lst (.of_int ns') (.upd_new hn))) (.ref n) (.upd_new hn)⟩
    · exact False.elim h) hg hm (by decide +kernel) ha (by decide) (by decide) h1 h2
/-! ### methods of lists -/
abbrev FM := D → List D → DG → DK → Prop
def MonoFM (f : FM) : Prop := ∀ x xs G (Q Q' : DK), (∀ d G', Q d G' → Q' d G') → f x xs G Q → f x xs G Q'
def SimM (K : PySem.W.Frag) (r : V → List V → Hp → VK → Prop) (f : FM) : Prop := ∀ H G x xs dx dxs Q, MH K G H → RD K H dx x → RDs K H dxs xs → f dx dxs G (lf K H Q) → r x xs H Q
def isLst (x : D) (G : DG) : Prop := ∃ xs, lstD x G = some xs
def dMt (f : FM) (to : DE) (t : DA) : DE := fun σ G Q => to σ G fun x G1 => isLst x G1 ∧ t σ G1 fun xs G2 => f x xs G2 Q
theorem tyV_lst {K : PySem.W.Frag} {H : Hp} {G : DG} {x : V} {d : D} (m : MH K G H) (r : RD K H d x) (h : isLst d G) : tyV K "list" x H := by
  obtain ⟨xs, h⟩ := h
  obtain ⟨p, vs, rfl, rr, hq⟩ := lstD_ok m r h
  exact .inl ⟨rfl, vs, hq⟩
theorem de_mtL {o : Expr} {name : Str} {apos : Pos} {id : String} {to : DE} {t : DA} {r : V → List V → Hp → VK → Prop} {f : FM} (slot : Slot "list" name id) (hty : typeOf (.builtin id) = pure (.type "method_descriptor")) (hm : MtR X id r) (hf : MonoFM f) (hs : SimM X.K r f) (ho : DPE X o to) (ha : DPA X (e :: es) t)
    (hbase : attributeBase o name X.env (eval o X.env) = eval o X.env := by rfl)
    (hfew : ((backTo pos (starEach (e :: es) X.env)).all (fun x => !x.1) && (backToKw pos (keywordEach [] X.env)).all (fun x => x.1.isSome)
      && decide ((e :: es).length + ([] : List Keyword).length + (if ([] : List Keyword).isEmpty then 0 else 1) < 30)) = true := by rfl)
    (hline : (apos.endLine == pos.line) = true := by rfl) (h1 : starEach (e :: es) X.env = (false, eval e X.env) :: starEach es X.env := by rfl) (hplain : (backTo pos (starEach es X.env)).any (·.1) = false := by rfl) :
    DPE X (.Call (.Attribute o name apos) (e :: es) [] pos) (dMt f to t) := by
  obtain ⟨mo, tto, po, ro⟩ := ho
  obtain ⟨ma, tta, pa, ra⟩ := ha
  refine ⟨fun σ G Q Q' h q => mo σ G _ _ (fun x G1 q1 => ⟨q1.1, ma σ G1 _ _ (fun xs G2 q2 => hf x xs G2 Q Q' h q2) q1.2⟩) q, _, pe_bm PySem.F.plainAttrs_list slot hty hm po pa hbase hfew hline h1 hplain, fun σ H σd G Q m s h => ?_⟩
  refine ro σ H σd G _ m s (mo _ _ _ _ (fun dx G1 q1 x H1 m1 r1 k1 => ?_) h)
  refine ⟨tyV_lst m1 r1 q1.1, ra σ H1 σd G1 _ m1 (s.kt k1) (ma _ _ _ _ (fun dxs G2 q2 xs H2 m2 r2 k2 => ?_) q1.2)⟩
  exact hs H2 G2 x xs dx dxs Q m2 (r1.kt k2) r2 (hf _ _ _ _ _ (fun d G' z => lf_kt (k1.trans k2) z) q2)
theorem de_mtL0 {o : Expr} {name : Str} {apos : Pos} {id : String} {to : DE} {r : V → List V → Hp → VK → Prop} {f : FM} (slot : Slot "list" name id) (hty : typeOf (.builtin id) = pure (.type "method_descriptor")) (hm : MtR X id r) (hf : MonoFM f) (hs : SimM X.K r f) (ho : DPE X o to)
    (hbase : attributeBase o name X.env (eval o X.env) = eval o X.env := by rfl) (hline : (apos.endLine == pos.line) = true := by rfl) :
    DPE X (.Call (.Attribute o name apos) [] [] pos) (dMt f to dNil) := by
  obtain ⟨mo, tto, po, ro⟩ := ho
  refine ⟨fun σ G Q Q' h q => mo σ G _ _ (fun x G1 q1 => ⟨q1.1, hf x _ G1 Q Q' h q1.2⟩) q, _, pe_bm0 PySem.F.plainAttrs_list slot hty hm po hbase hline, fun σ H σd G Q m s h => ?_⟩
  refine ro σ H σd G _ m s (mo _ _ _ _ (fun dx G1 q1 x H1 m1 r1 k1 => ?_) h)
  exact ⟨tyV_lst m1 r1 q1.1, hs H1 G1 x [] dx [] Q m1 r1 .nil (hf _ _ _ _ _ (fun d G' z => lf_kt k1 z) q1.2)⟩
theorem KT.upd_lst {K : PySem.W.Frag} {H : Hp} {p : Addr} {vs ws : List V} (h : H p = some (.lst vs)) : KT K H (L2.upd H p (.lst ws)) := .upd_mut h (fun _ e => by cases e) (fun _ _ e => by cases e)
def appendD : FM := fun x xs G Q => match x, xs with
  | .ref p, [y] => ∃ zs, G p = some (.lst zs) ∧ zs.length < sizeLine ∧ Q .non (up G p (.lst (zs ++ [y])))
  | _, _ => False
theorem appendD_mono : MonoFM appendD := fun x xs G Q Q' h q => by
  unfold appendD at q ⊢
  split at q
  · obtain ⟨zs, h1, h2, h3⟩ := q
    exact ⟨zs, h1, h2, h _ _ h3⟩
  · exact q
theorem appendD_sim {K : PySem.W.Frag} : SimM K rAppend appendD := fun H G x xs dx dxs Q m rx rs h => by
  unfold appendD at h
  split at h
  · obtain ⟨zs, h1, h2, h3⟩ := h
    cases rx
    obtain ⟨v, vs', rfl, r1, r2⟩ := rs.cons_inv
    have e := r2.nil_inv
    subst e
    obtain ⟨vs, g, r⟩ := m _ _ h1
    refine ⟨_, vs, v, rfl, rfl, g, by rw [← r.1]; exact h2, ?_⟩
    exact h3 .non _ (m.upd (.upd_lst g) (.new_lst (r.append (RDs.nil.cons r1)) (.upd_lst g))) .non (.upd_lst g)
  · exact False.elim h
theorem de_append {o : Expr} {apos : Pos} {to : DE} {t : DA} (ho : DPE X o to) (ha : DPA X (e :: es) t)
    (hbase : attributeBase o "append" X.env (eval o X.env) = eval o X.env := by rfl)
    (hfew : ((backTo pos (starEach (e :: es) X.env)).all (fun x => !x.1) && (backToKw pos (keywordEach [] X.env)).all (fun x => x.1.isSome)
      && decide ((e :: es).length + ([] : List Keyword).length + (if ([] : List Keyword).isEmpty then 0 else 1) < 30)) = true := by rfl)
    (hline : (apos.endLine == pos.line) = true := by rfl) (h1 : starEach (e :: es) X.env = (false, eval e X.env) :: starEach es X.env := by rfl) (hplain : (backTo pos (starEach es X.env)).any (·.1) = false := by rfl) :
    DPE X (.Call (.Attribute o "append" apos) (e :: es) [] pos) (dMt appendD to t) := de_mtL PySem.F.slot_list_append PySem.F.type_list_append mt_append appendD_mono appendD_sim ho ha hbase hfew hline h1 hplain
def extendD : FM := fun x xs G Q => match x, xs with
  | .ref p, [.ref q] => ∃ zs ws, G p = some (.lst zs) ∧ G q = some (.lst ws) ∧ zs.length + ws.length ≤ sizeLine ∧ Q .non (up G p (.lst (zs ++ ws)))
  | _, _ => False
theorem de_extend {o : Expr} {apos : Pos} {to : DE} {t : DA} (ho : DPE X o to) (ha : DPA X (e :: es) t)
    (hbase : attributeBase o "extend" X.env (eval o X.env) = eval o X.env := by rfl)
    (hfew : ((backTo pos (starEach (e :: es) X.env)).all (fun x => !x.1) && (backToKw pos (keywordEach [] X.env)).all (fun x => x.1.isSome)
      && decide ((e :: es).length + ([] : List Keyword).length + (if ([] : List Keyword).isEmpty then 0 else 1) < 30)) = true := by rfl)
    (hline : (apos.endLine == pos.line) = true := by rfl) (h1 : starEach (e :: es) X.env = (false, eval e X.env) :: starEach es X.env := by rfl) (hplain : (backTo pos (starEach es X.env)).any (·.1) = false := by rfl) :
    DPE X (.Call (.Attribute o "extend" apos) (e :: es) [] pos) (dMt extendD to t) := de_mtL PySem.F.slot_list_extend PySem.F.type_list_extend mt_extend
  (fun x xs G Q Q' h q => by
    unfold extendD at q ⊢
    split at q
    · obtain ⟨zs, ws, z1, z2, z3, z4⟩ := q
      exact ⟨zs, ws, z1, z2, z3, h _ _ z4⟩
    · exact q)
  (fun H G x xs dx dxs Q m rx rs h => by
    unfold extendD at h
    split at h
    · obtain ⟨zs, ws, z1, z2, z3, z4⟩ := h
      cases rx
      obtain ⟨v, vs', rfl, r1, r2⟩ := rs.cons_inv
      have e := r2.nil_inv
      subst e
      cases r1
      obtain ⟨vs, g, r⟩ := m _ _ z1
      obtain ⟨vs2, g2, r2'⟩ := m _ _ z2
      refine ⟨_, _, vs, vs2, rfl, rfl, g, g2, by rw [← r.1, ← r2'.1]; exact z3, ?_⟩
      exact z4 .non _ (m.upd (.upd_lst g) (.new_lst (r.append r2') (.upd_lst g))) .non (.upd_lst g)
    · exact False.elim h) ho ha hbase hfew hline h1 hplain
def insertD : FM := fun x xs G Q => match x, xs with
  | .ref p, [.int i, y] => ∃ zs, G p = some (.lst zs) ∧ zs.length < sizeLine ∧ 0 ≤ i ∧ i < 2 ^ 63 ∧ Q .non (up G p (.lst (zs.take i.toNat ++ y :: zs.drop i.toNat)))
  | _, _ => False
def popD : FM := fun x xs G Q => match x, xs with
  | .ref p, [] => ∃ zs y, G p = some (.lst zs) ∧ zs[zs.length - 1]? = some y ∧ Q y (up G p (.lst zs.dropLast))
  | _, _ => False
def popAtD : FM := fun x xs G Q => match x, xs with
  | .ref p, [.int i] => ∃ zs k y, G p = some (.lst zs) ∧ -(2 ^ 63) ≤ i ∧ i < 2 ^ 63 ∧ seqIndex? i zs.length = some k ∧ zs[k]? = some y ∧ Q y (up G p (.lst (zs.eraseIdx k)))
  | _, _ => False
def clearD : FM := fun x xs G Q => match x, xs with
  | .ref p, [] => ∃ zs, G p = some (.lst zs) ∧ Q .non (up G p (.lst []))
  | _, _ => False
theorem RDs.dropLast {K : PySem.W.Frag} {H : Hp} {xs : List D} {vs : List V} (r : RDs K H xs vs) : RDs K H xs.dropLast vs.dropLast := by
  rw [List.dropLast_eq_take, List.dropLast_eq_take, r.1]
  exact r.take _
theorem de_pop {o : Expr} {apos : Pos} {to : DE} (ho : DPE X o to)
    (hbase : attributeBase o "pop" X.env (eval o X.env) = eval o X.env := by rfl) (hline : (apos.endLine == pos.line) = true := by rfl) :
    DPE X (.Call (.Attribute o "pop" apos) [] [] pos) (dMt popD to dNil) := de_mtL0 PySem.F.slot_list_pop PySem.F.type_list_pop mt_pop
  (fun x xs G Q Q' h q => by
    unfold popD at q ⊢
    split at q
    · obtain ⟨zs, y, z1, z2, z3⟩ := q
      exact ⟨zs, y, z1, z2, h _ _ z3⟩
    · exact q)
  (fun H G x xs dx dxs Q m rx rs h => by
    unfold popD at h
    split at h
    · obtain ⟨zs, y, z1, z2, z3⟩ := h
      cases rx
      have e := rs.nil_inv
      subst e
      obtain ⟨vs, g, r⟩ := m _ _ z1
      obtain ⟨v, h1, h2⟩ := r.get z2
      refine ⟨_, vs, v, rfl, rfl, g, by rw [← r.1]; exact h1, ?_⟩
      exact z3 v _ (m.upd (.upd_lst g) (.new_lst r.dropLast (.upd_lst g))) (h2.kt (.upd_lst g)) (.upd_lst g)
    · exact False.elim h) ho hbase hline
theorem de_clear {o : Expr} {apos : Pos} {to : DE} (ho : DPE X o to)
    (hbase : attributeBase o "clear" X.env (eval o X.env) = eval o X.env := by rfl) (hline : (apos.endLine == pos.line) = true := by rfl) :
    DPE X (.Call (.Attribute o "clear" apos) [] [] pos) (dMt clearD to dNil) := de_mtL0 PySem.F.slot_list_clear PySem.F.type_list_clear mt_clear
  (fun x xs G Q Q' h q => by
    unfold clearD at q ⊢
    split at q
    · obtain ⟨zs, z1, z3⟩ := q
      exact ⟨zs, z1, h _ _ z3⟩
    · exact q)
  (fun H G x xs dx dxs Q m rx rs h => by
    unfold clearD at h
    split at h
    · obtain ⟨zs, z1, z3⟩ := h
      cases rx
      have e := rs.nil_inv
      subst e
      obtain ⟨vs, g, r⟩ := m _ _ z1
      refine ⟨_, vs, rfl, rfl, g, ?_⟩
      exact z3 .non _ (m.upd (.upd_lst g) (.new_lst .nil (.upd_lst g))) .non (.upd_lst g)
    · exact False.elim h) ho hbase hline
theorem RDs.insert {K : PySem.W.Frag} {H : Hp} {xs : List D} {vs : List V} {x : D} {v : V} (r : RDs K H xs vs) (a : RD K H x v) (i : Nat) : RDs K H (xs.take i ++ x :: xs.drop i) (vs.take i ++ [v] ++ vs.drop i) := by
  rw [List.append_assoc]
  exact (r.take i).append ((r.drop i).cons a)
theorem de_insert {o : Expr} {apos : Pos} {to : DE} {t : DA} (ho : DPE X o to) (ha : DPA X (e :: es) t)
    (hbase : attributeBase o "insert" X.env (eval o X.env) = eval o X.env := by rfl)
    (hfew : ((backTo pos (starEach (e :: es) X.env)).all (fun x => !x.1) && (backToKw pos (keywordEach [] X.env)).all (fun x => x.1.isSome)
      && decide ((e :: es).length + ([] : List Keyword).length + (if ([] : List Keyword).isEmpty then 0 else 1) < 30)) = true := by rfl)
    (hline : (apos.endLine == pos.line) = true := by rfl) (h1 : starEach (e :: es) X.env = (false, eval e X.env) :: starEach es X.env := by rfl) (hplain : (backTo pos (starEach es X.env)).any (·.1) = false := by rfl) :
    DPE X (.Call (.Attribute o "insert" apos) (e :: es) [] pos) (dMt insertD to t) := de_mtL PySem.F.slot_list_insert PySem.F.type_list_insert mt_insert
  (fun x xs G Q Q' h q => by
    unfold insertD at q ⊢
    split at q
    · obtain ⟨zs, z1, z2, z3, z4, z5⟩ := q
      exact ⟨zs, z1, z2, z3, z4, h _ _ z5⟩
    · exact q)
  (fun H G x xs dx dxs Q m rx rs h => by
    unfold insertD at h
    split at h
    · obtain ⟨zs, z1, z2, z3, z4, z5⟩ := h
      cases rx
      obtain ⟨v, vs', rfl, r1, r2⟩ := rs.cons_inv
      obtain ⟨w, ws', rfl, r3, r4⟩ := r2.cons_inv
      have e := r4.nil_inv
      subst e
      cases r1
      obtain ⟨vs, g, r⟩ := m _ _ z1
      refine ⟨_, vs, _, w, rfl, rfl, g, by rw [← r.1]; exact z2, z3, z4, ?_⟩
      exact z5 .non _ (m.upd (.upd_lst g) (.new_lst (r.insert r3 _) (.upd_lst g))) .non (.upd_lst g)
    · exact False.elim h) ho ha hbase hfew hline h1 hplain
end
end FD

namespace FD
open PySem L2
section
variable {X : Cx} {a b c e : Expr} {es rest : List Expr} {ta tb tc : DE} {pos : Pos} {st : Stmt} {sts : List Stmt} {t u : DS}
/-! ### statements -/
def dNext : DS := fun D σ G => D.nx σ G
/-- what is no longer asked for may be forgotten -/
def Dr (N : DSt → DG → Prop) : DSt → DG → Prop := fun σ G => ∃ G0, Le G0 G ∧ N σ G0
def DrK (Q : DK) : DK := fun d G => ∃ G0, Le G0 G ∧ Q d G0
theorem Dr.mono {N N' : DSt → DG → Prop} (h : ∀ σ G, N σ G → N' σ G) {σ : DSt} {G : DG} (q : Dr N σ G) : Dr N' σ G := let ⟨G0, a, b⟩ := q; ⟨G0, a, h _ _ b⟩
theorem DrK.mono {N N' : DK} (h : ∀ σ G, N σ G → N' σ G) {σ : D} {G : DG} (q : DrK N σ G) : DrK N' σ G := let ⟨G0, a, b⟩ := q; ⟨G0, a, h _ _ b⟩
def Go (u : DS) (D : DEnds) : DSt → DG → Prop := Dr (u D)
def dSeq (t u : DS) : DS := fun D σ G => t { nx := Go u D, rt := D.rt, bk := D.bk, ct := D.ct } σ G
theorem DEnds.le_nx {D D' : DEnds} {n n' : DSt → DG → Prop} (l : D.Le D') (h : ∀ σ G, n σ G → n' σ G) : DEnds.Le { nx := n, rt := D.rt, bk := D.bk, ct := D.ct } { nx := n', rt := D'.rt, bk := D'.bk, ct := D'.ct } := ⟨h, l.2.1, l.2.2.1, l.2.2.2⟩
theorem dss_nil : DPSs X [] dNext := ⟨fun σ G D D' l q => l.1 _ _ q, _, pss_nil, fun σ H σd G D m s h => h σ H m s .refl⟩
theorem dss_cons (h1 : DPS X st t) (h2 : DPSs X sts u) : DPSs X (st :: sts) (dSeq t u) := by
  obtain ⟨m1, tt1, p1, r1⟩ := h1
  obtain ⟨m2, tt2, p2, r2⟩ := h2
  refine ⟨fun σ G D D' l q => m1 σ G _ _ (DEnds.le_nx l fun σ' G' z => Dr.mono (fun _ _ z => m2 _ _ D D' l z) z) q, _, pss_cons p1 p2, fun σ H σd G D m s h => ?_⟩
  refine r1 σ H σd G _ m s (m1 _ _ { nx := Go u (lfE X.K H D), rt := (lfE X.K H D).rt, bk := (lfE X.K H D).bk, ct := (lfE X.K H D).ct } _ ⟨fun σ' G' z σ1 H1 mm ss k => ?_, fun _ _ z => z, fun _ _ z => z, fun _ _ z => z⟩ h)
  obtain ⟨G0, le, z⟩ := z
  exact r2 σ1 H1 σ' G0 D (mm.le le) ss (m2 _ _ _ _ (lfE_kt k) z)
theorem dss_one (h1 : DPS X st t) : DPSs X [st] t := let ⟨m, tt, p, r⟩ := h1; ⟨m, tt, pss_one p, r⟩
def dPass : DS := fun D σ G => D.nx σ G
def dBreak : DS := fun D σ G => D.bk σ G
def dCont : DS := fun D σ G => D.ct σ G
theorem ds_pass : DPS X (.Pass pos) dPass := ⟨fun σ G D D' l q => l.1 _ _ q, _, ps_pass, fun σ H σd G D m s h => h σ H m s .refl⟩
theorem ds_break : DPS X (.Break pos) dBreak := ⟨fun σ G D D' l q => l.2.2.1 _ _ q, _, ps_break, fun σ H σd G D m s h => h σ H m s .refl⟩
theorem ds_cont : DPS X (.Continue pos) dCont := ⟨fun σ G D D' l q => l.2.2.2 _ _ q, _, ps_continue, fun σ H σd G D m s h => h σ H m s .refl⟩
def dNever : DS := fun _ _ _ => False
theorem ds_never : DPS X st dNever := ⟨fun σ G D D' l q => q.elim, _, ps_never, fun σ H σd G D m s h => h.elim⟩
theorem dss_never : DPSs X sts dNever := ⟨fun σ G D D' l q => q.elim, _, pss_never, fun σ H σd G D m s h => h.elim⟩
def dDrop (t : DE) : DS := fun D σ G => t σ G fun _ G1 => D.nx σ G1
theorem ds_expr (ha : DPE X e ta) (hs : swapsWith e none pos.line X.env = pure false := by rfl) : DPS X (.Expr e pos) (dDrop ta) := by
  obtain ⟨ma, tta, pa, ra⟩ := ha
  exact ⟨fun σ G D D' l q => ma σ G _ _ (fun _ G1 z => l.1 _ _ z) q, _, ps_expr pa hs, fun σ H σd G D m s h => ra σ H σd G _ m s (ma _ _ _ _ (fun d G1 z v H1 m1 r1 k1 => z σ H1 m1 (s.kt k1) k1) h)⟩
def dRet (t : DE) : DS := fun D σ G => t σ G D.rt
theorem ds_ret (ha : DPE X e ta) : DPS X (.Return (some e) pos) (dRet ta) := by
  obtain ⟨ma, tta, pa, ra⟩ := ha
  exact ⟨fun σ G D D' l q => ma σ G _ _ (fun _ G1 z => l.2.1 _ _ z) q, _, ps_ret pa, fun σ H σd G D m s h => ra σ H σd G _ m s h⟩
def dRetN : DS := fun D _ G => D.rt .non G
theorem ds_retN : DPS X (.Return none pos) dRetN := ⟨fun σ G D D' l q => l.2.1 _ _ q, _, ps_retN, fun σ H σd G D m s h => h .non H m .non .refl⟩
def dIf (c : DTt) (t u : DS) : DS := fun D σ G => c σ G fun k G1 => if k = true then t D σ G1 else u D σ G1
theorem ds_if {tc : DTt} {as bs : List Stmt} (hc : DPT X c tc) (ha : DPSs X as t) (hb : DPSs X bs u) : DPS X (.If c as bs pos) (dIf tc t u) := by
  obtain ⟨mc, ttc, pc, rc⟩ := hc
  obtain ⟨m1, tt1, p1, r1⟩ := ha
  obtain ⟨m2, tt2, p2, r2⟩ := hb
  refine ⟨fun σ G D D' l q => mc σ G _ _ (fun k G1 z => ?_) q, _, ps_if pc p1 p2, fun σ H σd G D m s h => rc σ H σd G _ m s (mc _ _ _ _ (fun k G1 z H1 mm kk => ?_) h)⟩
  · cases k with
    | true => exact m1 σ G1 D D' l z
    | false => exact m2 σ G1 D D' l z
  · cases k with
    | true => exact r1 σ H1 σd G1 D mm (s.kt kk) (m1 _ _ _ _ (lfE_kt kk) z)
    | false => exact r2 σ H1 σd G1 D mm (s.kt kk) (m2 _ _ _ _ (lfE_kt kk) z)
/-! ### targets -/
abbrev DTg := D → DSt → DG → (DSt → DG → Prop) → Prop
abbrev DTgs := List D → DSt → DG → (DSt → DG → Prop) → Prop
structure DPG (X : Cx) (tg : Expr) (g : DTg) : Prop where
  mono : ∀ d σ G (Q Q' : DSt → DG → Prop), (∀ σ' G', Q σ' G' → Q' σ' G') → g d σ G Q → g d σ G Q'
  run : ∃ gg, PG X tg gg ∧ ∀ d v σ H σd G Q, MH X.K G H → SR X.K H σd σ → RD X.K H d v → g d σd G (lfS X.K H Q) → gg v σ H Q
structure DPGs (X : Cx) (ts : List Expr) (g : DTgs) : Prop where
  mono : ∀ d σ G (Q Q' : DSt → DG → Prop), (∀ σ' G', Q σ' G' → Q' σ' G') → g d σ G Q → g d σ G Q'
  run : ∃ gg, PGs X ts gg ∧ ∀ d v σ H σd G Q, MH X.K G H → SR X.K H σd σ → RDs X.K H d v → g d σd G (lfS X.K H Q) → gg v σ H Q
def dgName (i : Nat) : DTg := fun d σ G Q => Q (σ.set i (some d)) G
theorem dg_name (i : Nat) {x : Str} (hN : X.N.Nodup) (hi : X.N[i]? = some x := by rfl) (hx : Loc X.env.scope x := by first | exact .inl rfl | exact .inr rfl) (hf : X.fn x = true ∨ X.env.scope.names.lookup x = some .local := by first | exact .inl rfl | exact .inr rfl | assumption) : DPG X (.Name x pos) (dgName i) :=
  ⟨fun d σ G Q Q' h q => h _ _ q, _, pg_name hN hi hx hf, fun d v σ H σd G Q m s r h => h _ H m (s.set r i) .refl⟩
def dgNil : DTgs := fun ds σ G Q => ds = [] ∧ Q σ G
def dgCons (g : DTg) (gs : DTgs) : DTgs := fun ds σ G Q => match ds with
  | d :: r => g d σ G fun σ' G' => gs r σ' G' Q
  | [] => False
theorem dgs_nil : DPGs X [] dgNil := ⟨fun d σ G Q Q' h q => ⟨q.1, h _ _ q.2⟩, _, pgs_nil, fun d v σ H σd G Q m s r h => by
  obtain ⟨rfl, h⟩ := h
  exact ⟨r.nil_inv, h σ H m s .refl⟩⟩
theorem dgs_cons {g : DTg} {gs : DTgs} (h1 : DPG X e g) (h2 : DPGs X es gs) (hs : (assignEach (e :: es) X.env).map (·.2) = assign e X.env :: (assignEach es X.env).map (·.2) := by rfl) : DPGs X (e :: es) (dgCons g gs) := by
  obtain ⟨m1, gg1, p1, r1⟩ := h1
  obtain ⟨m2, gg2, p2, r2⟩ := h2
  refine ⟨fun d σ G Q Q' h q => ?_, _, pgs_cons p1 p2 hs, fun d v σ H σd G Q m s r h => ?_⟩
  · cases d with
    | nil => exact q
    | cons d r => exact m1 d σ G _ _ (fun σ' G' z => m2 r σ' G' Q Q' h z) q
  · cases d with
    | nil => exact False.elim h
    | cons d ds =>
      obtain ⟨v, vs', rfl, a1, a2⟩ := r.cons_inv
      refine ⟨v, vs', rfl, r1 d v σ H σd G _ m s a1 (m1 _ _ _ _ _ (fun σ' G' z σ1 H1 mm ss k => ?_) h)⟩
      exact r2 ds vs' σ1 H1 σ' G' Q mm ss (a2.kt k) (m2 _ _ _ _ _ (fun _ _ w => lfS_kt k w) z)
def dgTup (n : Nat) (gs : DTgs) : DTg := fun d σ G Q => match d with
  | .tup xs => xs.length = n ∧ gs xs σ G Q
  | .tpl xs => xs.length = n ∧ gs xs σ G Q
  | _ => False
theorem dg_tup {k n : Nat} {gs : DTgs} (hc : X.calm = true) (h : DPGs X es gs) (hn : (assignEach es X.env).length = n := by rfl) (hst : (assignEach es X.env).findIdx? (·.1) = none := by rfl) : DPG X (.Tuple es k pos) (dgTup n gs) := by
  obtain ⟨m1, gg1, p1, r1⟩ := h
  refine ⟨fun d σ G Q Q' h q => ?_, _, pg_tup hc p1 hn hst, fun d v σ H σd G Q m s r h => ?_⟩
  · cases d with
    | tup xs => exact ⟨q.1, m1 _ _ _ _ _ h q.2⟩
    | tpl xs => exact ⟨q.1, m1 _ _ _ _ _ h q.2⟩
    | _ => exact q
  · cases d with
    | tup xs =>
      cases r with
      | @tup p _ vs hs hl hi => exact ⟨p, vs, rfl, hs.t, by rw [← hl]; exact h.1, r1 xs vs σ H σd G Q m s ⟨hl, hi⟩ h.2⟩
    | tpl xs =>
      cases r with
      | @tpl p _ vs hs hl hi => exact ⟨p, vs, rfl, hs, by rw [← hl]; exact h.1, r1 xs vs σ H σd G Q m s ⟨hl, hi⟩ h.2⟩
    | _ => exact False.elim h
/-- o[i] = v, a list -/
def setD (o i v : D) (G : DG) (Q : DG → Prop) : Prop := match o, i with
  | .ref p, .int k => ∃ xs j, G p = some (.lst xs) ∧ ixN xs.length k = some j ∧ Q (up G p (.lst (xs.set j v)))
  | _, _ => False
def dgSub (to ti : DE) : DTg := fun v σ G Q => to σ G fun o G1 => ti σ G1 fun i G2 => setD o i v G2 fun G3 => Q σ G3
theorem dg_sub {o i : Expr} {to ti : DE} (ho : DPE X o to) (hi : DPE X i ti)
    (ha : ∀ v, assign (.Subscript o i pos) X.env v = (do
      let ov ← holding [v] (eval o X.env)
      let iv ← holding [v, ov] (eval i X.env)
      standAt pos
      holding [v, ov, iv] (setItem ov iv v)
      release [v, ov, iv] []) := by intro _; rfl) : DPG X (.Subscript o i pos) (dgSub to ti) := by
  obtain ⟨mo, tto, po, ro⟩ := ho
  obtain ⟨mi, tti, pi, ri⟩ := hi
  refine ⟨fun d σ G Q Q' h q => mo σ G _ _ (fun o G1 q1 => mi σ G1 _ _ (fun i G2 q2 => ?_) q1) q, _, pg_sub po pi set_list ha, fun d v σ H σd G Q m s r h => ?_⟩
  · unfold setD at q2 ⊢
    split at q2
    · obtain ⟨xs, j, z1, z2, z3⟩ := q2
      exact ⟨xs, j, z1, z2, h _ _ z3⟩
    · exact q2
  · refine ro σ H σd G _ m s (mo _ _ _ _ (fun dd G1 q1 x H1 m1 r1 k1 => ri σ H1 σd G1 _ m1 (s.kt k1) (mi _ _ _ _ (fun di G2 q2 y H2 m2 r2 k2 => ?_) q1)) h)
    unfold setD at q2
    split at q2
    · obtain ⟨xs, j, z1, z2, z3⟩ := q2
      cases r1; cases r2
      obtain ⟨vs, g, rr⟩ := m2 _ _ z1
      have kk := k1.trans k2
      refine ⟨_, vs, _, j, rfl, rfl, g, by rw [← rr.1]; exact z2, ?_⟩
      exact z3 σ _ (m2.upd (.upd_lst g) (.new_lst (rr.set (r.kt kk) j) (.upd_lst g))) (s.kt (kk.trans (.upd_lst g))) (kk.trans (.upd_lst g))
    · exact False.elim q2
def dAsg (t : DE) (g : DTg) : DS := fun D σ G => t σ G fun x G1 => g x σ G1 D.nx
theorem ds_asg {tg : Expr} {g : DTg} (ha : DPE X e ta) (hg : DPG X tg g) (hs : swapsWithSole [tg] e pos.line X.env = pure false := by rfl) (hw : swappedStores [tg] e X.env = pure none := by rfl)
    (h1 : (assignEach [tg] X.env).map (·.2) = [assign tg X.env] := by rfl) : DPS X (.Assign [tg] e pos) (dAsg ta g) := by
  obtain ⟨ma, tta, pa, ra⟩ := ha
  obtain ⟨mg, gg, pg, rg⟩ := hg
  refine ⟨fun σ G D D' l q => ma σ G _ _ (fun x G1 z => mg _ _ _ _ _ l.1 z) q, _, ps_asg pa pg hs hw h1, fun σ H σd G D m s h => ra σ H σd G _ m s (ma _ _ _ _ (fun d G1 z v H1 m1 r1 k1 => ?_) h)⟩
  exact rg d v σ H1 σd G1 _ m1 (s.kt k1) r1 (mg _ _ _ _ _ (fun _ _ w => lfS_kt k1 w) z)
theorem ds_set (i : Nat) {x : Str} {pos' : Pos} (hN : X.N.Nodup) (ha : DPE X e ta) (hi : X.N[i]? = some x := by rfl) (hx : Loc X.env.scope x := by first | exact .inl rfl | exact .inr rfl) (hs : swapsWith e (some (.Name x pos')) pos.line X.env = pure false := by rfl) (hf : X.fn x = true ∨ X.env.scope.names.lookup x = some .local := by first | exact .inl rfl | exact .inr rfl | assumption) :
    DPS X (.Assign [.Name x pos'] e pos) (dAsg ta (dgName i)) := by
  obtain ⟨ma, tta, pa, ra⟩ := ha
  refine ⟨fun σ G D D' l q => ma σ G _ _ (fun x G1 z => l.1 _ _ z) q, _, ps_set hN hi hx pa hs hf, fun σ H σd G D m s h => ra σ H σd G _ m s (ma _ _ _ _ (fun d G1 z v H1 m1 r1 k1 => ?_) h)⟩
  exact z _ H1 m1 ((s.kt k1).set r1 i) k1
/-- x, y = a, b: two plain local names -/
def dPar (i j : Nat) (t : DA) : DS := fun D σ G => t σ G fun ds G1 => match ds with
  | [d, e] => D.nx ((σ.set i (some d)).set j (some e)) G1
  | _ => False
theorem ds_par (i j : Nat) {x y : Str} {t : DA} {px py pt : Pos} {kt k2 pt2} (hc : X.calm = true) (hN : X.N.Nodup) (ha : DPA X [a, b] t) (hi : X.N[i]? = some x := by rfl) (hj : X.N[j]? = some y := by rfl) (hij : i ≠ j := by decide)
    (hx : X.env.scope.names.lookup x = some .local := by rfl) (hy : X.env.scope.names.lookup y = some .local := by rfl)
    (hw : swappedStores [.Tuple [.Name x px, .Name y py] kt pt] (.Tuple [a, b] k2 pt2) X.env = pure (some [x, y]) := by rfl)
    (hs : swapsWithSole [.Tuple [.Name x px, .Name y py] kt pt] (.Tuple [a, b] k2 pt2) pos.line X.env = pure false := by rfl) :
    DPS X (.Assign [.Tuple [.Name x px, .Name y py] kt pt] (.Tuple [a, b] k2 pt2) pos) (dPar i j t) := by
  obtain ⟨ma, tta, pa, ra⟩ := ha
  refine ⟨fun σ G D D' l q => ma σ G _ _ (fun ds G1 z => ?_) q, _, ps_par hc hN hi hj hij hx hy pa hw hs, fun σ H σd G D m s h => ra σ H σd G _ m s (ma _ _ _ _ (fun ds G1 z vs H1 m1 r1 k1 => ?_) h)⟩
  · split at z
    · exact l.1 _ _ z
    · exact z
  · split at z
    · obtain ⟨v, vs', rfl, a1, a2⟩ := r1.cons_inv
      obtain ⟨w, ws', rfl, a3, a4⟩ := a2.cons_inv
      have e := a4.nil_inv
      subst e
      exact ⟨v, w, rfl, z _ H1 m1 (((s.kt k1).set a1 i).set a3 j) k1⟩
    · exact False.elim z
/-! ### what is walked -/
abbrev DI := DSt → DG → (List D → (DG → Prop) → DG → Prop) → Prop
def ItOk (K : PySem.W.Frag) (H1 : Hp) (J : It) (items : List D) (ok : DG → Prop) : Prop := ∀ (i : Nat) (H' : Hp) (G' : DG), KT K H1 H' → MH K G' H' → ok G' →
  (∀ d, items[i]? = some d → J.go i H' ∧ ∀ x H'', J.yld i H' x H'' → MH K G' H'' ∧ KT K H' H'' ∧ RD K H'' d x) ∧ (items.length ≤ i → J.stop i H')
structure DPI (X : Cx) (tg iter : Expr) (ti : DI) : Prop where
  mono : ∀ σ G (R R' : List D → (DG → Prop) → DG → Prop), (∀ xs ok G', R xs ok G' → R' xs ok G') → ti σ G R → ti σ G R'
  run : ∃ wi, PI X tg iter wi ∧ ∀ σ H σd G (R : It → Hp → Prop), MH X.K G H → SR X.K H σd σ → ti σd G (fun items ok G1 => ∀ J H1, MH X.K G1 H1 → KT X.K H H1 → ItOk X.K H1 J items ok → R J H1) → wi σ H R
/-- a list's items, as long as it stays -/
def diLst (t : DE) : DI := fun σ G R => t σ G fun x G1 => match x with
  | .lis xs => R xs (fun _ => True) G1
  | .ref p => match G1 p with
    | some (.lst xs) => R xs (fun G' => G' p = some (.lst xs)) G1
    | _ => False
  | _ => False
theorem itOk_list {K : PySem.W.Frag} {H1 : Hp} {p : Addr} {xs : List D} {ok : DG → Prop} (h : ∀ G' H', KT K H1 H' → MH K G' H' → ok G' → ∃ vs, SqL K H' p vs ∧ RDs K H' xs vs) : ItOk K H1 (Itl K p) xs ok := fun i H' G' k m o => by
  obtain ⟨vs, hq, r⟩ := h G' H' k m o
  refine ⟨fun d hd => ?_, fun hl => ⟨vs, hq, by rw [← r.1]; exact hl⟩⟩
  obtain ⟨v, h1, h2⟩ := r.get hd
  refine ⟨⟨vs, v, hq, h1⟩, fun x H'' y => ?_⟩
  obtain ⟨rfl, y⟩ := y
  have e := y vs hq
  rw [h1] at e
  cases e
  exact ⟨m, .refl, h2⟩
theorem di_lst {tg l : Expr} (ha : DPE X l ta) : DPI X tg l (diLst ta) := by
  obtain ⟨ma, tta, pa, ra⟩ := ha
  refine ⟨fun σ G R R' h q => ma σ G _ _ (fun x G1 z => ?_) q, _, pi_list pa, fun σ H σd G R m s h => ra σ H σd G _ m s (ma _ _ _ _ (fun d G1 z v H1 m1 r1 k1 => ?_) h)⟩
  · split at z
    · exact h _ _ _ z
    · split at z <;> first | exact h _ _ _ z | exact z
    · exact z
  · split at z
    · cases r1 with
      | @lis p _ vs hs hl hi => exact ⟨p, rfl, ⟨vs, hs.l⟩, z _ H1 m1 k1 (itOk_list fun G' H' k' m' o => ⟨vs, (k'.sqr hs).l, RDs.kt k' ⟨hl, hi⟩⟩)⟩
    · cases r1
      rename_i p
      split at z
      · rename_i xs e
        obtain ⟨vs, g, r⟩ := m1 _ _ e
        refine ⟨p, rfl, ⟨vs, SqL.of g⟩, z _ H1 m1 k1 (itOk_list fun G' H' k' m' o => ?_)⟩
        obtain ⟨vs', g', r'⟩ := m' _ _ o
        exact ⟨vs', SqL.of g', r'⟩
      · exact False.elim z
    · exact False.elim z
def diTup (t : DE) : DI := fun σ G R => t σ G fun x G1 => match x with
  | .tup xs => R xs (fun _ => True) G1
  | _ => False
theorem di_tup {tg l : Expr} (ha : DPE X l ta) : DPI X tg l (diTup ta) := by
  obtain ⟨ma, tta, pa, ra⟩ := ha
  refine ⟨fun σ G R R' h q => ma σ G _ _ (fun x G1 z => ?_) q, _, pi_tup pa, fun σ H σd G R m s h => ra σ H σd G _ m s (ma _ _ _ _ (fun d G1 z v H1 m1 r1 k1 => ?_) h)⟩
  · split at z <;> first | exact h _ _ _ z | exact z
  · split at z
    · rename_i xs
      cases r1 with
      | @tup p _ vs hs hl hi =>
        refine ⟨p, rfl, ⟨vs, hs.t⟩, z _ H1 m1 k1 fun i H' G' k m' o => ?_⟩
        have r : RDs X.K H' xs vs := RDs.kt k ⟨hl, hi⟩
        have hq : SqT X.K H' p vs := k.sqt hs.t
        refine ⟨fun d hd => ?_, fun hl' => ⟨vs, hq, by rw [← hl]; exact hl'⟩⟩
        obtain ⟨w, h1, h2⟩ := r.get hd
        refine ⟨⟨vs, w, hq, h1⟩, fun x H'' y => ?_⟩
        obtain ⟨rfl, y⟩ := y
        have e := y vs hq
        rw [h1] at e
        cases e
        exact ⟨m', .refl, h2⟩
    · exact False.elim z
def rangeD (lo hi : Int) : List D := (List.range (hi - lo).toNat).map fun i => D.int (lo + (i : Nat))
theorem rangeD_length {lo hi : Int} : (rangeD lo hi).length = (hi - lo).toNat := by simp [rangeD]
theorem itOk_range {K : PySem.W.Frag} {H1 : Hp} {lo : Int} {n : Nat} {ok : DG → Prop} : ItOk K H1 (Itr lo n) ((List.range n).map fun i => D.int (lo + (i : Nat))) ok := fun i H' G' k m o => by
  refine ⟨fun d hd => ?_, fun hl => (show n ≤ i by simpa using hl)⟩
  have hi : i < n := by
    have := (List.getElem?_eq_some_iff.mp hd).1
    simpa using this
  rw [List.getElem?_map, List.getElem?_range hi] at hd
  cases hd
  refine ⟨hi, fun x H'' y => ?_⟩
  obtain ⟨rfl, rfl⟩ := y
  exact ⟨m, .refl, .int _⟩
def diRange (t : DA) : DI := fun σ G R => t σ G fun xs G1 => match xs with
  | [.int j] => -(2 ^ 62) ≤ j ∧ j < 2 ^ 62 ∧ R (rangeD 0 j) (fun _ => True) G1
  | [.int i, .int j] => (-(2 ^ 62) ≤ i ∧ i < 2 ^ 62 ∧ -(2 ^ 62) ≤ j ∧ j < 2 ^ 62) ∧ R (rangeD i j) (fun _ => True) G1
  | _ => False
theorem diRange_mono {t : DA} (ma : MonoA t) : ∀ σ G (R R' : List D → (DG → Prop) → DG → Prop), (∀ xs ok G', R xs ok G' → R' xs ok G') → diRange t σ G R → diRange t σ G R' := fun σ G R R' h q => ma σ G _ _ (fun x G1 z => by
  split at z
  · exact ⟨z.1, z.2.1, h _ _ _ z.2.2⟩
  · exact ⟨z.1, h _ _ _ z.2⟩
  · exact z) q
theorem di_range1 {tg : Expr} {t : DE} {p pos : Pos} (hg : Gl X "range") (hm : X.mg "range" = none) (ha : DPE X a t) (hs : starEach [a] X.env = [(false, eval a X.env)] := by rfl) : DPI X tg (.Call (.Name "range" p) [a] [] pos) (diRange (dCons t dNil)) := by
  have hb : DPA X [a] (dCons t dNil) := da_cons ha da_nil hs
  obtain ⟨ma, tta, pa, ra⟩ := hb
  have hl : MonoA (dCons t dNil) := ma
  refine ⟨diRange_mono ma, iRng1 tta, pi_range1 hg hm pa hs, fun σ H σd G R m s h => ra σ H σd G _ m s (?_ : dCons t dNil σd G _)⟩
  have h2 : dCons t dNil σd G fun xs G1 => xs.length = 1 ∧ match xs with
      | [.int j] => -(2 ^ 62) ≤ j ∧ j < 2 ^ 62 ∧ (∀ J H1, MH X.K G1 H1 → KT X.K H H1 → ItOk X.K H1 J (rangeD 0 j) (fun _ => True) → R J H1)
      | [.int i, .int j] => (-(2 ^ 62) ≤ i ∧ i < 2 ^ 62 ∧ -(2 ^ 62) ≤ j ∧ j < 2 ^ 62) ∧ (∀ J H1, MH X.K G1 H1 → KT X.K H H1 → ItOk X.K H1 J (rangeD i j) (fun _ => True) → R J H1)
      | _ => False := ha.mono _ _ _ _ (fun x G1 z => ⟨rfl, z⟩) h
  refine ma _ _ _ _ (fun xs G1 z vs H1 m1 r1 k1 => ?_) h2
  obtain ⟨z0, z⟩ := z
  split at z
  · obtain ⟨v, vs', rfl, a1, a2⟩ := r1.cons_inv
    have e := a2.nil_inv
    subst e
    cases a1
    refine ⟨_, rfl, z.1, z.2.1, z.2.2 _ H1 m1 k1 ?_⟩
    rename_i j
    have e2 : rangeD 0 j = (List.range j.toNat).map fun i => D.int (0 + (i : Nat)) := by simp [rangeD]
    rw [e2]
    exact itOk_range
  · simp at z0
  · exact False.elim z
theorem di_range2 {tg : Expr} {t t' : DE} {p pos : Pos} (hg : Gl X "range") (hm : X.mg "range" = none) (ha : DPE X a t) (hb : DPE X b t') (hs : starEach [a, b] X.env = [(false, eval a X.env), (false, eval b X.env)] := by rfl) (hs2 : starEach [b] X.env = [(false, eval b X.env)] := by rfl) :
    DPI X tg (.Call (.Name "range" p) [a, b] [] pos) (diRange (dCons t (dCons t' dNil))) := by
  have hb' : DPA X [a, b] (dCons t (dCons t' dNil)) := da_cons ha (da_cons hb da_nil hs2) (by rw [hs, hs2])
  obtain ⟨ma, tta, pa, ra⟩ := hb'
  refine ⟨diRange_mono ma, iRng2 tta, pi_range2 hg hm pa hs hs2, fun σ H σd G R m s h => ra σ H σd G _ m s (?_ : dCons t (dCons t' dNil) σd G _)⟩
  have h2 : dCons t (dCons t' dNil) σd G fun xs G1 => xs.length = 2 ∧ match xs with
      | [.int j] => -(2 ^ 62) ≤ j ∧ j < 2 ^ 62 ∧ (∀ J H1, MH X.K G1 H1 → KT X.K H H1 → ItOk X.K H1 J (rangeD 0 j) (fun _ => True) → R J H1)
      | [.int i, .int j] => (-(2 ^ 62) ≤ i ∧ i < 2 ^ 62 ∧ -(2 ^ 62) ≤ j ∧ j < 2 ^ 62) ∧ (∀ J H1, MH X.K G1 H1 → KT X.K H H1 → ItOk X.K H1 J (rangeD i j) (fun _ => True) → R J H1)
      | _ => False := ha.mono _ _ _ _ (fun x G1 z => hb.mono _ _ _ _ (fun y G2 z => ⟨rfl, z⟩) z) h
  refine ma _ _ _ _ (fun xs G1 z vs H1 m1 r1 k1 => ?_) h2
  obtain ⟨z0, z⟩ := z
  split at z
  · simp at z0
  · obtain ⟨v, vs', rfl, a1, a2⟩ := r1.cons_inv
    obtain ⟨v2, vs2, rfl, a3, a4⟩ := a2.cons_inv
    have e := a4.nil_inv
    subst e
    cases a1; cases a3
    exact ⟨_, _, rfl, z.1, z.2 _ H1 m1 k1 itOk_range⟩
  · exact False.elim z
/-! ### for, while -/
def DLoop (g : DTg) (tb : DS) (ok : DG → Prop) (E : DEnds) : List D → DSt → DG → Prop
  | [], σ, G => ok G ∧ E.nx σ G
  | d :: r, σ, G => ok G ∧ g d σ G fun σ' G' => tb { nx := Dr (DLoop g tb ok E r), rt := E.rt, bk := E.nx, ct := Dr (DLoop g tb ok E r) } σ' G'
theorem DLoop_mono {g : DTg} {tb : DS} {ok : DG → Prop} (mg : ∀ d σ G (Q Q' : DSt → DG → Prop), (∀ σ' G', Q σ' G' → Q' σ' G') → g d σ G Q → g d σ G Q') (mb : MonoS tb) {E E' : DEnds} (l : E.Le E') :
    ∀ (xs : List D) (σ : DSt) (G : DG), DLoop g tb ok E xs σ G → DLoop g tb ok E' xs σ G
  | [], σ, G, h => ⟨h.1, l.1 _ _ h.2⟩
  | d :: r, σ, G, h => ⟨h.1, mg _ _ _ _ _ (fun σ' G' z => mb _ _ { nx := Dr (DLoop g tb ok E r), rt := E.rt, bk := E.nx, ct := Dr (DLoop g tb ok E r) } _ ⟨fun _ _ w => Dr.mono (DLoop_mono mg mb l r) w, l.2.1, l.1, fun _ _ w => Dr.mono (DLoop_mono mg mb l r) w⟩ z) h.2⟩
def dFor (ti : DI) (g : DTg) (tb : DS) : DS := fun D σ G => ti σ G fun items ok G1 => DLoop g tb ok D items σ G1
theorem ds_for {tg iter : Expr} {body : List Stmt} {ti : DI} {g : DTg} {tb : DS} (hp : PassesOwn (model X.prog X.w) X.A X.env X.xe) (hc : X.calm = true) (hi : DPI X tg iter ti) (hg : DPG X tg g) (hb : DPSs X body tb)
    (hs : ∀ x, foldedSetIterable iter X.env x = pure x := by intro _; rfl) : DPS X (.For tg iter body [] pos) (dFor ti g tb) := by
  obtain ⟨mi, wi, pi, ri⟩ := hi
  obtain ⟨mg, gg, pg, rg⟩ := hg
  obtain ⟨mb, ttb, pb, rb⟩ := hb
  refine ⟨fun σ G D D' l q => mi σ G _ _ (fun xs ok G1 z => DLoop_mono mg mb l xs σ G1 z) q, _, ps_for hp hc pi pg pb hs, fun σ H σd G D m s h => ri σ H σd G _ m s (mi _ _ _ _ (fun items ok G1 z J H1 m1 k1 it => ?_) h)⟩
  refine ⟨fun i mm σ' H' => ∃ σd' G', MH X.K G' H' ∧ SR X.K H' σd' σ' ∧ KT X.K H1 H' ∧ mm = items.length - i ∧ i ≤ items.length ∧ DLoop g tb ok (lfE X.K H D) (items.drop i) σd' G', ⟨items.length, σd, G1, m1, s.kt k1, .refl, by omega, by omega, by simpa using z⟩, ?_⟩
  rintro i mm σ' H' ⟨σd', G', m', s', k', rfl, hi', q⟩
  have kH : KT X.K H H' := k1.trans k'
  by_cases hlt : i < items.length
  · rw [List.drop_eq_getElem_cons hlt] at q
    obtain ⟨o, q⟩ := q
    obtain ⟨go, stop⟩ := it i H' G' k' m' o
    obtain ⟨g1, g2⟩ := go items[i] (List.getElem?_eq_getElem hlt)
    refine .inr ⟨g1, fun σ2 H2 => ∃ σd2 G2, MH X.K G2 H2 ∧ SR X.K H2 σd2 σ2 ∧ KT X.K H1 H2 ∧ DLoop g tb ok (lfE X.K H D) (items.drop (i + 1)) σd2 G2, ?_, fun x H'' y => ?_⟩
    · rintro σ2 H2 ⟨σd2, G2, a1, a2, a3, a4⟩
      exact ⟨items.length - (i + 1), by omega, σd2, G2, a1, a2, a3, rfl, by omega, a4⟩
    · obtain ⟨b1, b2, b3⟩ := g2 x H'' y
      refine rg items[i] x σ' H'' σd' G' _ b1 (s'.kt b2) b3 (mg _ _ _ _ _ (fun σd3 G3 z3 σ3 H3 m3 s3 k3 => ?_) q)
      have kk : KT X.K H H3 := kH.trans (b2.trans k3)
      have k13 : KT X.K H1 H3 := k'.trans (b2.trans k3)
      refine rb σ3 H3 σd3 G3 _ m3 s3 (mb _ _ { nx := Dr (DLoop g tb ok (lfE X.K H D) (items.drop (i + 1))), rt := (lfE X.K H D).rt, bk := (lfE X.K H D).nx, ct := Dr (DLoop g tb ok (lfE X.K H D) (items.drop (i + 1))) } _ ⟨fun σ4 G4 z4 σ5 H5 m5 s5 k5 => let ⟨G0, le, z4⟩ := z4; ⟨σ4, G0, m5.le le, s5, k13.trans k5, z4⟩, fun _ _ w => lf_kt kk w, fun _ _ w => lfS_kt kk w, fun σ4 G4 z4 σ5 H5 m5 s5 k5 => let ⟨G0, le, z4⟩ := z4; ⟨σ4, G0, m5.le le, s5, k13.trans k5, z4⟩⟩ z3)
  · have e : items.drop i = [] := List.drop_eq_nil_of_le (by omega)
    rw [e] at q
    obtain ⟨o, q⟩ := q
    obtain ⟨go, stop⟩ := it i H' G' k' m' o
    exact .inl ⟨stop (by omega), q σ' H' m' s' kH⟩
def DWh (c : DTt) (tb : DS) (E : DEnds) : Nat → DSt → DG → Prop
  | 0, _, _ => False
  | n + 1, σ, G => c σ G fun k G1 => if k = true then tb { nx := Dr (DWh c tb E n), rt := E.rt, bk := E.nx, ct := Dr (DWh c tb E n) } σ G1 else E.nx σ G1
theorem DWh_mono {c : DTt} {tb : DS} (mc : MonoT c) (mb : MonoS tb) {E E' : DEnds} (l : E.Le E') : ∀ (n : Nat) (σ : DSt) (G : DG), DWh c tb E n σ G → DWh c tb E' n σ G
  | 0, _, _, h => h
  | n + 1, σ, G, h => mc _ _ _ _ (fun k G1 z => by
    cases k with
    | true => exact mb _ _ { nx := Dr (DWh c tb E n), rt := E.rt, bk := E.nx, ct := Dr (DWh c tb E n) } _ ⟨fun _ _ w => Dr.mono (DWh_mono mc mb l n) w, l.2.1, l.1, fun _ _ w => Dr.mono (DWh_mono mc mb l n) w⟩ z
    | false => exact l.1 _ _ z) h
def dWhile (c : DTt) (tb : DS) : DS := fun D σ G => ∃ n, DWh c tb D n σ G
theorem ds_while {tc : DTt} {body : List Stmt} {tb : DS} (hp : PassesOwn (model X.prog X.w) X.A X.env X.xe) (hc : DPT X c tc) (hb : DPSs X body tb) : DPS X (.While c body [] pos) (dWhile tc tb) := by
  obtain ⟨mc, ttc, pc, rc⟩ := hc
  obtain ⟨mb, ttb, pb, rb⟩ := hb
  refine ⟨fun σ G D D' l q => let ⟨n, q⟩ := q; ⟨n, DWh_mono mc mb l n _ _ q⟩, _, ps_while hp pc pb, fun σ H σd G D m s h => ?_⟩
  obtain ⟨n, h⟩ := h
  refine ⟨fun mm σ' H' => ∃ σd' G', MH X.K G' H' ∧ SR X.K H' σd' σ' ∧ KT X.K H H' ∧ DWh tc tb (lfE X.K H D) mm σd' G', ⟨n, σd, G, m, s, .refl, h⟩, ?_⟩
  rintro mm σ' H' ⟨σd', G', m', s', k', q⟩
  cases mm with
  | zero => exact False.elim q
  | succ mm =>
    refine rc σ' H' σd' G' _ m' s' (mc _ _ _ _ (fun k G1 z H1 m1 k1 => ?_) q)
    have kk : KT X.K H H1 := k'.trans k1
    cases k with
    | true =>
      refine ⟨fun σ2 H2 => ∃ σd2 G2, MH X.K G2 H2 ∧ SR X.K H2 σd2 σ2 ∧ KT X.K H H2 ∧ DWh tc tb (lfE X.K H D) mm σd2 G2, ?_, ?_⟩
      · rintro σ2 H2 ⟨σd2, G2, a1, a2, a3, a4⟩
        exact ⟨mm, by omega, σd2, G2, a1, a2, a3, a4⟩
      · exact rb σ' H1 σd' G1 _ m1 (s'.kt k1) (mb _ _ { nx := Dr (DWh tc tb (lfE X.K H D) mm), rt := (lfE X.K H D).rt, bk := (lfE X.K H D).nx, ct := Dr (DWh tc tb (lfE X.K H D) mm) } _ ⟨fun σ4 G4 z4 σ5 H5 m5 s5 k5 => let ⟨G0, le, z4⟩ := z4; ⟨σ4, G0, m5.le le, s5, kk.trans k5, z4⟩, fun _ _ w => lf_kt kk w, fun _ _ w => lfS_kt kk w, fun σ4 G4 z4 σ5 H5 m5 s5 k5 => let ⟨G0, le, z4⟩ := z4; ⟨σ4, G0, m5.le le, s5, kk.trans k5, z4⟩⟩ z)
    | false => exact z σ' H1 m1 (s'.kt k1) kk
/-! ### comprehensions -/
def dwipe (σ : DSt) : List Nat → DSt
  | [] => σ
  | i :: r => (dwipe σ r).set i none
theorem SR.wipe {K : PySem.W.Frag} {H : Hp} : ∀ (vs : List Nat) {σd : DSt} {σ : St}, SR K H σd σ → SR K H (dwipe σd vs) (wipe σ vs)
  | [], _, _, s => s
  | i :: r, _, _, s => (SR.wipe r s).forget i none
structure DPTs (X : Cx) (ifs : List Expr) (t : DTt) : Prop where
  mono : MonoT t
  run : ∃ tt, PTs X ifs tt ∧ ∀ σ H σd G Q, MH X.K G H → SR X.K H σd σ → t σd G (lfT X.K H Q) → tt σ H Q
def dYes : DTt := fun _ G Q => Q true G
theorem dts_nil : DPTs X [] dYes := ⟨fun σ G Q Q' h q => h _ _ q, _, pts_nil, fun σ H σd G Q m s h => h H m .refl⟩
theorem dts_one {t : DTt} (h : DPT X c t) : DPTs X [c] t := let ⟨m, tt, p, r⟩ := h; ⟨m, tt, pts_one p, r⟩
end
end FD

namespace FD
open PySem L2
section
variable {X : Cx} {a b c e : Expr} {es rest : List Expr} {ta tb tc : DE} {pos : Pos} {st : Stmt} {sts : List Stmt} {t u : DS}
/-! ### readings that hang on the data alone -/
def canonE (K : PySem.W.Frag) (t : DE) : TE := fun σ H Q => ∃ σd G, MH K G H ∧ SR K H σd σ ∧ t σd G (lf K H Q)
def canonT (K : PySem.W.Frag) (t : DTt) : TT := fun σ H Q => ∃ σd G, MH K G H ∧ SR K H σd σ ∧ t σd G (lfT K H Q)
theorem DPE.canon (h : DPE X e ta) : PE X e (canonE X.K ta) := by
  obtain ⟨m, tt, p, r⟩ := h
  exact ⟨fun pins s σ H Q I ⟨σd, G, mh, sr, q⟩ => p.run pins s σ H Q I (r σ H σd G Q mh sr q)⟩
theorem DPTs.canon {t : DTt} (h : DPTs X es t) : PTs X es (canonT X.K t) := by
  obtain ⟨m, tt, p, r⟩ := h
  exact ⟨fun pins s σ H Q I ⟨σd, G, mh, sr, q⟩ => p.run pins s σ H Q I (r σ H σd G Q mh sr q)⟩
/-! ### comprehensions: a target that binds names alone -/
def optS (o : Option DSt) (f : DSt → Prop) : Prop := match o with | some x => f x | none => False
theorem optS_mono {o : Option DSt} {f g : DSt → Prop} (h : ∀ x, f x → g x) (q : optS o f) : optS o g := by
  cases o with
  | none => exact q
  | some x => exact h x q
def bdN (i : Nat) : D → DSt → Option DSt := fun d σ => some (σ.set i (some d))
def bdP (i j : Nat) : D → DSt → Option DSt := fun d σ => match d with
  | .tup [x, y] => some ((σ.set i (some x)).set j (some y))
  | .tpl [x, y] => some ((σ.set i (some x)).set j (some y))
  | _ => none
def Bd (K : PySem.W.Frag) (vs : List Nat) (bd : D → DSt → Option DSt) (gg : TG) : Prop := ∀ d v σ H σd σd' G (Q : St → Hp → Prop), MH K G H → SR K H σd σ → RD K H d v → bd d σd = some σd' → (∀ σ', SR K H σd' σ' → wipe σ' vs = wipe σ vs → Q σ' H) → gg v σ H Q
theorem wipe_set {i : Nat} {o : Option V} : ∀ {vs : List Nat} {σ : St}, i ∈ vs → wipe (σ.set i o) vs = wipe σ vs
  | v :: vs, σ, h => by
    show (wipe (σ.set i o) vs).set v none = (wipe σ vs).set v none
    by_cases e : i ∈ vs
    · rw [wipe_set e]
    · rcases List.mem_cons.mp h with rfl | h
      · have q : ∀ (vs : List Nat) (σ : St), i ∉ vs → wipe (σ.set i o) vs = (wipe σ vs).set i o := by
          intro vs
          induction vs with
          | nil => intro σ _; rfl
          | cons w vs ih =>
            intro σ hw
            show (wipe (σ.set i o) vs).set w none = ((wipe σ vs).set w none).set i o
            rw [ih σ fun z => hw (List.mem_cons_of_mem _ z), List.set_comm _ _ (fun z => hw (by rw [z]; exact List.mem_cons_self))]
        rw [q vs σ e, List.set_set]
      · exact absurd h e
theorem wipe_idem {vs : List Nat} (σ : St) : wipe (wipe σ vs) vs = wipe σ vs := by
  have q : ∀ (us vs : List Nat) (σ : St), (∀ u ∈ us, u ∈ vs) → wipe (wipe σ us) vs = wipe σ vs := by
    intro us
    induction us with
    | nil => intro vs σ _; rfl
    | cons u us ih =>
      intro vs σ h
      show wipe ((wipe σ us).set u none) vs = wipe σ vs
      rw [wipe_set (h u List.mem_cons_self), ih vs σ fun z hz => h z (List.mem_cons_of_mem _ hz)]
  exact q vs vs σ fun _ h => h
theorem bd_name {K : PySem.W.Frag} (i : Nat) : Bd K [i] (bdN i) (gName i) := fun d v σ H σd σd' G Q m s r h q => by
  cases h
  exact q _ (s.set r i) (wipe_set (by simp))
theorem bd_pair {K : PySem.W.Frag} (i j : Nat) : Bd K [i, j] (bdP i j) (gTup K 2 (gCons (gName i) (gCons (gName j) gNil))) := fun d v σ H σd σd' G Q m s r h q => by
  have fin : ∀ (p : Addr) (x y : D) (vs : List V), SqT K H p vs → RDs K H [x, y] vs → v = .ref p → some ((σd.set i (some x)).set j (some y)) = some σd' → gTup K 2 (gCons (gName i) (gCons (gName j) gNil)) v σ H Q := fun p x y vs hs rr e e2 => by
    cases e2
    obtain ⟨v1, vs1, rfl, a1, a2⟩ := rr.cons_inv
    obtain ⟨v2, vs2, rfl, a3, a4⟩ := a2.cons_inv
    have e3 := a4.nil_inv
    subst e3
    refine ⟨p, [v1, v2], e, hs, rfl, v1, [v2], rfl, v2, [], rfl, rfl, q _ ((s.set a1 i).set a3 j) ?_⟩
    rw [wipe_set (by simp), wipe_set (by simp)]
  unfold bdP at h
  split at h
  · cases r with
    | @tup p _ vs hs hl hi => exact fin p _ _ vs hs.t ⟨hl, hi⟩ rfl h
  · cases r with
    | @tpl p _ vs hs hl hi => exact fin p _ _ vs hs ⟨hl, hi⟩ rfl h
  · cases h
def DComp (bd : D → DSt → Option DSt) (vs : List Nat) (tt : DTt) (te : DE) (ok : DG → Prop) (p : Addr) (σ : DSt) (Q : DK) : List D → DG → Prop
  | [], G => ok G ∧ Q (.ref p) G
  | d :: r, G => ok G ∧ optS (bd d (dwipe σ vs)) fun σ' => tt σ' G fun k G3 => if k = true then te σ' G3 fun y G4 => ∃ acc, G4 p = some (.lst acc) ∧ acc.length < sizeLine ∧ ∃ G0, Le G0 (up G4 p (.lst (acc ++ [y]))) ∧ DComp bd vs tt te ok p σ Q r G0
      else ∃ G0, Le G0 G3 ∧ DComp bd vs tt te ok p σ Q r G0
theorem DComp_mono {bd : D → DSt → Option DSt} {vs : List Nat} {tt : DTt} {te : DE} {ok : DG → Prop} {p : Addr} {σ : DSt} {Q Q' : DK} (mt : MonoT tt) (me : MonoE te) (h : ∀ d G, Q d G → Q' d G) :
    ∀ (xs : List D) (G : DG), DComp bd vs tt te ok p σ Q xs G → DComp bd vs tt te ok p σ Q' xs G
  | [], G, q => ⟨q.1, h _ _ q.2⟩
  | d :: r, G, q => ⟨q.1, optS_mono (fun σ' z => mt _ _ _ _ (fun k G3 z => by
      cases k with
      | true => exact me _ _ _ _ (fun y G4 z => let ⟨acc, h1, h2, G0, l, h3⟩ := z; ⟨acc, h1, h2, G0, l, DComp_mono mt me h r _ h3⟩) z
      | false => exact let ⟨G0, l, z⟩ := z; ⟨G0, l, DComp_mono mt me h r _ z⟩) z) q.2⟩
def dLc (ti : DI) (bd : D → DSt → Option DSt) (vs : List Nat) (tt : DTt) (te : DE) : DE := fun σ G Q => ti σ G fun items ok G1 => ∀ p, G1 p = none → DComp bd vs tt te ok p σ Q items (up G1 p (.lst []))
theorem dLc_sim {tg iter : Expr} {ti : DI} {wi : TI} {bd : D → DSt → Option DSt} {vs : List Nat} {gg : TG} {tt : DTt} {te : DE} {K : PySem.W.Frag} (hb : Bd K vs bd gg) (mt : MonoT tt) (me : MonoE te)
    (mi : ∀ σ G (R R' : List D → (DG → Prop) → DG → Prop), (∀ xs ok G', R xs ok G' → R' xs ok G') → ti σ G R → ti σ G R')
    (ri : ∀ σ H σd G (R : It → Hp → Prop), MH K G H → SR K H σd σ → ti σd G (fun items ok G1 => ∀ J H1, MH K G1 H1 → KT K H H1 → ItOk K H1 J items ok → R J H1) → wi σ H R)
    {σ : St} {H : Hp} {σd : DSt} {G : DG} {Q : VK} (m : MH K G H) (s : SR K H σd σ) (h : dLc ti bd vs tt te σd G (lf K H Q)) : tLc wi gg (canonT K tt) (canonE K te) vs σ H Q := by
  refine ri σ H σd G _ m s (mi _ _ _ _ (fun items ok G1 z J H1 m1 k1 it p hp => ?_) h)
  have hz := z p (m1.fresh hp)
  have k2 : KT K H1 (L2.upd H1 p (.lst [])) := .upd_new hp
  refine ⟨fun i mm H' => ∃ G', MH K G' H' ∧ KT K H1 H' ∧ mm = items.length - i ∧ i ≤ items.length ∧ DComp bd vs tt te ok p σd (lf K H Q) (items.drop i) G',
    ⟨items.length, _, m1.upd k2 (.new_lst .nil k2), k2, by omega, by omega, by simpa using hz⟩, ?_⟩
  rintro i mm H' ⟨G', m', k', rfl, hi', q⟩
  have kH : KT K H H' := k1.trans k'
  by_cases hlt : i < items.length
  · rw [List.drop_eq_getElem_cons hlt] at q
    obtain ⟨o, q⟩ := q
    obtain ⟨go, stop⟩ := it i H' G' k' m' o
    obtain ⟨g1, g2⟩ := go items[i] (List.getElem?_eq_getElem hlt)
    refine .inr ⟨g1, fun H2 => ∃ G2, MH K G2 H2 ∧ KT K H1 H2 ∧ DComp bd vs tt te ok p σd (lf K H Q) (items.drop (i + 1)) G2, ?_, fun x H'' y => ?_⟩
    · rintro H2 ⟨G2, a1, a3, a4⟩
      exact ⟨items.length - (i + 1), by omega, G2, a1, a3, rfl, by omega, a4⟩
    · obtain ⟨b1, b2, b3⟩ := g2 x H'' y
      unfold optS at q
      split at q
      · rename_i σd' e
        have kk : KT K H1 H'' := k'.trans b2
        refine hb items[i] x (wipe σ vs) H'' (dwipe σd vs) σd' G' _ b1 (SR.wipe vs (s.kt (k1.trans kk))) b3 e (fun σ2 s2 w2 => ⟨by rw [w2, wipe_idem], σd', G', b1, s2, ?_⟩)
        refine mt _ _ _ _ (fun k G3 z3 H3 m3 k3 => ?_) q
        have kk3 : KT K H1 H3 := kk.trans k3
        cases k with
        | false =>
          obtain ⟨G0, l, z3⟩ := z3
          exact ⟨G0, m3.le l, kk3, z3⟩
        | true =>
          refine ⟨σd', G3, m3, s2.kt k3, me _ _ _ _ (fun d G4 z4 v H4 m4 r4 k4 => ?_) z3⟩
          obtain ⟨acc, h1, h2, G0, l, h3⟩ := z4
          obtain ⟨ws, g4, rr⟩ := m4 _ _ h1
          refine ⟨ws, g4, by rw [← rr.1]; exact h2, G0, MH.le (m4.upd (.upd_lst g4) (.new_lst (rr.append (RDs.nil.cons r4)) (.upd_lst g4))) l, (kk3.trans k4).trans (.upd_lst g4), h3⟩
      · exact False.elim q
  · have e : items.drop i = [] := List.drop_eq_nil_of_le (by omega)
    rw [e] at q
    obtain ⟨o, q⟩ := q
    obtain ⟨go, stop⟩ := it i H' G' k' m' o
    exact .inl ⟨stop (by omega), q (.ref p) H' m' (.ref p) kH⟩
theorem dLc_mono {ti : DI} {bd : D → DSt → Option DSt} {vs : List Nat} {tt : DTt} {te : DE} (mt : MonoT tt) (me : MonoE te)
    (mi : ∀ σ G (R R' : List D → (DG → Prop) → DG → Prop), (∀ xs ok G', R xs ok G' → R' xs ok G') → ti σ G R → ti σ G R') : MonoE (dLc ti bd vs tt te) := fun σ G Q Q' h q => mi σ G _ _ (fun xs ok G1 z p hp => DComp_mono mt me h xs _ (z p hp)) q
theorem de_lc {elt tg iter : Expr} {ifs : List Expr} {scope : Scope} (own : List (Str × Nat)) {ti : DI} {bd : D → DSt → Option DSt} {gg : TG} {tt : DTt} {te : DE} (hb : Bd X.K (own.map (·.2)) bd gg) (hc : X.calm = true) (hN : X.N.Nodup) (hi : DPI X tg iter ti) (ok : BlkOk X.N X.env.scope scope own)
    (hg : ∀ (s : Shared) (H : Hp) (C : Addr) (cl : List (Str × Addr)) (fp : List Addr), PG (X.blk s H scope (compEnvC scope cl C X.env) fp) tg gg) (ht : ∀ (s : Shared) (H : Hp) (C : Addr) (cl : List (Str × Addr)) (fp : List Addr), DPTs (X.blk s H scope (compEnvC scope cl C X.env) fp) ifs tt)
    (he : ∀ (s : Shared) (H : Hp) (C : Addr) (cl : List (Str × Addr)) (fp : List Addr), DPE (X.blk s H scope (compEnvC scope cl C X.env) fp) elt te) (mt : MonoT tt) (me : MonoE te) (hs : ∀ x, foldedSetIterable iter X.env x = pure x := by intro _; rfl) :
    DPE X (.ListComp elt [⟨tg, iter, ifs, 0⟩] scope pos) (dLc ti bd (own.map (·.2)) tt te) := by
  obtain ⟨mi, wi, pi, ri⟩ := hi
  exact ⟨dLc_mono mt me mi, _, pe_lc hc hN pi ok hg (tt := canonT X.K tt) (te := canonE X.K te) (fun s H C cl fp => (ht s H C cl fp).canon) (fun s H C cl fp => (he s H C cl fp).canon) hs, fun σ H σd G Q m s h => dLc_sim (tg := tg) (iter := iter) hb mt me mi ri m s h⟩
theorem ds_setLc (i : Nat) {y : Str} {py : Pos} {elt tg iter : Expr} {ifs : List Expr} {scope : Scope} {pos spos : Pos} (own : List (Str × Nat)) {ti : DI} {bd : D → DSt → Option DSt} {gg : TG} {tt : DTt} {te : DE} (hb : Bd X.K (own.map (·.2)) bd gg) (hc : X.calm = true) (hN : X.N.Nodup)
    (hsw : swapsWith (.ListComp elt [⟨tg, iter, ifs, 0⟩] scope pos) (some (.Name y py)) spos.line X.env = pure true) (hi : DPI X tg iter ti) (ok : BlkOk X.N X.env.scope scope own)
    (hg : ∀ (s : Shared) (H : Hp) (C : Addr) (cl : List (Str × Addr)) (fp : List Addr), PG (X.blk s H scope (compEnvC scope cl C X.env) fp) tg gg) (ht : ∀ (s : Shared) (H : Hp) (C : Addr) (cl : List (Str × Addr)) (fp : List Addr), DPTs (X.blk s H scope (compEnvC scope cl C X.env) fp) ifs tt)
    (he : ∀ (s : Shared) (H : Hp) (C : Addr) (cl : List (Str × Addr)) (fp : List Addr), DPE (X.blk s H scope (compEnvC scope cl C X.env) fp) elt te) (mt : MonoT tt) (me : MonoE te) (hy : X.N[i]? = some y := by rfl) (hyl : X.env.scope.names.lookup y = some .local := by rfl) (hs : ∀ x, foldedSetIterable iter X.env x = pure x := by intro _; rfl) :
    DPS X (.Assign [.Name y py] (.ListComp elt [⟨tg, iter, ifs, 0⟩] scope pos) spos) (dAsg (dLc ti bd (own.map (·.2)) tt te) (dgName i)) := by
  obtain ⟨mi, wi, pi, ri⟩ := hi
  have ml : MonoE (dLc ti bd (own.map (·.2)) tt te) := dLc_mono mt me mi
  refine ⟨fun σ G D D' l q => ml σ G _ _ (fun x G1 z => l.1 _ _ z) q, _, ps_setLc hc hN hy hyl hsw pi ok hg (tt := canonT X.K tt) (te := canonE X.K te) (fun s H C cl fp => (ht s H C cl fp).canon) (fun s H C cl fp => (he s H C cl fp).canon) hs, fun σ H σd G D m s h => ?_⟩
  refine dLc_sim (tg := tg) (iter := iter) hb mt me mi ri m s (ml _ _ _ _ (fun d G1 z v H1 m1 r1 k1 => ?_) h)
  exact z _ H1 m1 ((s.kt k1).set r1 i) k1
end
/-! ### what a def promises, by data -/
abbrev DX := Str → Option (List (Str × D)) → DG → Prop
abbrev Ct := List D → DG → DK → DX → Prop
def XO (K : PySem.W.Frag) (H : Hp) (d : Option Addr) (fo : Option (List (Str × D))) : Prop := match d, fo with
  | none, none => True
  | some a, some fs => ∃ fvs, H a = some (.xd fvs) ∧ fvs.map (·.1) = fs.map (·.1) ∧ RDs K H (fs.map (·.2)) (fvs.map (·.2))
  | _, _ => False
def lfX (K : PySem.W.Frag) (H : Hp) (E : XK) : DX := fun n fo G' => ∀ C d H', ClsAt K n C → MH K G' H' → KT K H H' → XO K H' d fo → E (.ref C) d H'
theorem lfX_kt {K : PySem.W.Frag} {H H' : Hp} {E : XK} (k : KT K H H') {n : Str} {fo : Option (List (Str × D))} {G : DG} (h : lfX K H E n fo G) : lfX K H' E n fo G := fun C d H2 a b c => h C d H2 a b (k.trans c)
def spOf (K : PySem.W.Frag) (C : Ct) : Sp := fun vs H Q E => ∃ ds G Q0 E0, MH K G H ∧ RDs K H ds vs ∧ C ds G Q0 E0 ∧ (∀ d G', Q0 d G' → lf K H Q d G') ∧ (∀ c fo G', E0 c fo G' → lfX K H E c fo G')
def UpC (C : Ct) (ds : List D) (G : DG) (Q : DK) (E : DX) : Prop := ∃ Q0 E0, C ds G Q0 E0 ∧ (∀ d G', Q0 d G' → Q d G') ∧ (∀ c fo G', E0 c fo G' → E c fo G')
theorem UpC.of {C : Ct} {ds : List D} {G : DG} {Q : DK} {E : DX} (h : C ds G Q E) : UpC C ds G Q E := ⟨Q, E, h, fun _ _ q => q, fun _ _ _ q => q⟩
theorem UpC.mono {C : Ct} {ds : List D} {G : DG} {Q Q' : DK} {E : DX} (h : ∀ d G', Q d G' → Q' d G') (u : UpC C ds G Q E) : UpC C ds G Q' E := let ⟨Q0, E0, a, b, c⟩ := u; ⟨Q0, E0, a, fun d G' q => h _ _ (b d G' q), c⟩
def noX : DX := fun _ _ _ => False
structure FK (P : Program) (w : World) (K : PySem.W.Frag) (mg : Str → Option Value) (base : Heap) (k : Nat) (f : Addr) (fd : FuncData) (ps : List Str) (sp : Sp) : Prop where
  len : ∀ vs H Q E, sp vs H Q E → vs.length = ps.length
  run : ∀ (A : Around) (outer : List Env) (s : Shared) (H : Hp) (args : Args) (us : List Value) (vs : List V) (Q : VK) (E : XK), Room k A → A.guards = some [] → Env0 P w K mg base A outer s H → BindsTo s fd args (ps.zip us) → Vals vs us → sp vs H Q E →
    codeAny (model P w) A (.call (.ref f) args) (CR (L2.CX P w) outer P w H s Q E) s
theorem FK.mono {P : Program} {w : World} {K : PySem.W.Frag} {mg : Str → Option Value} {base : Heap} {j k : Nat} {f : Addr} {fd : FuncData} {ps : List Str} {sp : Sp} (F : FK P w K mg base j f fd ps sp) (h : j ≤ k) : FK P w K mg base k f fd ps sp :=
  ⟨F.len, fun A outer s H args us vs Q E hr => F.run A outer s H args us vs Q E (hr.mono h)⟩
theorem inv_kt {X : Cx} {pins : List (Addr × Obj)} {σ : St} {H : Hp} {s : Shared} (I : L2.Inv X pins σ H s) : KT X.K X.H_0 H := ⟨I.base.tups, fun a o vs h => I.base.frzs a o _ h, fun a o vs h => I.base.frzs a o _ h⟩
def PassD (X : Cx) (E : DX) : Prop := ∃ EL : XK, Passes (L2.CX X.prog X.w) X EL ∧ Takes X (fun cls d _ H => EL cls d H) ∧ ∀ H, KT X.K X.H_0 H → ∀ c fo G', E c fo G' → lfX X.K H EL c fo G'
theorem passD_no {X : Cx} : PassD X noX := ⟨E0, passL, fun _ _ ⟨_, _, _, _, _, _, _, _, _, _, _, _, _, _, _, _, w⟩ => w.elim, fun _ _ _ _ _ h => h.elim⟩
section
variable {X : Cx} {k : Nat} {f C : Addr} {fd : FuncData} {ps : List Str} {Cn : Ct} {E : DX} {x m : Str} {p pos apos : Pos} {e o : Expr} {es : List Expr} {ta to : DE} {t : DA}
theorem run_fk {sp : Sp} {EL : XK} {pins : List (Addr × Obj)} {σ : St} {H : Hp} {s : Shared} {Q : VK} {us : List Value} {vs : List V} (F : FK X.prog X.w X.K X.mg X.base k f fd ps sp) (hr : Room k X.A) (hg : X.A.guards = some []) (hb : Binds X.K fd ps []) (hx : Passes (L2.CX X.prog X.w) X EL)
    (I : L2.Inv X pins σ H s) (r : Vals vs us) (h : sp vs H Q EL) : wpAny (model X.prog X.w) X.A (call (.ref f) us) (EP X pins σ Q) X.xe s := by
  have hl : (us ++ []).length = ps.length := by
    rw [List.append_nil, ← r.length]
    exact F.len _ _ _ _ h
  have hb' := hb s us I.kIn hl
  rw [List.append_nil] at hb'
  refine wpAny_call (codeAny_mono (F.run X.A X.stack s H ⟨us, []⟩ us vs Q EL hr hg I.env0 hb' r h) fun r s' hq => ?_)
  cases r with
  | error e => exact hx pins σ H s e s' I hq
  | ok fl =>
    cases fl with
    | ret u => exact I.after hq
    | next => exact False.elim hq
    | brk => exact False.elim hq
    | cont => exact False.elim hq
def tCallF (X : Cx) (sp : Sp) (EL : XK) (t : TA) : TE := fun σ H Q => t σ H fun vs H1 => KT X.K X.H_0 H1 → sp vs H1 Q EL
def dCall (C : Ct) (E : DX) (t : DA) : DE := fun σ G Q => t σ G fun ds G1 => UpC C ds G1 Q E
theorem dCall_mono (ma : MonoA t) : MonoE (dCall Cn E t) := fun σ G Q Q' h q => ma σ G _ _ (fun ds G1 z => z.mono h) q
theorem dCall_sim {tta : TA} {EL : XK} (ma : MonoA t) (ra : ∀ σ H σd G Q, MH X.K G H → SR X.K H σd σ → t σd G (lfA X.K H Q) → tta σ H Q) (he : ∀ H, KT X.K X.H_0 H → ∀ c fo G', E c fo G' → lfX X.K H EL c fo G') :
    ∀ σ H σd G Q, MH X.K G H → SR X.K H σd σ → dCall Cn E t σd G (lf X.K H Q) → tCallF X (spOf X.K Cn) EL tta σ H Q := fun σ H σd G Q m s h =>
  ra σ H σd G _ m s (ma _ _ _ _ (fun ds G1 z vs H1 m1 r1 k1 k0 => by
    obtain ⟨Q0, E0, h1, h2, h3⟩ := z
    exact ⟨ds, G1, Q0, E0, m1, r1, h1, fun d G' q => lf_kt k1 (h2 d G' q), fun c fo G' q => he H1 k0 c fo G' (h3 c fo G' q)⟩) h)
theorem de_call (F : FK X.prog X.w X.K X.mg X.base k f fd ps (spOf X.K Cn)) (hr : Room k X.A) (hgd : X.A.guards = some []) (hm : X.mg x = some (.ref f)) (hk : PySem.W.keepIn X.K (.ref f) = true) (hb : Binds X.K fd ps []) (hE : PassD X E)
    (ha : DPA X (e :: es) t) (hg : Gl X x := by rfl) (hdb : (x == ("__debug__" : Str)) = false := by decide) (he : starEach (e :: es) X.env = (false, eval e X.env) :: starEach es X.env := by rfl) (hpl : (backTo pos (starEach es X.env)).any (·.1) = false := by rfl) :
    DPE X (.Call (.Name x p) (e :: es) [] pos) (dCall Cn E t) := by
  obtain ⟨ma, tta, pa, ra⟩ := ha
  obtain ⟨EL, hx, _, hE⟩ := hE
  refine ⟨dCall_mono ma, tCallF X (spOf X.K Cn) EL tta, ⟨fun pins s σ H Q I h => ?_⟩, dCall_sim ma ra hE⟩
  refine wpAny_Call_Name_kw (ld_glob I hg hm ?_ hdb)
  refine PySem.W.callWith_K (h₀ := X.base) I.ok.mod.kin hk (thn (pa.run pos pins s σ H _ I h) fun us s1 ⟨vs, H1, I1, r, q⟩ => ⟨I1.kIn, ?_⟩) he hpl
  exact run_fk F hr hgd hb hx I1 r (q (inv_kt I1))
theorem de_call0 (F : FK X.prog X.w X.K X.mg X.base k f fd ps (spOf X.K Cn)) (hr : Room k X.A) (hgd : X.A.guards = some []) (hm : X.mg x = some (.ref f)) (hk : PySem.W.keepIn X.K (.ref f) = true) (hb : Binds X.K fd ps []) (hE : PassD X E)
    (hg : Gl X x := by rfl) (hdb : (x == ("__debug__" : Str)) = false := by decide) : DPE X (.Call (.Name x p) [] [] pos) (dCall Cn E dNil) := by
  have ha : DPA X [] dNil := da_nil
  obtain ⟨EL, hx, _, hE⟩ := hE
  refine ⟨dCall_mono ha.mono, tCallF X (spOf X.K Cn) EL tNil, ⟨fun pins s σ H Q I h => ?_⟩, dCall_sim ha.mono (fun σ H σd G Q m s h => h [] H m .nil .refl) hE⟩
  refine wpAny_Call_Name_kw (ld_glob I hg hm ?_ hdb)
  exact PySem.W.callWith_K0 I.kIn hk (run_fk (us := []) F hr hgd hb hx I .nil (h (inv_kt I)))
end
/-! ### a def's body -/
section
variable {P : Program} {w : World} {K : PySem.W.Frag} {mg : Str → Option Value} {base : Heap}
theorem fk_of {k : Nat} {f : Addr} {name qual : Str} {params : Arguments} {body : List Stmt} {scope : Scope} {dV kV doc pm cdv ct oc : Value} {an od : Option Addr}
    {osl : Array (Option Value)} {N ps : List Str} {sp : Sp} (lk : K.lookup f = some ⟨oc, od, .func (PySem.W.fnOf name qual params body scope dV kV doc pm an cdv ct), osl⟩) (hcd : PySem.W.codeIn K cdv qual = true) (S : FnScope N ps scope)
    (len : ∀ vs H Q E, sp vs H Q E → vs.length = ps.length)
    (hbody : ∀ (A : Around) (outer : List Env) (s : Shared) (H : Hp) (vs : List V) (Q : VK) (E : XK), Room k (A.deeper (PyProof.Rows.envOfC qual scope s.heap.objs.size f cdv)) → A.guards = some [] → sp vs H Q E →
      ∃ t, PSs (cxOf (L2.CX P w) P w K mg base N qual scope f cdv A outer s H E) body t ∧ t { nx := fun _ H' => Q .non H', rt := Q } (start N vs) H) :
    FK P w K mg base (k + 1) f (PySem.W.fnOf name qual params body scope dV kV doc pm an cdv ct) ps sp := by
  refine ⟨len, fun A outer s H args us vs Q E hr hgd e0 hb r hsp => ?_⟩
  have hl := len _ _ _ _ hsp
  have KX : K.In s.heap := e0.mod.kin.keeps fun b o e => (e0.bs b o e).1
  have lim : s.heap.NoLimit := e0.mod.nolimit.keeps fun b o e => (e0.bs b o e).1
  have kinds : ∀ y ∈ ps.zip us, scope.names.lookup y.1 = some .local ∨ (scope.names.lookup y.1 = some .cell ∧ ((cellsFrom (s.heap.objs.size + 1) scope.names []).lookup y.1).isSome = true) := by
    rintro ⟨n, v⟩ hy
    rcases S.par n (List.of_mem_zip hy).1 with q | q
    · exact .inl q
    · exact .inr ⟨q, PySem.W.cellsFrom_some _ _ _ (.inl q)⟩
  refine codeAny_call_function hr.depth (KX _ _ lk) rfl S.co S.gen rfl (PySem.W.codeRec_of KX hcd) (hb _ _ _ _ ?_)
  refine wpAny_newFunctionEnv_cells S.kind kinds fun env he s1 x => ?_
  subst he
  refine ⟨lim.keeps x.toInCall.keep, codeAny_func ?_⟩
  obtain ⟨t, ht, hq⟩ := hbody A outer s H vs Q E (hr.deeper _) hgd hsp
  have I : L2.Inv (cxOf (L2.CX P w) P w K mg base N qual scope f cdv A outer s H E) [] (start N vs) H s1 := inv_start S hr.hd e0 hl r x
  refine wpAny_mono (ht.run [] s1 (start N vs) H _ I hq) (fun fl s' hs => ?_) fun e s' hs => hs
  cases fl with
  | ret u =>
    obtain ⟨v, σ', H', J, rv, q⟩ := hs
    exact ⟨v, H', J.os, J.bare, J.base, J.hok, rv, q⟩
  | next =>
    obtain ⟨σ', H', J, q⟩ := hs
    exact ⟨V.non, H', J.os, J.bare, J.base, J.hok, rfl, q⟩
  | brk =>
    obtain ⟨_, _, _, q⟩ := hs
    exact False.elim q
  | cont =>
    obtain ⟨_, _, _, q⟩ := hs
    exact False.elim q
def dstart (N : List Str) (ds : List D) : DSt := ds.map some ++ List.replicate (N.length - ds.length) none
theorem SR.start {K : PySem.W.Frag} {H : Hp} {ds : List D} {vs : List V} (N : List Str) (r : RDs K H ds vs) : SR K H (dstart N ds) (start N vs) := by
  refine ⟨by simp [dstart, L2.start, r.1], fun i d h => ?_⟩
  unfold dstart at h
  by_cases hi : i < ds.length
  · rw [List.getElem?_append_left (by simpa using hi), List.getElem?_map] at h
    cases e : ds[i]? with
    | none => rw [e] at h; simp at h
    | some d' =>
      rw [e] at h
      have e2 : d' = d := by simpa using h
      subst e2
      obtain ⟨v, h1, h2⟩ := r.get e
      refine ⟨v, ?_, h2⟩
      unfold L2.start
      rw [List.getElem?_append_left (by rw [List.length_map, ← r.1]; exact hi), List.getElem?_map, h1]
      rfl
  · rw [List.getElem?_append_right (by simpa using hi)] at h
    rw [List.getElem?_replicate] at h
    split at h
    · cases h
    · cases h
/-- THE RULE for a def -/
theorem fk_ok {x qual : Str} {st : Stmt} {f : Addr} {fd : FuncData} {N ps : List Str} {k : Nat} {C : Ct} {T : DX → DS} (F : Fun K x qual st f fd) (S : FnScope N ps (defScope st)) (len : ∀ ds G Q E, C ds G Q E → ds.length = ps.length)
    (der : ∀ (cdv : Value) (A : Around) (outer : List Env) (s : Shared) (H : Hp) (EL : XK) (E : DX), Room k (cxOf (L2.CX P w) P w K mg base N qual (defScope st) f cdv A outer s H EL).A → (cxOf (L2.CX P w) P w K mg base N qual (defScope st) f cdv A outer s H EL).A.guards = some [] →
      PassesOwn (model P w) (cxOf (L2.CX P w) P w K mg base N qual (defScope st) f cdv A outer s H EL).A (cxOf (L2.CX P w) P w K mg base N qual (defScope st) f cdv A outer s H EL).env (cxOf (L2.CX P w) P w K mg base N qual (defScope st) f cdv A outer s H EL).xe →
      PassD (cxOf (L2.CX P w) P w K mg base N qual (defScope st) f cdv A outer s H EL) E → DPSs (cxOf (L2.CX P w) P w K mg base N qual (defScope st) f cdv A outer s H EL) (defBody st) (T E))
    (run : ∀ ds G Q E, C ds G Q E → T E { nx := fun _ G' => DrK Q .non G', rt := DrK Q, bk := fun _ _ => False, ct := fun _ _ => False } (dstart N ds) G) : FK P w K mg base (k + 1) f fd ps (spOf K C) := by
  obtain ⟨oc, od, kV, doc, pm, an, cdv, ct, osl, rfl, lk, hcd⟩ := F.ex
  refine fk_of lk hcd S (fun vs H Q E h => ?_) fun A outer s H vs Q E hr hgd hsp => ?_
  · obtain ⟨ds, G, Q0, E0, _, r, hC, _⟩ := h
    rw [← r.1]
    exact len _ _ _ _ hC
  · obtain ⟨ds, G, Q0, E0, m, r, hC, hQ, hE⟩ := hsp
    have tk : Takes (cxOf (L2.CX P w) P w K mg base N qual (defScope st) f cdv A outer s H E) (fun cls d _ H => E cls d H) := takes_of rfl rfl rfl rfl
    have D0 := der cdv A outer s H E E0 hr hgd (passes_of rfl) ⟨E, passes_call tk fun _ _ _ _ h => h, tk, fun H' kt c fo G' q => lfX_kt kt (hE c fo G' q)⟩
    obtain ⟨mS, tt, p, rr⟩ := D0
    refine ⟨tt, p, rr (start N vs) H (dstart N ds) G _ m (.start N r) (mS _ _ { nx := fun _ G' => DrK Q0 .non G', rt := DrK Q0, bk := fun _ _ => False, ct := fun _ _ => False } _ ⟨fun σ G' q => ?_, fun d G' q v H' m' r' k' => let ⟨G0, l, q⟩ := q; hQ d G0 q v H' (m'.le l) r' k', fun _ _ q => q.elim, fun _ _ q => q.elim⟩ (run ds G Q0 E0 hC))⟩
    obtain ⟨G0, l, q⟩ := q
    exact fun σ' H' m' _ k' => hQ .non G0 q .non H' (m'.le l) .non k'
end
end FD

namespace FD
open PySem L2
/-! ### isinstance of a built-in class -/
def tys : List String := ["NoneType", "bool", "int", "str", "tuple", "list", "dict"]
def isiB (t n : String) : Bool := t == n || (t == "bool" && n == "int")
theorem kit_all : ∀ t ∈ tys, ∀ n ∈ tys, kitB t n = some (isiB t n) := by decide +kernel
def tyN (x : D) (G : DG) : Option String := match x with
  | .non => some "NoneType"
  | .bl _ => some "bool"
  | .int _ => some "int"
  | .str _ => some "str"
  | .tup _ => some "tuple"
  | .lis _ => some "list"
  | .ref a => match G a with
    | some (.lst _) => some "list"
    | some (.dK _) => some "dict"
    | some (.dT _) => some "dict"
    | _ => none
  | _ => none
theorem tyN_ok {K : PySem.W.Frag} {H : Hp} {G : DG} {x : V} {d : D} {t : String} (m : MH K G H) (r : RD K H d x) (h : tyN d G = some t) : t ∈ tys ∧ TyX K H x (.type t) := by
  cases r with
  | non => cases h; exact ⟨by decide, .base .non⟩
  | bl b => cases h; exact ⟨by decide, .base (.bl b)⟩
  | int b => cases h; exact ⟨by decide, .base (.int b)⟩
  | str b => cases h; exact ⟨by decide, .base (.str b)⟩
  | ty n => cases h
  | tpl _ _ _ => cases h
  | tup hs _ _ =>
    cases h
    refine ⟨by decide, ?_⟩
    rcases hs with ⟨o, h1, _⟩ | ⟨o, its, n, h1, h2, _⟩
    · exact .fTuple h1
    · exact .kTuple h1 h2
  | lis hs _ _ =>
    cases h
    refine ⟨by decide, ?_⟩
    rcases hs with ⟨o, h1⟩ | ⟨o, its, n, h1, h2, _⟩
    · exact .base (.frz h1)
    · exact .kList h1 h2
  | ref a =>
    simp only [tyN] at h
    split at h
    · rename_i e
      cases h
      obtain ⟨vs, g, _⟩ := m _ _ e
      exact ⟨by decide, .base (.lst g)⟩
    · rename_i e
      cases h
      obtain ⟨vs, g, _⟩ := m _ _ e
      exact ⟨by decide, .base (.dK g)⟩
    · rename_i e
      cases h
      obtain ⟨vs, g, _⟩ := m _ _ e
      exact ⟨by decide, .base (.dT g)⟩
    · cases h
def isinstD : FL := fun xs G Q => match xs with
  | [x, .ty n] => match tyN x G with
    | some t => n ∈ tys ∧ Q (.bl (isiB t n)) G
    | none => False
  | _ => False
section
variable {X : Cx} {a b c e : Expr} {es rest : List Expr} {ta tb tc : DE} {pos : Pos}
theorem isinstD_mono : MonoFL isinstD := fun xs G Q Q' h q => by
  unfold isinstD at q ⊢
  split at q
  · split at q
    · exact ⟨q.1, h _ _ q.2⟩
    · exact q
  · exact q
theorem isinstD_sim {K : PySem.W.Frag} : SimL K (rIsi K) isinstD := fun H G xs ds Q m r h => by
  unfold isinstD at h
  split at h
  · obtain ⟨v, vs', rfl, r1, r2⟩ := r.cons_inv
    obtain ⟨v2, vs2, rfl, r3, r4⟩ := r2.cons_inv
    have e := r4.nil_inv
    subst e
    cases r3
    split at h
    · rename_i t e
      obtain ⟨h1, h2⟩ := tyN_ok m r1 e
      exact ⟨v, _, _, _, _, rfl, .ty _, h2, kit_ty (kit_all _ h1 _ h.1), h.2 _ _ m (.bl _) .refl⟩
    · exact False.elim h
  · exact False.elim h
theorem de_isinst {p : Pos} {t : DA} (hg : Gl X "isinstance") (hm : X.mg "isinstance" = none) (ha : DPA X (e :: es) t) (h1 : starEach (e :: es) X.env = (false, eval e X.env) :: starEach es X.env := by rfl) (h2 : ((backTo pos (starEach es X.env)).any fun x => x.fst) = false := by rfl) :
    DPE X (.Call (.Name "isinstance" p) (e :: es) [] pos) (dCB isinstD t) := de_callB call_isi isinstD_mono isinstD_sim hg hm (by decide +kernel) ha (by decide) (by decide) h1 h2
/-! ### repr -/
def RepOk (p : PyData) : Prop := p.showable = true ∧ p.shown.length ≤ sizeLine
def isCont : PyData → Bool
  | .list _ => true
  | .tuple _ => true
  | .int _ => true
  | _ => false
def reprD : FL := fun xs G Q => match xs with
  | [x] => match pyD 9 G x with
    | some p => isCont p = true ∧ RepOk p ∧ Q (.str p.shown) G
    | none => False
  | _ => False
theorem reprD_mono : MonoFL reprD := fun xs G Q Q' h q => by
  unfold reprD at q ⊢
  split at q
  · split at q
    · exact ⟨q.1, q.2.1, h _ _ q.2.2⟩
    · exact q
  · exact q
mutual
theorem noDict_of : ∀ d : PyData, d.canLay0 = true → d.hasDict = false
  | .none, _ => by simp only [PyData.hasDict]
  | .bool _, _ => by simp only [PyData.hasDict]
  | .int _, _ => by simp only [PyData.hasDict]
  | .str _, _ => by simp only [PyData.hasDict]
  | .list xs, h => by
    simp only [PyData.hasDict]
    exact noDictAll_of xs (by simpa [PyData.canLay0] using h)
  | .tuple xs, h => by
    simp only [PyData.hasDict]
    exact noDictAll_of xs (by simpa [PyData.canLay0] using h)
  | .dict _, h => by simp [PyData.canLay0] at h
theorem noDictAll_of : ∀ ds : List PyData, PyData.canLayAll0 ds = true → PyData.hasDictAll ds = false
  | [], _ => by simp only [PyData.hasDictAll]
  | d :: ds, h => by
    have h2 : d.canLay0 = true ∧ PyData.canLayAll0 ds = true := by simpa [PyData.canLayAll0] using h
    simp only [PyData.hasDictAll, noDict_of d h2.1, noDictAll_of ds h2.2, Bool.or_self]
end
theorem call_reprA (hgd : X.A.guards = some []) (hu : X.A.units + 65 < cLine) : CallR X (.builtin "repr") (fun xs H Q => ∃ x d, xs = [x] ∧ Dp X.K H x d ∧ SeqAt.shaped d = true ∧ isCont d = true ∧ RepOk d ∧ Q (.str d.shown) H) := by
  intro pins s σ H xs us Q I r h
  obtain ⟨x, d, rfl, hd, sh, hc, ⟨hs, hz⟩, q⟩ := h
  obtain ⟨u, rfl, rx⟩ := vals1 r
  obtain ⟨as, rr⟩ := Dp.reads I d x u hd rx
  have nd : d.hasDict = false := noDict_of d (SeqAt.canLay_of_shaped sh)
  have dp : d.depth ≤ 64 := SeqAt.depth_of_shaped sh
  have go : ∀ a, u = .ref a → wpAny (model X.prog X.w) X.A (call (.builtin "repr") [u]) (EP X pins σ Q) X.xe s := by
    rintro a rfl
    refine repr_of_reads' (h₀ := s.heap) rr hs (fun z => by rw [nd] at z; cases z) hgd (by omega) (fun _ _ z => z) (fun h' t tk kp => ?_) hz
    exact ⟨.str d.shown, H, I.kept (t' := tk) kp, ⟨_, rfl⟩, q⟩
  cases d with
  | list ds => cases hd; exact go _ rx
  | tuple ds => cases hd; exact go _ rx
  | int i =>
    cases hd
    obtain ⟨t, rfl⟩ := rx
    have hs' : i.natAbs.log2 < 1920 := by simpa [PyData.showable] using hs
    rw [PyData.shown_int] at q
    exact PySem.P.repr_of_int hs' ⟨.str _, H, I.tok _, ⟨_, rfl⟩, q⟩
  | _ => simp [isCont] at hc
theorem reprD_sim {K : PySem.W.Frag} : SimL K (fun xs H Q => ∃ x d, xs = [x] ∧ Dp K H x d ∧ SeqAt.shaped d = true ∧ isCont d = true ∧ RepOk d ∧ Q (.str d.shown) H) reprD := fun H G xs ds Q m r h => by
  unfold reprD at h
  split at h
  · obtain ⟨v, vs', rfl, r1, r2⟩ := r.cons_inv
    have e := r2.nil_inv
    subst e
    split at h
    · rename_i p e
      exact ⟨v, p, rfl, pyD_dp m 9 _ _ p r1 e, pyD_shaped e (by decide), h.1, h.2.1, h.2.2 _ _ m (.str _) .refl⟩
    · exact False.elim h
  · exact False.elim h
theorem de_repr {p : Pos} {t : DA} (hgd : X.A.guards = some []) (hu : X.A.units + 65 < cLine) (hg : Gl X "repr") (hm : X.mg "repr" = none) (ha : DPA X (e :: es) t) (h1 : starEach (e :: es) X.env = (false, eval e X.env) :: starEach es X.env := by rfl) (h2 : ((backTo pos (starEach es X.env)).any fun x => x.fst) = false := by rfl) :
    DPE X (.Call (.Name "repr" p) (e :: es) [] pos) (dCB reprD t) := de_callB (call_reprA hgd hu) reprD_mono reprD_sim hg hm (by decide +kernel) ha (by decide) (by decide) h1 h2
end
/-! ### the law's end -/
def spLaw (n : Nat) : Ct := fun ds G Q _ => ∃ ns : List Int, ds = [.lis (ns.map .int)] ∧ ns.length ≤ n ∧ ∀ G', Q (.bl true) G'
theorem law_fk {P : Program} {w : World} {K : PySem.W.Frag} {mg mb : Str → Option Value} {k n : Nat} {fa a : Addr} {fd : FuncData} {x : Str} {s1 : Shared} {vs : List Value} {ns : List Int}
    (KX : K.In s1.heap) (hns : s1.heap.Ns mainGlobals mg) (hb : s1.heap.Ns builtinsNs mb) (hbb : ∀ x : Str, x ≠ "__name__" → mb x = bootBuiltins x) (hlim : s1.heap.NoLimit) (hg : s1.gens = #[])
    (ha : s1.heap.get? a = some { cls := .type "list", data := .seq vs.toArray }) (hi : PyProof.Rows.IntsAre vs ns) (hl : ns.length ≤ n) (hn : n ≤ sizeLine) (hr : Room k callerA)
    (F : ∀ base : Heap, K.In base → base.Ns mainGlobals mg → FK P w K mg base k fa fd [x] (spOf K (spLaw n))) (hbind : ∀ (s : Shared) (u : Value), BindsTo s fd ⟨[u], []⟩ [(x, u)]) :
    codeAny (model P w) callerA (.call (.ref fa) ⟨[.ref a], []⟩) (fun r s' => r = .ok (.ret (.bool true)) ∧ OldK s1.heap s'.heap ∧ s'.os = s1.os ∧ PyProof.Rows.AllBare s'.gens) s1 := by
  have rv := vals_ints hi
  have lenV := hi.length
  have hz : ns.length ≤ sizeLine := Nat.le_trans hl hn
  have main : ∀ H : Hp, Only H → SqR K H a (ns.map V.int) → HOk P w H s1.heap → (∀ b, H b ≠ none → b = a) → (H a ≠ none → K.lookup a = none) →
      codeAny (model P w) callerA (.call (.ref fa) ⟨[.ref a], []⟩) (fun r s' => r = .ok (.ret (.bool true)) ∧ OldK s1.heap s'.heap ∧ s'.os = s1.os ∧ PyProof.Rows.AllBare s'.gens) s1 := by
    intro H hO hS hok hA hK
    have there : ∀ {b : Addr} {o : Obj}, s1.heap.get? b = some o → H b = none → (hidT s1.heap H).get? b = some o := fun e n => hidT_get e n
    have noD : ∀ {b : Addr} {o : Obj} {es : Array DictEntry} {ep : Nat}, s1.heap.get? b = some o → o.data = .dict es ep → H b = none := by
      intro b o es ep e d
      cases q : H b with
      | none => rfl
      | some u =>
        have e' : b = a := hA b (by rw [q]; simp)
        subst e'
        rw [ha] at e
        cases e
        cases (show Data.seq vs.toArray _ = Data.dict es ep from d)
    have ns1 : ∀ {b : Addr} {m : Str → Option Value}, s1.heap.Ns b m → (hidT s1.heap H).Ns b m := fun {b m} ⟨o, es, ep, e, d, r⟩ => ⟨o, es, ep, there e (noD e d), d, r⟩
    have kin : K.In (hidT s1.heap H) := fun b o e => there (KX b o e) (by
      cases q : H b with
      | none => rfl
      | some u =>
        have e' : b = a := hA b (by rw [q]; simp)
        subst e'
        rw [hK (by rw [q]; simp)] at e
        cases e)
    have M : Mod K mg (hidT s1.heap H) := ⟨kin, ns1 hns, ⟨mb, ns1 hb, hbb⟩, let ⟨mc, h1, h2⟩ := hlim; ⟨mc, ns1 h1, h2⟩⟩
    have E : Env0 P w K mg (hidT s1.heap H) callerA [] s1 H := ⟨rfl, M, fun b o e => of_hidT e, Nat.le_of_eq (hidT_size _ _), trivial, fun b hb => absurd (show b ∈ ([] : List Addr) from hb) (by simp), hok, .of_eq hg⟩
    have pr : spOf K (spLaw n) [.ref a] H (fun v _ => v = .bl true) (fun _ _ _ => False) := by
      have m0 : MH K (fun _ => none) H := fun _ _ h => by cases (show (none : Option O) = some _ from h)
      refine ⟨[.lis (ns.map .int)], fun _ => none, fun d _ => d = .bl true, noX, m0, RDs.nil.cons (.lis hS (by simp) (RDs.of_int ns).2), ⟨ns, rfl, hl, fun _ => rfl⟩, fun d G' q v H' m r k => ?_, fun _ _ _ q => False.elim q⟩
      subst q
      cases r
      rfl
    refine codeAny_mono ((F _ kin (ns1 hns)).run callerA [] s1 H ⟨[.ref a], []⟩ [.ref a] [.ref a] _ _ hr rfl E (hbind s1 (.ref a)) (.cons rfl .nil) pr) fun r s' h => ?_
    cases r with
    | error e =>
      obtain ⟨_, _, _, _, _, _, _, _, _, _, _, _, z⟩ := h
      exact z.elim
    | ok fl =>
      cases fl with
      | next => exact False.elim h
      | brk => exact False.elim h
      | cont => exact False.elim h
      | ret u =>
        obtain ⟨v, H', os, bare, un, hok', r', q⟩ := h
        have q' : v = .bl true := q
        subst q'
        obtain rfl : u = Value.bool true := r'
        refine ⟨rfl, OldK.of_keep fun b o e => ?_, os, bare⟩
        cases q : H b with
        | none => exact un.keep b o e q (fun z => absurd (show b ∈ ([] : List Addr) from z) (by simp)) (by simp)
        | some u =>
          rcases hO b with z | ⟨ob, xs, z⟩
          · rw [q] at z; cases z
          · obtain ⟨e1, _⟩ := hok b _ z
            obtain ⟨e2, _⟩ := hok' b _ (un.frzs b ob _ z)
            rw [e] at e1
            cases e1
            exact e2
  cases hk : K.lookup a with
  | some o =>
    have e := KX a o hk
    rw [ha] at e
    cases e
    exact main (fun _ => none) (fun _ => .inl rfl) (.inr ⟨_, vs.toArray, _, hk, rfl, rfl, rfl, by rw [List.size_toArray, lenV]; exact hz, by simpa using rv⟩) (fun b u z => by cases (show (none : Option HO) = some u from z)) (fun b z => absurd rfl z) fun z => absurd rfl z
  | none =>
    refine main (fun b => if b = a then some (.frz { cls := .type "list", data := .seq vs.toArray } (.lst (ns.map V.int))) else none) (fun b => ?_) (.inl ⟨{ cls := .type "list", data := .seq vs.toArray }, if_pos rfl⟩) (fun b u z => ?_) (fun b z => ?_) fun _ => hk
    · by_cases hb : b = a
      · exact .inr ⟨_, _, if_pos hb⟩
      · exact .inl (if_neg hb)
    · by_cases hb : b = a
      · have z' := (if_pos hb).symm.trans z
        cases z'
        subst hb
        exact ⟨ha, by rw [List.length_map]; exact hz, vs, _, rv, ha⟩
      · have z' := (if_neg hb).symm.trans z
        cases z'
    · by_cases hb : b = a
      · exact hb
      · exact absurd (if_neg hb) z
theorem walk_fk {l : PySem.W.OpenLaw} {n k : Nat} {q : Program} {loose : List Str} {XP : (Str → Option Value) → Heap → Prop} {YP : World → Heap → Prop} {d : DefRec} {K : Params → PySem.W.Frag} {x : Str}
    (hn : l.most = some n) (hn2 : n ≤ sizeLine) (hdf : d.params.defaults = []) (hr : Room k callerA) (hY : ∀ (w : World) (h : Heap), YP w h → (K w.params).In h)
    (F : ∀ (w : World) (mg : Str → Option Value) (fa : Addr) (h : Heap), (K w.params).In h → h.Ns mainGlobals mg → mg d.name = some (.ref fa) →
      ∃ fd : FuncData, (∀ (s : Shared) (u : Value), BindsTo s fd ⟨[u], []⟩ [(x, u)]) ∧
        ∀ base : Heap, (K w.params).In base → base.Ns mainGlobals mg → FK l.prog w (K w.params) mg base k fa fd [x] (spOf (K w.params) (spLaw n))) :
    PySem.W.WalkO q loose XP YP l.row.toRowW d [] (fun f vs => PySem.call f vs) := by
  refine Att.attach_call hn hdf fun w s0 s1 mg mb fa o pm cd doc a vs ns G Y ho hd hcd hmg hobj hints hlen hg => ?_
  have KX := hY w _ Y
  obtain ⟨fd, hb, hF⟩ := F w mg fa _ KX G.T.g hmg
  exact law_fk KX G.T.g G.T.b G.T.builtins G.T.nolimit hg hobj hints hlen hn2 hr hF hb
end FD

namespace FD
open PySem L2
section
variable {X : Cx} {a b c e : Expr} {es rest : List Expr} {ta tb tc : DE} {pos : Pos}
theorem u64 {k : Nat} {A : Around} (r : Room k A) : A.units + 64 < cLine := r.units
theorem u65 {k : Nat} {A : Around} (r : Room k A) : A.units + 65 < cLine := by have := r.un; omega
/-- a list or a tuple, walked -/
def diSeq (t : DE) : DI := fun σ G R => t σ G fun x G1 => match x with
  | .tup xs => R xs (fun _ => True) G1
  | .lis xs => R xs (fun _ => True) G1
  | .ref p => match G1 p with
    | some (.lst xs) => R xs (fun G' => G' p = some (.lst xs)) G1
    | _ => False
  | _ => False
def iSeqV (K : PySem.W.Frag) (x : V) (H : Hp) (R : It → Hp → Prop) : Prop := (∃ p, x = .ref p ∧ (∃ xs, SqL K H p xs) ∧ R (Itl K p) H) ∨ ∃ p, x = .ref p ∧ (∃ xs, SqT K H p xs) ∧ R (Itt K p) H
theorem pi_seqV {tg l : Expr} {tl : TE} (hl : PE X l tl) : PI X tg l (fun σ H R => tl σ H fun x H1 => iSeqV X.K x H1 R) := by
  refine ⟨fun pins s σ H R I h => thn (hl.run pins s σ H _ I h) fun v s1 ⟨x, H1, I1, r1, q1⟩ => ?_⟩
  have fresh : ∀ b ∈ [s1.heap.objs.size], b = s1.heap.objs.size := fun b hb => by simpa using hb
  rcases q1 with ⟨p, e, ⟨xs, hq⟩, q⟩ | ⟨p, e, ⟨xs, hq⟩, q⟩
  · subst e
    cases r1
    obtain ⟨its, rv, pl, hz⟩ := I1.list hq
    refine wpAny_pyIter_list pl.isList ⟨s1.heap.objs.size, [s1.heap.objs.size], _, _, H1, rfl, I1.kept (t' := s1.toks) fun b o e => Heap.get?_push_of_some _ e, turn_list p _, ⟨_, Heap.get?_push_size _ rfl, rfl, rfl⟩, fun b hb => ?_, q⟩
    rw [fresh b hb]
    exact I1.fpOk (Nat.le_refl _) (I1.hok.fresh (Nat.le_refl _))
  · subst e
    cases r1
    obtain ⟨its, rv, pl, hz⟩ := I1.tuple hq
    refine wpAny_pyIter_tuple pl ⟨s1.heap.objs.size, [s1.heap.objs.size], _, _, H1, rfl, I1.kept (t' := s1.toks) fun b o e => Heap.get?_push_of_some _ e, turn_tuple p _, ⟨_, Heap.get?_push_size _ rfl, rfl, rfl⟩, fun b hb => ?_, q⟩
    rw [fresh b hb]
    exact I1.fpOk (Nat.le_refl _) (I1.hok.fresh (Nat.le_refl _))
theorem di_seq {tg l : Expr} (ha : DPE X l ta) : DPI X tg l (diSeq ta) := by
  obtain ⟨ma, tta, pa, ra⟩ := ha
  refine ⟨fun σ G R R' h q => ma σ G _ _ (fun x G1 z => ?_) q, _, pi_seqV pa, fun σ H σd G R m s h => ra σ H σd G _ m s (ma _ _ _ _ (fun d G1 z v H1 m1 r1 k1 => ?_) h)⟩
  · split at z
    · exact h _ _ _ z
    · exact h _ _ _ z
    · split at z <;> first | exact h _ _ _ z | exact z
    · exact z
  · split at z
    · rename_i xs
      cases r1 with
      | @tup p _ vs hs hl hi =>
        refine .inr ⟨p, rfl, ⟨vs, hs.t⟩, z _ H1 m1 k1 fun i H' G' k m' o => ?_⟩
        have r : RDs X.K H' xs vs := RDs.kt k ⟨hl, hi⟩
        have hq : SqT X.K H' p vs := k.sqt hs.t
        refine ⟨fun d hd => ?_, fun hl' => ⟨vs, hq, by rw [← hl]; exact hl'⟩⟩
        obtain ⟨w, h1, h2⟩ := r.get hd
        refine ⟨⟨vs, w, hq, h1⟩, fun x H'' y => ?_⟩
        obtain ⟨rfl, y⟩ := y
        have e := y vs hq
        rw [h1] at e
        cases e
        exact ⟨m', .refl, h2⟩
    · cases r1 with
      | @lis p _ vs hs hl hi => exact .inl ⟨p, rfl, ⟨vs, hs.l⟩, z _ H1 m1 k1 (itOk_list fun G' H' k' m' o => ⟨vs, (k'.sqr hs).l, RDs.kt k' ⟨hl, hi⟩⟩)⟩
    · cases r1
      rename_i p
      split at z
      · rename_i xs e
        obtain ⟨vs, g, r⟩ := m1 _ _ e
        refine .inl ⟨p, rfl, ⟨vs, SqL.of g⟩, z _ H1 m1 k1 (itOk_list fun G' H' k' m' o => ?_)⟩
        obtain ⟨vs', g', r'⟩ := m' _ _ o
        exact ⟨vs', SqL.of g', r'⟩
      · exact False.elim z
    · exact False.elim z
theorem de_lcN {elt tg iter : Expr} {ifs : List Expr} {scope : Scope} (own : List (Str × Nat)) {ti : DI} {bd : D → DSt → Option DSt} {gg : TG} {tt : DTt} {te : DE} (hb : Bd X.K (own.map (·.2)) bd gg) (hc : X.calm = true) (hN : X.N.Nodup) (hi : DPI X tg iter ti) (ok : BlkOk X.N X.env.scope scope own)
    (hg : ∀ (s : Shared) (H : Hp) (C : Addr) (cl : List (Str × Addr)) (fp : List Addr), PG (X.blk s H scope (compEnvC scope cl C X.env) fp) tg gg) (ht : ∀ (s : Shared) (H : Hp) (C : Addr) (cl : List (Str × Addr)) (fp : List Addr), DPTs (X.blk s H scope (compEnvC scope cl C X.env) fp) ifs tt)
    (he : ∀ (s : Shared) (H : Hp) (C : Addr) (cl : List (Str × Addr)) (fp : List Addr), DPE (X.blk s H scope (compEnvC scope cl C X.env) fp) elt te) (hs : ∀ x, foldedSetIterable iter X.env x = pure x := by intro _; rfl) :
    DPE X (.ListComp elt [⟨tg, iter, ifs, 0⟩] scope pos) (dLc ti bd (own.map (·.2)) tt te) :=
  de_lc own hb hc hN hi ok hg ht he (ht X.s_0 X.H_0 0 [] []).mono (he X.s_0 X.H_0 0 [] []).mono hs
theorem ds_setLcN (i : Nat) {y : Str} {py : Pos} {elt tg iter : Expr} {ifs : List Expr} {scope : Scope} {pos spos : Pos} (own : List (Str × Nat)) {ti : DI} {bd : D → DSt → Option DSt} {gg : TG} {tt : DTt} {te : DE} (hb : Bd X.K (own.map (·.2)) bd gg) (hc : X.calm = true) (hN : X.N.Nodup)
    (hsw : swapsWith (.ListComp elt [⟨tg, iter, ifs, 0⟩] scope pos) (some (.Name y py)) spos.line X.env = pure true) (hi : DPI X tg iter ti) (ok : BlkOk X.N X.env.scope scope own)
    (hg : ∀ (s : Shared) (H : Hp) (C : Addr) (cl : List (Str × Addr)) (fp : List Addr), PG (X.blk s H scope (compEnvC scope cl C X.env) fp) tg gg) (ht : ∀ (s : Shared) (H : Hp) (C : Addr) (cl : List (Str × Addr)) (fp : List Addr), DPTs (X.blk s H scope (compEnvC scope cl C X.env) fp) ifs tt)
    (he : ∀ (s : Shared) (H : Hp) (C : Addr) (cl : List (Str × Addr)) (fp : List Addr), DPE (X.blk s H scope (compEnvC scope cl C X.env) fp) elt te) (hy : X.N[i]? = some y := by rfl) (hyl : X.env.scope.names.lookup y = some .local := by rfl) (hs : ∀ x, foldedSetIterable iter X.env x = pure x := by intro _; rfl) :
    DPS X (.Assign [.Name y py] (.ListComp elt [⟨tg, iter, ifs, 0⟩] scope pos) spos) (dAsg (dLc ti bd (own.map (·.2)) tt te) (dgName i)) :=
  ds_setLc i own hb hc hN hsw hi ok hg ht he (ht X.s_0 X.H_0 0 [] []).mono (he X.s_0 X.H_0 0 [] []).mono hy hyl hs
end
/-! ### a def at its name -/
def DefAt (K : PySem.W.Frag) (mg : Str → Option Value) (x : Str) (st : Stmt) (ps : List Str) : Prop := ∃ f fd, Fun K x x st f fd ∧ mg x = some (.ref f) ∧ Binds K fd ps []
def CallOk (P : Program) (w : World) (K : PySem.W.Frag) (mg : Str → Option Value) (base : Heap) (k : Nat) (x : Str) (C : Ct) : Prop := ∃ f fd ps, mg x = some (.ref f) ∧ PySem.W.keepIn K (.ref f) = true ∧ Binds K fd ps [] ∧ FK P w K mg base k f fd ps (spOf K C)
theorem CallOk.mono {P : Program} {w : World} {K : PySem.W.Frag} {mg : Str → Option Value} {base : Heap} {j k : Nat} {x : Str} {C : Ct} (h : CallOk P w K mg base j x C) (l : j ≤ k) : CallOk P w K mg base k x C := let ⟨f, fd, ps, a, b, c, d⟩ := h; ⟨f, fd, ps, a, b, c, d.mono l⟩
theorem FK.imp {P : Program} {w : World} {K : PySem.W.Frag} {mg : Str → Option Value} {base : Heap} {k : Nat} {f : Addr} {fd : FuncData} {ps : List Str} {C C' : Ct} (F : FK P w K mg base k f fd ps (spOf K C)) (h : ∀ ds G Q E, C' ds G Q E → C ds G Q E) : FK P w K mg base k f fd ps (spOf K C') :=
  ⟨fun vs H Q E ⟨ds, G, Q0, E0, a, b, c, d⟩ => F.len vs H Q E ⟨ds, G, Q0, E0, a, b, h _ _ _ _ c, d⟩, fun A outer s H args us vs Q E hr hg e0 hb hv ⟨ds, G, Q0, E0, a, b, c, d⟩ => F.run A outer s H args us vs Q E hr hg e0 hb hv ⟨ds, G, Q0, E0, a, b, h _ _ _ _ c, d⟩⟩
section
variable {X : Cx} {k : Nat} {Cn : Ct} {E : DX} {x m : Str} {p pos apos : Pos} {e o : Expr} {es : List Expr} {ta to : DE} {t : DA}
theorem de_fn (F : CallOk X.prog X.w X.K X.mg X.base k x Cn) (hr : Room k X.A) (hgd : X.A.guards = some []) (hE : PassD X E)
    (ha : DPA X (e :: es) t) (hg : Gl X x := by rfl) (hdb : (x == ("__debug__" : Str)) = false := by decide) (he : starEach (e :: es) X.env = (false, eval e X.env) :: starEach es X.env := by rfl) (hpl : (backTo pos (starEach es X.env)).any (·.1) = false := by rfl) :
    DPE X (.Call (.Name x p) (e :: es) [] pos) (dCall Cn E t) := let ⟨_, _, _, a, b, c, d⟩ := F; de_call d hr hgd a b c hE ha hg hdb he hpl
theorem de_fn0 (F : CallOk X.prog X.w X.K X.mg X.base k x Cn) (hr : Room k X.A) (hgd : X.A.guards = some []) (hE : PassD X E)
    (hg : Gl X x := by rfl) (hdb : (x == ("__debug__" : Str)) = false := by decide) : DPE X (.Call (.Name x p) [] [] pos) (dCall Cn E dNil) := let ⟨_, _, _, a, b, c, d⟩ := F; de_call0 d hr hgd a b c hE hg hdb
end
section
variable {P : Program} {w : World} {K : PySem.W.Frag} {mg : Str → Option Value} {base : Heap}
/-- the context of a def's body -/
abbrev cx (P : Program) (w : World) (K : PySem.W.Frag) (mg : Str → Option Value) (base : Heap) (N : List Str) (qual : Str) (sc : Scope) (f : Addr) (cdv : Value) (A : Around) (outer : List Env) (s : Shared) (H : Hp) (EL : XK) : Cx := cxOf (L2.CX P w) P w K mg base N qual sc f cdv A outer s H EL
theorem call_ok {x : Str} {st : Stmt} {N ps : List Str} {k : Nat} {C : Ct} {T : DX → DS} (D : DefAt K mg x st ps) (S : FnScope N ps (defScope st)) (len : ∀ ds G Q E, C ds G Q E → ds.length = ps.length)
    (der : ∀ (f : Addr) (cdv : Value) (A : Around) (outer : List Env) (s : Shared) (H : Hp) (EL : XK) (E : DX), Room k (cx P w K mg base N x (defScope st) f cdv A outer s H EL).A → (cx P w K mg base N x (defScope st) f cdv A outer s H EL).A.guards = some [] →
      PassesOwn (model P w) (cx P w K mg base N x (defScope st) f cdv A outer s H EL).A (cx P w K mg base N x (defScope st) f cdv A outer s H EL).env (cx P w K mg base N x (defScope st) f cdv A outer s H EL).xe →
      PassD (cx P w K mg base N x (defScope st) f cdv A outer s H EL) E → DPSs (cx P w K mg base N x (defScope st) f cdv A outer s H EL) (defBody st) (T E))
    (run : ∀ ds G Q E, C ds G Q E → T E { nx := fun _ G' => DrK Q .non G', rt := DrK Q, bk := fun _ _ => False, ct := fun _ _ => False } (dstart N ds) G) : CallOk P w K mg base (k + 1) x C := by
  obtain ⟨f, fd, F, hm, hb⟩ := D
  exact ⟨f, fd, ps, hm, F.kp, hb, fk_ok F S len (der f) run⟩
end
end FD

namespace FD
open PySem L2
section
variable {X : Cx} {pos : Pos}
theorem pgN (i : Nat) {x : Str} (hN : X.N.Nodup) (hi : X.N[i]? = some x := by rfl) (hx : Loc X.env.scope x := by first | exact .inl rfl | exact .inr rfl) (hf : X.fn x = true ∨ X.env.scope.names.lookup x = some .local := by first | exact .inl rfl | exact .inr rfl | assumption) : PG X (.Name x pos) (gName i) := pg_name hN hi hx hf
end
/-! ### running readings -/
theorem getS_zero {o : Option D} {σ : DSt} : getS (o :: σ) 0 = o := by cases o <;> rfl
theorem getS_succ {o : Option D} {σ : DSt} {n : Nat} : getS (o :: σ) (n + 1) = getS σ n := rfl
theorem atI_zero {α : Type} {x : α} {xs : List α} : atI (x :: xs) 0 = some x := by
  simp [atI, ixN]
theorem ixN_nat {n i : Nat} (h : i < n) : ixN n (i : Int) = some i := by
  unfold ixN
  rw [if_pos (by omega), if_pos (by omega)]
  simp
theorem atI_of {α : Type} {xs : List α} {i : Int} {j : Nat} (e : i = (j : Int)) : atI xs i = xs[j]? := by
  subst e
  unfold atI
  by_cases h : j < xs.length
  · rw [ixN_nat h]
    rfl
  · rw [List.getElem?_eq_none (by omega)]
    unfold ixN
    rw [if_pos (by omega), if_neg (by omega)]
    rfl
theorem atI_cast {α : Type} {xs : List α} {j : Nat} : atI xs (j : Int) = xs[j]? := atI_of rfl
theorem atI_1 {α : Type} {xs : List α} : atI xs 1 = xs[1]? := atI_of (j := 1) rfl
theorem atI_0 {α : Type} {xs : List α} : atI xs 0 = xs[0]? := atI_of (j := 0) rfl
theorem atI_2 {α : Type} {xs : List α} : atI xs 2 = xs[2]? := atI_of (j := 2) rfl
theorem ixN_0 {n : Nat} : ixN (n + 1) 0 = some 0 := ixN_nat (n := n + 1) (i := 0) (by omega)
theorem ixN_1 {n : Nat} : ixN (n + 1 + 1) 1 = some 1 := ixN_nat (n := n + 1 + 1) (i := 1) (by omega)
end FD
namespace FD
open PySem L2
/-! ### steps: one lemma a combinator -/
def tbl (d : D) (G : DG) (Q : Bool → DG → Prop) : Prop := match d with | .bl k => Q k G | _ => False
def br (k : Bool) (A B : Prop) : Prop := if k = true then A else B
def andB (x : D) (G : DG) (A : Prop) (Q : DK) : Prop := match x with | .bl true => A | .bl false => Q (.bl false) G | _ => False
def orB (x : D) (G : DG) (A : Prop) (Q : DK) : Prop := match x with | .bl false => A | .bl true => Q (.bl true) G | _ => False
def notB (x : D) (G : DG) (Q : DK) : Prop := match x with | .bl k => Q (.bl (!k)) G | _ => False
def partB (x : D) (G : DG) (Q : Option Int → DG → Prop) : Prop := match x with | .int i => Q (some i) G | _ => False
def mkT (xs : List D) (G : DG) (Q : DK) : Prop := xs.length ≤ sizeLine ∧ Q (.tup xs) G
def mkL (xs : List D) (G : DG) (Q : DK) : Prop := xs.length ≤ sizeLine ∧ ∀ p, G p = none → Q (.ref p) (up G p (.lst xs))
def rngB (xs : List D) (G : DG) (R : List D → (DG → Prop) → DG → Prop) : Prop := match xs with
  | [.int j] => -(2 ^ 62) ≤ j ∧ j < 2 ^ 62 ∧ R (rangeD 0 j) (fun _ => True) G
  | [.int i, .int j] => (-(2 ^ 62) ≤ i ∧ i < 2 ^ 62 ∧ -(2 ^ 62) ≤ j ∧ j < 2 ^ 62) ∧ R (rangeD i j) (fun _ => True) G
  | _ => False
def seqB (x : D) (G : DG) (R : List D → (DG → Prop) → DG → Prop) : Prop := match x with
  | .tup xs => R xs (fun _ => True) G
  | .lis xs => R xs (fun _ => True) G
  | .ref p => match G p with
    | some (.lst xs) => R xs (fun G' => G' p = some (.lst xs)) G
    | _ => False
  | _ => False
def parB (i j : Nat) (ds : List D) (σ : DSt) (G : DG) (Q : DSt → DG → Prop) : Prop := match ds with
  | [d, e] => Q ((σ.set i (some d)).set j (some e)) G
  | _ => False
section
variable {σ : DSt} {G : DG} {Q : DK} {QB : Bool → DG → Prop} {QL : List D → DG → Prop} {i j : Nat} {d x y : D} {f : F2} {g1 : F1} {fl : FL} {fm : FM} {ta tb tc te : DE} {ts : DA} {c c' : DTt} {t u : DS} {E : DEnds} {nx bk ct : DSt → DG → Prop} {rt : DK} {a b n m : Int} {p q : Addr} {xs ys : List D} {s z : Str} {K : Prop}
theorem s_var (e : getS σ i = some d) (h : Q d G) : dVar i σ G Q := by unfold dVar; rw [e]; exact h
theorem s_c (h : Q d G) : dC d σ G Q := h
theorem s_op (h : ta σ G fun x G1 => tb σ G1 fun y G2 => f x y G2 Q) : dOp f ta tb σ G Q := h
theorem s_un (h : ta σ G fun x G1 => g1 x G1 Q) : dUn g1 ta σ G Q := h
theorem s_cb (h : ts σ G fun xs G1 => fl xs G1 Q) : dCB fl ts σ G Q := h
theorem s_nil (h : QL [] G) : dNil σ G QL := h
theorem s_cons (h : ta σ G fun x G1 => ts σ G1 fun xs G2 => QL (x :: xs) G2) : dCons ta ts σ G QL := h
theorem s_tup (h : ts σ G fun xs G1 => mkT xs G1 Q) : dTup ts σ G Q := h
theorem s_lst (h : ts σ G fun xs G1 => mkL xs G1 Q) : dLst ts σ G Q := h
theorem s_mkT (e : xs.length ≤ sizeLine) (h : Q (.tup xs) G) : mkT xs G Q := ⟨e, h⟩
theorem s_mkL (e : xs.length ≤ sizeLine) (h : ∀ p, G p = none → Q (.ref p) (up G p (.lst xs))) : mkL xs G Q := ⟨e, h⟩
theorem s_mt {to : DE} (h : to σ G fun x G1 => isLst x G1 ∧ ts σ G1 fun xs G2 => fm x xs G2 Q) : dMt fm to ts σ G Q := h
theorem s_isl {A : Prop} (e : G p = some (.lst xs)) (h : A) : isLst (.ref p) G ∧ A := ⟨⟨xs, by simp [lstD, e]⟩, h⟩
theorem s_test (h : ta σ G fun d G' => tbl d G' QB) : dTest ta σ G QB := h
theorem s_tbl {k : Bool} (h : QB k G) : tbl (.bl k) G QB := h
theorem s_not (h : c σ G fun k G1 => QB (!k) G1) : dNot c σ G QB := h
theorem s_and (h : c σ G fun k G1 => br k (c' σ G1 QB) (QB false G1)) : dAnd c c' σ G QB := h
theorem s_or (h : c σ G fun k G1 => br k (QB true G1) (c' σ G1 QB)) : dOr c c' σ G QB := h
theorem s_tru (h : ta σ G fun d G' => optT (truD d G') G' QB) : dTru ta σ G QB := h
theorem s_optT {k : Bool} {o : Option Bool} (e : o = some k) (h : QB k G) : optT o G QB := by rw [e]; exact h
theorem s_ifE (h : c σ G fun k G1 => br k (ta σ G1 Q) (tb σ G1 Q)) : dIfE c ta tb σ G Q := h
theorem s_andV (h : ta σ G fun x G1 => andB x G1 (tb σ G1 Q) Q) : dAndV ta tb σ G Q := h
theorem s_orV (h : ta σ G fun x G1 => orB x G1 (tb σ G1 Q) Q) : dOrV ta tb σ G Q := h
theorem s_notV (h : ta σ G fun x G1 => notB x G1 Q) : dNotV ta σ G Q := h
theorem s_notB {k : Bool} (h : Q (.bl (!k)) G) : notB (.bl k) G Q := h
theorem s_andB {k : Bool} {A : Prop} (h : br k A (Q (.bl false) G)) : andB (.bl k) G A Q := by cases k <;> exact h
theorem s_orB {k : Bool} {A : Prop} (h : br k (Q (.bl true) G) A) : orB (.bl k) G A Q := by cases k <;> exact h
theorem s_asg {g : DTg} (h : ta σ G fun x G1 => g x σ G1 nx) : dAsg ta g ⟨nx, rt, bk, ct⟩ σ G := h
theorem s_gn {QS : DSt → DG → Prop} (h : QS (σ.set i (some d)) G) : dgName i d σ G QS := h
theorem s_gs {to ti : DE} {QS : DSt → DG → Prop} (h : to σ G fun o G1 => ti σ G1 fun i G2 => setD o i d G2 fun G3 => QS σ G3) : dgSub to ti d σ G QS := h
theorem s_setD {k : Int} {R : DG → Prop} (e : G p = some (.lst xs)) (e2 : ixN xs.length k = some j) (h : R (up G p (.lst (xs.set j d)))) : setD (.ref p) (.int k) d G R := ⟨xs, j, e, e2, h⟩
theorem s_gt {gs : DTgs} {QS : DSt → DG → Prop} (h : gs xs σ G QS) (e : xs.length = i) : dgTup i gs (.tup xs) σ G QS := ⟨e, h⟩
theorem s_gtl {gs : DTgs} {QS : DSt → DG → Prop} (h : gs xs σ G QS) (e : xs.length = i) : dgTup i gs (.tpl xs) σ G QS := ⟨e, h⟩
theorem s_gc {g : DTg} {gs : DTgs} {QS : DSt → DG → Prop} (h : g d σ G fun σ' G' => gs xs σ' G' QS) : dgCons g gs (d :: xs) σ G QS := h
theorem s_gni {QS : DSt → DG → Prop} (h : QS σ G) : dgNil [] σ G QS := ⟨rfl, h⟩
theorem s_par (h : ts σ G fun ds G1 => parB i j ds σ G1 nx) : dPar i j ts ⟨nx, rt, bk, ct⟩ σ G := h
theorem s_parB {QS : DSt → DG → Prop} (h : QS ((σ.set i (some x)).set j (some y)) G) : parB i j [x, y] σ G QS := h
theorem s_drop (h : ta σ G fun _ G1 => nx σ G1) : dDrop ta ⟨nx, rt, bk, ct⟩ σ G := h
theorem s_ret (h : ta σ G rt) : dRet ta ⟨nx, rt, bk, ct⟩ σ G := h
theorem s_retN (h : rt .non G) : dRetN ⟨nx, rt, bk, ct⟩ σ G := h
theorem s_if (h : c σ G fun k G1 => br k (t E σ G1) (u E σ G1)) : dIf c t u E σ G := h
theorem s_pass (h : nx σ G) : dPass ⟨nx, rt, bk, ct⟩ σ G := h
theorem s_next (h : nx σ G) : dNext ⟨nx, rt, bk, ct⟩ σ G := h
theorem s_brk (h : bk σ G) : dBreak ⟨nx, rt, bk, ct⟩ σ G := h
theorem s_cnt (h : ct σ G) : dCont ⟨nx, rt, bk, ct⟩ σ G := h
theorem s_seq (h : t ⟨Go u ⟨nx, rt, bk, ct⟩, rt, bk, ct⟩ σ G) : dSeq t u ⟨nx, rt, bk, ct⟩ σ G := h
theorem s_go (h : u E σ G) : Go u E σ G := ⟨G, .refl G, h⟩
theorem s_goD {G0 : DG} (l : Le G0 G) (h : u E σ G0) : Go u E σ G := ⟨G0, l, h⟩
theorem s_rtD {G0 : DG} (l : Le G0 G) (h : Q d G0) : DrK Q d G := ⟨G0, l, h⟩
theorem s_rt (h : Q d G) : DrK Q d G := ⟨G, .refl G, h⟩
theorem s_dr {N : DSt → DG → Prop} {G0 : DG} (l : Le G0 G) (h : N σ G0) : Dr N σ G := ⟨G0, l, h⟩
theorem s_for {ti : DI} {g : DTg} (h : ti σ G fun items ok G1 => DLoop g t ok E items σ G1) : dFor ti g t E σ G := h
theorem s_lc {ti : DI} {bd : D → DSt → Option DSt} {vs : List Nat} (h : ti σ G fun items ok G1 => ∀ p, G1 p = none → DComp bd vs c ta ok p σ Q items (up G1 p (.lst []))) : dLc ti bd vs c ta σ G Q := h
theorem s_rng {R : List D → (DG → Prop) → DG → Prop} (h : ts σ G fun xs G1 => rngB xs G1 R) : diRange ts σ G R := h
theorem s_rng1 {R : List D → (DG → Prop) → DG → Prop} (e : -(2 ^ 62) ≤ a ∧ a < 2 ^ 62) (h : R (rangeD 0 a) (fun _ => True) G) : rngB [.int a] G R := ⟨e.1, e.2, h⟩
theorem s_rng2 {R : List D → (DG → Prop) → DG → Prop} (e : -(2 ^ 62) ≤ a ∧ a < 2 ^ 62 ∧ -(2 ^ 62) ≤ b ∧ b < 2 ^ 62) (h : R (rangeD a b) (fun _ => True) G) : rngB [.int a, .int b] G R := ⟨e, h⟩
theorem s_dseq {R : List D → (DG → Prop) → DG → Prop} (h : ta σ G fun x G1 => seqB x G1 R) : diSeq ta σ G R := h
theorem s_seqT {R : List D → (DG → Prop) → DG → Prop} (h : R xs (fun _ => True) G) : seqB (.tup xs) G R := h
theorem s_seqS {R : List D → (DG → Prop) → DG → Prop} (h : R xs (fun _ => True) G) : seqB (.lis xs) G R := h
theorem s_seqL {R : List D → (DG → Prop) → DG → Prop} (e : G p = some (.lst xs)) (h : R xs (fun G' => G' p = some (.lst xs)) G) : seqB (.ref p) G R := by simp only [seqB, e]; exact h
theorem s_sl {tl th : DO} (h : te σ G fun x G1 => tl σ G1 fun l G2 => th σ G2 fun u G3 => sliceD x l u G3 Q) : dSl te tl th σ G Q := h
theorem s_np {QO : Option Int → DG → Prop} (h : QO none G) : dNoPart σ G QO := h
theorem s_pt {QO : Option Int → DG → Prop} (h : ta σ G fun x G1 => partB x G1 QO) : dPart ta σ G QO := h
theorem s_ptB {QO : Option Int → DG → Prop} (h : QO (some a) G) : partB (.int a) G QO := h
theorem s_sliceT {lo hi : Option Int} (h : Q (.tup (cutD xs lo hi)) G) : sliceD (.tup xs) lo hi G Q := h
theorem s_sliceL {lo hi : Option Int} (e : G p = some (.lst xs)) (h : ∀ n, G n = none → Q (.ref n) (up G n (.lst (cutD xs lo hi)))) : sliceD (.ref p) lo hi G Q := by simp only [sliceD, e]; exact h
theorem s_sliceS {lo hi : Option Int} (h : ∀ n, G n = none → Q (.ref n) (up G n (.lst (cutD xs lo hi)))) : sliceD (.lis xs) lo hi G Q := h
theorem s_call {C : Ct} {X : DX} (h : ts σ G fun ds G1 => UpC C ds G1 Q X) : dCall C X ts σ G Q := h
theorem s_addI (h : Q (.int (a + b)) G) : addD (.int a) (.int b) G Q := h
theorem s_addT (e : xs.length + ys.length ≤ sizeLine) (h : Q (.tup (xs ++ ys)) G) : addD (.tup xs) (.tup ys) G Q := ⟨e, h⟩
theorem s_addL (e1 : G p = some (.lst xs)) (e2 : G q = some (.lst ys)) (e : xs.length + ys.length ≤ sizeLine) (h : ∀ n, G n = none → Q (.ref n) (up G n (.lst (xs ++ ys)))) : addD (.ref p) (.ref q) G Q := ⟨xs, ys, e1, e2, e, h⟩
theorem s_addS (e : s.length + z.length ≤ sizeLine) (h : Q (.str (s ++ z)) G) : addD (.str s) (.str z) G Q := ⟨e, h⟩
theorem s_subI (h : Q (.int (a - b)) G) : subD (.int a) (.int b) G Q := ⟨trivial, h⟩
theorem s_modI (e : 0 < b) (h : Q (.int (a % b)) G) : modD (.int a) (.int b) G Q := ⟨e, h⟩
theorem s_divI (e : CDiv a b) (h : Q (.int (a / b)) G) : divD (.int a) (.int b) G Q := ⟨e, h⟩
theorem s_powI (e : CPow a b) (h : Q (.int (a ^ b.toNat)) G) : powD (.int a) (.int b) G Q := ⟨e, h⟩
theorem s_mulI (e : CMul a b) (h : Q (.int (a * b)) G) : mulD (.int a) (.int b) G Q := ⟨e, h⟩
theorem s_mulL (e1 : G p = some (.lst xs)) (e : (0 ≤ a ∧ a < 2 ^ 62) ∧ xs.length * a.toNat ≤ sizeLine) (h : ∀ n, G n = none → Q (.ref n) (up G n (.lst (List.replicate a.toNat xs).flatten))) : mulD (.ref p) (.int a) G Q := ⟨xs, e1, by omega, by omega, e.2, h⟩
theorem s_mulT (e : xs ≠ [] ∧ -1000 ≤ a ∧ a ≤ 1000 ∧ xs.length ≤ 1000) (h : Q (.tup (List.replicate a.toNat xs).flatten) G) : mulD (.tup xs) (.int a) G Q := ⟨e.1, e.2.1, e.2.2.1, e.2.2.2, h⟩
theorem s_negI (h : Q (.int (-a)) G) : negD (.int a) G Q := h
theorem s_ltI (h : Q (.bl (decide (a < b))) G) : ltD (.int a) (.int b) G Q := ⟨trivial, h⟩
theorem s_leI (h : Q (.bl (decide (a ≤ b))) G) : leD (.int a) (.int b) G Q := ⟨trivial, h⟩
theorem s_gtI (h : Q (.bl (decide (b < a))) G) : gtD (.int a) (.int b) G Q := ⟨trivial, h⟩
theorem s_geI (h : Q (.bl (decide (b ≤ a))) G) : geD (.int a) (.int b) G Q := ⟨trivial, h⟩
theorem s_itT (e : atI xs a = some d) (h : Q d G) : itemD (.tup xs) (.int a) G Q := by simp only [itemD, e]; exact h
theorem s_itS (e : atI xs a = some d) (h : Q d G) : itemD (.lis xs) (.int a) G Q := by simp only [itemD, e]; exact h
theorem s_itL (e1 : G p = some (.lst xs)) (e : atI xs a = some d) (h : Q d G) : itemD (.ref p) (.int a) G Q := by simp only [itemD, e1, e]; exact h
theorem s_eqS (h : Q (.bl (decide (s = z))) G) : eqD (.str s) (.str z) G Q := h
theorem s_neS (h : Q (.bl (!decide (s = z))) G) : neD (.str s) (.str z) G Q := h
theorem s_eqI (h : Q (.bl (a == b)) G) : eqD (.int a) (.int b) G Q := h
theorem s_neI (h : Q (.bl (!(a == b))) G) : neD (.int a) (.int b) G Q := h
theorem s_lenT (h : Q (.int xs.length) G) : lenD [.tup xs] G Q := h
theorem s_lenS (h : Q (.int xs.length) G) : lenD [.lis xs] G Q := h
theorem s_lenL (e : G p = some (.lst xs)) (h : Q (.int xs.length) G) : lenD [.ref p] G Q := by simp only [lenD, optL, seqD, e]; exact h
theorem s_lenX (e : s.length ≤ sizeLine) (h : Q (.int s.length) G) : lenD [.str s] G Q := ⟨e, h⟩
theorem s_listT (h : ∀ p, G p = none → Q (.ref p) (up G p (.lst xs))) : listD [.tup xs] G Q := h
theorem s_listL (e : G p = some (.lst xs)) (h : ∀ n, G n = none → Q (.ref n) (up G n (.lst xs))) : listD [.ref p] G Q := by simp only [listD, optL, seqD, e]; exact h
theorem s_listS (h : ∀ p, G p = none → Q (.ref p) (up G p (.lst xs))) : listD [.lis xs] G Q := h
theorem s_tupT (h : Q (.tup xs) G) : tupleD [.tup xs] G Q := h
theorem s_tupL (e : G p = some (.lst xs)) (h : Q (.tup xs) G) : tupleD [.ref p] G Q := by simp only [tupleD, optL, seqD, e]; exact h
theorem s_maxI (h : Q (.int (if b > a then b else a)) G) : maxD [.int a, .int b] G Q := h
theorem s_minI (h : Q (.int (if b < a then b else a)) G) : minD [.int a, .int b] G Q := h
theorem s_absI (h : Q (.int (if a < 0 then -a else a)) G) : absD [.int a] G Q := h
theorem s_sumL {ns : List Int} (e : G p = some (.lst (ns.map .int))) (h : Q (.int ns.sum) G) : sumD [.ref p] G Q := ⟨ns, by simp [lstD, e, intsD_map], h⟩
theorem s_maxL {ns : List Int} (e : G p = some (.lst (ns.map .int))) (e2 : 0 < ns.length) (h : ∀ m, m ∈ ns → (∀ y, y ∈ ns → y ≤ m) → Q (.int m) G) : maxD [.ref p] G Q := ⟨ns, by simp [lstD, e, intsD_map], e2, h⟩
theorem s_minL {ns : List Int} (e : G p = some (.lst (ns.map .int))) (e2 : 0 < ns.length) (h : ∀ m, m ∈ ns → (∀ y, y ∈ ns → m ≤ y) → Q (.int m) G) : minD [.ref p] G Q := ⟨ns, by simp [lstD, e, intsD_map], e2, h⟩
theorem s_allL {bs : List Bool} (e : G p = some (.lst (bs.map .bl))) (h : Q (.bl (bs.all id)) G) : allD [.ref p] G Q := ⟨bs, by simp [lstD, e, blsD_map], h⟩
theorem s_app (e : G p = some (.lst xs)) (e2 : xs.length < sizeLine) (h : Q .non (up G p (.lst (xs ++ [d])))) : appendD (.ref p) [d] G Q := ⟨xs, e, e2, h⟩
theorem s_ext (e : G p = some (.lst xs)) (e2 : G q = some (.lst ys)) (e3 : xs.length + ys.length ≤ sizeLine) (h : Q .non (up G p (.lst (xs ++ ys)))) : extendD (.ref p) [.ref q] G Q := ⟨xs, ys, e, e2, e3, h⟩
theorem s_ins (e : G p = some (.lst xs)) (e2 : xs.length < sizeLine) (e3 : 0 ≤ a ∧ a < 2 ^ 62) (h : Q .non (up G p (.lst (xs.take a.toNat ++ d :: xs.drop a.toNat)))) : insertD (.ref p) [.int a, d] G Q := ⟨xs, e, e2, e3.1, by omega, h⟩
theorem s_pop (e : G p = some (.lst (xs ++ [d]))) (h : Q d (up G p (.lst xs))) : popD (.ref p) [] G Q := ⟨xs ++ [d], d, e, by simp, by simpa using h⟩
theorem s_clr (e : G p = some (.lst xs)) (h : Q .non (up G p (.lst []))) : clearD (.ref p) [] G Q := ⟨xs, e, h⟩
theorem s_isi {tn nm : String} (e : tyN x G = some tn) (e2 : nm ∈ tys) (h : Q (.bl (isiB tn nm)) G) : isinstD [x, .ty nm] G Q := by simp only [isinstD, e]; exact ⟨e2, h⟩
theorem s_repr {pd : PyData} (e : pyD 9 G x = some pd) (e2 : isCont pd = true) (e3 : RepOk pd) (h : Q (.str pd.shown) G) : reprD [x] G Q := by simp only [reprD, e]; exact ⟨e2, e3, h⟩
theorem s_isNN (h : Q (.bl true) G) : isD false .non .non G Q := h
theorem s_isnNN (h : Q (.bl false) G) : isD true .non .non G Q := h
theorem s_isIN (h : Q (.bl false) G) : isD false (.int a) .non G Q := h
theorem s_isnIN (h : Q (.bl true) G) : isD true (.int a) .non G Q := h
theorem br_t {A B : Prop} (h : A) : br true A B := by unfold br; rw [if_pos rfl]; exact h
theorem br_f {A B : Prop} (h : B) : br false A B := by unfold br; rw [if_neg (by decide)]; exact h
theorem br_dec {c A B : Prop} [Decidable c] (h1 : c → A) (h2 : ¬ c → B) : br (decide c) A B := by
  by_cases h : c
  · rw [decide_eq_true h]; exact br_t (h1 h)
  · rw [decide_eq_false h]; exact br_f (h2 h)
theorem br_pos {c A B : Prop} [Decidable c] (hc : c) (h : A) : br (decide c) A B := by rw [decide_eq_true hc]; exact br_t h
theorem br_neg {c A B : Prop} [Decidable c] (hc : ¬ c) (h : B) : br (decide c) A B := by rw [decide_eq_false hc]; exact br_f h
theorem br_tt {k : Bool} {A B : Prop} (e : k = true) (h : A) : br k A B := e ▸ br_t h
theorem br_ff {k : Bool} {A B : Prop} (e : k = false) (h : B) : br k A B := e ▸ br_f h
theorem br_eq {k k' : Bool} {A B : Prop} (e : k = k') (h : br k' A B) : br k A B := e ▸ h
theorem br_bool {k : Bool} {A B : Prop} (h1 : k = true → A) (h2 : k = false → B) : br k A B := by
  cases k with
  | true => exact br_t (h1 rfl)
  | false => exact br_f (h2 rfl)
theorem up_nx {o o' : O} (e : q ≠ p) (h : G q = some o') : up G p o q = some o' := by rw [up_ne e]; exact h
theorem up_nn {o : O} (e : q ≠ p) (h : G q = none) : up G p o q = none := by rw [up_ne e]; exact h
theorem le_new {G' : DG} {o : O} (h : G p = none) (l : Le G G') : Le G (up G' p o) := fun b ob e => up_nx (gne e h) (l b ob e)
theorem le_up {G' : DG} {o : O} (l : Le G G') : Le (up G p o) (up G' p o) := fun b ob e => by
  by_cases hb : b = p
  · subst hb
    rw [up_same] at e ⊢
    exact e
  · rw [up_ne hb] at e ⊢
    exact l b ob e
theorem le_put {G' : DG} {o : O} (l : Le G G') (h : G' p = some o) : Le (up G p o) G' := fun b ob e => by
  by_cases hb : b = p
  · subst hb
    rw [up_same] at e
    rw [h]
    exact e
  · rw [up_ne hb] at e
    exact l b ob e
theorem up_comm {o o' : O} (h : p ≠ q) : up (up G p o) q o' = up (up G q o') p o := by
  funext b
  unfold up
  by_cases h1 : b = q
  · subst h1
    simp [Ne.symm h]
  · simp [h1]
theorem up_free {o : O} (h : up G p o q = none) : G q = none := by
  by_cases e : q = p
  · subst e
    rw [up_same] at h
    cases h
  · rw [up_ne e] at h
    exact h
theorem up_free_ne {o : O} (h : up G p o q = none) : q ≠ p := fun e => by
  subst e
  rw [up_same] at h
  cases h
def LeX (xs : List Addr) (G G' : DG) : Prop := ∀ b ob, b ∉ xs → G b = some ob → G' b = some ob
theorem LeX.le {G' : DG} (h : LeX [] G G') : Le G G' := fun b ob e => h b ob (by simp) e
theorem lex_refl {ws : List Addr} : LeX ws G G := fun _ _ _ e => e
theorem lex_put {ws : List Addr} {G' : DG} {o : O} (h : G' p = some o) (l : LeX (p :: ws) G G') : LeX ws (up G p o) G' := fun b ob hb e => by
  by_cases h1 : b = p
  · subst h1
    rw [up_same] at e
    rw [h]
    exact e
  · rw [up_ne h1] at e
    exact l b ob (by simp [h1, hb]) e
theorem lex_mem {ws : List Addr} {G' : DG} {o : O} (h : p ∈ ws) (l : LeX ws G G') : LeX ws G (up G' p o) := fun b ob hb e => by
  rw [up_ne (show b ≠ p from fun z => hb (by rw [z]; exact h))]
  exact l b ob hb e
theorem lex_new {ws : List Addr} {G' : DG} {o : O} (h : G p = none) (l : LeX ws G G') : LeX ws G (up G' p o) := fun b ob hb e => by
  rw [up_ne (gne e h)]
  exact l b ob hb e
theorem szL {n : Nat} (h : n ≤ 100000) : n ≤ sizeLine := Nat.le_trans h (by decide)
theorem szLt {n : Nat} (h : n < 100000) : n < sizeLine := Nat.lt_of_lt_of_le h (by decide)
end
/-! ### loops -/
theorem loop_inv {g : DTg} {tb : DS} {ok : DG → Prop} {nx bk ct : DSt → DG → Prop} {rt : DK} {xs : List D} {σ : DSt} {G : DG} (Pv : Nat → DSt → DG → Prop) (h0 : Pv 0 σ G) (hok : ∀ i σ G, i ≤ xs.length → Pv i σ G → ok G)
    (hs : ∀ (i : Nat) (d : D) (σ : DSt) (G : DG) (N : DSt → DG → Prop), xs[i]? = some d → i < xs.length → Pv i σ G → (∀ σ' G' G0, Le G0 G' → Pv (i + 1) σ' G0 → N σ' G') → g d σ G fun σ' G' => tb ⟨N, rt, nx, N⟩ σ' G')
    (hd : ∀ σ G, Pv xs.length σ G → nx σ G) : DLoop g tb ok ⟨nx, rt, bk, ct⟩ xs σ G := by
  have q : ∀ (n i : Nat) (σ : DSt) (G : DG), n = xs.length - i → i ≤ xs.length → Pv i σ G → DLoop g tb ok ⟨nx, rt, bk, ct⟩ (xs.drop i) σ G := by
    intro n
    induction n with
    | zero =>
      intro i σ G hn hi h
      have e : i = xs.length := by omega
      subst e
      rw [List.drop_length]
      exact ⟨hok _ _ _ hi h, hd σ G h⟩
    | succ n ih =>
      intro i σ G hn hi h
      have hlt : i < xs.length := by omega
      rw [List.drop_eq_getElem_cons hlt]
      exact ⟨hok _ _ _ hi h, hs i xs[i] σ G _ (List.getElem?_eq_getElem hlt) hlt h fun σ' G' G0 l p => ⟨G0, l, ih (i + 1) σ' G0 (by omega) (by omega) p⟩⟩
  have := q _ 0 σ G rfl (Nat.zero_le _) h0
  rwa [List.drop_zero] at this
theorem rangeD_get {lo hi : Int} {i : Nat} {d : D} (h : (rangeD lo hi)[i]? = some d) : d = .int (lo + i) ∧ (i : Int) < hi - lo := by
  have hl := (List.getElem?_eq_some_iff.mp h).1
  rw [rangeD_length] at hl
  unfold rangeD at h
  rw [List.getElem?_map, List.getElem?_range hl] at h
  cases h
  exact ⟨rfl, by omega⟩
theorem rangeD_get0 {n : Int} {i : Nat} {d : D} (h : (rangeD 0 n)[i]? = some d) : d = .int (i : Nat) ∧ (i : Int) < n := by
  obtain ⟨h1, h2⟩ := rangeD_get h
  exact ⟨by rw [h1]; simp, by omega⟩
theorem while_by {c : DTt} {tb : DS} {nx bk ct : DSt → DG → Prop} {rt : DK} {σ : DSt} {G : DG} (Pv : DSt → DG → Prop) (mu : DSt → DG → Nat) (h0 : Pv σ G)
    (hs : ∀ (σ : DSt) (G : DG) (N : DSt → DG → Prop), Pv σ G → (∀ σ' G' G0, Le G0 G' → Pv σ' G0 → mu σ' G0 < mu σ G → N σ' G') → c σ G fun k G1 => br k (tb ⟨N, rt, nx, N⟩ σ G1) (nx σ G1)) : dWhile c tb ⟨nx, rt, bk, ct⟩ σ G := by
  have q : ∀ (n : Nat) (σ : DSt) (G : DG), mu σ G < n → Pv σ G → DWh c tb ⟨nx, rt, bk, ct⟩ n σ G := by
    intro n
    induction n with
    | zero => intro σ G h _; omega
    | succ n ih =>
      intro σ G hm h
      exact hs σ G _ h fun σ' G' G0 l p lt => ⟨G0, l, ih σ' G0 (by omega) p⟩
  exact ⟨_, q _ σ G (Nat.lt_succ_self _) h0⟩
/-- a comprehension whose parts leave the heap as it is: a filter and a map over the items -/
theorem comp_pure {α : Type} {bd : D → DSt → Option DSt} {vs : List Nat} {tt : DTt} {te : DE} {ok : DG → Prop} {p : Addr} {σ : DSt} {Q : DK} {G : DG} (xs : List α) (enc : α → D) (keep : α → Bool) (f : α → D) (hlen : xs.length < 100000) (hp : G p = none)
    (hok : ∀ o, ok (up G p o))
    (hs : ∀ x ∈ xs, ∀ o, ∃ σ', bd (enc x) (dwipe σ vs) = some σ' ∧ (∀ QB : Bool → DG → Prop, QB (keep x) (up G p o) → tt σ' (up G p o) QB) ∧ (keep x = true → ∀ QD : DK, QD (f x) (up G p o) → te σ' (up G p o) QD))
    (h : Q (.ref p) (up G p (.lst ((xs.filter keep).map f)))) : DComp bd vs tt te ok p σ Q (xs.map enc) (up G p (.lst [])) := by
  have q : ∀ (r l : List α), xs = l ++ r → DComp bd vs tt te ok p σ Q (r.map enc) (up G p (.lst ((l.filter keep).map f))) := by
    intro r
    induction r with
    | nil =>
      intro l e
      rw [List.append_nil] at e
      subst e
      exact ⟨hok _, h⟩
    | cons x r ih =>
      intro l e
      obtain ⟨σ', h1, h2, h3⟩ := hs x (by rw [e]; simp) (.lst ((l.filter keep).map f))
      refine ⟨hok _, ?_⟩
      rw [h1]
      have e2 : xs = (l ++ [x]) ++ r := by rw [e]; simp
      have nx := ih (l ++ [x]) e2
      refine h2 _ ?_
      cases hk : keep x with
      | false =>
        refine ⟨_, .refl _, ?_⟩
        rw [List.filter_append] at nx
        simpa [hk] using nx
      | true =>
        refine h3 hk _ ⟨_, up_same, ?_, _, .refl _, ?_⟩
        · refine szLt ?_
          rw [List.length_map]
          have a1 := List.length_filter_le keep l
          have a2 : l.length ≤ xs.length := by rw [e]; simp
          omega
        · rw [up_up]
          rw [List.filter_append] at nx
          simpa [hk] using nx
  exact q xs [] rfl
theorem comp_map {α : Type} {bd : D → DSt → Option DSt} {vs : List Nat} {te : DE} {ok : DG → Prop} {p : Addr} {σ : DSt} {Q : DK} {G : DG} (xs : List α) (enc f : α → D) (hlen : xs.length < 100000) (hp : G p = none) (hok : ∀ o, ok (up G p o))
    (hs : ∀ x ∈ xs, ∀ o, ∃ σ', bd (enc x) (dwipe σ vs) = some σ' ∧ ∀ QD : DK, QD (f x) (up G p o) → te σ' (up G p o) QD) (h : Q (.ref p) (up G p (.lst (xs.map f)))) : DComp bd vs dYes te ok p σ Q (xs.map enc) (up G p (.lst [])) := by
  refine comp_pure xs enc (fun _ => true) f hlen hp hok (fun x hx o => ?_) ?_
  · obtain ⟨σ', h1, h2⟩ := hs x hx o
    exact ⟨σ', h1, fun QB h => h, fun _ => h2⟩
  · rw [List.filter_eq_self.mpr (fun _ _ => rfl)]
    exact h
theorem cutD_upto {xs : List D} {n : Nat} : cutD xs none (some (n : Int)) = xs.take n := by
  unfold cutD
  rw [HT.sIx_none, HT.sIx_nat]
  simp only [List.drop_zero, Nat.sub_zero]
  by_cases h : n ≤ xs.length
  · rw [Nat.min_eq_left h]
  · rw [Nat.min_eq_right (by omega), List.take_length, List.take_of_length_le (by omega)]
theorem cutD_from {xs : List D} {n : Nat} : cutD xs (some (n : Int)) none = xs.drop n := by
  unfold cutD
  rw [HT.sIx_none, HT.sIx_nat]
  by_cases h : n ≤ xs.length
  · rw [Nat.min_eq_left h]
    exact List.take_of_length_le (by simp)
  · rw [Nat.min_eq_right (by omega), List.drop_eq_nil_of_le (Nat.le_refl _), List.drop_eq_nil_of_le (by omega), List.take_nil]
/-- a comprehension without a test, by an invariant over the heap -/
theorem comp_inv {bd : D → DSt → Option DSt} {vs : List Nat} {te : DE} {ok : DG → Prop} {p : Addr} {σ : DSt} {Q : DK} {xs : List D} {G : DG} (Pv : Nat → DG → Prop) (h0 : Pv 0 G) (hok : ∀ i G, i ≤ xs.length → Pv i G → ok G)
    (hs : ∀ (i : Nat) (d : D) (G : DG), xs[i]? = some d → i < xs.length → Pv i G → ∃ σ', bd d (dwipe σ vs) = some σ' ∧ ∀ N : DG → Prop, (∀ G' G0, Le G0 G' → Pv (i + 1) G0 → N G') → te σ' G fun y G4 => ∃ acc, G4 p = some (.lst acc) ∧ acc.length < sizeLine ∧ N (up G4 p (.lst (acc ++ [y]))))
    (hd : ∀ G, Pv xs.length G → Q (.ref p) G) : DComp bd vs dYes te ok p σ Q xs G := by
  have q : ∀ (n i : Nat) (G : DG), n = xs.length - i → i ≤ xs.length → Pv i G → DComp bd vs dYes te ok p σ Q (xs.drop i) G := by
    intro n
    induction n with
    | zero =>
      intro i G hn hi h
      have e : i = xs.length := by omega
      subst e
      rw [List.drop_length]
      exact ⟨hok _ _ hi h, hd G h⟩
    | succ n ih =>
      intro i G hn hi h
      have hlt : i < xs.length := by omega
      rw [List.drop_eq_getElem_cons hlt]
      obtain ⟨σ', h1, h2⟩ := hs i xs[i] G (List.getElem?_eq_getElem hlt) hlt h
      refine ⟨hok _ _ hi h, ?_⟩
      rw [h1]
      exact h2 (fun G' => ∃ G0, Le G0 G' ∧ DComp bd vs dYes te ok p σ Q (xs.drop (i + 1)) G0) fun G' G0 l p => ⟨G0, l, ih (i + 1) G0 (by omega) (by omega) p⟩
  have := q _ 0 G rfl (Nat.zero_le _) h0
  rwa [List.drop_zero] at this
end FD

namespace FD
open PySem L2
theorem s_isiL {G : DG} {Q : DK} {p : Addr} {xs : List D} {nm : String} (e : G p = some (.lst xs)) (e2 : nm ∈ tys) (h : Q (.bl (isiB "list" nm)) G) : isinstD [.ref p, .ty nm] G Q := s_isi (tn := "list") (by simp [tyN, e]) e2 h
/-! ### what can be shown -/
structure Okd (b : Nat) (d : PyData) : Prop where
  s : d.showable = true
  l : d.leavesShort 13 = true
  w : d.bulk ≤ b
theorem Okd.mono {b c : Nat} {d : PyData} (h : Okd b d) (l : b ≤ c) : Okd c d := ⟨h.s, h.l, Nat.le_trans h.w l⟩
theorem log_small {n : Nat} (h : n < 10 ^ 12) : n.log2 < 1920 := by
  by_cases h0 : n = 0
  · subst h0
    decide
  · rw [Nat.log2_lt h0]
    exact Nat.lt_of_lt_of_le h (Nat.le_trans (show 10 ^ 12 ≤ 2 ^ 40 by decide) (Nat.pow_le_pow_right (by decide) (by decide)))
theorem okd_int {i : Int} (h : i.natAbs < 10 ^ 12) : Okd 0 (.int i) := ⟨by simpa [PyData.showable] using log_small h, by simpa [PyData.leavesShort] using PyData.shown_int_le h, by simp [PyData.bulk]⟩
theorem okd_none : Okd 0 .none := ⟨rfl, rfl, by simp [PyData.bulk]⟩
theorem okd_bool {k : Bool} : Okd 0 (.bool k) := ⟨rfl, rfl, by simp [PyData.bulk]⟩
theorem okd_all {b : Nat} : ∀ {ds : List PyData}, (∀ d ∈ ds, Okd b d) → PyData.showableAll ds = true ∧ PyData.leavesShortAll 13 ds = true ∧ PyData.bulkAll ds ≤ ds.length * (b + 1)
  | [], _ => ⟨rfl, rfl, by simp [PyData.bulkAll]⟩
  | d :: ds, h => by
    obtain ⟨h1, h2, h3⟩ := okd_all (ds := ds) fun d hd => h d (by simp [hd])
    have hd := h d (by simp)
    refine ⟨by simp [PyData.showableAll, hd.s, h1], by simp [PyData.leavesShortAll, hd.l, h2], ?_⟩
    have := hd.w
    simp only [PyData.bulkAll, List.length_cons, Nat.succ_mul]
    omega
theorem okd_list {b n : Nat} {ds : List PyData} (h : ∀ d ∈ ds, Okd b d) (hn : ds.length ≤ n) : Okd (n * (b + 1)) (.list ds) := by
  obtain ⟨h1, h2, h3⟩ := okd_all h
  exact ⟨by simpa [PyData.showable] using h1, by simpa [PyData.leavesShort] using h2, by simpa [PyData.bulk] using Nat.le_trans h3 (Nat.mul_le_mul_right _ hn)⟩
theorem okd_tuple {b n : Nat} {ds : List PyData} (h : ∀ d ∈ ds, Okd b d) (hn : ds.length ≤ n) : Okd (n * (b + 1)) (.tuple ds) := by
  obtain ⟨h1, h2, h3⟩ := okd_all h
  exact ⟨by simpa [PyData.showable] using h1, by simpa [PyData.leavesShort] using h2, by simpa [PyData.bulk] using Nat.le_trans h3 (Nat.mul_le_mul_right _ hn)⟩
theorem Okd.rep {b : Nat} {d : PyData} (h : Okd b d) (hb : b ≤ 2 ^ 20) : RepOk d := ⟨h.s, PyData.shown_fits_bulk (B := 13) (by decide) (by decide) h.l (Nat.le_trans h.w hb)⟩
theorem pyAll_map {α : Type} {f : D → Option PyData} {enc : α → D} {encP : α → PyData} : ∀ {xs : List α}, (∀ x ∈ xs, f (enc x) = some (encP x)) → pyAll f (xs.map enc) = some (xs.map encP)
  | [], _ => rfl
  | x :: xs, h => by
    rw [List.map_cons, List.map_cons]
    unfold pyAll
    rw [h x (by simp), pyAll_map fun y hy => h y (by simp [hy])]
theorem pyD_ref {n : Nat} {G : DG} {p : Addr} {xs : List D} {ps : List PyData} (h : G p = some (.lst xs)) (e : pyAll (pyD n G) xs = some ps) : pyD (n + 1) G (.ref p) = some (.list ps) := by
  simp only [pyD, h, e, Option.map_some]
theorem pyD_tup {n : Nat} {G : DG} {xs : List D} {ps : List PyData} (e : pyAll (pyD n G) xs = some ps) : pyD (n + 1) G (.tup xs) = some (.tuple ps) := by
  simp only [pyD, e, Option.map_some]
theorem pyD_int {n : Nat} {G : DG} {i : Int} : pyD n G (.int i) = some (.int i) := by cases n <;> rfl
theorem pyD_bl {n : Nat} {G : DG} {i : Bool} : pyD n G (.bl i) = some (.bool i) := by cases n <;> rfl
theorem pyD_non {n : Nat} {G : DG} : pyD n G .non = some .none := by cases n <;> rfl
theorem pyAll_nil {f : D → Option PyData} : pyAll f [] = some [] := rfl
theorem pyAll_c {f : D → Option PyData} {x : D} {xs : List D} {p : PyData} {ps : List PyData} (h : f x = some p) (h2 : pyAll f xs = some ps) : pyAll f (x :: xs) = some (p :: ps) := by
  unfold pyAll
  rw [h, h2]
/-! ### closed data: looked for, compared -/
structure EncOk {α : Type} [DecidableEq α] (enc : α → D) (encP : α → PyData) : Prop where
  py : ∀ (n : Nat) (G : DG) (x : α), pyD (n + 4) G (enc x) = some (encP x)
  eq : ∀ x y : α, PyData.eqv (encP x) (encP y) = decide (x = y)
theorem EncOk.any {α : Type} [DecidableEq α] {enc : α → D} {encP : α → PyData} (h : EncOk enc encP) (x : α) : ∀ xs : List α, ((xs.map encP).any fun z => PyData.eqv z (encP x)) = decide (x ∈ xs)
  | [] => by simp
  | y :: ys => by
    rw [List.map_cons, List.any_cons, h.any x ys, h.eq]
    by_cases e : y = x
    · subst e
      simp
    · simp [e, Ne.symm e]
theorem EncOk.all {α : Type} [DecidableEq α] {enc : α → D} {encP : α → PyData} (h : EncOk enc encP) : ∀ xs ys : List α, PyData.eqvAll (xs.map encP) (ys.map encP) = decide (xs = ys)
  | [], [] => by simp [PyData.eqvAll]
  | [], _ :: _ => by simp [PyData.eqvAll]
  | _ :: _, [] => by simp [PyData.eqvAll]
  | x :: xs, y :: ys => by
    rw [List.map_cons, List.map_cons, PyData.eqvAll, h.eq, h.all xs ys]
    by_cases e : x = y <;> by_cases e2 : xs = ys <;> simp [e, e2]
theorem EncOk.pyRef {α : Type} [DecidableEq α] {enc : α → D} {encP : α → PyData} (h : EncOk enc encP) {n : Nat} {G : DG} {p : Addr} {xs : List α} (e : G p = some (.lst (xs.map enc))) : pyD (n + 5) G (.ref p) = some (.list (xs.map encP)) := pyD_ref e (pyAll_map fun x _ => h.py n G x)
theorem EncOk.pyTup {α : Type} [DecidableEq α] {enc : α → D} {encP : α → PyData} (h : EncOk enc encP) {n : Nat} {G : DG} {xs : List α} : pyD (n + 5) G (.tup (xs.map enc)) = some (.tuple (xs.map encP)) := pyD_tup (pyAll_map fun x _ => h.py n G x)
section
variable {α : Type} [DecidableEq α] {enc : α → D} {encP : α → PyData} {G : DG} {Q : DK} {p q : Addr} {xs ys : List α} {x y : α}
theorem s_inE (h : EncOk enc encP) (e : G p = some (.lst (xs.map enc))) (k : Q (.bl (decide (x ∈ xs))) G) : inD false (enc x) (.ref p) G Q := by
  unfold inD
  rw [h.py 5, h.pyRef (n := 4) e]
  simp only [Option.bind_some, items?, h.any]
  exact k
theorem s_ninE (h : EncOk enc encP) (e : G p = some (.lst (xs.map enc))) (k : Q (.bl (!decide (x ∈ xs))) G) : inD true (enc x) (.ref p) G Q := by
  unfold inD
  rw [h.py 5, h.pyRef (n := 4) e]
  simp only [Option.bind_some, items?, h.any]
  exact k
theorem s_inET (h : EncOk enc encP) (k : Q (.bl (decide (x ∈ xs))) G) : inD false (enc x) (.tup (xs.map enc)) G Q := by
  unfold inD
  rw [h.py 5, h.pyTup (n := 4)]
  simp only [Option.bind_some, items?, h.any]
  exact k
theorem s_ninET (h : EncOk enc encP) (k : Q (.bl (!decide (x ∈ xs))) G) : inD true (enc x) (.tup (xs.map enc)) G Q := by
  unfold inD
  rw [h.py 5, h.pyTup (n := 4)]
  simp only [Option.bind_some, items?, h.any]
  exact k
theorem s_eqLE (h : EncOk enc encP) (e : G p = some (.lst (xs.map enc))) (e2 : G q = some (.lst (ys.map enc))) (k : Q (.bl (decide (xs = ys))) G) : eqD (.ref p) (.ref q) G Q := by
  show py2 _ _ G _
  unfold py2
  rw [h.pyRef (n := 4) e, h.pyRef (n := 4) e2]
  simp only [PyData.eqv, h.all]
  exact k
theorem s_neLE (h : EncOk enc encP) (e : G p = some (.lst (xs.map enc))) (e2 : G q = some (.lst (ys.map enc))) (k : Q (.bl (!decide (xs = ys))) G) : neD (.ref p) (.ref q) G Q := by
  show py2 _ _ G _
  unfold py2
  rw [h.pyRef (n := 4) e, h.pyRef (n := 4) e2]
  simp only [PyData.eqv, h.all]
  exact k
theorem s_eqNI {a : Int} (k : Q (.bl false) G) : eqD .non (.int a) G Q := k
end
abbrev encN (n : Nat) : D := .int n
abbrev shN (n : Nat) : PyData := .int n
theorem ok_N : EncOk encN shN := ⟨fun n G x => pyD_int, fun x y => by
  simp only [PyData.eqv]
  by_cases h : x = y
  · simp [h]
  · simp [h]; omega⟩
abbrev encNN (p : Nat × Nat) : D := .tup [.int p.1, .int p.2]
abbrev showNN (p : Nat × Nat) : PyData := .tuple [.int p.1, .int p.2]
theorem ok_NN : EncOk encNN showNN := ⟨fun n G x => pyD_tup (pyAll_c pyD_int (pyAll_c pyD_int pyAll_nil)), fun x y => by
  simp only [PyData.eqv, PyData.eqvAll, Bool.and_true]
  obtain ⟨a, b⟩ := x
  obtain ⟨c, d⟩ := y
  simp only [Prod.mk.injEq]
  by_cases h : a = c <;> by_cases h2 : b = d <;> simp [h, h2] <;> omega⟩
abbrev encO : Option Nat → D
  | none => .non
  | some n => .int n
abbrev shO : Option Nat → PyData
  | none => .none
  | some n => .int n
theorem ok_O : EncOk encO shO := ⟨fun n G x => by cases x with | none => exact pyD_non | some n => exact pyD_int, fun x y => by
  cases x with
  | none => cases y with
    | none => simp [PyData.eqv]
    | some n => simp [PyData.eqv]
  | some m => cases y with
    | none => simp [PyData.eqv]
    | some n =>
      simp only [PyData.eqv]
      by_cases h : m = n
      · simp [h]
      · simp [h]; omega⟩
theorem sorted_uniq {xs ys : List Int} (h : xs.Perm ys) (h1 : xs.Pairwise (· ≤ ·)) (h2 : ys.Pairwise (· ≤ ·)) : xs = ys := h.eq_of_pairwise (fun a b _ _ h1 h2 => Int.le_antisymm h1 h2) h1 h2
theorem s_sortN {G : DG} {Q : DK} {p : Addr} {ks ks' : List Nat} (e : G p = some (.lst (ks.map encN))) (hp : ks'.Perm ks) (hs : ks'.Pairwise (· < ·)) (k : ∀ p, G p = none → Q (.ref p) (up G p (.lst (ks'.map encN)))) : sortedD [.ref p] G Q := by
  have e2 : ks.map encN = (ks.map fun k : Nat => (k : Int)).map D.int := by rw [List.map_map]; rfl
  have e3 : ks'.map encN = (ks'.map fun k : Nat => (k : Int)).map D.int := by rw [List.map_map]; rfl
  refine ⟨ks.map fun k : Nat => (k : Int), by rw [show lstD (.ref p) G = some (ks.map encN) by simp [lstD, e], e2]; exact intsD_map _, fun ns' h1 h2 q hq => ?_⟩
  have : ns' = ks'.map fun k : Nat => (k : Int) := by
    refine sorted_uniq (h1.trans (hp.symm.map _)) h2 ?_
    rw [List.pairwise_map]
    exact hs.imp fun h => by omega
  rw [this, ← e3]
  exact k q hq
/-! ### defs that call themselves -/
theorem call_none {P : Program} {w : World} {K : PySem.W.Frag} {mg : Str → Option Value} {base : Heap} {x : Str} {st : Stmt} {ps : List Str} {k : Nat} {C : Ct} (D0 : DefAt K mg x st ps) (h : ∀ ds G Q E, ¬ C ds G Q E) : CallOk P w K mg base k x C := by
  obtain ⟨f, fd, F, hm, hb⟩ := D0
  refine ⟨f, fd, ps, hm, F.kp, hb, fun vs H Q E ⟨ds, G, Q0, E0, _, _, c, _⟩ => absurd c (h _ _ _ _), fun A outer s H args us vs Q E hr hg e0 hb hv ⟨ds, G, Q0, E0, _, _, c, _⟩ => absurd c (h _ _ _ _)⟩
end FD

/-! ### enumerate of a tuple -/
namespace FD
open PySem
theorem newEnumT {v : Value} {o : Obj} {Hs : Heap → Prop} (B : Begins v o Hs) : Meets (Builtin.«enumerate.__new__» ⟨[.type "enumerate", v], []⟩) (fun _ R s => Hs s.heap ∧
      R (.ok (.ret (.ref (s.heap.push o).objs.size))) { s with heap := (s.heap.push o).push { cls := .type "enumerate", data := .fields #[.none, .bool false, .ref s.heap.objs.size, rawInt 0, .none, .none] } }) := by
  refine .of_wp fun prog w A R s h => ?_
  obtain ⟨hp, gg, dd, tk, os⟩ := s
  obtain ⟨h1, h⟩ := h
  have hsub := sub_enumerate
  have fresh : ∀ {A' : Around} {E : Value → Shared → Prop} {Q : Value → Shared → Prop}, Q (.ref hp.objs.size) ⟨hp.push o, gg, dd, tk, os⟩ → wpAny (model prog w) A' (pyIter v) Q E ⟨hp, gg, dd, tk, os⟩ := fun q => B.iter prog w _ _ ⟨hp, gg, dd, tk, os⟩ _ h1 q
  wp_walk using fresh
  refine wpAny_stack_any fun st => wpAny_pure ?_
  split
  · rename_i c _ _ _ _ _
    cases (c == Value.type "enumerate") <;> (wp_walk using fresh; exact ⟨_, rfl, h⟩)
  · wp_walk using fresh
    exact ⟨_, rfl, h⟩
theorem callEnumT {prog : Program} {w : World} {A : Around} {E : Value → Shared → Prop} {s : Shared} {v : Value} {o : Obj} {Hs : Heap → Prop} {Q : Value → Shared → Prop} (B : Begins v o Hs) (h1 : Hs s.heap)
    (h : ∀ h', IsEnum h' (s.heap.objs.size + 1) s.heap.objs.size 0 .none → h'.get? s.heap.objs.size = some o → (∀ b u, s.heap.get? b = some u → h'.get? b = some u) → Q (.ref (s.heap.objs.size + 1)) { s with heap := h' }) :
    wpAny (model prog w) A (call (.type "enumerate") [v]) Q E s := by
  refine callType_new F.called_enumerate (by decide) (F.typeCall_enumerate_1 _) (F.newCall_enumerate_1 _) (fun obj => F.args_object_init_2 obj _) F.entry_enumerate_new (newEnumT B) ⟨h1, ?_⟩
  have hz : (s.heap.push o).objs.size = s.heap.objs.size + 1 := Heap.size_push ..
  show _ ∧ _
  rw [hz]
  have he : IsEnum ((s.heap.push o).push { cls := .type "enumerate", data := .fields #[.none, .bool false, .ref s.heap.objs.size, rawInt 0, .none, .none] }) (s.heap.objs.size + 1) s.heap.objs.size 0 .none := by
    have q := Heap.get?_push_size (s.heap.push o) (o := { cls := .type "enumerate", data := .fields #[.none, .bool false, .ref s.heap.objs.size, rawInt 0, .none, .none] }) rfl
    rw [hz] at q
    exact q
  exact ⟨⟨_, he, rfl⟩, h _ he (Heap.get?_push_of_some _ (Heap.get?_push_size _ B.free)) fun b u x => Heap.get?_push_of_some _ (Heap.get?_push_of_some _ x)⟩
open L2
/-- the tuple at a, each item in a new pair -/
def ItEt (K : PySem.W.Frag) (a : Addr) : It :=
  ⟨fun i H => ∃ (xs : List V) (x : V), SqT K H a xs ∧ xs[i]? = some x, fun i H v H' => ∃ T x, v = .ref T ∧ H T = none ∧ H' = upd H T (.tup [.int (i : Nat), x]) ∧ ∀ xs, SqT K H a xs → xs[i]? = some x, fun i H => ∃ xs : List V, SqT K H a xs ∧ xs.length ≤ i⟩
theorem turn_enT {P : Program} {w : World} {K : PySem.W.Frag} {elts : List Expr} {kk : Nat} {tpos : Pos} (a e it : Addr) (hai : a ≠ it) (hae : a ≠ e) :
    Turn P w K (.Tuple elts kk tpos) (ItEt K a) [e, it] e (fun i h => (∃ old, IsEnum h e it ((i : Nat) : Int) old) ∧ h.IsTupleIter it a i ∧ e ≠ it) := by
  refine ⟨by simp, fun i h st b hb => ?_, fun i h h' st k => ?_, ?_, ?_, fun A i s Q E st h => let ⟨⟨_, he⟩, _⟩ := st; wpAny_pyIter_enum he h⟩
  · obtain ⟨⟨old, he⟩, ⟨o, ho, hc, hd⟩, _⟩ := st
    rcases (show b = e ∨ b = it by simpa using hb) with z | z
    · subst z
      exact ⟨_, he, fun v q => nomatch q⟩
    · subst z
      exact ⟨o, ho, fun v q => by rw [hd] at q; cases q⟩
  · obtain ⟨⟨old, he⟩, hi, hne⟩ := st
    exact ⟨⟨old, k e (by simp) _ he⟩, hi.at fun o q => k it (by simp) o q, hne⟩
  · intro X hP hw hK hc i pins s σ H E I hf st hg
    subst hP hw hK
    obtain ⟨⟨old, he⟩, hit, hne⟩ := st
    obtain ⟨xs, x, hq, hx⟩ := hg
    obtain ⟨its, rv, p, hz⟩ := I.tuple hq
    obtain ⟨u, hu, ru⟩ := rv.get hx
    have hel : e < s.heap.objs.size := Heap.lt_size he
    have hil : it < s.heap.objs.size := by obtain ⟨_, q, _⟩ := hit; exact Heap.lt_size q
    have hlen : i < its.toArray.size := by
      have := (List.getElem?_eq_some_iff.mp hu).1
      simpa using this
    refine wpAny_pyNext_enum_itemD (Draws.tuple (prog := X.prog) (w := X.w) (A := X.A.in1) (I.ok.hd hc) it a hai its.toArray) he ⟨hit, p⟩ hlen hne (by simp [hne, Ne.symm hae]) fun y h' tk hy ho hit' hT hsz hk => ?_
    have ey : y = u := by
      have h1 : its[i]? = some y := by simpa using hy
      rw [hu] at h1
      exact (Option.some.inj h1).symm
    subst ey
    refine ⟨_, rfl, wpAny_letOwnedTupleGo_enum (s := { s with heap := h', toks := tk + 1 }) ho fun h'' he' sb => ?_⟩
    have hT2 : h''.get? s.heap.objs.size = some { cls := .type "tuple", data := .seq #[.int i tk, y] } := (sb.2 _ (Nat.ne_of_gt hel)).trans hT
    have new : ObjOk X.prog X.w (upd H s.heap.objs.size (.tup [.int (i : Nat), x])) h'' s.heap.objs.size (.tup [.int (i : Nat), x]) :=
      ⟨by show 2 ≤ sizeLine; decide, [.int i tk, y], .cons ⟨_, rfl⟩ (.cons ru .nil), ⟨_, hT2, rfl, _, rfl⟩⟩
    have I1 : Inv X pins σ (upd H s.heap.objs.size (.tup [.int (i : Nat), x])) { s with heap := h'', toks := tk + 1 } :=
      I.turnedNew (ch := [e, it]) (fun b ob hb q => (sb.2 b (fun z => hb (by simp [z]))).trans (hk b ob (fun z => hb (by simp [z])) (fun z => hb (by simp [z])) q)) hf (Nat.le_refl _) new
    refine ⟨.ref s.heap.objs.size, _, I1, rfl, ⟨_, x, rfl, I.hok.fresh (Nat.le_refl _), rfl, fun ys hy => by rw [I.tuple_inj hy hq]; exact hx⟩, ⟨⟨y, ?_⟩, hit'.1.at fun o q => (sb.2 it (Ne.symm hne)).trans q, hne⟩, fun b hb => ?_⟩
    · rw [show ((i + 1 : Nat) : Int) = (i : Int) + 1 by omega]
      exact he'
    · have hb' : b < s.heap.objs.size := by
        rcases (show b = e ∨ b = it by simpa using hb) with z | z
        · rw [z]
          exact hel
        · rw [z]
          exact hil
      rw [upd_ne (Nat.ne_of_lt hb')]
      exact (hf b hb).1
  · intro X hP hw hK hc i pins s σ H E I hf st hg
    subst hP hw hK
    obtain ⟨⟨old, he⟩, hit, hne⟩ := st
    obtain ⟨xs, hq, hx⟩ := hg
    obtain ⟨its, rv, p, hz⟩ := I.tuple hq
    obtain ⟨f0, f1, f2, f3, f4, f5⟩ := hf it (by simp)
    have hl := rv.length
    have D2 : Draws X.prog X.w X.A.in1 it [it, a] i (fun _ _ => True) (fun k h => k = i ∧ h.IsTupleIter it a i ∧ h.IsTuple a its.toArray) :=
      ⟨fun _ _ st => let ⟨o, ho, _⟩ := st.2.1; ⟨o, ho⟩, fun _ _ _ st hk => ⟨st.1, st.2.1.at fun o e => hk it (by simp) o e, st.2.2.at fun o e => hk a (by simp) o e⟩, fun k s Q E hk st _ => absurd st.1 (Nat.ne_of_lt hk), fun s Q E st hE => wpAny_nextOf_tuple_end (I.ok.hd hc) st.2.1 st.2.2 (by simp; omega) hE⟩
    exact wpAny_pyNext_enum_endD D2 he ⟨rfl, hit, p⟩ fun h' eb => ⟨rfl, I.turned (t' := s.toks) (fun b o hb q => eb b o hb q) f0 f1 f3 f4 f5⟩
/-- enumerate of a list or a tuple -/
def iEnV (K : PySem.W.Frag) (ta : TA) : TI := fun σ H R => ta σ H fun vs H1 => ∃ a, vs = [.ref a] ∧ ((∃ xs, SqL K H1 a xs ∧ R (Ite K a) H1) ∨ ∃ xs, SqT K H1 a xs ∧ R (ItEt K a) H1)
theorem pi_enV {X : Cx} {e : Expr} {ta : TA} {p pos tpos : Pos} {elts : List Expr} {kk : Nat} (hg : Gl X "enumerate") (hm : X.mg "enumerate" = none) (ha : PA X [e] ta) (hs : starEach [e] X.env = [(false, eval e X.env)] := by rfl) :
    PI X (.Tuple elts kk tpos) (.Call (.Name "enumerate" p) [e] [] pos) (iEnV X.K ta) := by
  refine ⟨fun pins s σ H R I h => ?_⟩
  refine PyProof.Rows.Call_ (ld_blt I hg hm PyProof.Rows.boot_enumerate (PyProof.Rows.callWith_type1 (thn (ha.run pos pins s σ H _ I h) fun us s1 ⟨vs, H1, I1, r1, q1⟩ => ?_) hs rfl))
  obtain ⟨a, ex, q⟩ := q1
  subst ex
  cases r1 with
  | cons r rr =>
    cases rr
    cases r
    have two : ∀ b ∈ [s1.heap.objs.size + 1, s1.heap.objs.size], s1.heap.objs.size ≤ b := fun b hb => by
      rcases (show b = s1.heap.objs.size + 1 ∨ b = s1.heap.objs.size by simpa using hb) with z | z
      · rw [z]
        exact Nat.le_add_right _ _
      · rw [z]
        exact Nat.le_refl _
    rcases q with ⟨xs, hq, q⟩ | ⟨xs, hq, q⟩
    · obtain ⟨its, rv, p', hz⟩ := I1.list hq
      refine callEnumT (begins_list a its.toArray) p'.isList fun h' he hit hk => wpAny_pyIter_enum he ?_
      exact ⟨s1.heap.objs.size + 1, [s1.heap.objs.size + 1, s1.heap.objs.size], _, _, H1, rfl, I1.kept (t' := s1.toks) hk, turn_enum a (s1.heap.objs.size + 1) s1.heap.objs.size, ⟨⟨.none, he⟩, ⟨_, hit, rfl, rfl⟩, Nat.succ_ne_self _⟩, fun b hb => I1.fpOk (two b hb) (I1.hok.fresh (two b hb)), q⟩
    · obtain ⟨its, rv, p', hz⟩ := I1.tuple hq
      have hlt : a < s1.heap.objs.size := by obtain ⟨_, z, _⟩ := p'; exact Heap.lt_size z
      refine callEnumT (begins_tuple a its.toArray) p' fun h' he hit hk => wpAny_pyIter_enum he ?_
      exact ⟨s1.heap.objs.size + 1, [s1.heap.objs.size + 1, s1.heap.objs.size], _, _, H1, rfl, I1.kept (t' := s1.toks) hk, turn_enT a (s1.heap.objs.size + 1) s1.heap.objs.size (Nat.ne_of_lt hlt) (Nat.ne_of_lt (Nat.lt_succ_of_lt hlt)), ⟨⟨.none, he⟩, ⟨_, hit, rfl, rfl⟩, Nat.succ_ne_self _⟩, fun b hb => I1.fpOk (two b hb) (I1.hok.fresh (two b hb)), q⟩
def enumD (xs : List D) : List D := xs.zipIdx.map fun p => D.tpl [.int p.2, p.1]
theorem enumD_get {xs : List D} {i : Nat} {d : D} (h : (enumD xs)[i]? = some d) : ∃ x, xs[i]? = some x ∧ d = .tpl [.int i, x] := by
  unfold enumD at h
  rw [List.getElem?_map, List.getElem?_zipIdx] at h
  cases e : xs[i]? with
  | none => rw [e] at h; cases h
  | some x =>
    rw [e] at h
    cases h
    exact ⟨x, rfl, by simp⟩
theorem enumD_length {xs : List D} : (enumD xs).length = xs.length := by simp [enumD]
def diEnumerate (t : DA) : DI := fun σ G R => t σ G fun xs G1 => match xs with
  | [.tup ys] => R (enumD ys) (fun _ => True) G1
  | [.lis ys] => R (enumD ys) (fun _ => True) G1
  | [.ref p] => match G1 p with
    | some (.lst ys) => R (enumD ys) (fun G' => G' p = some (.lst ys)) G1
    | _ => False
  | _ => False
theorem pair_rd {K : PySem.W.Frag} {H : Hp} {T : Addr} {i : Nat} {x : V} {d : D} (hT : H T = none) (r : RD K H d x) : RD K (upd H T (.tup [.int (i : Nat), x])) (.tpl [.int i, d]) (.ref T) := by
  refine .tpl (vs := [.int (i : Nat), x]) (.inl (.inl (upd_same ..))) rfl fun k y v hy hv => ?_
  match k with
  | 0 => cases hy; cases hv; exact .int _
  | 1 => cases hy; cases hv; exact r.kt (.upd_new hT)
  | k + 2 => cases hy
theorem itOk_enL {K : PySem.W.Frag} {H1 : Hp} {p : Addr} {xs : List D} {ok : DG → Prop} (h : ∀ G' H', KT K H1 H' → MH K G' H' → ok G' → ∃ vs, SqL K H' p vs ∧ RDs K H' xs vs) : ItOk K H1 (Ite K p) (enumD xs) ok := fun i H' G' k m o => by
  obtain ⟨vs, hq, r⟩ := h G' H' k m o
  refine ⟨fun d hd => ?_, fun hl => ⟨vs, hq, by rw [← r.1, ← enumD_length]; exact hl⟩⟩
  obtain ⟨x, hx, rfl⟩ := enumD_get hd
  obtain ⟨v, h1, h2⟩ := r.get hx
  refine ⟨⟨vs, v, hq, h1⟩, fun y H'' z => ?_⟩
  obtain ⟨T, w, rfl, hT, rfl, e⟩ := z
  have e := e vs hq
  rw [h1] at e
  cases e
  exact ⟨m.new (.upd_new hT) (m.fresh hT), .upd_new hT, pair_rd hT h2⟩
theorem itOk_enT {K : PySem.W.Frag} {H1 : Hp} {p : Addr} {xs : List D} {ok : DG → Prop} (h : ∀ G' H', KT K H1 H' → MH K G' H' → ok G' → ∃ vs, SqT K H' p vs ∧ RDs K H' xs vs) : ItOk K H1 (ItEt K p) (enumD xs) ok := fun i H' G' k m o => by
  obtain ⟨vs, hq, r⟩ := h G' H' k m o
  refine ⟨fun d hd => ?_, fun hl => ⟨vs, hq, by rw [← r.1, ← enumD_length]; exact hl⟩⟩
  obtain ⟨x, hx, rfl⟩ := enumD_get hd
  obtain ⟨v, h1, h2⟩ := r.get hx
  refine ⟨⟨vs, v, hq, h1⟩, fun y H'' z => ?_⟩
  obtain ⟨T, w, rfl, hT, rfl, e⟩ := z
  have e := e vs hq
  rw [h1] at e
  cases e
  exact ⟨m.new (.upd_new hT) (m.fresh hT), .upd_new hT, pair_rd hT h2⟩
theorem di_enumerate {X : Cx} {e : Expr} {t : DA} {p pos tpos : Pos} {elts : List Expr} {kk : Nat} (hg : Gl X "enumerate") (hm : X.mg "enumerate" = none) (ha : DPA X [e] t) (hs : starEach [e] X.env = [(false, eval e X.env)] := by rfl) :
    DPI X (.Tuple elts kk tpos) (.Call (.Name "enumerate" p) [e] [] pos) (diEnumerate t) := by
  obtain ⟨ma, tta, pa, ra⟩ := ha
  refine ⟨fun σ G R R' h q => ma σ G _ _ (fun xs G1 z => ?_) q, _, pi_enV hg hm pa hs, fun σ H σd G R m s h => ra σ H σd G _ m s (ma _ _ _ _ (fun ds G1 z vs H1 m1 r1 k1 => ?_) h)⟩
  · split at z
    · exact h _ _ _ z
    · exact h _ _ _ z
    · split at z <;> first | exact h _ _ _ z | exact z
    · exact z
  · split at z
    · obtain ⟨v, vs', rfl, a1, a2⟩ := r1.cons_inv
      have e := a2.nil_inv
      subst e
      cases a1 with
      | @tup p _ vs hs hl hi => exact ⟨p, rfl, .inr ⟨vs, hs.t, z _ H1 m1 k1 (itOk_enT fun G' H' k' m' o => ⟨vs, k'.sqt hs.t, RDs.kt k' ⟨hl, hi⟩⟩)⟩⟩
    · obtain ⟨v, vs', rfl, a1, a2⟩ := r1.cons_inv
      have e := a2.nil_inv
      subst e
      cases a1 with
      | @lis p _ vs hs hl hi => exact ⟨p, rfl, .inl ⟨vs, hs.l, z _ H1 m1 k1 (itOk_enL fun G' H' k' m' o => ⟨vs, (k'.sqr hs).l, RDs.kt k' ⟨hl, hi⟩⟩)⟩⟩
    · obtain ⟨v, vs', rfl, a1, a2⟩ := r1.cons_inv
      have e := a2.nil_inv
      subst e
      cases a1
      rename_i p
      split at z
      · rename_i xs e
        obtain ⟨vs, g, r⟩ := m1 _ _ e
        refine ⟨p, rfl, .inl ⟨vs, SqL.of g, z _ H1 m1 k1 (itOk_enL fun G' H' k' m' o => ?_)⟩⟩
        obtain ⟨vs', g', r'⟩ := m' _ _ o
        exact ⟨vs', SqL.of g', r'⟩
      · exact False.elim z
    · exact False.elim z
theorem rangeD0 {n : Nat} : rangeD 0 (n : Int) = (List.range n).map fun k : Nat => D.int k := by
  unfold rangeD
  simp
/-! ### int(..) of an int or a truth -/
def intOfD : FL := fun xs G Q => match xs with
  | [.int i] => Q (.int i) G
  | [.bl k] => Q (.int (if k then 1 else 0)) G
  | _ => False
theorem de_intOf {X : Cx} {e : Expr} {es : List Expr} {pos p : Pos} {t : DA} (hg : Gl X "int") (hm : X.mg "int" = none) (ha : DPA X (e :: es) t) (h1 : starEach (e :: es) X.env = (false, eval e X.env) :: starEach es X.env := by rfl) (h2 : ((backTo pos (starEach es X.env)).any fun x => x.fst) = false := by rfl) :
    DPE X (.Call (.Name "int" p) (e :: es) [] pos) (dCB intOfD t) := de_callTy call_int1
  (fun xs G Q Q' h q => by unfold intOfD at q ⊢; split at q <;> first | exact h _ _ q | exact q)
  (fun H G xs ds Q m r h => by
    unfold intOfD at h
    split at h
    · obtain ⟨v, vs', rfl, r1, r2⟩ := r.cons_inv
      have e := r2.nil_inv
      subst e
      cases r1
      exact .inl ⟨_, rfl, h _ _ m (.int _) .refl⟩
    · obtain ⟨v, vs', rfl, r1, r2⟩ := r.cons_inv
      have e := r2.nil_inv
      subst e
      cases r1
      exact .inr ⟨_, rfl, h _ _ m (.int _) .refl⟩
    · exact False.elim h) hg hm (by decide +kernel) ha (by decide) (by decide) h1 h2
theorem s_intB {G : DG} {Q : DK} {k : Bool} (h : Q (.int (if k then 1 else 0)) G) : intOfD [.bl k] G Q := h
theorem s_intI {G : DG} {Q : DK} {k : Int} (h : Q (.int k) G) : intOfD [.int k] G Q := h
def chB (g : F2) (y z : D) (tc : DE) (σ : DSt) (G : DG) (Q : DK) : Prop := match z with
  | .bl true => tc σ G fun w G4 => g y w G4 Q
  | .bl false => Q (.bl false) G
  | _ => False
theorem s_chain {f g : F2} {ta tb tc : DE} {σ : DSt} {G : DG} {Q : DK} (h : ta σ G fun x G1 => tb σ G1 fun y G2 => f x y G2 fun z G3 => chB g y z tc σ G3 Q) : dChain f g ta tb tc σ G Q := h
theorem s_chB {g : F2} {y : D} {k : Bool} {tc : DE} {σ : DSt} {G : DG} {Q : DK} (h : br k (tc σ G fun w G4 => g y w G4 Q) (Q (.bl false) G)) : chB g y (.bl k) tc σ G Q := by cases k <;> exact h
section
variable {G : DG} {Q : DK} {xs : List D} {p : Addr} {s : Str} {k : Bool}
theorem s_isTN (h : Q (.bl false) G) : isD false (.tup xs) .non G Q := h
theorem s_isnTN (h : Q (.bl true) G) : isD true (.tup xs) .non G Q := h
theorem s_isRN (h : Q (.bl false) G) : isD false (.ref p) .non G Q := h
theorem s_isnRN (h : Q (.bl true) G) : isD true (.ref p) .non G Q := h
theorem s_isSN (h : Q (.bl false) G) : isD false (.str s) .non G Q := h
theorem s_isnSN (h : Q (.bl true) G) : isD true (.str s) .non G Q := h
theorem s_isBN (h : Q (.bl false) G) : isD false (.bl k) .non G Q := h
theorem s_isnBN (h : Q (.bl true) G) : isD true (.bl k) .non G Q := h
end
def enB (ds : List D) (G : DG) (R : List D → (DG → Prop) → DG → Prop) : Prop := match ds with
  | [.tup ys] => R (enumD ys) (fun _ => True) G
  | [.lis ys] => R (enumD ys) (fun _ => True) G
  | [.ref p] => match G p with
    | some (.lst ys) => R (enumD ys) (fun G' => G' p = some (.lst ys)) G
    | _ => False
  | _ => False
section
variable {σ : DSt} {G : DG} {t : DA} {R : List D → (DG → Prop) → DG → Prop} {xs : List D} {p : Addr}
theorem s_enum (h : t σ G fun xs G1 => enB xs G1 R) : diEnumerate t σ G R := h
theorem s_enT (h : R (enumD xs) (fun _ => True) G) : enB [.tup xs] G R := h
theorem s_enS (h : R (enumD xs) (fun _ => True) G) : enB [.lis xs] G R := h
theorem s_enL (e : G p = some (.lst xs)) (h : R (enumD xs) (fun G' => G' p = some (.lst xs)) G) : enB [.ref p] G R := by simp only [enB, e]; exact h
end
end FD

namespace FD
open PySem L2
/-! ### more steps -/
theorem ok_Z : EncOk D.int PyData.int := ⟨fun n G x => pyD_int, fun x y => by
  simp only [PyData.eqv]
  by_cases h : x = y
  · simp [h]
  · simp [h]⟩
theorem s_neTT {G : DG} {Q : DK} {xs ys : List D} {pd : PyData} (e1 : pyD 9 G (.tup xs) = some pd) (e2 : pyD 9 G (.tup ys) = some pd) (h : Q (.bl false) G) : neD (.tup xs) (.tup ys) G Q := by
  show py2 _ _ G _
  unfold py2
  rw [e1, e2]
  show Q (.bl (!PyData.eqv pd pd)) G
  rw [SeqAt.eqv_refl pd (pyD_ok G 9 _ pd e1).1]
  exact h
theorem s_neIS {G : DG} {Q : DK} {a : Int} {z : Str} (hz : PyData.strOk z = true) (k : Q (.bl true) G) : neD (.int a) (.str z) G Q := by
  show py2 _ _ G _
  unfold py2
  rw [show pyD 9 G (.int a) = some (.int a) from rfl, show pyD 9 G (.str z) = some (.str z) by simp [pyD, hz]]
  exact k
theorem s_sortZ {G : DG} {Q : DK} {p : Addr} {ns : List Int} (e : G p = some (.lst (ns.map D.int))) (k : ∀ (ns' : List Int) p, ns'.Perm ns → ns'.Pairwise (· ≤ ·) → G p = none → Q (.ref p) (up G p (.lst (ns'.map D.int)))) : sortedD [.ref p] G Q :=
  ⟨ns, by simp [lstD, e, intsD_map], fun ns' h1 h2 q hq => k ns' q h1 h2 hq⟩
theorem le_none {G G' : DG} {p : Addr} (l : Le G G') (h : G' p = none) : G p = none := by
  cases e : G p with
  | none => rfl
  | some o => rw [l p o e] at h; cases h
theorem le_reput {G G' : DG} {f : Addr} {o o' : O} (l : Le (up G f o) G') : Le (up G f o') (up G' f o') := fun b ob e => by
  by_cases h : b = f
  · subst h
    rw [up_same] at e ⊢
    exact e
  · rw [up_ne h] at e ⊢
    exact l b ob (by rw [up_ne h]; exact e)
end FD

namespace FD
open PySem L2
/-! ### instances of own classes -/
def FldOk (K : PySem.W.Frag) (n f : Str) : Prop := ∃ C, ClsAt K n C ∧ Cls K C ∧ NoAttr K C f
def putD (f : Str) (v : D) : List (Str × D) → List (Str × D)
  | [] => [(f, v)]
  | (g, x) :: r => if g = f then (g, v) :: r else (g, x) :: putD f v r
theorem lookup_rd {K : PySem.W.Frag} {H : Hp} {f : Str} : ∀ {fs : List (Str × D)} {fvs : List (Str × V)}, fvs.map (·.1) = fs.map (·.1) → RDs K H (fs.map (·.2)) (fvs.map (·.2)) → ∀ {d : D}, fs.lookup f = some d → ∃ v, fvs.lookup f = some v ∧ RD K H d v
  | [], fvs, _, _, d, h => by cases h
  | (g, x) :: fs, fvs, e, r, d, h => by
    cases fvs with
    | nil => simp at e
    | cons y ys =>
      obtain ⟨g', v⟩ := y
      simp only [List.map_cons, List.cons.injEq] at e
      obtain ⟨rfl, e⟩ := e
      obtain ⟨v', vs', ev, r1, r2⟩ := RDs.cons_inv (by simpa using r)
      simp only [List.map_cons, List.cons.injEq] at ev
      obtain ⟨rfl, rfl⟩ := ev
      by_cases hg : f = g'
      · subst hg
        rw [List.lookup_cons_self] at h ⊢
        cases h
        exact ⟨v, rfl, r1⟩
      · have hb : (f == g') = false := beq_eq_false_iff_ne.mpr hg
        rw [List.lookup_cons, hb] at h ⊢
        exact lookup_rd e r2 h
theorem lookup_none {f : Str} : ∀ {fs : List (Str × D)} {fvs : List (Str × V)}, fvs.map (·.1) = fs.map (·.1) → fs.lookup f = none → fvs.lookup f = none
  | [], fvs, e, _ => by
    cases fvs with
    | nil => rfl
    | cons y ys => simp at e
  | (g, x) :: fs, fvs, e, h => by
    cases fvs with
    | nil => simp at e
    | cons y ys =>
      obtain ⟨g', v⟩ := y
      simp only [List.map_cons, List.cons.injEq] at e
      obtain ⟨rfl, e⟩ := e
      by_cases hg : f = g'
      · subst hg
        rw [List.lookup_cons_self] at h
        cases h
      · have hb : (f == g') = false := beq_eq_false_iff_ne.mpr hg
        rw [List.lookup_cons, hb] at h ⊢
        exact lookup_none e h
theorem put_rd {K : PySem.W.Frag} {H : Hp} {f : Str} {d : D} {v : V} (rv : RD K H d v) : ∀ {fs : List (Str × D)} {fvs : List (Str × V)}, fvs.map (·.1) = fs.map (·.1) → RDs K H (fs.map (·.2)) (fvs.map (·.2)) → (putF f v fvs).map (·.1) = (putD f d fs).map (·.1) ∧ RDs K H ((putD f d fs).map (·.2)) ((putF f v fvs).map (·.2))
  | [], fvs, e, _ => by
    cases fvs with
    | nil => exact ⟨rfl, .cons rv .nil⟩
    | cons y ys => simp at e
  | (g, x) :: fs, fvs, e, r => by
    cases fvs with
    | nil => simp at e
    | cons y ys =>
      obtain ⟨g', u⟩ := y
      simp only [List.map_cons, List.cons.injEq] at e
      obtain ⟨rfl, e⟩ := e
      obtain ⟨v', vs', ev, r1, r2⟩ := RDs.cons_inv (by simpa using r)
      simp only [List.map_cons, List.cons.injEq] at ev
      obtain ⟨rfl, rfl⟩ := ev
      unfold putF putD
      by_cases hg : g' = f
      · rw [if_pos hg, if_pos hg]
        exact ⟨by simp [e], by simpa using RDs.cons rv r2⟩
      · rw [if_neg hg, if_neg hg]
        obtain ⟨a, b⟩ := put_rd (f := f) rv e r2
        exact ⟨by simp [a], by simpa using RDs.cons r1 b⟩
section
variable {X : Cx} {k : Nat} {Cn : Ct} {E : DX} {x m n f : Str} {p pos pos' apos : Pos} {e o value : Expr} {es : List Expr} {ta tv to : DE} {t : DA}
def insB (n : Str) (x : D) (G : DG) (R : List (Str × D) → Prop) : Prop := ∃ p fs, x = .ref p ∧ G p = some (.ins n fs) ∧ R fs
def dFld (n f : Str) (ta : DE) : DE := fun σ G Q => ta σ G fun x G1 => ∃ p fs v, x = .ref p ∧ G1 p = some (.ins n fs) ∧ fs.lookup f = some v ∧ Q v G1
theorem de_fld (c : FldOk X.K n f) (he : DPE X e ta) (hb : attributeBase e f X.env (eval e X.env) = eval e X.env := by rfl) : DPE X (.Attribute e f pos) (dFld n f ta) := by
  obtain ⟨ma, tta, pa, ra⟩ := he
  obtain ⟨C, hC, c1, c2⟩ := c
  refine ⟨fun σ G Q Q' h q => ma σ G _ _ (fun x G1 ⟨p, fs, v, a, b, l, q1⟩ => ⟨p, fs, v, a, b, l, h _ _ q1⟩) q, _, pe_fld pa hb, fun σ H σd G Q m s h => ?_⟩
  refine ra σ H σd G _ m s (ma _ _ _ _ (fun dx G1 ⟨p, fs, v, a, b, l, q1⟩ x H1 m1 r1 k1 => ?_) h)
  subst a
  cases r1
  obtain ⟨C', dx, fvs, hc', h1, h2, h3⟩ := m1 p _ b
  obtain rfl := hC.uniq hc'
  obtain ⟨u, hu, ru⟩ := lookup_rd h2 h3 l
  exact ⟨p, C, dx, fvs, u, rfl, h1, c1, c2, hu, q1 u H1 m1 ru k1⟩
def dSetF (n f : Str) (ta tv : DE) : DS := fun D σ G => tv σ G fun y G1 => ta σ G1 fun x G2 => ∃ p fs, x = .ref p ∧ G2 p = some (.ins n fs) ∧ fs.length < 1000 ∧ D.nx σ (up G2 p (.ins n (putD f y fs)))
theorem KT.upd_ins {K : PySem.W.Frag} {H : Hp} {p C dx : Addr} {fs : List (Str × V)} {u : HO} (h : H p = some (.ins C dx fs)) : KT K H (L2.upd H p u) := .upd_mut h (fun _ e => by cases e) (fun _ _ e => by cases e)
theorem ds_fld (c : FldOk X.K n f) (ha : DPE X o ta) (hv : DPE X value tv) (hs : swapsWith value (some (.Attribute o f pos')) pos.line X.env = pure false := by rfl) : DPS X (.Assign [.Attribute o f pos'] value pos) (dSetF n f ta tv) := by
  obtain ⟨ma, tta, pa, ra⟩ := ha
  obtain ⟨mv, ttv, pv, rv⟩ := hv
  obtain ⟨C, hC, c1, c2⟩ := c
  refine ⟨fun σ G D D' l q => mv σ G _ _ (fun y G1 q1 => ma σ G1 _ _ (fun x G2 ⟨p, fs, a, b, z, q2⟩ => ⟨p, fs, a, b, z, l.1 _ _ q2⟩) q1) q, _, ps_fld pa pv hs, fun σ H σd G D m s h => ?_⟩
  refine rv σ H σd G _ m s (mv _ _ _ _ (fun dy G1 h1 y H1 m1 r1 k1 => ra σ H1 σd G1 _ m1 (s.kt k1) (ma _ _ _ _ (fun dx G2 ⟨p, fs, a, b, z, q2⟩ x H2 m2 r2 k2 => ?_) h1)) h)
  subst a
  cases r2
  obtain ⟨C', dx, fvs, hc', h1, h2, h3⟩ := m2 p _ b
  obtain rfl := hC.uniq hc'
  have kk : KT X.K H2 (L2.upd H2 p (.ins C dx (putF f y fvs))) := .upd_ins h1
  obtain ⟨e1, e2⟩ := put_rd (f := f) (r1.kt k2) h2 h3
  refine ⟨p, C, dx, fvs, rfl, h1, c1, c2, ?_, q2 σ _ (m2.upd kk ⟨C, dx, _, hC, upd_same, e1, e2.kt kk⟩) (s.kt ((k1.trans k2).trans kk)) ((k1.trans k2).trans kk)⟩
  have := congrArg List.length h2
  simp at this
  omega
/-- a method of a class -/
def MethOk (P : Program) (w : World) (K : PySem.W.Frag) (mg : Str → Option Value) (base : Heap) (k : Nat) (n m : Str) (Cn : Ct) : Prop := ∃ C f fd ps, ClsAt K n C ∧ Cls K C ∧ Meth K C m f ∧ Binds K fd ps [] ∧ FK P w K mg base k f fd ps (spOf K Cn)
def tMethF (X : Cx) (C : Addr) (m : Str) (sp : Sp) (EL : XK) (ta : TE) (t : TA) : TE := fun σ H Q => ta σ H fun x H1 => ∃ a dx fs, x = .ref a ∧ H1 a = some (.ins C dx fs) ∧ fs.lookup m = none ∧ t σ H1 fun vs H2 => KT X.K X.H_0 H2 → sp (x :: vs) H2 Q EL
def dMeth (n m : Str) (Cn : Ct) (E : DX) (ta : DE) (t : DA) : DE := fun σ G Q => ta σ G fun x G1 => ∃ p fs, x = .ref p ∧ G1 p = some (.ins n fs) ∧ fs.lookup m = none ∧ t σ G1 fun ds G2 => UpC Cn (x :: ds) G2 Q E
theorem dMeth_mono (mo : MonoE to) (ma : MonoA t) : MonoE (dMeth n m Cn E to t) := fun σ G Q Q' h q => mo σ G _ _ (fun x G1 ⟨p, fs, a, b, c, z⟩ => ⟨p, fs, a, b, c, ma _ _ _ _ (fun ds G2 z2 => z2.mono h) z⟩) q
theorem dMeth_sim {C : Addr} {tto : TE} {tta : TA} {EL : XK} (hC : ClsAt X.K n C) (mo : MonoE to) (ma : MonoA t) (ro : ∀ σ H σd G Q, MH X.K G H → SR X.K H σd σ → to σd G (lf X.K H Q) → tto σ H Q) (ra : ∀ σ H σd G Q, MH X.K G H → SR X.K H σd σ → t σd G (lfA X.K H Q) → tta σ H Q) (he : ∀ H, KT X.K X.H_0 H → ∀ c fo G', E c fo G' → lfX X.K H EL c fo G') :
    ∀ σ H σd G Q, MH X.K G H → SR X.K H σd σ → dMeth n m Cn E to t σd G (lf X.K H Q) → tMethF X C m (spOf X.K Cn) EL tto tta σ H Q := fun σ H σd G Q mm s h =>
  ro σ H σd G _ mm s (mo _ _ _ _ (fun dx G1 ⟨p, fs, a, b, c, z⟩ x H1 m1 r1 k1 => by
    subst a
    cases r1
    obtain ⟨C', dx, fvs, hc', h1, h2, h3⟩ := m1 p _ b
    obtain rfl := hC.uniq hc'
    refine ⟨p, dx, fvs, rfl, h1, lookup_none h2 c, ra σ H1 σd G1 _ m1 (s.kt k1) (ma _ _ _ _ (fun ds G2 z2 vs H2 m2 r2 k2 k0 => ?_) z)⟩
    obtain ⟨Q0, E0, g1, g2, g3⟩ := z2
    exact ⟨.ref p :: ds, G2, Q0, E0, m2, r2.cons (.ref p), g1, fun d G' q => lf_kt (k1.trans k2) (g2 d G' q), fun c fo G' q => he H2 k0 c fo G' (g3 c fo G' q)⟩) h)
theorem de_meth {pl : Sem Bool} (F : MethOk X.prog X.w X.K X.mg X.base k n m Cn) (hr : Room k X.A) (hgd : X.A.guards = some []) (hE : PassD X E) (ho : DPE X o to) (ha : DPA X (e :: es) t)
    (hst : starEach (e :: es) X.env = (false, eval e X.env) :: starEach es X.env := by rfl) (hpl : (backTo pos (starEach es X.env)).any (·.1) = false := by rfl)
    (ht : eval (.Call (.Attribute o m apos) (e :: es) [] pos) X.env = (do
      let ov ← eval o X.env
      standAt apos.atName
      let (f, first) ← holding [ov] (getMethod ov m pl)
      callWith pos f first (backTo pos (starEach (e :: es) X.env)) (backToKw pos (keywordEach [] X.env))) := by rfl) :
    DPE X (.Call (.Attribute o m apos) (e :: es) [] pos) (dMeth n m Cn E to t) := by
  obtain ⟨ma, tta, pa, ra⟩ := ha
  obtain ⟨mo, tto, po, ro⟩ := ho
  obtain ⟨EL, hx, _, hE⟩ := hE
  obtain ⟨C, f, fd, ps, hC, c, hm, hb, F⟩ := F
  refine ⟨dMeth_mono mo ma, tMethF X C m (spOf X.K Cn) EL tto tta, ⟨fun pins s σ H Q I h => ?_⟩, dMeth_sim hC mo ma ro ra hE⟩
  refine PySem.W.methodCall_KW (pl := pl) (thn (po.run pins s σ H _ I h) fun u s1 ⟨x, H1, I1, rx, a, dx, fs, ex, ea, l, q⟩ => ?_) ht
  subst ex
  obtain rfl : u = Value.ref a := rx
  refine getmeth_ok I1 ea c hm l ?_
  refine PySem.W.callWith_K (first := [.ref a]) (h₀ := X.base) I.ok.mod.kin hm.kp (thn (pa.run pos pins s1 σ H1 _ I1 q) fun us s2 ⟨vs, H2, I2, r, q2⟩ => ⟨I2.kIn, ?_⟩) hst hpl
  exact run_fk (us := .ref a :: us) (vs := .ref a :: vs) F hr hgd hb hx I2 (.cons rfl r) (q2 (inv_kt I2))
theorem de_meth0 {pl : Sem Bool} (F : MethOk X.prog X.w X.K X.mg X.base k n m Cn) (hr : Room k X.A) (hgd : X.A.guards = some []) (hE : PassD X E) (ho : DPE X o to)
    (ht : eval (.Call (.Attribute o m apos) [] [] pos) X.env = (do
      let ov ← eval o X.env
      standAt apos.atName
      let (f, first) ← holding [ov] (getMethod ov m pl)
      callWith pos f first (backTo pos (starEach [] X.env)) (backToKw pos (keywordEach [] X.env))) := by rfl) :
    DPE X (.Call (.Attribute o m apos) [] [] pos) (dMeth n m Cn E to dNil) := by
  have ha : DPA X [] dNil := da_nil
  obtain ⟨mo, tto, po, ro⟩ := ho
  obtain ⟨EL, hx, _, hE⟩ := hE
  obtain ⟨C, f, fd, ps, hC, c, hm, hb, F⟩ := F
  refine ⟨dMeth_mono mo ha.mono, tMethF X C m (spOf X.K Cn) EL tto tNil, ⟨fun pins s σ H Q I h => ?_⟩, dMeth_sim hC mo ha.mono ro (fun σ H σd G Q m s h => h [] H m .nil .refl) hE⟩
  refine PySem.W.methodCall_KW (pl := pl) (thn (po.run pins s σ H _ I h) fun u s1 ⟨x, H1, I1, rx, a, dx, fs, ex, ea, l, q⟩ => ?_) ht
  subst ex
  obtain rfl : u = Value.ref a := rx
  refine getmeth_ok I1 ea c hm l ?_
  exact PySem.W.callWith_K0 (first := [.ref a]) I1.kIn hm.kp (run_fk (us := [.ref a]) (vs := [.ref a]) F hr hgd hb hx I1 (.cons rfl .nil) (q (inv_kt I1)))
/-- C(..) -/
def MakeOk (P : Program) (w : World) (K : PySem.W.Frag) (mg : Str → Option Value) (base : Heap) (k : Nat) (n : Str) (Cn : Ct) : Prop := ∃ C f fd ps, ClsAt K n C ∧ mg n = some (.ref C) ∧ Mk K C f ∧ Binds K fd ps [] ∧ FK P w K mg base k f fd ps (spOf K Cn)
def dMake (n : Str) (Cn : Ct) (E : DX) (t : DA) : DE := fun σ G Q => t σ G fun ds G1 => ∀ x, G1 x = none → UpC Cn (.ref x :: ds) (up G1 x (.ins n [])) (fun v G2 => v = .non ∧ Q (.ref x) G2) E
def tMakeF (X : Cx) (C : Addr) (sp : Sp) (EL : XK) (t : TA) : TE := fun σ H Q => t σ H fun vs H1 => ∀ x dx, H1 x = none → H1 dx = none → dx ≠ x → KT X.K X.H_0 (upd (upd H1 dx (.own x)) x (.ins C dx [])) →
  sp (.ref x :: vs) (upd (upd H1 dx (.own x)) x (.ins C dx [])) (fun v H2 => v = .non ∧ Q (.ref x) H2) EL
theorem run_makeF {C f : Addr} {fd : FuncData} {ps : List Str} {sp : Sp} {EL : XK} {pins : List (Addr × Obj)} {σ : St} {H : Hp} {s : Shared} {Q : VK} {us : List Value} {vs : List V} (M : Mk X.K C f) (F : FK X.prog X.w X.K X.mg X.base k f fd ps sp) (hr : Room (k + 1) X.A) (hg : X.A.guards = some []) (hb : Binds X.K fd ps [])
    (hx : Passes (L2.CX X.prog X.w) X EL) (I : L2.Inv X pins σ H s) (r : Vals vs us)
    (h : ∀ x dx, H x = none → H dx = none → dx ≠ x → KT X.K X.H_0 (upd (upd H dx (.own x)) x (.ins C dx [])) → sp (.ref x :: vs) (upd (upd H dx (.own x)) x (.ins C dx [])) (fun v H2 => v = .non ∧ Q (.ref x) H2) EL) :
    wpAny (model X.prog X.w) X.A (call (.ref C) us) (EP X pins σ Q) X.xe s := by
  have I2 := Inv.made (C := C) I
  have hq := h (s.heap.objs.size + 1) s.heap.objs.size (I.hok.fresh (Nat.le_succ _)) (I.hok.fresh (Nat.le_refl _)) (Nat.ne_of_lt (Nat.lt_succ_self _)) (inv_kt I2)
  have r2 : Vals (V.ref (s.heap.objs.size + 1) :: vs) (Value.ref (s.heap.objs.size + 1) :: us) := .cons rfl r
  have hl : (Value.ref (s.heap.objs.size + 1) :: us ++ []).length = ps.length := by
    have e := r2.length
    rw [F.len _ _ _ _ hq] at e
    rw [List.append_nil]
    exact e.symm
  have hb' := hb _ (Value.ref (s.heap.objs.size + 1) :: us) I2.kIn hl
  rw [List.append_nil] at hb'
  refine wpAny_call (make_map (f := f) I.kIn M.makes M.init (beq_iff_eq.mp M.fn) (codeAny_mono (F.run _ X.stack _ _ ⟨Value.ref (s.heap.objs.size + 1) :: us, []⟩ (Value.ref (s.heap.objs.size + 1) :: us) _ _ EL (hr.make C us []) ?_
    (I2.env0.make C us []) hb' r2 hq) fun r s' hq' => ?_))
  · exact hg
  cases r with
  | error e => exact hx pins σ _ _ e s' I2 hq'
  | ok fl =>
    cases fl with
    | ret u =>
      obtain ⟨v, H', I3, rv, ev, q3⟩ := I2.after hq'
      subst ev
      exact ⟨rv, ⟨V.ref (s.heap.objs.size + 1), H', I3, rfl, q3⟩⟩
    | next => exact False.elim hq'
    | brk => exact False.elim hq'
    | cont => exact False.elim hq'
theorem dMake_mono (ma : MonoA t) : MonoE (dMake n Cn E t) := fun σ G Q Q' h q => ma σ G _ _ (fun ds G1 z x hx => (z x hx).mono fun d G' w => ⟨w.1, h _ _ w.2⟩) q
theorem dMake_sim {C : Addr} {tta : TA} {EL : XK} (hC : ClsAt X.K n C) (ma : MonoA t) (ra : ∀ σ H σd G Q, MH X.K G H → SR X.K H σd σ → t σd G (lfA X.K H Q) → tta σ H Q) (he : ∀ H, KT X.K X.H_0 H → ∀ c fo G', E c fo G' → lfX X.K H EL c fo G') :
    ∀ σ H σd G Q, MH X.K G H → SR X.K H σd σ → dMake n Cn E t σd G (lf X.K H Q) → tMakeF X C (spOf X.K Cn) EL tta σ H Q := fun σ H σd G Q mm s h =>
  ra σ H σd G _ mm s (ma _ _ _ _ (fun ds G1 z vs H1 m1 r1 k1 x dx hx hdx ne k0 => by
    obtain ⟨Q0, E0, g1, g2, g3⟩ := z x (m1.fresh hx)
    have ka : KT X.K H1 (upd H1 dx (.own x)) := .upd_new hdx
    have hx' : upd H1 dx (.own x) x = none := by rw [upd_ne (Ne.symm ne)]; exact hx
    have kb : KT X.K (upd H1 dx (.own x)) (upd (upd H1 dx (.own x)) x (.ins C dx [])) := .upd_new hx'
    have m2 : MH X.K (up G1 x (.ins n [])) (upd (upd H1 dx (.own x)) x (.ins C dx [])) := (m1.new ka (m1.fresh hdx)).upd kb ⟨C, dx, [], hC, upd_same, rfl, .nil⟩
    refine ⟨.ref x :: ds, up G1 x (.ins n []), Q0, E0, m2, ((r1.kt ka).kt kb).cons (.ref x), g1, fun d G' q v H' m' r' k' => ?_, fun c fo G' q => he _ k0 c fo G' (g3 c fo G' q)⟩
    obtain ⟨ed, q2⟩ := g2 d G' q
    subst ed
    cases r'
    exact ⟨rfl, q2 (.ref x) H' m' (.ref x) (((k1.trans ka).trans kb).trans k')⟩) h)
theorem de_make (F : MakeOk X.prog X.w X.K X.mg X.base k n Cn) (hr : Room (k + 1) X.A) (hgd : X.A.guards = some []) (hE : PassD X E) (ha : DPA X (e :: es) t)
    (hg : Gl X n := by rfl) (hdb : (n == ("__debug__" : Str)) = false := by decide) (he : starEach (e :: es) X.env = (false, eval e X.env) :: starEach es X.env := by rfl) (hpl : (backTo pos (starEach es X.env)).any (·.1) = false := by rfl) :
    DPE X (.Call (.Name n p) (e :: es) [] pos) (dMake n Cn E t) := by
  obtain ⟨ma, tta, pa, ra⟩ := ha
  obtain ⟨EL, hx, _, hE⟩ := hE
  obtain ⟨C, f, fd, ps, hC, hm, M, hb, F⟩ := F
  refine ⟨dMake_mono ma, tMakeF X C (spOf X.K Cn) EL tta, ⟨fun pins s σ H Q I h => ?_⟩, dMake_sim hC ma ra hE⟩
  refine wpAny_Call_Name_kw (ld_glob I hg hm ?_ hdb)
  refine PySem.W.callWith_K (h₀ := X.base) I.ok.mod.kin M.kp (thn (pa.run pos pins s σ H _ I h) fun us s1 ⟨vs, H1, I1, r, q⟩ => ⟨I1.kIn, ?_⟩) he hpl
  exact run_makeF M F hr hgd hb hx I1 r q
theorem de_make0 (F : MakeOk X.prog X.w X.K X.mg X.base k n Cn) (hr : Room (k + 1) X.A) (hgd : X.A.guards = some []) (hE : PassD X E)
    (hg : Gl X n := by rfl) (hdb : (n == ("__debug__" : Str)) = false := by decide) : DPE X (.Call (.Name n p) [] [] pos) (dMake n Cn E dNil) := by
  have ha : DPA X [] dNil := da_nil
  obtain ⟨EL, hx, _, hE⟩ := hE
  obtain ⟨C, f, fd, ps, hC, hm, M, hb, F⟩ := F
  refine ⟨dMake_mono ha.mono, tMakeF X C (spOf X.K Cn) EL tNil, ⟨fun pins s σ H Q I h => ?_⟩, dMake_sim hC ha.mono (fun σ H σd G Q m s h => h [] H m .nil .refl) hE⟩
  refine wpAny_Call_Name_kw (ld_glob I hg hm ?_ hdb)
  exact PySem.W.callWith_K0 I.kIn M.kp (run_makeF (us := []) M F hr hgd hb hx I .nil h)
end
/-! ### constants of the program's top -/
section
variable {X : Cx} {x : Str} {pos : Pos}
theorem de_globI {i : Int} (h : ∃ t, X.mg x = some (.int i t)) (hg : Gl X x := by rfl) (hd : (x == ("__debug__" : Str)) = false := by decide) : DPE X (.Name x pos) (dC (.int i)) := let ⟨_, hm⟩ := h; de_glob hg hm (v := .int i) ⟨_, rfl⟩ (fun _ => .int _) hd
theorem de_globS {z : Str} (h : ∃ t, X.mg x = some (.str z t)) (hg : Gl X x := by rfl) (hd : (x == ("__debug__" : Str)) = false := by decide) : DPE X (.Name x pos) (dC (.str z)) := let ⟨_, hm⟩ := h; de_glob hg hm (v := .str z) ⟨_, rfl⟩ (fun _ => .str _) hd
end
/-! ### methods at their class -/
section
variable {P : Program} {w : World} {K : PySem.W.Frag} {mg : Str → Option Value} {base : Heap}
def MethAt (K : PySem.W.Frag) (n m q : Str) (st : Stmt) (ps : List Str) : Prop := ∃ C f fd, ClsAt K n C ∧ Cls K C ∧ Meth K C m f ∧ Fun K m q st f fd ∧ Binds K fd ps []
def MakeAt (K : PySem.W.Frag) (mg : Str → Option Value) (n q : Str) (st : Stmt) (ps : List Str) : Prop := ∃ C f fd, ClsAt K n C ∧ mg n = some (.ref C) ∧ Mk K C f ∧ Fun K "__init__" q st f fd ∧ Binds K fd ps []
theorem meth_ok {n m q : Str} {st : Stmt} {N ps : List Str} {k : Nat} {C : Ct} {T : DX → DS} (D : MethAt K n m q st ps) (S : FnScope N ps (defScope st)) (len : ∀ ds G Q E, C ds G Q E → ds.length = ps.length)
    (der : ∀ (f : Addr) (cdv : Value) (A : Around) (outer : List Env) (s : Shared) (H : Hp) (EL : XK) (E : DX), Room k (cx P w K mg base N q (defScope st) f cdv A outer s H EL).A → (cx P w K mg base N q (defScope st) f cdv A outer s H EL).A.guards = some [] →
      PassesOwn (model P w) (cx P w K mg base N q (defScope st) f cdv A outer s H EL).A (cx P w K mg base N q (defScope st) f cdv A outer s H EL).env (cx P w K mg base N q (defScope st) f cdv A outer s H EL).xe →
      PassD (cx P w K mg base N q (defScope st) f cdv A outer s H EL) E → DPSs (cx P w K mg base N q (defScope st) f cdv A outer s H EL) (defBody st) (T E))
    (run : ∀ ds G Q E, C ds G Q E → T E { nx := fun _ G' => DrK Q .non G', rt := DrK Q, bk := fun _ _ => False, ct := fun _ _ => False } (dstart N ds) G) : MethOk P w K mg base (k + 1) n m C := by
  obtain ⟨Ca, f, fd, hC, c, hm, F, hb⟩ := D
  exact ⟨Ca, f, fd, ps, hC, c, hm, hb, fk_ok F S len (der f) run⟩
theorem make_ok {n q : Str} {st : Stmt} {N ps : List Str} {k : Nat} {C : Ct} {T : DX → DS} (D : MakeAt K mg n q st ps) (S : FnScope N ps (defScope st)) (len : ∀ ds G Q E, C ds G Q E → ds.length = ps.length)
    (der : ∀ (f : Addr) (cdv : Value) (A : Around) (outer : List Env) (s : Shared) (H : Hp) (EL : XK) (E : DX), Room k (cx P w K mg base N q (defScope st) f cdv A outer s H EL).A → (cx P w K mg base N q (defScope st) f cdv A outer s H EL).A.guards = some [] →
      PassesOwn (model P w) (cx P w K mg base N q (defScope st) f cdv A outer s H EL).A (cx P w K mg base N q (defScope st) f cdv A outer s H EL).env (cx P w K mg base N q (defScope st) f cdv A outer s H EL).xe →
      PassD (cx P w K mg base N q (defScope st) f cdv A outer s H EL) E → DPSs (cx P w K mg base N q (defScope st) f cdv A outer s H EL) (defBody st) (T E))
    (run : ∀ ds G Q E, C ds G Q E → T E { nx := fun _ G' => DrK Q .non G', rt := DrK Q, bk := fun _ _ => False, ct := fun _ _ => False } (dstart N ds) G) : MakeOk P w K mg base (k + 1) n C := by
  obtain ⟨Ca, f, fd, hC, hm, M, F, hb⟩ := D
  exact ⟨Ca, f, fd, ps, hC, hm, M, hb, fk_ok F S len (der f) run⟩
end
/-! ### steps -/
section
variable {σ : DSt} {G : DG} {Q : DK} {n f m : Str} {fs : List (Str × D)} {p : Addr} {d : D} {ta tv to : DE} {t : DA} {E : DX} {Cn : Ct} {nx bk ct : DSt → DG → Prop} {rt : DK} {ds : List D}
def fldB (n f : Str) (x : D) (G : DG) (Q : DK) : Prop := ∃ p fs v, x = .ref p ∧ G p = some (.ins n fs) ∧ fs.lookup f = some v ∧ Q v G
theorem s_fld (h : ta σ G fun x G1 => fldB n f x G1 Q) : dFld n f ta σ G Q := h
theorem s_fldB (e : G p = some (.ins n fs)) (e2 : fs.lookup f = some d) (h : Q d G) : fldB n f (.ref p) G Q := ⟨p, fs, d, rfl, e, e2, h⟩
def setFB (n f : Str) (x y : D) (G : DG) (R : DG → Prop) : Prop := ∃ p fs, x = .ref p ∧ G p = some (.ins n fs) ∧ fs.length < 1000 ∧ R (up G p (.ins n (putD f y fs)))
theorem s_setF (h : tv σ G fun y G1 => ta σ G1 fun x G2 => setFB n f x y G2 fun G3 => nx σ G3) : dSetF n f ta tv ⟨nx, rt, bk, ct⟩ σ G := h
theorem s_setFB {R : DG → Prop} {fs' : List (Str × D)} (e : G p = some (.ins n fs)) (e2 : fs.length < 1000) (e3 : putD f d fs = fs') (h : R (up G p (.ins n fs'))) : setFB n f (.ref p) d G R := ⟨p, fs, rfl, e, e2, by rw [e3]; exact h⟩
def methB (n m : Str) (x : D) (G : DG) (A : Prop) : Prop := ∃ p fs, x = .ref p ∧ G p = some (.ins n fs) ∧ fs.lookup m = none ∧ A
theorem s_meth (h : to σ G fun x G1 => methB n m x G1 (t σ G1 fun ds G2 => UpC Cn (x :: ds) G2 Q E)) : dMeth n m Cn E to t σ G Q := h
theorem s_methB {A : Prop} (e : G p = some (.ins n fs)) (e2 : fs.lookup m = none) (h : A) : methB n m (.ref p) G A := ⟨p, fs, rfl, e, e2, h⟩
def makeB (n : Str) (Cn : Ct) (ds : List D) (G : DG) (Q : DK) (E : DX) : Prop := ∀ x, G x = none → UpC Cn (.ref x :: ds) (up G x (.ins n [])) (fun v G2 => v = .non ∧ Q (.ref x) G2) E
theorem s_make (h : t σ G fun ds G1 => makeB n Cn ds G1 Q E) : dMake n Cn E t σ G Q := h
theorem s_makeB (h : ∀ x, G x = none → UpC Cn (.ref x :: ds) (up G x (.ins n [])) (fun v G2 => v = .non ∧ Q (.ref x) G2) E) : makeB n Cn ds G Q E := h
end
end FD

namespace FD
open PySem L2
section
variable {X : Cx} {a b c e : Expr} {es rest : List Expr} {ta tb tc : DE} {pos : Pos}
theorem RDs.eraseIdx {K : PySem.W.Frag} {H : Hp} {xs : List D} {vs : List V} (r : RDs K H xs vs) (i : Nat) : RDs K H (xs.eraseIdx i) (vs.eraseIdx i) := by
  rw [List.eraseIdx_eq_take_drop_succ, List.eraseIdx_eq_take_drop_succ]
  exact (r.take i).append (r.drop (i + 1))
theorem de_popAt {o : Expr} {apos : Pos} {to : DE} {t : DA} (ho : DPE X o to) (ha : DPA X (e :: es) t)
    (hbase : attributeBase o "pop" X.env (eval o X.env) = eval o X.env := by rfl)
    (hfew : ((backTo pos (starEach (e :: es) X.env)).all (fun x => !x.1) && (backToKw pos (keywordEach [] X.env)).all (fun x => x.1.isSome)
      && decide ((e :: es).length + ([] : List Keyword).length + (if ([] : List Keyword).isEmpty then 0 else 1) < 30)) = true := by rfl)
    (hline : (apos.endLine == pos.line) = true := by rfl) (h1 : starEach (e :: es) X.env = (false, eval e X.env) :: starEach es X.env := by rfl) (hplain : (backTo pos (starEach es X.env)).any (·.1) = false := by rfl) :
    DPE X (.Call (.Attribute o "pop" apos) (e :: es) [] pos) (dMt popAtD to t) := de_mtL PySem.F.slot_list_pop PySem.F.type_list_pop mt_popAt
  (fun x xs G Q Q' h q => by
    unfold popAtD at q ⊢
    split at q
    · obtain ⟨zs, k, y, z1, z2, z3, z4, z5, z6⟩ := q
      exact ⟨zs, k, y, z1, z2, z3, z4, z5, h _ _ z6⟩
    · exact q)
  (fun H G x xs dx dxs Q m rx rs h => by
    unfold popAtD at h
    split at h
    · obtain ⟨zs, k, y, z1, z2, z3, z4, z5, z6⟩ := h
      cases rx
      obtain ⟨v, vs', rfl, r1, r2⟩ := rs.cons_inv
      have e := r2.nil_inv
      subst e
      cases r1
      obtain ⟨vs, g, r⟩ := m _ _ z1
      obtain ⟨u, h1, h2⟩ := r.get z5
      refine ⟨_, vs, _, k, u, rfl, rfl, g, z2, z3, by rw [← r.1]; exact z4, h1, ?_⟩
      exact z6 u _ (m.upd (.upd_lst g) (.new_lst (r.eraseIdx k) (.upd_lst g))) (h2.kt (.upd_lst g)) (.upd_lst g)
    · exact False.elim h) ho ha hbase hfew hline h1 hplain
/-! ### range, downwards -/
def downD (hi lo : Int) : List D := (List.range (hi - lo).toNat).map fun i => D.int (hi - (i : Nat))
/-- lo, lo + c, .. (n of them) -/
def stepD (lo c : Int) (n : Nat) : List D := (List.range n).map fun i => D.int (lo + (i : Nat) * c)
theorem stepD_down {hi lo : Int} : stepD hi (-1) (hi - lo).toNat = downD hi lo := by
  unfold stepD downD
  refine List.map_congr_left fun i _ => ?_
  congr 1
  omega
def diRange3 (t : DA) : DI := fun σ G R => t σ G fun xs G1 => match xs with
  | [.int i, .int j, .int c] => ∃ n, RgC i j c n ∧ R (stepD i c n) (fun _ => True) G1
  | _ => False
theorem itOk_step {K : PySem.W.Frag} {H1 : Hp} {lo c : Int} {n : Nat} {ok : DG → Prop} : ItOk K H1 (Itc lo c n) (stepD lo c n) ok := fun i H' G' k m o => by
  unfold stepD
  refine ⟨fun d h => ?_, fun h => ?_⟩
  · have hi : i < n := by
      have := (List.getElem?_eq_some_iff.mp h).1
      simpa using this
    rw [List.getElem?_map, List.getElem?_range hi] at h
    cases h
    refine ⟨hi, fun x H2 e => ?_⟩
    obtain ⟨rfl, rfl⟩ := e
    exact ⟨m, .refl, .int _⟩
  · have : n ≤ i := by simpa using h
    exact this
theorem di_range3 {tg : Expr} {t t' t'' : DE} {p pos : Pos} (hg : Gl X "range") (hm : X.mg "range" = none) (ha : DPE X a t) (hb : DPE X b t') (hc : DPE X c t'')
    (hs : starEach [a, b, c] X.env = (false, eval a X.env) :: starEach [b, c] X.env := by rfl) (hs2 : starEach [b, c] X.env = (false, eval b X.env) :: starEach [c] X.env := by rfl) (hs3 : starEach [c] X.env = (false, eval c X.env) :: starEach [] X.env := by rfl) (hpl : (backTo pos (starEach [b, c] X.env)).any (·.1) = false := by rfl) :
    DPI X tg (.Call (.Name "range" p) [a, b, c] [] pos) (diRange3 (dCons t (dCons t' (dCons t'' dNil)))) := by
  have hb' : DPA X [a, b, c] (dCons t (dCons t' (dCons t'' dNil))) := da_cons ha (da_cons hb (da_cons hc da_nil hs3) hs2) hs
  obtain ⟨ma, tta, pa, ra⟩ := hb'
  refine ⟨fun σ G R R' h q => ma σ G _ _ (fun x G1 z => ?_) q, iRng3 tta, pi_range3 hg hm pa hs hpl, fun σ H σd G R m s h => ra σ H σd G _ m s ?_⟩
  · split at z
    · obtain ⟨n, z1, z2⟩ := z
      exact ⟨n, z1, h _ _ _ z2⟩
    · exact z
  refine ma _ _ _ _ (fun xs G1 z vs H1 m1 r1 k1 => ?_) h
  split at z
  · obtain ⟨n, z1, z2⟩ := z
    obtain ⟨v, vs', rfl, a1, a2⟩ := r1.cons_inv
    obtain ⟨v2, vs2, rfl, a3, a4⟩ := a2.cons_inv
    obtain ⟨v3, vs3, rfl, a5, a6⟩ := a4.cons_inv
    have e := a6.nil_inv
    subst e
    cases a1; cases a3; cases a5
    exact ⟨_, _, _, n, rfl, z1, z2 _ H1 m1 k1 itOk_step⟩
  · exact False.elim z
end
section
variable {σ : DSt} {G : DG} {Q : DK} {p q : Addr} {xs : List D} {d : D} {ts : DA}
def rng3B (xs : List D) (G : DG) (R : List D → (DG → Prop) → DG → Prop) : Prop := match xs with
  | [.int i, .int j, .int c] => ∃ n, RgC i j c n ∧ R (stepD i c n) (fun _ => True) G
  | _ => False
theorem s_rng3 {R : List D → (DG → Prop) → DG → Prop} (h : ts σ G fun xs G1 => rng3B xs G1 R) : diRange3 ts σ G R := h
theorem s_rng3C {i j c : Int} {n : Nat} {R : List D → (DG → Prop) → DG → Prop} (e : RgC i j c n) (h : R (stepD i c n) (fun _ => True) G) : rng3B [.int i, .int j, .int c] G R := ⟨n, e, h⟩
theorem s_rng3B {i j : Int} {R : List D → (DG → Prop) → DG → Prop} (e : -(2 ^ 62) ≤ i ∧ i < 2 ^ 62 ∧ -(2 ^ 62) ≤ j ∧ j < 2 ^ 62) (h : R (downD i j) (fun _ => True) G) : rng3B [.int i, .int j, .int (-1)] G R := ⟨_, .neg e.1 e.2.1 e.2.2.1 e.2.2.2, by rw [stepD_down]; exact h⟩
theorem s_popAt0 (e : G p = some (.lst (d :: xs))) (h : Q d (up G p (.lst xs))) : popAtD (.ref p) [.int 0] G Q := by
  refine ⟨d :: xs, 0, d, e, by decide, by decide, ?_, rfl, h⟩
  unfold seqIndex?
  simp
end
theorem putD_new {f : Str} {v : D} : ∀ {fs : List (Str × D)}, fs.lookup f = none → putD f v fs = fs ++ [(f, v)]
  | [], _ => rfl
  | (g, x) :: r, h => by
    unfold putD
    by_cases e : f = g
    · subst e
      rw [List.lookup_cons_self] at h
      cases h
    · have hb : (f == g) = false := beq_eq_false_iff_ne.mpr e
      rw [List.lookup_cons, hb] at h
      rw [if_neg (Ne.symm e), putD_new h]
      rfl
theorem s_setFN {n f : Str} {d : D} {G : DG} {p : Addr} {R : DG → Prop} {fs : List (Str × D)} (e : G p = some (.ins n fs)) (e2 : fs.length < 1000) (e3 : fs.lookup f = none) (h : R (up G p (.ins n (fs ++ [(f, d)])))) : setFB n f (.ref p) d G R := s_setFB e e2 (putD_new e3) h
theorem lex_new' {ws : List Addr} {G G' : DG} {q : Addr} {o : O} (l : LeX ws G G') (h : G' q = none) : LeX ws G (up G' q o) := fun b ob hb e => up_nx (gne (l b ob hb e) h) (l b ob hb e)
theorem s_mid {t u : DS} {nx bk ct : DSt → DG → Prop} {rt : DK} {σ : DSt} {G : DG} (Mid : DSt → DG → Prop) (h1 : ∀ N, (∀ σ G G0, Le G0 G → Mid σ G0 → N σ G) → t ⟨N, rt, bk, ct⟩ σ G) (h2 : ∀ σ G, Mid σ G → u ⟨nx, rt, bk, ct⟩ σ G) : dSeq t u ⟨nx, rt, bk, ct⟩ σ G := h1 _ (fun σ G G0 l m => ⟨G0, l, h2 σ G0 m⟩)
end FD

namespace FD
open PySem L2
/-! ### a list of new lists -/
structure Lls (G G' : DG) (a : Addr) (cs : List Addr) (wss : List (List D)) : Prop where
  le : Le G G'
  ha : G' a = some (.lst (cs.map .ref))
  len : cs.length = wss.length
  nd : cs.Nodup
  ac : a ∉ cs
  at_ : ∀ (i : Nat) c ws, cs[i]? = some c → wss[i]? = some ws → G' c = some (.lst ws)
  fa : G a = none
  fc : ∀ c ∈ cs, G c = none
theorem Lls.new {G G' : DG} {a q : Addr} {cs : List Addr} {wss : List (List D)} {o : O} (h : Lls G G' a cs wss) (hq : G' q = none) : Lls G (up G' q o) a cs wss :=
  { h with
    le := fun b ob e => up_nx (gne (h.le b ob e) hq) (h.le b ob e), ha := up_nx (gne h.ha hq) h.ha
    at_ := fun i c ws e1 e2 => up_nx (gne (h.at_ i c ws e1 e2) hq) (h.at_ i c ws e1 e2) }
theorem Lls.free {G G' : DG} {a c : Addr} {cs : List Addr} {wss : List (List D)} (h : Lls G G' a cs wss) (hc : G' c = none) : G c = none ∧ c ≠ a ∧ c ∉ cs := by
  refine ⟨?_, fun e => ?_, fun m => ?_⟩
  · cases e : G c with
    | none => rfl
    | some o => rw [h.le c o e] at hc; cases hc
  · subst e
    rw [h.ha] at hc
    cases hc
  · obtain ⟨i, hi, e⟩ := List.mem_iff_getElem.mp m
    have := h.at_ i c (wss[i]'(h.len ▸ hi)) (by rw [List.getElem?_eq_getElem hi, e]) (List.getElem?_eq_getElem _)
    rw [hc] at this
    cases this
theorem Lls.more {G G' : DG} {a c : Addr} {cs : List Addr} {wss : List (List D)} {ws : List D} (h : Lls G G' a cs wss) (hc : G' c = none) : Lls G (up (up G' c (.lst ws)) a (.lst ((cs ++ [c]).map .ref))) a (cs ++ [c]) (wss ++ [ws]) := by
  have n := h.new (o := .lst ws) hc
  obtain ⟨gc, ca, hcc⟩ := h.free hc
  refine ⟨le_new h.fa n.le, up_same, by simp [h.len], ?_, by simp [h.ac, Ne.symm ca], fun i d ws' e1 e2 => ?_, h.fa, ?_⟩
  · rw [List.nodup_append]
    exact ⟨h.nd, by simp, fun u hu v hv => by simp at hv; subst hv; exact fun e => hcc (e ▸ hu)⟩
  · have hd := List.mem_of_getElem? e1
    refine up_nx (fun e => ?_) ?_
    · subst e
      simp [h.ac, Ne.symm ca] at hd
    · by_cases hi : i < cs.length
      · rw [List.getElem?_append_left hi] at e1
        rw [List.getElem?_append_left (h.len ▸ hi)] at e2
        exact n.at_ i d ws' e1 e2
      · have : i = cs.length := by
          have := (List.getElem?_eq_some_iff.mp e1).1
          simp at this
          omega
        subst this
        rw [List.getElem?_append_right (by omega)] at e1
        rw [h.len, List.getElem?_append_right (by omega)] at e2
        simp at e1 e2
        subst e1
        subst e2
        exact up_same
  · intro u hu
    simp at hu
    rcases hu with hu | rfl
    · exact h.fc u hu
    · exact gc
theorem Lls.put {G G' : DG} {a c : Addr} {cs : List Addr} {wss : List (List D)} {i : Nat} {ws : List D} (h : Lls G G' a cs wss) (hc : cs[i]? = some c) : Lls G (up G' c (.lst ws)) a cs (wss.set i ws) := by
  have hm := List.mem_of_getElem? hc
  refine { h with le := le_new (h.fc c hm) h.le, ha := up_nx (fun e => h.ac (e ▸ hm)) h.ha, len := by simp [h.len], at_ := fun j d vs e1 e2 => ?_ }
  by_cases e : j = i
  · subst e
    have hi := (List.getElem?_eq_some_iff.mp hc).1
    rw [List.getElem?_set_self (h.len ▸ hi)] at e2
    rw [hc] at e1
    cases e1
    cases e2
    exact up_same
  · rw [List.getElem?_set_ne (Ne.symm e)] at e2
    refine up_nx (fun z => ?_) (h.at_ j d vs e1 e2)
    subst z
    obtain ⟨l1, f1⟩ := List.getElem?_eq_some_iff.mp e1
    obtain ⟨l2, f2⟩ := List.getElem?_eq_some_iff.mp hc
    exact e ((List.getElem_inj (h₀ := l1) (h₁ := l2) h.nd).mp (f1.trans f2.symm))
theorem Lls.le_of {G G' : DG} {a : Addr} {cs : List Addr} {wss : List (List D)} (h : Lls G G' a cs wss) {G2 : DG} (l : Le G' G2) : Lls G G2 a cs wss :=
  { h with le := h.le.trans l, ha := l _ _ h.ha, at_ := fun i c ws e1 e2 => l _ _ (h.at_ i c ws e1 e2) }
theorem Lls.py {α β : Type} {G G' : DG} {a : Addr} {cs : List Addr} {xs : List (List β)} {enc : β → D} {encP : β → PyData} {n : Nat} (h : Lls G G' a cs (xs.map fun x => x.map enc)) (hpy : ∀ x, pyD (n + 1) G' (enc x) = some (encP x)) : pyD (n + 3) G' (.ref a) = some (.list (xs.map fun x => .list (x.map encP))) := by
  refine pyD_ref h.ha ?_
  have main : ∀ (cs : List Addr) (xs : List (List β)), cs.length = xs.length → (∀ (i : Nat) c x, cs[i]? = some c → xs[i]? = some x → G' c = some (.lst (x.map enc))) → pyAll (pyD (n + 2) G') (cs.map .ref) = some (xs.map fun x => PyData.list (x.map encP)) := by
    intro cs
    induction cs with
    | nil =>
      intro xs hl _
      cases xs with
      | nil => rfl
      | cons x xs => simp at hl
    | cons c cs ih =>
      intro xs hl hh
      cases xs with
      | nil => simp at hl
      | cons x xs =>
        refine pyAll_c (pyD_ref (hh 0 c x rfl rfl) (pyAll_map fun y _ => hpy y)) (ih xs (by simpa using hl) fun i c' x' e1 e2 => hh (i + 1) c' x' (by simpa using e1) (by simpa using e2))
  refine main cs xs (by simpa using h.len) fun i c x e1 e2 => h.at_ i c _ e1 (by rw [List.getElem?_map, e2]; rfl)
end FD

namespace FD
open PySem PyProof.Rows Srt SrtO
/-! ### sorted of a tuple of ints -/
section
variable {prog : Program} {w : World} {A : Around} {E : Value → Shared → Prop} {s : Shared}
/-- a tuple's items, gathered in a new list -/
theorem gather_tup {l : Addr} {o : Obj} {us : List Value} {k : Nat} {R : List Value → Shared → Prop} (hob : s.heap.get? l = some o) (hcl : o.cls = .type "tuple") (hdt : o.data = .seq us.toArray k) (hle : us.length ≤ sizeLine)
    (fin : R us { s with heap := (s.heap.push (seqObj "list" #[] 0)).update s.heap.objs.size (Obj.mapSeq fun zs => zs ++ us.toArray) }) : wpAny (model prog w) A (collect (.ref l)) R E s := by
  unfold collect
  apply wpAny_bind
  apply wpAny_runValue
  apply codeAny_builtin entry_proto_collect'
  change wpAny _ _ (do again (.builtin "list.__iadd__" ⟨[← newList [], .ref l], []⟩)) _ _ s
  apply wpAny_bind
  refine wpAny_newList ?_
  refine wpAny_pure ⟨Code.quiet_builtin _ (by decide +kernel), ?_⟩
  apply codeAny_builtin entry_list_iadd'
  have old : (s.heap.push (seqObj "list" #[] 0)).get? l = some o := Heap.get?_push_of_some _ hob
  have own : (s.heap.push (seqObj "list" #[] 0)).get? s.heap.objs.size = some (seqObj "list" #[] 0) := Heap.get?_push_size _ rfl
  change wpAny _ _ (Builtin.List.listExtendWith (.ref s.heap.objs.size) (.ref l) (.ref s.heap.objs.size)) _ _ { s with heap := s.heap.push (seqObj "list" #[] 0) }
  unfold Builtin.List.listExtendWith
  apply wpAny_bind
  refine wpAny_typeOf (T := "tuple") ⟨o, old, hcl⟩ ?_
  have yes : (Builtin.List.listSameRef (.ref s.heap.objs.size) (.ref l) || Value.type "tuple" == Value.type "list" || Value.type "tuple" == Value.type "tuple") = true := by simp
  rw [if_pos yes]
  apply wpAny_bind
  apply listItems_at old hdt
  apply wpAny_bind
  apply listItems_at (xs := #[]) (n := 0) own rfl
  rw [if_neg (by simp)]
  have fits : (#[] ++ us.toArray).size ≤ sizeLine + 1 := by simp only [Array.size_append, List.size_toArray, List.length_nil]; omega
  apply wpAny_bind
  refine listUpdate_at (xs := #[]) (n := 0) own rfl ?_ (Nat.zero_le _) fits
  apply wpAny_pure
  have e0 : ((#[] : Array Value) ++ us.toArray).toList = us := by simp
  have l2 := get?_update_seq own fun zs => zs ++ us.toArray
  refine wpAny_bind (wpAny_load l2 ?_)
  change wpAny _ _ (pure ((#[] : Array Value) ++ us.toArray).toList) R E _
  rw [e0]
  exact wpAny_pure fin
theorem sorted_tup {l : Addr} {o : Obj} {us : List Value} {k : Nat} {ns : List Int} {R : Value → Shared → Prop} (hob : s.heap.get? l = some o) (hcl : o.cls = .type "tuple") (hdt : o.data = .seq us.toArray k) (hle : us.length ≤ sizeLine) (hint : IntsAre us ns)
    (fin : ∀ out : List Value, Srtd ltIv out → Stb ltIv out us → R (.ref (s.heap.objs.size + 1)) { s with heap := sortedAll s.heap us out.toArray }) : wpAny (model prog w) A (call (.builtin "sorted") [.ref l]) R E s := by
  apply Calls.call_function_entry kind_sorted plain_sorted entry_sorted (args_sorted1 _)
  unfold Builtin.«sorted»
  apply wpAny_bind (m := checkCount "sorted" 1 1 _)
  apply wpAny_pure
  apply wpAny_bind
  apply gather_tup hob hcl hdt hle
  apply wpAny_bind
  refine wpAny_newList ?_ hle
  generalize hB : (s.heap.push (seqObj "list" #[] 0)).update s.heap.objs.size (Obj.mapSeq fun zs => zs ++ us.toArray) = B
  have size : B.objs.size = s.heap.objs.size + 1 := by rw [← hB, Heap.size_update, size_push']
  have here : (B.push (seqObj "list" us.toArray 0)).get? (s.heap.objs.size + 1) = some (seqObj "list" us.toArray 0) := by rw [← size]; exact Heap.get?_push_size _ rfl
  change wpAny _ _ _ _ _ { s with heap := B.push (seqObj "list" us.toArray 0) }
  rw [size]
  apply wpAny_bind
  apply wpAny_holding
  refine wpAny_call_entry slot_list_sort ⟨_, here, rfl⟩ entry_list_sort (list_sort_ord swo_int here hle (fun h2 => ints_sortable hint h2) fun out hs hb => ⟨_, rfl, ?_⟩) (args_list_sort _)
  refine wpAny_pure ⟨_, rfl, ?_⟩
  have := fin out hs hb
  unfold sortedAll at this
  rw [hB] at this
  exact this
end
end FD
namespace FD
open PySem L2
section
variable {X : Cx} {a b c e : Expr} {es rest : List Expr} {ta tb tc : DE} {pos : Pos}
def rSortTp (K : PySem.W.Frag) : List V → Hp → VK → Prop := fun vs H Q => ∃ (a : Addr) (ns : List Int), vs = [V.ref a] ∧ SqT K H a (ns.map V.int) ∧ ∀ (ms : List Int) (p : Addr), ms.Perm ns → ms.Pairwise (· ≤ ·) → H p = none → Q (.ref p) (upd H p (.lst (ms.map V.int)))
theorem cr_sortTp : CallR X (.builtin "sorted") (rSortTp X.K) := by
  intro pins s σ H vs us Q I r h
  obtain ⟨a, ns, rfl, hs, q⟩ := h
  obtain ⟨its, rv, ⟨o, h1, h2, k, h3⟩, hz⟩ := I.tuple hs
  obtain ⟨u, rfl, rx⟩ := vals1 r
  cases rx
  have hi := rv.ints
  refine sorted_tup h1 h2 h3 (by rw [← rv.length]; exact hz) hi fun out g1 g2 => ?_
  obtain ⟨k1, k2, k3⟩ := SrtO.ints_out hi g1 g2
  obtain ⟨ep, he'⟩ := PyProof.Rows.sortedAll_at s.heap its out.toArray
  have hlen : ((out.map SrtO.iv).map V.int).length ≤ sizeLine := by
    have e1 := k2.length_eq
    simp only [List.length_map] at hz e1 ⊢
    omega
  have I2 := I.laid (a := s.heap.objs.size + 1) (o := .lst ((out.map SrtO.iv).map V.int)) (t' := s.toks) (h' := PyProof.Rows.sortedAll s.heap its out.toArray) (fun _ _ => PyProof.Rows.sortedAll_old) (Nat.le_succ _) ⟨hlen, out, ep, vals_of_ints k1, he'⟩
  exact ⟨.ref _, _, I2, rfl, q _ _ k2 k3 (I.hok.fresh (Nat.le_succ _))⟩
def sortedTD : FL := fun xs G Q => match xs with
  | [x] => ∃ ns : List Int, x = .tup (ns.map .int) ∧ ∀ ms : List Int, ms.Perm ns → ms.Pairwise (· ≤ ·) → ∀ p, G p = none → Q (.ref p) (up G p (.lst (ms.map .int)))
  | _ => False
theorem de_sortedT {p : Pos} {t : DA} (hg : Gl X "sorted") (hm : X.mg "sorted" = none) (ha : DPA X (e :: es) t) (h1 : starEach (e :: es) X.env = (false, eval e X.env) :: starEach es X.env := by rfl) (h2 : ((backTo pos (starEach es X.env)).any fun x => x.fst) = false := by rfl) :
    DPE X (.Call (.Name "sorted" p) (e :: es) [] pos) (dCB sortedTD t) := de_callB cr_sortTp
  (fun xs G Q Q' h q => by
    unfold sortedTD at q ⊢
    split at q
    · obtain ⟨bs, z1, z2⟩ := q
      exact ⟨bs, z1, fun ns' a b p hp => h _ _ (z2 ns' a b p hp)⟩
    · exact q)
  (fun H G xs ds Q m r h => by
    unfold sortedTD at h
    split at h
    · obtain ⟨v, vs', rfl, r1, r2⟩ := r.cons_inv
      have e := r2.nil_inv
      subst e
      obtain ⟨bs, z1, z2⟩ := h
      subst z1
      cases r1 with
      | tup hs hl hi =>
        have ei := RDs.int_inv (K := X.K) (H := H) ⟨hl, hi⟩
        rw [ei] at hs
        exact ⟨_, bs, rfl, hs.t, fun ns' n a b hn => z2 ns' a b n (m.fresh hn) (.ref n) _ (m.upd (.upd_new hn) (.new_lst (.of_int ns') (.upd_new hn))) (.ref n) (.upd_new hn)⟩
    · exact False.elim h) hg hm (by decide +kernel) ha (by decide) (by decide) h1 h2
theorem s_sortT {G : DG} {Q : DK} {ns : List Int} (k : ∀ (ms : List Int) p, ms.Perm ns → ms.Pairwise (· ≤ ·) → G p = none → Q (.ref p) (up G p (.lst (ms.map D.int)))) : sortedTD [.tup (ns.map D.int)] G Q := ⟨ns, rfl, fun ms a b p hp => k ms p a b hp⟩
end
end FD

namespace FD
open PySem L2
/-! ### list.count of data -/
section
variable {X : Cx} {a b c e : Expr} {es rest : List Expr} {ta tb tc : DE} {pos : Pos}
def rCntD (K : PySem.W.Frag) : V → List V → Hp → VK → Prop := fun x xs H Q => ∃ v ds d, xs = [v] ∧ Dp K H x (.list ds) ∧ Dp K H v d ∧ SeqAt.shaped (.list ds) = true ∧ SeqAt.shaped d = true ∧ Q (.int ((ds.countP fun y => PyData.eqv y d : Nat) : Int)) H
theorem mt_cntD (hu : X.A.units + 65 < cLine) : MtR X "list.count" (rCntD X.K) := by
  intro pins s σ H x xs v us Q I rx rxs h
  obtain ⟨y, ds, d, rfl, hx, hy, sx, sy, q⟩ := h
  obtain ⟨u, rfl, ru⟩ := vals1 rxs
  obtain ⟨as, r1⟩ := Dp.reads I _ _ v hx rx
  obtain ⟨bs, r2⟩ := Dp.reads I d y u hy ru
  have room := PyProof.Rows.room_in_shaped (A := X.A) (xs := ds) sy hu
  have p1 := PyData.plain_of_canLay0 _ (SeqAt.canLay_of_shaped sx)
  have p2 := PyData.plain_of_canLay0 _ (SeqAt.canLay_of_shaped sy)
  cases r1 with
  | list h1 h2 h3 h4 => exact SeqAt.count_list_data ⟨_, h1, h2, _, h3⟩ h4 r2 p1 p2 room ⟨.int _, H, I.tok _, ⟨_, rfl⟩, q⟩
def countD : FM := fun x xs G Q => match xs with
  | [y] => match pyD 9 G x, pyD 9 G y with
    | some (.list ds), some d => Q (.int ((ds.countP fun z => PyData.eqv z d : Nat) : Int)) G
    | _, _ => False
  | _ => False
theorem de_count {o : Expr} {apos : Pos} {to : DE} {t : DA} (hu : X.A.units + 65 < cLine) (ho : DPE X o to) (ha : DPA X (e :: es) t)
    (hbase : attributeBase o "count" X.env (eval o X.env) = eval o X.env := by rfl)
    (hfew : ((backTo pos (starEach (e :: es) X.env)).all (fun x => !x.1) && (backToKw pos (keywordEach [] X.env)).all (fun x => x.1.isSome)
      && decide ((e :: es).length + ([] : List Keyword).length + (if ([] : List Keyword).isEmpty then 0 else 1) < 30)) = true := by rfl)
    (hline : (apos.endLine == pos.line) = true := by rfl) (h1 : starEach (e :: es) X.env = (false, eval e X.env) :: starEach es X.env := by rfl) (hplain : (backTo pos (starEach es X.env)).any (·.1) = false := by rfl) :
    DPE X (.Call (.Attribute o "count" apos) (e :: es) [] pos) (dMt countD to t) := de_mtL PySem.F.slot_list_count PySem.F.type_list_count (mt_cntD hu)
  (fun x xs G Q Q' h q => by
    unfold countD at q ⊢
    split at q
    · split at q
      · exact h _ _ q
      · exact q
    · exact q)
  (fun H G x xs dx dxs Q m rx rs h => by
    unfold countD at h
    split at h
    · split at h
      · rename_i ds d e1 e2
        obtain ⟨v, vs', rfl, r1, r2⟩ := rs.cons_inv
        have e := r2.nil_inv
        subst e
        exact ⟨v, ds, d, rfl, pyD_dp m 9 _ _ _ rx e1, pyD_dp m 9 _ _ d r1 e2, pyD_shaped e1 (by decide), pyD_shaped e2 (by decide), h (.int _) H m (.int _) .refl⟩
      · exact False.elim h
    · exact False.elim h) ho ha hbase hfew hline h1 hplain
theorem s_count {G : DG} {Q : DK} {x y : D} {ds : List PyData} {d : PyData} (e1 : pyD 9 G x = some (.list ds)) (e2 : pyD 9 G y = some d) (h : Q (.int ((ds.countP fun z => PyData.eqv z d : Nat) : Int)) G) : countD x [y] G Q := by
  unfold countD
  simp only [e1, e2]
  exact h
end
end FD

namespace FD
open PySem L2
local macro_rules | `(tactic| walk_at "look") => `(tactic| first | assumption | exact up_same | (refine up_nx ?e ?f; (case e => walk_at "ne"); (case f => walk_at "look")))
local macro_rules | `(tactic| walk_at "ne") => `(tactic| first | assumption | exact Ne.symm (by assumption) | ((refine gne (G := ?G) (o := ?o) ?h ?k); (case k => assumption); (case h => walk_at "look")) | ((refine Ne.symm (gne (G := ?G) (o := ?o) ?h ?k)); (case k => assumption); (case h => walk_at "look")))
local macro_rules | `(tactic| walk_at "none") => `(tactic| first | assumption | exact up_free (by assumption) | exact up_free (up_free (by assumption)) | exact up_free (up_free (up_free (by assumption))) | exact up_free (up_free (up_free (up_free (by assumption)))) | exact up_free (up_free (up_free (up_free (up_free (by assumption))))) | exact up_free (up_free (up_free (up_free (up_free (up_free (by assumption)))))))
local macro_rules | `(tactic| walk_at "at") => `(tactic| first | assumption | exact atI_zero | rfl | (rw [atI_cast]; assumption) | (rw [atI_cast]; rfl))
local macro_rules | `(tactic| walk_at "sz") => `(tactic| first | exact Nat.le_of_ble_eq_true rfl | assumption | (refine szL ?_; simp only [List.length_map, List.length_append, List.length_cons, List.length_nil, List.length_range, List.length_take, List.length_drop]; omega))
local macro_rules | `(tactic| walk_at "s") => `(tactic| first
  | ((with_reducible refine s_op ?_)) | ((with_reducible refine s_c ?_)) | ((with_reducible refine s_var (d := ?d) ?e ?_); (case e => rfl)) | ((with_reducible refine s_cons ?_)) | ((with_reducible refine s_nil ?_)) | ((with_reducible refine s_cb ?_)) | ((with_reducible refine s_seq ?_)) | ((with_reducible refine s_go ?_))
  | ((with_reducible refine s_asg ?_)) | ((with_reducible refine s_gn ?_)) | ((with_reducible refine s_test ?_)) | ((with_reducible refine s_tbl ?_)) | ((with_reducible refine s_if ?_)) | ((with_reducible refine br_t ?_)) | ((with_reducible refine br_f ?_))
  | ((with_reducible refine s_itL (xs := ?xs) (d := ?d) ?e ?f ?_); (case e => walk_at "look"); (case f => walk_at "at")) | ((with_reducible refine s_itT (d := ?d) ?f ?_); (case f => walk_at "at")) | ((with_reducible refine s_itS (d := ?d) ?f ?_); (case f => walk_at "at"))
  | ((with_reducible refine s_addI ?_)) | ((with_reducible refine s_subI ?_)) | ((with_reducible refine s_modI ?e ?_); (case e => first | omega | assumption)) | ((with_reducible refine s_divI ?e ?_); (case e => exact ⟨by omega, by omega⟩))
  | ((with_reducible refine s_mulI ?e ?_); (case e => first | exact .inl ⟨by omega, by omega⟩ | exact .inr ⟨by omega, by omega⟩)) | ((with_reducible refine s_powI ?e ?_); (case e => exact ⟨by omega, by omega, by omega⟩)) | ((with_reducible refine s_negI ?_))
  | ((with_reducible refine s_ltI ?_)) | ((with_reducible refine s_leI ?_)) | ((with_reducible refine s_gtI ?_)) | ((with_reducible refine s_geI ?_)) | ((with_reducible refine s_eqS ?_)) | ((with_reducible refine s_neS ?_)) | ((with_reducible refine s_eqI ?_)) | ((with_reducible refine s_neI ?_))
  | ((with_reducible refine s_ret ?_)) | ((with_reducible refine s_retN ?_)) | ((with_reducible refine s_drop ?_)) | ((with_reducible refine s_next ?_)) | ((with_reducible refine s_pass ?_)) | ((with_reducible refine s_brk ?_)) | ((with_reducible refine s_cnt ?_))
  | ((with_reducible refine s_call ?_)) | ((with_reducible refine s_tup ?_)) | ((with_reducible refine s_lst ?_)) | ((with_reducible refine s_mkT ?e ?_); (case e => walk_at "sz")) | ((with_reducible refine s_mkL ?e ?_); (case e => walk_at "sz"))
  | ((with_reducible refine s_gs ?_)) | ((with_reducible refine s_setD (xs := ?xs) (j := ?j) ?e ?f ?_); (case e => walk_at "look"); (case f => first | rfl | assumption | (refine ixN_nat ?_; first | omega | (simp only [List.length_map, List.length_append, List.length_cons, List.length_nil, List.length_range, List.length_set]; omega)))) | ((with_reducible refine s_gt ?_ ?e); (case e => rfl)) | ((with_reducible refine s_gtl ?_ ?e); (case e => rfl)) | ((with_reducible refine s_gc ?_)) | ((with_reducible refine s_gni ?_))
  | ((with_reducible refine s_mt ?_)) | ((with_reducible refine s_isl (xs := ?xs) ?e ?_); (case e => walk_at "look")) | ((with_reducible refine s_app (xs := ?xs) ?e ?f ?_); (case e => walk_at "look"); (case f => first | assumption | (refine szLt ?_; simp only [List.length_map, List.length_append, List.length_cons, List.length_nil, List.length_range]; omega)))
  | ((with_reducible refine s_lenT ?_)) | ((with_reducible refine s_lenS ?_)) | ((with_reducible refine s_lenL (xs := ?xs) ?e ?_); (case e => walk_at "look")) | ((with_reducible refine s_not ?_)) | ((with_reducible refine s_and ?_)) | ((with_reducible refine s_or ?_)) | ((with_reducible refine s_ifE ?_))
  | ((with_reducible refine s_andV ?_)) | ((with_reducible refine s_orV ?_)) | ((with_reducible refine s_notV ?_)) | ((with_reducible refine s_notB ?_)) | ((with_reducible refine s_andB ?_)) | ((with_reducible refine s_orB ?_))
  | ((with_reducible refine s_maxI ?_)) | ((with_reducible refine s_minI ?_)) | ((with_reducible refine s_absI ?_)) | ((with_reducible refine s_for ?_)) | ((with_reducible refine s_lc ?_)) | ((with_reducible refine s_rng ?_)) | ((with_reducible refine s_dseq ?_))
  | ((with_reducible refine s_rng1 ?e ?_); (case e => first | (constructor <;> omega) | (simp only [List.length_map, List.length_append, List.length_cons, List.length_nil, List.length_range, List.length_set]; constructor <;> omega))) | ((with_reducible refine s_rng2 ?e ?_); (case e => first | (refine ⟨?_, ?_, ?_, ?_⟩ <;> omega) | (simp only [List.length_map, List.length_append, List.length_cons, List.length_nil, List.length_range, List.length_set]; refine ⟨?_, ?_, ?_, ?_⟩ <;> omega))) | ((with_reducible refine s_seqT ?_)) | ((with_reducible refine s_seqS ?_)) | ((with_reducible refine s_seqL (xs := ?xs) ?e ?_); (case e => walk_at "look"))
  | ((with_reducible refine s_sl ?_)) | ((with_reducible refine s_np ?_)) | ((with_reducible refine s_pt ?_)) | ((with_reducible refine s_ptB ?_)) | ((with_reducible refine s_sliceT ?_)) | ((with_reducible refine s_sliceL (xs := ?xs) ?e ?_); (case e => walk_at "look")) | ((with_reducible refine s_sliceS ?_))
  | ((with_reducible refine s_un ?_)) | ((with_reducible refine s_tupL (xs := ?xs) ?e ?_); (case e => walk_at "look")) | ((with_reducible refine s_listL (xs := ?xs) ?e ?_); (case e => walk_at "look")) | ((with_reducible refine s_listT ?_)) | ((with_reducible refine s_par ?_)) | ((with_reducible refine s_parB ?_))
  | ((with_reducible refine s_isNN ?_)) | ((with_reducible refine s_isnNN ?_)) | ((with_reducible refine s_isIN ?_)) | ((with_reducible refine s_isnIN ?_)) | ((with_reducible refine s_isi (tn := ?tn) ?e ?f ?_); (case e => rfl); (case f => decide))
  | ((with_reducible refine s_ins (xs := ?xs) ?e ?f ?g ?_); (case e => walk_at "look"); (case f => first | assumption | (refine szLt ?_; simp only [List.length_map, List.length_append, List.length_cons, List.length_nil, List.length_range]; omega)); (case g => constructor <;> omega))
  | ((with_reducible refine s_isiL (xs := ?xs) ?e ?f ?_); (case e => walk_at "look"); (case f => decide))
  | ((with_reducible refine s_addT ?e ?_); (case e => walk_at "sz")) | ((with_reducible refine s_enum ?_)) | ((with_reducible refine s_enT ?_)) | ((with_reducible refine s_enS ?_)) | ((with_reducible refine s_enL (xs := ?xs) ?e ?_); (case e => walk_at "look")) | ((with_reducible refine s_eqNI ?_)) | ((with_reducible refine s_chain ?_)) | ((with_reducible refine s_chB ?_)) | ((with_reducible refine s_isTN ?_)) | ((with_reducible refine s_isnTN ?_)) | ((with_reducible refine s_isRN ?_)) | ((with_reducible refine s_isnRN ?_)) | ((with_reducible refine s_intB ?_)) | ((with_reducible refine s_intI ?_)) | ((with_reducible refine s_tupT ?_))
  | ((with_reducible refine s_fld ?_)) | ((with_reducible refine s_fldB (fs := ?fs) (d := ?d) ?e ?f ?_); (case e => walk_at "look"); (case f => rfl)) | ((with_reducible refine s_setF ?_)) | ((with_reducible refine s_setFN (fs := ?fs) ?e ?f ?g ?_); (case e => walk_at "look"); (case f => (simp only [List.length_append, List.length_cons, List.length_nil]; decide)); (case g => rfl); (try simp only [List.cons_append, List.nil_append]))
  | ((with_reducible refine s_meth ?_)) | ((with_reducible refine s_methB (fs := ?fs) ?e ?f ?_); (case e => walk_at "look"); (case f => rfl)) | ((with_reducible refine s_make ?_)) | ((with_reducible refine s_rng3 ?_))
  | ((with_reducible refine s_rng3B ?e ?_); (case e => first | (refine ⟨?_, ?_, ?_, ?_⟩ <;> omega) | (simp only [List.length_map, List.length_append, List.length_cons, List.length_nil, List.length_range, List.length_set]; refine ⟨?_, ?_, ?_, ?_⟩ <;> omega)))
  | ((with_reducible refine s_clr (xs := ?xs) ?e ?_); (case e => walk_at "look"))
  | ((with_reducible refine s_addL (xs := ?xs) (ys := ?ys) ?e ?f ?g ?_); (case e => walk_at "look"); (case f => walk_at "look"); (case g => walk_at "sz"))
  | ((with_reducible refine s_tru ?_)) | ((with_reducible refine s_optT (k := ?k) ?e ?_); (case e => rfl)) | ((with_reducible refine br_tt ?e ?_); (case e => decide)) | ((with_reducible refine br_ff ?e ?_); (case e => decide)))
local macro_rules | `(tactic| walk_at "run") => `(tactic| repeat (walk_at "s"))
local macro_rules | `(tactic| walk_at "le") => `(tactic| ((refine LeX.le ?_); repeat (first | with_reducible exact lex_refl | ((with_reducible refine lex_put ?h ?_); (case h => walk_at "look")) | ((with_reducible refine lex_mem ?h ?_); (case h => simp; done)) | ((with_reducible refine lex_new ?h ?_); (case h => walk_at "none")))))
local macro_rules | `(tactic| walk_at "lex") => `(tactic| repeat (first | with_reducible exact lex_refl | ((with_reducible refine lex_mem ?h ?_); (case h => simp; done)) | ((with_reducible refine lex_new' ?_ ?h); (case h => assumption))))

/-! ### the laws' feed of numbers: any numbers will do -/
def FeedOk (x y : Int) : Prop := 0 ≤ x ∧ 0 ≤ y ∧ y < 2147483647
abbrev feed (x y : Int) : O := .lst [.int x, .int y]
def C_law_feed : Ct := fun ds G Q _ => ∃ (ns : List Int) (k : Int), ds = [.lis (ns.map .int), .int k] ∧ 0 ≤ k ∧ k < 1000000 ∧ ∀ x y p, FeedOk x y → G p = none → Q (.ref p) (up G p (feed x y))
theorem len_law_feed (ds G Q E) (h : C_law_feed ds G Q E) : ds.length = 2 := by obtain ⟨_, _, rfl, _⟩ := h; rfl
abbrev N_law_feed : List Str := ["script", "k", "cell", "digits", "start"]
def T_law_feed : DX → DS := fun E => (dSeq (dAsg (dC (.int 0)) (dgName 2))
    (dSeq (dIf (dTest (dOp ltD (dVar 1) (dCB lenD (dCons (dVar 0) dNil)))) (dAsg (dOp itemD (dVar 0) (dVar 1)) (dgName 2)) dNext)
    (dSeq (dAsg (dC (.int 0)) (dgName 3))
    (dSeq (dIf (dTest (dOp geD (dVar 2) (dOp powD (dC (.int 10)) (dC (.int 18))))) (dAsg (dOp subD (dVar 2) (dOp powD (dC (.int 10)) (dC (.int 18)))) (dgName 3)) dNext)
    (dSeq (dAsg (dOp modD (dOp addD (dOp addD (dOp mulD (dOp modD (dVar 2) (dC (.int 2147483647))) (dC (.int 48271))) (dOp mulD (dC (.int 7919)) (dVar 1))) (dC (.int 5))) (dC (.int 2147483629))) (dgName 4))
    (dRet (dLst (dCons (dVar 3) (dCons (dOp addD (dOp modD (dOp powD (dVar 4) (dC (.int 5))) (dC (.int 2147483587))) (dC (.int 1))) dNil)))))))))
theorem feed_end {z cell k : Int} (h : z = (cell % 2147483647 * 48271 + 7919 * k + 5) % 2147483629) : 0 ≤ z ^ (5 : Int).toNat % 2147483587 + 1 ∧ z ^ (5 : Int).toNat % 2147483587 + 1 < 2147483647 := by
  have w1 := Int.emod_nonneg (z ^ (5 : Int).toNat) (show (2147483587 : Int) ≠ 0 by decide)
  have w2 := Int.emod_lt_of_pos (z ^ (5 : Int).toNat) (show (0 : Int) < 2147483587 by decide)
  omega
theorem p18 : (10 : Int) ^ (18 : Int).toNat = 1000000000000000000 := by decide
theorem run_law_feed (ds G Q E) (h : C_law_feed ds G Q E) : T_law_feed E { nx := fun _ G' => DrK Q .non G', rt := DrK Q, bk := fun _ _ => False, ct := fun _ _ => False } (dstart N_law_feed ds) G := by
  obtain ⟨ns, k, rfl, hk, hk2, q⟩ := h
  show T_law_feed E _ [some (.lis (ns.map .int)), some (.int k), none, none, none] G
  unfold T_law_feed
  walk_at "run"
  refine br_dec (fun h => ?_) (fun h => ?_)
  · rw [List.length_map] at h
    obtain ⟨j, rfl⟩ : ∃ j : Nat, k = (j : Int) := ⟨k.toNat, by omega⟩
    have hj : j < ns.length := by omega
    obtain ⟨c, e⟩ : ∃ c, (ns.map D.int)[j]? = some (.int c) := ⟨ns[j], by rw [List.getElem?_map, List.getElem?_eq_getElem hj]; rfl⟩
    walk_at "run"
    refine br_dec (fun h2 => ?_) (fun h2 => ?_)
    · walk_at "run"
      intro p hp
      refine s_rt (q _ _ p ?_ hp)
      exact ⟨by rw [p18] at h2 ⊢; omega, feed_end rfl⟩
    · walk_at "run"
      intro p hp
      refine s_rt (q _ _ p ?_ hp)
      exact ⟨by decide, feed_end rfl⟩
  · walk_at "run"
    intro p hp
    refine s_rt (q _ _ p ?_ hp)
    exact ⟨by decide, feed_end rfl⟩
def C_law_take : Ct := fun ds G Q _ => ∃ a x y m, ds = [.ref a, .int m] ∧ G a = some (feed x y) ∧ FeedOk x y ∧ 0 < m ∧ m < 1073741824 ∧
  ∀ r x' y', 0 ≤ r → r < m → FeedOk x' y' → Q (.int r) (up G a (feed x' y'))
theorem len_law_take (ds G Q E) (h : C_law_take ds G Q E) : ds.length = 2 := by obtain ⟨_, _, _, _, rfl, _⟩ := h; rfl
abbrev N_law_take : List Str := ["feed", "many", "found"]
def T_law_take : DX → DS := fun E => (dSeq (dIf (dTest (dOp gtD (dOp itemD (dVar 0) (dC (.int 0))) (dC (.int 0)))) (dSeq (dAsg (dOp modD (dOp itemD (dVar 0) (dC (.int 0))) (dVar 1)) (dgName 2))
    (dSeq (dAsg (dOp divD (dOp itemD (dVar 0) (dC (.int 0))) (dVar 1)) (dgSub (dVar 0) (dC (.int 0))))
    (dRet (dVar 2)))) dNext)
    (dSeq (dAsg (dOp modD (dOp addD (dOp mulD (dOp itemD (dVar 0) (dC (.int 1))) (dC (.int 69621))) (dC (.int 12345))) (dC (.int 2147483647))) (dgSub (dVar 0) (dC (.int 1))))
    (dRet (dOp modD (dOp divD (dOp itemD (dVar 0) (dC (.int 1))) (dC (.int 8191))) (dVar 1)))))
theorem run_law_take (ds G Q E) (h : C_law_take ds G Q E) : T_law_take E { nx := fun _ G' => DrK Q .non G', rt := DrK Q, bk := fun _ _ => False, ct := fun _ _ => False } (dstart N_law_take ds) G := by
  obtain ⟨a, x, y, m, rfl, ha, ⟨hx, hy, hy2⟩, hm, hm2, k⟩ := h
  show T_law_take E _ [some (.ref a), some (.int m), none] G
  unfold T_law_take
  walk_at "run"
  refine br_dec (fun h0 => ?_) (fun h0 => ?_)
  · walk_at "run"
    exact s_rt (k _ _ _ (Int.emod_nonneg _ (by omega)) (Int.emod_lt_of_pos _ hm) ⟨Int.ediv_nonneg hx (by omega), hy, hy2⟩)
  · walk_at "run"
    exact s_rt (k _ _ _ (Int.emod_nonneg _ (by omega)) (Int.emod_lt_of_pos _ hm) ⟨hx, Int.emod_nonneg _ (by decide), Int.emod_lt_of_pos _ (by decide)⟩)
theorem u_take {a : Addr} {x y m : Int} {G : DG} {Q : DK} {E : DX} (ha : G a = some (feed x y)) (hf : FeedOk x y) (h0 : 0 < m) (h1 : m < 1073741824) (k : ∀ r x' y', 0 ≤ r → r < m → FeedOk x' y' → Q (.int r) (up G a (feed x' y'))) : UpC C_law_take [.ref a, .int m] G Q E :=
  UpC.of ⟨a, x, y, m, rfl, ha, hf, h0, h1, k⟩
def C_law_pick : Ct := fun ds G Q _ => ∃ a x y b xs, ds = [.ref a, .ref b] ∧ G a = some (feed x y) ∧ FeedOk x y ∧ a ≠ b ∧ G b = some (.lst xs) ∧ 0 < xs.length ∧ xs.length < 1073741824 ∧
  ∀ d x' y', d ∈ xs → FeedOk x' y' → Q d (up G a (feed x' y'))
theorem len_law_pick (ds G Q E) (h : C_law_pick ds G Q E) : ds.length = 2 := by obtain ⟨_, _, _, _, _, rfl, _⟩ := h; rfl
abbrev N_law_pick : List Str := ["feed", "some"]
def T_law_pick : DX → DS := fun E => (dRet (dOp itemD (dVar 1) (dCall C_law_take E (dCons (dVar 0) (dCons (dCB lenD (dCons (dVar 1) dNil)) dNil)))))
theorem run_law_pick (ds G Q E) (h : C_law_pick ds G Q E) : T_law_pick E { nx := fun _ G' => DrK Q .non G', rt := DrK Q, bk := fun _ _ => False, ct := fun _ _ => False } (dstart N_law_pick ds) G := by
  obtain ⟨a, x, y, b, xs, rfl, ha, hf, hab, hb, h0, h1, k⟩ := h
  show T_law_pick E _ [some (.ref a), some (.ref b)] G
  unfold T_law_pick
  walk_at "run"
  refine UpC.of ⟨a, x, y, _, rfl, ha, hf, by omega, by omega, fun r x' y' r0 r1 hf' => ?_⟩
  obtain ⟨j, rfl⟩ : ∃ j : Nat, r = (j : Int) := ⟨r.toNat, by omega⟩
  have hj : j < xs.length := by omega
  have e : xs[j]? = some xs[j] := List.getElem?_eq_getElem hj
  walk_at "run"
  exact s_rt (k _ _ _ (List.getElem_mem hj) hf')
theorem u_pick {a b : Addr} {x y : Int} {xs : List D} {G : DG} {Q : DK} {E : DX} (ha : G a = some (feed x y)) (hf : FeedOk x y) (hab : a ≠ b) (hb : G b = some (.lst xs)) (h0 : 0 < xs.length) (h1 : xs.length < 1073741824) (k : ∀ d x' y', d ∈ xs → FeedOk x' y' → Q d (up G a (feed x' y'))) : UpC C_law_pick [.ref a, .ref b] G Q E :=
  UpC.of ⟨a, x, y, b, xs, rfl, ha, hf, hab, hb, h0, h1, k⟩

/-! ### jobs -/
inductive Stp where
  | doo | send (k : Nat) | wait
  deriving DecidableEq
def encStep : Stp → D
  | .doo => .tup [.str "do"]
  | .send k => .tup [.str "send", .int k]
  | .wait => .tup [.str "wait"]
def sendOf : Stp → Option Nat
  | .send k => some k
  | _ => none
def sends (ss : List Stp) : List Nat := ss.filterMap sendOf
abbrev Work := Int × List Stp
abbrev Job := List Work
def encWork (w : Work) : D := .tup [.int w.1, .tup (w.2.map encStep)]
def encJob (j : Job) : D := .tup (j.map encWork)
def kidsD (ks : List Nat) : List D := ks.map fun k : Nat => D.int k
theorem sends_append (a b : List Stp) : sends (a ++ b) = sends a ++ sends b := List.filterMap_append
theorem sends_map : ∀ ks : List Nat, sends (ks.map .send) = ks
  | [] => rfl
  | k :: ks => by
    have ih := sends_map ks
    unfold sends at ih ⊢
    rw [List.map_cons, List.filterMap_cons, ih]
    rfl
theorem sends_perm {a b : List Stp} (h : a.Perm b) : (sends a).Perm (sends b) := h.filterMap _
def C_law_steps : Ct := fun ds G Q _ => ∃ a x y b kids, ds = [.ref a, .ref b] ∧ G a = some (feed x y) ∧ FeedOk x y ∧ a ≠ b ∧ G b = some (.lst (kidsD kids)) ∧ kids.length ≤ 8 ∧
  ∀ ss x' y', 1 ≤ ss.length → ss.length ≤ 8 → (sends ss).Perm kids → FeedOk x' y' → Q (.tup (ss.map encStep)) (up G a (feed x' y'))
theorem len_law_steps (ds G Q E) (h : C_law_steps ds G Q E) : ds.length = 2 := by obtain ⟨_, _, _, _, _, rfl, _⟩ := h; rfl
abbrev N_law_steps : List Str := ["feed", "children", "found", "child", "k", "at", "size", "turn", "step"]
def T_law_steps : DX → DS := fun E => (dSeq (dAsg (dLc (diSeq (dVar 1)) (bdN 3) [3] dYes (dTup (dCons (dC (.str "send")) (dCons (dVar 3) dNil)))) (dgName 2))
    (dSeq (dFor (diRange (dCons (dCB lenD (dCons (dVar 2) dNil)) dNil)) (dgName 4) (dSeq (dAsg (dCall C_law_take E (dCons (dVar 0) (dCons (dCB lenD (dCons (dVar 2) dNil)) dNil))) (dgName 5))
    (dAsg (dTup (dCons (dOp itemD (dVar 2) (dVar 5)) (dCons (dOp itemD (dVar 2) (dVar 4)) dNil))) (dgTup 2 (dgCons (dgSub (dVar 2) (dVar 4)) (dgCons (dgSub (dVar 2) (dVar 5)) dgNil))))))
    (dSeq (dAsg (dCall C_law_pick E (dCons (dVar 0) (dCons (dLst (dCons (dCB lenD (dCons (dVar 2) dNil)) (dCons (dOp addD (dCB lenD (dCons (dVar 2) dNil)) (dC (.int 1))) (dCons (dOp addD (dCB lenD (dCons (dVar 2) dNil)) (dC (.int 2))) (dCons (dOp addD (dC (.int 1)) (dCall C_law_take E (dCons (dVar 0) (dCons (dC (.int 8)) dNil)))) dNil))))) dNil))) (dgName 6))
    (dSeq (dFor (diRange (dCons (dOp subD (dCB minD (dCons (dC (.int 8)) (dCons (dCB maxD (dCons (dC (.int 1)) (dCons (dVar 6) dNil))) dNil))) (dCB lenD (dCons (dVar 2) dNil))) dNil)) (dgName 7) (dSeq (dAsg (dCall C_law_pick E (dCons (dVar 0) (dCons (dLst (dCons (dTup (dCons (dC (.str "do")) dNil)) (dCons (dTup (dCons (dC (.str "do")) dNil)) (dCons (dTup (dCons (dC (.str "wait")) dNil)) dNil)))) dNil))) (dgName 8))
    (dDrop (dMt insertD (dVar 2) (dCons (dCall C_law_take E (dCons (dVar 0) (dCons (dOp addD (dCB lenD (dCons (dVar 2) dNil)) (dC (.int 1))) dNil))) (dCons (dVar 8) dNil))))))
    (dRet (dCB tupleD (dCons (dSl (dVar 2) dNoPart (dPart (dC (.int 8)))) dNil)))))))
theorem map_swap {ss : List Stp} {i j : Nat} (hi : i < ss.length) (hj : j < ss.length) : ((ss.map encStep).set i (encStep ss[j])).set j (encStep ss[i]) = ((ss.set i ss[j]).set j ss[i]).map encStep := by
  rw [List.map_set, List.map_set]
theorem run_law_steps (ds G Q E) (h : C_law_steps ds G Q E) : T_law_steps E { nx := fun _ G' => DrK Q .non G', rt := DrK Q, bk := fun _ _ => False, ct := fun _ _ => False } (dstart N_law_steps ds) G := by
  obtain ⟨a, x, y, b, kids, rfl, ha, hf, hab, hb, hl, q⟩ := h
  show T_law_steps E _ [some (.ref a), some (.ref b), none, none, none, none, none, none, none] G
  unfold T_law_steps
  walk_at "run"
  intro p hp
  have hap : a ≠ p := gne ha hp
  have hbp : b ≠ p := gne hb hp
  refine comp_map kids (fun k : Nat => D.int k) (fun k => encStep (.send k)) (by omega) hp (fun o => up_nx hbp hb) (fun k hk o => ⟨_, rfl, fun QD h => ?_⟩) ?_
  · walk_at "run"
    exact h
  have e0 : kids.map (fun k => encStep (.send k)) = (kids.map Stp.send).map encStep := by rw [List.map_map]; rfl
  rw [e0]
  walk_at "run"
  -- the swaps
  refine loop_inv (fun i σ G' => ∃ ss x y v4 v5, ss.Perm (kids.map Stp.send) ∧ FeedOk x y ∧ σ = [some (.ref a), some (.ref b), some (.ref p), none, v4, v5, none, none, none] ∧ G' = up (up G a (feed x y)) p (.lst (ss.map encStep)))
    ⟨kids.map .send, x, y, none, none, .refl _, hf, rfl, ?_⟩ (fun _ _ _ _ _ => trivial) (fun i d σ' G' N hd hi hP hN => ?_) (fun σ' G' hP => ?_)
  · funext c
    unfold up
    by_cases h1 : c = p
    · simp [h1]
    · by_cases h2 : c = a
      · simp [h2, ha, hap]
      · simp [h1, h2]
  · obtain ⟨ss, x, y, v4, v5, hp', hf, rfl, rfl⟩ := hP
    obtain ⟨rfl, hi2⟩ := rangeD_get0 hd
    have hls : ss.length = kids.length := by rw [hp'.length_eq, List.length_map]
    simp only [List.length_map] at hi2
    have hi3 : i < ss.length := by omega
    walk_at "run"
    refine UpC.of ⟨a, x, y, _, rfl, by walk_at "look", hf, by simp only [List.length_map]; omega, by simp only [List.length_map]; omega, fun r x' y' r0 r1 hf' => ?_⟩
    simp only [List.length_map] at r1
    obtain ⟨j, rfl⟩ : ∃ j : Nat, r = (j : Int) := ⟨r.toNat, by omega⟩
    have hj : j < ss.length := by omega
    have ei : (ss.map encStep)[i]? = some (encStep ss[i]) := by rw [List.getElem?_map, List.getElem?_eq_getElem hi3]; rfl
    have ej : (ss.map encStep)[j]? = some (encStep ss[j]) := by rw [List.getElem?_map, List.getElem?_eq_getElem hj]; rfl
    walk_at "run"
    rw [map_swap hi3 hj]
    refine hN _ _ _ ?_ ⟨(ss.set i ss[j]).set j ss[i], x', y', _, _, (List.set_set_perm hi3 hj).trans hp', hf', rfl, rfl⟩
    walk_at "le"
  · obtain ⟨ss, x, y, v4, v5, hp', hf, rfl, rfl⟩ := hP
    have hls : ss.length = kids.length := by rw [hp'.length_eq, List.length_map]
    have hsn : (sends ss).Perm kids := by
      have := sends_perm hp'
      rwa [sends_map] at this
    clear hp'
    walk_at "run"
    refine u_take (x := x) (y := y) (by walk_at "look") hf (by decide) (by decide) fun r x1 y1 r0 r1 hf1 => ?_
    walk_at "run"
    intro c hc
    walk_at "run"
    refine u_pick (x := x1) (y := y1) (by walk_at "look") hf1 (by walk_at "ne") up_same (by simp) (by simp) fun d x2 y2 hd hf2 => ?_
    obtain ⟨z, rfl, hz⟩ : ∃ z : Int, d = .int z ∧ 0 ≤ z ∧ z < 1000 := by
      simp only [List.mem_cons, List.length_map, List.not_mem_nil, or_false] at hd
      rcases hd with rfl | rfl | rfl | rfl
      · exact ⟨_, rfl, by omega, by omega⟩
      · exact ⟨_, rfl, by omega, by omega⟩
      · exact ⟨_, rfl, by omega, by omega⟩
      · exact ⟨_, rfl, by omega, by omega⟩
    refine s_gn (s_goD (G0 := up (up G a (feed x2 y2)) p (.lst (ss.map encStep))) (by walk_at "le") ?_)
    walk_at "run"
    have hn : ∃ n : Nat, (if (if z > 1 then z else 1) < 8 then if z > 1 then z else 1 else 8) = (n : Int) ∧ 1 ≤ n ∧ n ≤ 8 := by
      refine ⟨(if (if z > 1 then z else 1) < 8 then if z > 1 then z else 1 else 8).toNat, ?_, ?_, ?_⟩ <;> (repeat' split) <;> omega
    obtain ⟨n, en, n1, n8⟩ := hn
    rw [en]
    clear hd
    refine loop_inv (fun i σ G' => ∃ ss' x y v7 v8, ss'.length = ss.length + i ∧ (sends ss').Perm kids ∧ FeedOk x y ∧ σ = [some (.ref a), some (.ref b), some (.ref p), none, v4, v5, some (.int z), v7, v8] ∧ G' = up (up G a (feed x y)) p (.lst (ss'.map encStep)))
      ⟨ss, x2, y2, none, none, rfl, hsn, hf2, rfl, rfl⟩ (fun _ _ _ _ _ => trivial) (fun i d σ' G' N hd hi hP hN => ?_) (fun σ' G' hP => ?_)
    · obtain ⟨ss', x, y, v7, v8, hl', hs', hf, rfl, rfl⟩ := hP
      obtain ⟨rfl, hi2⟩ := rangeD_get0 hd
      rw [List.length_map] at hi2
      walk_at "run"
      intro c hc
      walk_at "run"
      refine u_pick (x := x) (y := y) (by walk_at "look") hf (by walk_at "ne") up_same (by simp) (by simp) fun d x3 y3 hd hf3 => ?_
      obtain ⟨sp, rfl, hsp⟩ : ∃ sp : Stp, d = encStep sp ∧ sendOf sp = none := by
        simp only [List.mem_cons, List.not_mem_nil, or_false] at hd
        rcases hd with rfl | rfl | rfl
        · exact ⟨.doo, rfl, rfl⟩
        · exact ⟨.doo, rfl, rfl⟩
        · exact ⟨.wait, rfl, rfl⟩
      refine s_gn (s_goD (G0 := up (up G a (feed x3 y3)) p (.lst (ss'.map encStep))) (by walk_at "le") ?_)
      walk_at "run"
      refine u_take (x := x3) (y := y3) (by walk_at "look") hf3 (by rw [List.length_map]; omega) (by rw [List.length_map]; omega) fun r x4 y4 r0 r1 hf4 => ?_
      rw [List.length_map] at r1
      walk_at "run"
      refine hN _ _ (up (up G a (feed x4 y4)) p (.lst ((ss'.take r.toNat ++ sp :: ss'.drop r.toNat).map encStep))) (by rw [List.map_append, List.map_cons, List.map_take, List.map_drop]; walk_at "le") ⟨_, x4, y4, _, _, ?_, ?_, hf4, rfl, rfl⟩
      · simp only [List.length_append, List.length_cons, List.length_take, List.length_drop]
        omega
      · have e : sends (ss'.take r.toNat ++ sp :: ss'.drop r.toNat) = sends ss' := by
          rw [sends_append]
          have e1 : sends (sp :: ss'.drop r.toNat) = sends (ss'.drop r.toNat) := by
            unfold sends
            rw [List.filterMap_cons, hsp]
          rw [e1, ← sends_append, List.take_append_drop]
        rw [e]
        exact hs'
    · obtain ⟨ss', x, y, v7, v8, hl', hs', hf, rfl, rfl⟩ := hP
      rw [rangeD_length, List.length_map] at hl'
      walk_at "run"
      intro c hc
      walk_at "run"
      have e8 : cutD (ss'.map encStep) none (some 8) = ss'.map encStep := by
        rw [show (8 : Int) = ((8 : Nat) : Int) from rfl, cutD_upto, List.take_of_length_le (by rw [List.length_map]; omega)]
      rw [e8]
      exact s_rtD (G0 := up G a (feed x y)) (by walk_at "le") (q ss' x y (by omega) (by omega) hs' hf)
/-! ### the law's job -/
structure JobOk (j : Job) : Prop where
  l1 : 1 ≤ j.length
  l12 : j.length ≤ 12
  rooms : ∀ w ∈ j, 1 ≤ w.1 ∧ w.1 ≤ 9
  steps : ∀ w ∈ j, 1 ≤ w.2.length ∧ w.2.length ≤ 8
  up : ∀ i w, j[i]? = some w → ∀ k ∈ sends w.2, i < k
  once : (j.flatMap fun w => sends w.2).Perm (List.range' 1 (j.length - 1))
structure Kids (G G' : DG) (a p : Addr) (cs : List Addr) (kss : List (List Nat)) (x y : Int) : Prop where
  ha : G' a = some (feed x y)
  hf : FeedOk x y
  hp : G' p = some (.lst (cs.map .ref))
  pa : p ≠ a
  pc : p ∉ cs
  nd : cs.Nodup
  len : cs.length = kss.length
  at_ : ∀ (i : Nat) c ks, cs[i]? = some c → kss[i]? = some ks → G' c = some (.lst (kidsD ks))
  ca : a ∉ cs
  fp : G p = none
  fc : ∀ c ∈ cs, G c = none
  le : LeX [a] G G'
theorem Kids.feed {G G' : DG} {a p : Addr} {cs : List Addr} {kss : List (List Nat)} {x y x' y' : Int} (h : Kids G G' a p cs kss x y) (hf : FeedOk x' y') : Kids G (up G' a (feed x' y')) a p cs kss x' y' :=
  { h with
    ha := up_same, hf := hf, hp := up_nx h.pa h.hp
    at_ := fun i c ks e1 e2 => up_nx (fun e => h.ca (e ▸ List.mem_of_getElem? e1)) (h.at_ i c ks e1 e2)
    le := lex_mem (by simp) h.le }
theorem Kids.new {G G' : DG} {a p q : Addr} {cs : List Addr} {kss : List (List Nat)} {x y : Int} {o : O} (h : Kids G G' a p cs kss x y) (hq : G' q = none) : Kids G (up G' q o) a p cs kss x y :=
  { h with
    ha := up_nx (gne h.ha hq) h.ha, hp := up_nx (gne h.hp hq) h.hp
    at_ := fun i c ks e1 e2 => up_nx (gne (h.at_ i c ks e1 e2) hq) (h.at_ i c ks e1 e2)
    le := fun b ob hb e => up_nx (gne (h.le b ob hb e) hq) (h.le b ob hb e) }
theorem Kids.add {G G' : DG} {a p c : Addr} {cs : List Addr} {kss : List (List Nat)} {x y : Int} {n : Nat} {ks ks' : List Nat} (h : Kids G G' a p cs kss x y) (hc : cs[n]? = some c) (hk : kss[n]? = some ks) : Kids G (up G' c (.lst (kidsD ks'))) a p cs (kss.set n ks') x y := by
  have hcm := List.mem_of_getElem? hc
  have hca : a ≠ c := fun e => h.ca (e ▸ hcm)
  have hcp : p ≠ c := fun e => h.pc (e ▸ hcm)
  refine { h with ha := up_nx hca h.ha, hp := up_nx hcp h.hp, len := by rw [List.length_set]; exact h.len, at_ := fun i d ks e1 e2 => ?_, le := lex_new (h.fc c hcm) h.le }
  by_cases hi : i = n
  · subst hi
    rw [hc] at e1
    cases e1
    rw [List.getElem?_set_self (List.getElem?_eq_some_iff.mp hk).1] at e2
    cases e2
    exact up_same
  · rw [List.getElem?_set_ne (Ne.symm hi)] at e2
    refine up_nx (fun e => ?_) (h.at_ i d ks e1 e2)
    subst e
    obtain ⟨l1, e1⟩ := List.getElem?_eq_some_iff.mp e1
    obtain ⟨l2, e2⟩ := List.getElem?_eq_some_iff.mp hc
    exact hi ((List.getElem_inj (h₀ := l1) (h₁ := l2) h.nd).mp (e1.trans e2.symm))
theorem Kids.more {G G' : DG} {a p c : Addr} {cs : List Addr} {kss : List (List Nat)} {x y : Int} (h : Kids G G' a p cs kss x y) (hc : G' c = none) (hG : G c = none) : Kids G (up (up G' c (.lst [])) p (.lst ((cs ++ [c]).map .ref))) a p (cs ++ [c]) (kss ++ [[]]) x y := by
  have n := h.new (o := .lst []) hc
  have pc : p ≠ c := gne h.hp hc
  have hcc : c ∉ cs := fun m => by
    obtain ⟨i, hi, e⟩ := List.mem_iff_getElem.mp m
    have := h.at_ i c (kss[i]'(h.len ▸ hi)) (by rw [List.getElem?_eq_getElem hi, e]) (List.getElem?_eq_getElem _)
    rw [hc] at this
    cases this
  refine ⟨up_nx (Ne.symm h.pa) n.ha, h.hf, up_same, h.pa, ?_, ?_, by simp [h.len], fun i d ks e1 e2 => ?_, ?_, h.fp, ?_, lex_new h.fp n.le⟩
  · simp [h.pc, pc]
  · rw [List.nodup_append]
    exact ⟨h.nd, by simp, fun u hu v hv => by simp at hv; subst hv; exact fun e => hcc (e ▸ hu)⟩
  · have hd := List.mem_of_getElem? e1
    refine up_nx (fun e => ?_) ?_
    · subst e
      simp [h.pc, pc] at hd
    · by_cases hi : i < cs.length
      · rw [List.getElem?_append_left hi] at e1
        rw [List.getElem?_append_left (h.len ▸ hi)] at e2
        exact n.at_ i d ks e1 e2
      · have : i = cs.length := by
          have := (List.getElem?_eq_some_iff.mp e1).1
          simp at this
          omega
        subst this
        rw [List.getElem?_append_right (by omega)] at e1
        rw [h.len, List.getElem?_append_right (by omega)] at e2
        simp at e1 e2
        subst e1
        subst e2
        exact up_same
  · simp [h.ca, gne h.ha hc]
  · intro u hu
    simp at hu
    rcases hu with hu | rfl
    · exact h.fc u hu
    · exact hG
def C_law_job : Ct := fun ds G Q _ => ∃ a x y most, ds = [.ref a, .int most] ∧ G a = some (feed x y) ∧ FeedOk x y ∧ 1 ≤ most ∧ most ≤ 12 ∧
  ∀ j x' y', JobOk j → (j.length : Int) ≤ most → FeedOk x' y' → Q (encJob j) (up G a (feed x' y'))
theorem len_law_job (ds G Q E) (h : C_law_job ds G Q E) : ds.length = 2 := by obtain ⟨_, _, _, _, rfl, _⟩ := h; rfl
abbrev N_law_job : List Str := ["feed", "most", "many", "way", "children", "work", "some", "near", "one", "rooms"]
def T_law_job : DX → DS := fun E => (dSeq (dAsg (dCall C_law_pick E (dCons (dVar 0) (dCons (dLst (dCons (dVar 1) (dCons (dVar 1) (dCons (dOp subD (dVar 1) (dC (.int 1))) (dCons (dOp addD (dC (.int 1)) (dCall C_law_take E (dCons (dVar 0) (dCons (dVar 1) dNil)))) dNil))))) dNil))) (dgName 2))
    (dSeq (dAsg (dCB maxD (dCons (dC (.int 1)) (dCons (dVar 2) dNil))) (dgName 2))
    (dSeq (dAsg (dCall C_law_take E (dCons (dVar 0) (dCons (dC (.int 5)) dNil))) (dgName 3))
    (dSeq (dAsg (dLc (diRange (dCons (dVar 2) dNil)) (bdN 5) [5] dYes (dLst dNil)) (dgName 4))
    (dSeq (dFor (diRange (dCons (dC (.int 1)) (dCons (dVar 2) dNil))) (dgName 5) (dSeq (dAsg (dLst (dCons (dCall C_law_take E (dCons (dVar 0) (dCons (dVar 5) dNil))) (dCons (dOp subD (dVar 5) (dC (.int 1))) (dCons (dCall C_law_take E (dCons (dVar 0) (dCons (dVar 5) dNil))) (dCons (dCB maxD (dCons (dC (.int 0)) (dCons (dOp subD (dOp subD (dVar 5) (dC (.int 1))) (dCall C_law_take E (dCons (dVar 0) (dCons (dC (.int 3)) dNil)))) dNil))) dNil))))) (dgName 6))
    (dSeq (dAsg (dOp itemD (dOp addD (dVar 6) (dLst (dCons (dC (.int 0)) dNil))) (dVar 3)) (dgName 7))
    (dSeq (dIf (dTest (dOp eqD (dCB lenD (dCons (dOp itemD (dVar 4) (dVar 7)) dNil)) (dC (.int 8)))) (dAsg (dOp itemD (dLc (diRange (dCons (dVar 5) dNil)) (bdN 8) [8] (dTest (dOp ltD (dCB lenD (dCons (dOp itemD (dVar 4) (dVar 8)) dNil)) (dC (.int 8)))) (dVar 8)) (dC (.int 0))) (dgName 7)) dNext)
    (dDrop (dMt appendD (dOp itemD (dVar 4) (dVar 7)) (dCons (dVar 5) dNil)))))))
    (dSeq (dAsg (dLc (diRange (dCons (dVar 2) dNil)) (bdN 5) [5] dYes (dCall C_law_pick noX (dCons (dVar 0) (dCons (dLst (dCons (dC (.int 1)) (dCons (dC (.int 2)) (dCons (dOp addD (dC (.int 1)) (dCall C_law_take noX (dCons (dVar 0) (dCons (dC (.int 9)) dNil)))) dNil)))) dNil)))) (dgName 9))
    (dRet (dCB tupleD (dCons (dLc (diRange (dCons (dVar 2) dNil)) (bdN 5) [5] dYes (dTup (dCons (dOp itemD (dVar 9) (dVar 5)) (dCons (dCall C_law_steps noX (dCons (dVar 0) (dCons (dOp itemD (dVar 4) (dVar 5)) dNil))) dNil)))) dNil)))))))))
theorem flatten_set {n k : Nat} {ks : List Nat} : ∀ {kss : List (List Nat)}, kss[n]? = some ks → ((kss.set n (ks ++ [k])).flatten).Perm (kss.flatten ++ [k]) := by
  induction n with
  | zero =>
    intro kss h
    cases kss with
    | nil => simp at h
    | cons a t =>
      simp at h
      subst h
      simp only [List.set_cons_zero, List.flatten_cons, List.append_assoc]
      exact List.Perm.append_left _ List.perm_append_comm
  | succ n ih =>
    intro kss h
    cases kss with
    | nil => simp at h
    | cons a t =>
      simp at h
      simp only [List.set_cons_succ, List.flatten_cons, List.append_assoc]
      exact List.Perm.append_left _ (ih h)
theorem run_law_job (ds G Q E) (h : C_law_job ds G Q E) : T_law_job E { nx := fun _ G' => DrK Q .non G', rt := DrK Q, bk := fun _ _ => False, ct := fun _ _ => False } (dstart N_law_job ds) G := by
  obtain ⟨a, x, y, most, rfl, ha, hf, m1, m12, q⟩ := h
  show T_law_job E _ [some (.ref a), some (.int most), none, none, none, none, none, none, none, none] G
  unfold T_law_job
  walk_at "run"
  refine u_take (x := x) (y := y) ha hf (by omega) (by omega) fun r x1 y1 r0 r1 hf1 => ?_
  walk_at "run"
  intro c hc
  refine u_pick (x := x1) (y := y1) (by walk_at "look") hf1 (by walk_at "ne") up_same (by simp) (by simp) fun d x2 y2 hd hf2 => ?_
  obtain ⟨z, rfl, hz⟩ : ∃ z : Int, d = .int z ∧ z ≤ most := by
    simp only [List.mem_cons, List.not_mem_nil, or_false] at hd
    rcases hd with rfl | rfl | rfl | rfl
    · exact ⟨_, rfl, by omega⟩
    · exact ⟨_, rfl, by omega⟩
    · exact ⟨_, rfl, by omega⟩
    · exact ⟨_, rfl, by omega⟩
  clear hd
  refine s_gn (s_goD (G0 := up G a (feed x2 y2)) (by walk_at "le") ?_)
  walk_at "run"
  obtain ⟨n, en, n1, n2⟩ : ∃ n : Nat, (if z > 1 then z else 1) = (n : Int) ∧ 1 ≤ n ∧ (n : Int) ≤ most := by
    refine ⟨(if z > 1 then z else 1).toNat, ?_, ?_, ?_⟩ <;> split <;> omega
  rw [en]
  refine u_take (x := x2) (y := y2) (by walk_at "look") hf2 (by decide) (by decide) fun w x3 y3 w0 w1 hf3 => ?_
  rw [up_up]
  obtain ⟨w, rfl⟩ : ∃ j : Nat, w = (j : Int) := ⟨w.toNat, by omega⟩
  walk_at "run"
  intro p hp
  have gp : G p = none := up_free hp
  have hap : a ≠ p := gne up_same hp
  refine comp_inv (fun i G' => ∃ cs, Kids G G' a p cs (List.replicate i []) x3 y3) ⟨[], ?_⟩ (fun _ _ _ _ => trivial) (fun i d G' hd hi hP => ?_) (fun G' hP => ?_)
  · exact ⟨up_nx hap up_same, hf3, up_same, Ne.symm hap, by simp, by simp, rfl, by simp, by simp, gp, by simp, lex_new gp (lex_mem (by simp) lex_refl)⟩
  · obtain ⟨cs, hK⟩ := hP
    refine ⟨_, rfl, fun N hN => ?_⟩
    walk_at "run"
    intro c2 hc2
    have hl : i ≤ 12 := by rw [rangeD_length] at hi; omega
    have hG : G c2 = none := by
      cases e : G c2 with
      | none => rfl
      | some o =>
        by_cases h1 : c2 = a
        · subst h1
          rw [hK.ha] at hc2
          cases hc2
        · rw [hK.le c2 o (by simp [h1]) e] at hc2
          cases hc2
    refine ⟨cs.map .ref, up_nx (gne hK.hp hc2) hK.hp, szLt (by rw [List.length_map, hK.len, List.length_replicate]; omega), hN _ _ (.refl _) ⟨cs ++ [c2], ?_⟩⟩
    have := hK.more hc2 hG
    rw [List.map_append] at this
    rw [List.replicate_succ']
    exact this
  obtain ⟨cs, hK⟩ := hP
  rw [rangeD_length] at hK
  have hnn : ((n : Int) - 0).toNat = n := by omega
  rw [hnn] at hK
  walk_at "run"
  refine loop_inv (fun i σ G' => ∃ cs kss x y v5 v6 v7 v8, Kids G G' a p cs kss x y ∧ kss.length = n ∧ kss.flatten.Perm (List.range' 1 i) ∧ (∀ ks ∈ kss, ks.length ≤ 8) ∧ (∀ (m : Nat) ks, kss[m]? = some ks → ∀ k ∈ ks, m < k) ∧ σ = [some (.ref a), some (.int most), some (.int n), some (.int w), some (.ref p), v5, v6, v7, v8, none])
    ⟨cs, _, x3, y3, none, none, none, none, hK, by simp, ?_, ?_, ?_, rfl⟩ (fun _ _ _ _ _ => trivial) (fun i d σ' G' N hd hi hP hN => ?_) (fun σ' G' hP => ?_)
  · simp
  · intro ks hks
    rw [List.eq_of_mem_replicate hks]
    simp
  · intro m ks hks k hk
    rw [List.eq_of_mem_replicate (List.mem_of_getElem? hks)] at hk
    simp at hk
  · obtain ⟨cs, kss, x, y, v5, v6, v7, v8, hK, hl, hP1, hP2, hP3, rfl⟩ := hP
    obtain ⟨rfl, hi2⟩ := rangeD_get hd
    rw [show (1 : Int) + (i : Int) = ((i + 1 : Nat) : Int) by omega]
    have i12 : i < 12 := by omega
    walk_at "run"
    refine u_take (x := x) (y := y) hK.ha hK.hf (by omega) (by omega) fun r1 x1 y1 r10 r11 hf1 => ?_
    have hK := hK.feed hf1
    walk_at "run"
    refine u_take (x := x1) (y := y1) hK.ha hK.hf (by omega) (by omega) fun r2 x2 y2 r20 r21 hf2 => ?_
    have hK := hK.feed hf2
    walk_at "run"
    refine u_take (x := x2) (y := y2) hK.ha hK.hf (by omega) (by omega) fun r3 x3 y3 r30 r31 hf3 => ?_
    have hK := hK.feed hf3
    walk_at "run"
    intro c1 hc1
    have hK := hK.new hc1 (o := .lst [D.int r1, .int (↑(i + 1) - 1), .int r2, .int (if ↑(i + 1) - 1 - r3 > 0 then ↑(i + 1) - 1 - r3 else 0)])
    walk_at "run"
    intro c2 hc2
    walk_at "run"
    intro c3 hc3
    obtain ⟨v, ev, v0, v1⟩ : ∃ v : Int, ([D.int r1, .int (↑(i + 1) - 1), .int r2, .int (if ↑(i + 1) - 1 - r3 > 0 then ↑(i + 1) - 1 - r3 else 0)] ++ [D.int 0])[w]? = some (.int v) ∧ 0 ≤ v ∧ v < (i + 1 : Nat) := by
      rcases (show w = 0 ∨ w = 1 ∨ w = 2 ∨ w = 3 ∨ w = 4 by omega) with rfl | rfl | rfl | rfl | rfl
      · exact ⟨_, rfl, by omega, by omega⟩
      · exact ⟨_, rfl, by omega, by omega⟩
      · exact ⟨_, rfl, by omega, by omega⟩
      · exact ⟨_, rfl, by split <;> omega, by split <;> omega⟩
      · exact ⟨_, rfl, by omega, by omega⟩
    obtain ⟨v, rfl⟩ : ∃ j : Nat, v = (j : Int) := ⟨v.toNat, by omega⟩
    have hK := (hK.new hc2 (o := .lst [.int 0])).new hc3 (o := .lst ([D.int r1, .int (↑(i + 1) - 1), .int r2, .int (if ↑(i + 1) - 1 - r3 > 0 then ↑(i + 1) - 1 - r3 else 0)] ++ [D.int 0]))
    walk_at "run"
    have row : ∀ m : Nat, m < n → ∃ c ks, cs[m]? = some c ∧ (cs.map D.ref)[m]? = some (.ref c) ∧ kss[m]? = some ks := fun m hm => by
      have h1 : m < cs.length := by rw [hK.len]; omega
      exact ⟨cs[m], kss[m]'(by omega), List.getElem?_eq_getElem h1, by rw [List.getElem?_map, List.getElem?_eq_getElem h1]; rfl, List.getElem?_eq_getElem (by omega)⟩
    -- the end of a row: one more child
    have fin : ∀ (G1 : DG) (m : Nat) (ks : List Nat) (σ : DSt) (c : Addr), Kids G G1 a p cs kss x3 y3 → m < i + 1 → kss[m]? = some ks → ks.length < 8 → cs[m]? = some c → (∃ v6 v7 v8, σ = [some (.ref a), some (.int most), some (.int n), some (.int w), some (.ref p), some (.int ↑(i + 1)), v6, v7, v8, none]) → N σ (up G1 c (.lst (kidsD ks ++ [.int ↑(i + 1)]))) := by
      intro G1 m ks σ c hK hm hks h8 hc hσ
      obtain ⟨v6, v7, v8, rfl⟩ := hσ
      have e : kidsD ks ++ [D.int ↑(i + 1)] = kidsD (ks ++ [i + 1]) := by unfold kidsD; rw [List.map_append]; rfl
      rw [e]
      refine hN _ _ _ (.refl _) ⟨cs, _, x3, y3, _, _, _, _, hK.add hc hks, by rw [List.length_set]; exact hl, ?_, ?_, ?_, rfl⟩
      · refine (flatten_set hks).trans ?_
        rw [List.range'_1_concat]
        refine (hP1.append_right _).trans ?_
        rw [Nat.add_comm 1 i]
      · intro ks' hks'
        rcases List.mem_or_eq_of_mem_set hks' with h1 | h1
        · exact hP2 _ h1
        · subst h1
          simp
          omega
      · intro m' ks' hks' k hk
        by_cases hm' : m = m'
        · subst hm'
          rw [List.getElem?_set_self (by omega)] at hks'
          cases hks'
          rcases List.mem_append.mp hk with h1 | h1
          · exact hP3 _ _ hks k h1
          · simp at h1
            omega
        · rw [List.getElem?_set_ne hm'] at hks'
          exact hP3 _ _ hks' k hk
    obtain ⟨c, ks, hc, hcD, hks⟩ := row v (by omega)
    refine s_itL hK.hp (d := .ref c) (by rw [atI_cast]; exact hcD) ?_
    refine s_nil (s_lenL (hK.at_ _ _ _ hc hks) ?_)
    walk_at "run"
    have hk8 := hP2 _ (List.mem_of_getElem? hks)
    refine br_bool (fun h8 => ?_) (fun h8 => ?_)
    · walk_at "run"
      intro e he
      rw [rangeD0]
      refine comp_pure (List.range (i + 1)) (fun k : Nat => D.int k) (fun k => decide (((kss.getD k []).length : Int) < 8)) (fun k : Nat => D.int k) (by simp; omega) he (fun _ => trivial) (fun k hk o => ⟨_, rfl, fun QB h => ?_, fun _ QD h => ?_⟩) ?_
      · simp at hk
        obtain ⟨c', ks', hc', hcD', hks'⟩ := row k (by omega)
        have hK' := hK.new he (o := o)
        have e2 : kss.getD k [] = ks' := by rw [List.getD_eq_getElem?_getD, hks']; rfl
        rw [e2] at h
        walk_at "run"
        refine s_itL hK'.hp (d := .ref c') (by rw [atI_cast]; exact hcD') ?_
        refine s_nil (s_lenL (hK'.at_ _ _ _ hc' hks') ?_)
        walk_at "run"
        unfold kidsD
        rw [List.length_map]
        exact h
      · walk_at "run"
        exact h
      · have hmem : i ∈ (List.range (i + 1)).filter (fun k => decide (((kss.getD k []).length : Int) < 8)) := by
          obtain ⟨c', ks', hc', hcD', hks'⟩ := row i (by omega)
          have e2 : kss.getD i [] = ks' := by rw [List.getD_eq_getElem?_getD, hks']; rfl
          rw [List.mem_filter]
          refine ⟨by simp, ?_⟩
          have e3 : ks' = [] := by
            refine List.eq_nil_iff_forall_not_mem.mpr fun k hk => ?_
            have h1 := hP3 _ _ hks' k hk
            have h2 : k ∈ kss.flatten := List.mem_flatten.mpr ⟨_, List.mem_of_getElem? hks', hk⟩
            have h3 := hP1.mem_iff.mp h2
            simp [List.mem_range'] at h3
            omega
          rw [e2, e3]
          decide
        generalize hL : (List.range (i + 1)).filter (fun k => decide (((kss.getD k []).length : Int) < 8)) = L at hmem
        cases L with
        | nil => simp at hmem
        | cons f L =>
          have hfm : f ∈ (List.range (i + 1)).filter (fun k => decide (((kss.getD k []).length : Int) < 8)) := by rw [hL]; simp
          simp at hfm
          obtain ⟨c', ks', hc', hcD', hks'⟩ := row f (by omega)
          rw [hks'] at hfm
          have hK' := hK.new he (o := .lst (((f :: L).map fun k : Nat => D.int k)))
          refine s_itL up_same (d := .int f) (by rw [atI_0]; rfl) ?_
          walk_at "run"
          refine s_itL hK'.hp (d := .ref c') (by rw [atI_cast]; exact hcD') ?_
          refine s_isl (hK'.at_ _ _ _ hc' hks') ?_
          walk_at "run"
          refine s_app (hK'.at_ _ _ _ hc' hks') (szLt ?_) ?_
          · unfold kidsD
            rw [List.length_map]
            have := hfm.2
            simp at this
            omega
          · refine fin _ f ks' _ c' hK' hfm.1 hks' ?_ hc' ⟨_, _, _, rfl⟩
            have := hfm.2
            simp at this
            omega
    · walk_at "run"
      refine s_itL hK.hp (d := .ref c) (by rw [atI_cast]; exact hcD) ?_
      refine s_isl (hK.at_ _ _ _ hc hks) ?_
      walk_at "run"
      refine s_app (hK.at_ _ _ _ hc hks) (szLt ?_) ?_
      · unfold kidsD
        rw [List.length_map]
        omega
      · refine fin _ v ks _ c hK (by omega) hks ?_ hc ⟨_, _, _, rfl⟩
        unfold kidsD at h8
        rw [List.length_map] at h8
        have h9 : ¬ ((ks.length : Int) = 8) := by simpa using h8
        omega
  · obtain ⟨cs, kss, x, y, v5, v6, v7, v8, hK, hl, hP1, hP2, hP3, rfl⟩ := hP
    walk_at "run"
    intro r hr
    have ra : a ≠ r := gne hK.ha hr
    rw [rangeD_length] at hP1
    refine comp_inv (fun i G'' => ∃ x y rs, FeedOk x y ∧ rs.length = i ∧ (∀ v ∈ rs, (1 : Int) ≤ v ∧ v ≤ 9) ∧ G'' = up (up G' a (feed x y)) r (.lst (rs.map .int))) ⟨x, y, [], hK.hf, rfl, by simp, ?_⟩ (fun _ _ _ _ => trivial) (fun i d G'' hd hi hP => ?_) (fun G'' hP => ?_)
    · funext b
      unfold up
      by_cases h1 : b = r
      · simp [h1]
      · by_cases h2 : b = a
        · simp [h2, hK.ha, ra]
        · simp [h1, h2]
    · obtain ⟨x1, y1, rs, hf1, rl, r9, rfl⟩ := hP
      rw [rangeD_length] at hi
      refine ⟨_, rfl, fun N hN => ?_⟩
      walk_at "run"
      refine u_take (x := x1) (y := y1) (by walk_at "look") hf1 (by omega) (by omega) fun r3 x3 y3 r30 r31 hf3 => ?_
      walk_at "run"
      intro c hc
      refine u_pick (x := x3) (y := y3) (by walk_at "look") hf3 (by walk_at "ne") up_same (by simp) (by simp) fun d x4 y4 hd hf4 => ?_
      obtain ⟨z, rfl, hz⟩ : ∃ z : Int, d = .int z ∧ 1 ≤ z ∧ z ≤ 9 := by
        simp only [List.mem_cons, List.not_mem_nil, or_false] at hd
        rcases hd with rfl | rfl | rfl
        · exact ⟨_, rfl, by omega⟩
        · exact ⟨_, rfl, by omega⟩
        · exact ⟨_, rfl, by omega⟩
      have cr : r ≠ c := gne (G := up (up (up G' a (feed x1 y1)) r (.lst (rs.map .int))) a (feed x3 y3)) (up_nx (Ne.symm ra) up_same) hc
      refine ⟨rs.map .int, by walk_at "look", szLt (by rw [List.length_map]; omega), hN _ (up (up G' a (feed x4 y4)) r (.lst ((rs ++ [z]).map .int))) ?_ ⟨x4, y4, rs ++ [z], hf4, by simp [rl], ?_, rfl⟩⟩
      · rw [List.map_append]
        walk_at "le"
      · intro v hv
        rcases List.mem_append.mp hv with h1 | h1
        · exact r9 v h1
        · simp at h1
          subst h1
          exact hz
    · obtain ⟨x1, y1, rs, hf1, rl, r9, rfl⟩ := hP
      rw [rangeD_length] at rl
      rw [show ((n : Int) - 0).toNat = n by omega] at rl
      have hra : r ≠ a := Ne.symm ra
      walk_at "run"
      intro t ht
      have tr : r ≠ t := gne (G := up (up G' a (feed x1 y1)) r (.lst (rs.map .int))) up_same ht
      have ta : a ≠ t := gne (G := up (up G' a (feed x1 y1)) r (.lst (rs.map .int))) (up_nx ra up_same) ht
      have gr : G r = none := by
        cases e : G r with
        | none => rfl
        | some o =>
          rw [hK.le r o (by simp [hra]) e] at hr
          cases hr
      have gt : G t = none := by
        have ht := up_free (up_free ht)
        cases e : G t with
        | none => rfl
        | some o =>
          rw [hK.le t o (by simp [Ne.symm ta]) e] at ht
          cases ht
      refine comp_inv (fun i G'' => ∃ x y js, FeedOk x y ∧ js.length = i ∧ (∀ w ∈ js, (1 ≤ w.1 ∧ w.1 ≤ 9) ∧ 1 ≤ w.2.length ∧ w.2.length ≤ 8) ∧ (∀ (m : Nat) w, js[m]? = some w → ∀ k ∈ sends w.2, m < k) ∧ (js.flatMap fun w => sends w.2).Perm (kss.take i).flatten ∧ G'' = up (up (up G' a (feed x y)) r (.lst (rs.map .int))) t (.lst (js.map encWork))) ⟨x1, y1, [], hf1, rfl, by simp, by simp, by simp, rfl⟩ (fun _ _ _ _ => trivial) (fun i d G'' hd hi hP => ?_) (fun G'' hP => ?_)
      · obtain ⟨x2, y2, js, hf2, jl, j9, ju, jp, rfl⟩ := hP
        obtain ⟨rfl, hi2⟩ := rangeD_get0 hd
        refine ⟨_, rfl, fun N hN => ?_⟩
        have hi3 : i < rs.length := by omega
        have er : (rs.map D.int)[i]? = some (.int rs[i]) := by rw [List.getElem?_map, List.getElem?_eq_getElem hi3]; rfl
        have h1 : i < cs.length := by rw [hK.len]; omega
        have h2 : i < kss.length := by omega
        have ec : (cs.map D.ref)[i]? = some (.ref cs[i]) := by rw [List.getElem?_map, List.getElem?_eq_getElem h1]; rfl
        have hc := hK.at_ i cs[i] kss[i] (List.getElem?_eq_getElem h1) (List.getElem?_eq_getElem h2)
        have cm : cs[i] ∈ cs := List.getElem_mem h1
        have nca : a ≠ cs[i] := fun e => hK.ca (e ▸ cm)
        have ncr : cs[i] ≠ r := gne hc hr
        have nct : cs[i] ≠ t := gne hc (up_free (up_free ht))
        have pr : p ≠ r := gne hK.hp hr
        have pt : p ≠ t := gne hK.hp (up_free (up_free ht))
        have hp' := hK.hp
        have pa := hK.pa
        walk_at "run"
        refine UpC.of ⟨a, x2, y2, cs[i], kss[i], rfl, by walk_at "look", hf2, nca, by walk_at "look", hP2 _ (List.getElem_mem h2), fun ss x3 y3 s1 s8 sp hf3 => ?_⟩
        walk_at "run"
        refine ⟨js.map encWork, by walk_at "look", szLt (by rw [List.length_map]; omega), hN _ (up (up (up G' a (feed x3 y3)) r (.lst (rs.map .int))) t (.lst ((js ++ [(rs[i], ss)]).map encWork))) ?_ ⟨x3, y3, js ++ [(rs[i], ss)], hf3, by simp [jl], ?_, ?_, ?_, rfl⟩⟩
        · rw [List.map_append]
          walk_at "le"
        · intro w hw
          rcases List.mem_append.mp hw with h | h
          · exact j9 w h
          · simp at h
            subst h
            exact ⟨r9 _ (List.getElem_mem hi3), s1, s8⟩
        · intro m w' hw' k hk
          by_cases hm : m < js.length
          · rw [List.getElem?_append_left hm] at hw'
            exact ju m w' hw' k hk
          · rw [List.getElem?_append_right (by omega)] at hw'
            have e0 : m - js.length = 0 := by
              have := (List.getElem?_eq_some_iff.mp hw').1
              simp at this
              omega
            rw [e0] at hw'
            cases hw'
            have := hP3 i kss[i] (List.getElem?_eq_getElem h2) k (sp.mem_iff.mp hk)
            omega
        · rw [List.flatMap_append, List.take_add_one, List.flatten_append, List.getElem?_eq_getElem h2]
          simp only [List.flatMap_cons, List.flatMap_nil, List.append_nil, Option.toList_some, List.flatten_cons, List.flatten_nil]
          exact jp.append sp
      · obtain ⟨x2, y2, js, hf2, jl, j9, ju, jp, rfl⟩ := hP
        rw [rangeD_length] at jl jp
        rw [show ((n : Int) - 0).toNat = n by omega] at jl jp
        rw [List.take_of_length_le (by omega)] at jp
        rw [show ((n : Int) - 1).toNat = n - 1 by omega] at hP1
        walk_at "run"
        refine s_rtD (G0 := up G a (feed x2 y2)) ?_ (q js x2 y2 ⟨by omega, by omega, fun w hw => (j9 w hw).1, fun w hw => (j9 w hw).2, ju, by rw [jl]; exact jp.trans hP1⟩ (by omega) hf2)
        refine LeX.le (lex_put (by walk_at "look") (lex_new gt (lex_new gr (lex_mem (by simp) hK.le))))

/-! ### one work with all that it sends off -/
def stepsOf (j : Job) (w : Nat) : List Stp := match j[w]? with
  | some x => x.2
  | none => []
def roomOf (j : Job) (w : Nat) : Int := match j[w]? with
  | some x => x.1
  | none => 0
theorem JobOk.send {j : Job} (h : JobOk j) {w k : Nat} (hk : .send k ∈ stepsOf j w) : w < k ∧ k < j.length := by
  unfold stepsOf at hk
  split at hk
  · rename_i x e
    have hs : k ∈ sends x.2 := List.mem_filterMap.mpr ⟨_, hk, rfl⟩
    refine ⟨h.up w x e k hs, ?_⟩
    have hm := h.once.mem_iff.mp (List.mem_flatMap.mpr ⟨x, List.mem_of_getElem? e, hs⟩)
    simp [List.mem_range'] at hm
    omega
  · simp at hk
theorem JobOk.work {j : Job} (h : JobOk j) {w : Nat} (hw : w < j.length) : ∃ x, j[w]? = some x ∧ x.1 = roomOf j w ∧ x.2 = stepsOf j w ∧ (j.map encWork)[w]? = some (.tup [.int (roomOf j w), .tup ((stepsOf j w).map encStep)]) ∧ 1 ≤ roomOf j w ∧ roomOf j w ≤ 9 ∧ 1 ≤ (stepsOf j w).length ∧ (stepsOf j w).length ≤ 8 := by
  have e := List.getElem?_eq_getElem hw
  have e1 : roomOf j w = j[w].1 := by unfold roomOf; rw [e]
  have e2 : stepsOf j w = j[w].2 := by unfold stepsOf; rw [e]
  have m := List.getElem_mem hw
  refine ⟨j[w], e, e1.symm, e2.symm, by rw [List.getElem?_map, e, e1, e2]; rfl, ?_⟩
  rw [e1, e2]
  exact ⟨(h.rooms _ m).1, (h.rooms _ m).2, h.steps _ m⟩
def goneS (j : Job) (w : Nat) : List (Nat × Nat) := (stepsOf j w).zipIdx.flatMap fun p => (w, p.2) :: match p.1 with
  | .send k => if h : w < k ∧ k < j.length then goneS j k else []
  | _ => []
termination_by j.length - w
decreasing_by omega
def goneR (j : Job) (w : Nat) (above : Int) : List Int := (stepsOf j w).zipIdx.flatMap fun p => (above + roomOf j w) :: match p.1 with
  | .send k => if h : w < k ∧ k < j.length then goneR j k (above + roomOf j w) else []
  | _ => []
termination_by j.length - w
decreasing_by omega
def visS (j : Job) (w : Nat) (p : Stp × Nat) : List (Nat × Nat) := (w, p.2) :: match p.1 with
  | .send k => if w < k ∧ k < j.length then goneS j k else []
  | _ => []
def visR (j : Job) (w : Nat) (above : Int) (p : Stp × Nat) : List Int := (above + roomOf j w) :: match p.1 with
  | .send k => if w < k ∧ k < j.length then goneR j k (above + roomOf j w) else []
  | _ => []
theorem goneS_eq (j : Job) (w : Nat) : goneS j w = (stepsOf j w).zipIdx.flatMap (visS j w) := by
  rw [goneS]
  congr 1
theorem goneR_eq (j : Job) (w : Nat) (above : Int) : goneR j w above = (stepsOf j w).zipIdx.flatMap (visR j w above) := by
  rw [goneR]
  congr 1
/-- the first i steps' worth -/
def parS (j : Job) (w i : Nat) : List (Nat × Nat) := ((stepsOf j w).zipIdx.take i).flatMap (visS j w)
def parR (j : Job) (w : Nat) (above : Int) (i : Nat) : List Int := ((stepsOf j w).zipIdx.take i).flatMap (visR j w above)
theorem zip_take {ss : List Stp} {i : Nat} (h : i < ss.length) : ss.zipIdx.take (i + 1) = ss.zipIdx.take i ++ [(ss[i], i)] := by
  rw [List.take_add_one, List.getElem?_zipIdx, List.getElem?_eq_getElem h]
  simp
theorem parS_succ {j : Job} {w i : Nat} (h : i < (stepsOf j w).length) : parS j w (i + 1) = parS j w i ++ visS j w ((stepsOf j w)[i], i) := by
  unfold parS
  rw [zip_take h, List.flatMap_append]
  simp
theorem parR_succ {j : Job} {w i : Nat} {above : Int} (h : i < (stepsOf j w).length) : parR j w above (i + 1) = parR j w above i ++ visR j w above ((stepsOf j w)[i], i) := by
  unfold parR
  rw [zip_take h, List.flatMap_append]
  simp
theorem parS_all {j : Job} {w : Nat} : parS j w (stepsOf j w).length = goneS j w := by
  unfold parS
  rw [goneS_eq, List.take_of_length_le (by simp)]
theorem parR_all {j : Job} {w : Nat} {above : Int} : parR j w above (stepsOf j w).length = goneR j w above := by
  unfold parR
  rw [goneR_eq, List.take_of_length_le (by simp)]
theorem parS_len {j : Job} {w i : Nat} : (parS j w i).length ≤ (goneS j w).length := by
  rw [goneS_eq]
  have e := List.take_append_drop i (stepsOf j w).zipIdx
  have e2 := congrArg (fun l => (l.flatMap (visS j w)).length) e
  simp only [List.flatMap_append, List.length_append] at e2
  unfold parS
  omega
theorem gone_len {j : Job} : ∀ (w : Nat) (above : Int), (goneR j w above).length = (goneS j w).length := by
  have main : ∀ (n w : Nat) (above : Int), j.length - w ≤ n → (goneR j w above).length = (goneS j w).length := by
    intro n
    induction n with
    | zero =>
      intro w above h
      have e : stepsOf j w = [] := by
        unfold stepsOf
        rw [List.getElem?_eq_none (by omega)]
      rw [goneR_eq, goneS_eq, e]
      rfl
    | succ n ih =>
      intro w above h
      rw [goneR_eq, goneS_eq, List.length_flatMap, List.length_flatMap]
      congr 1
      apply List.map_congr_left
      intro p hp
      unfold visR visS
      simp only [List.length_cons]
      congr 1
      split
      · split
        · exact ih _ _ (by omega)
        · rfl
      · rfl
  exact fun w above => main _ w above (Nat.le_refl _)
theorem goneR_le {j : Job} (hj : JobOk j) : ∀ (w : Nat) (above : Int), ∀ y ∈ goneR j w above, above ≤ y ∧ y ≤ above + 9 * ((j.length - w : Nat) : Int) := by
  have main : ∀ (n w : Nat) (above : Int), j.length - w ≤ n → ∀ y ∈ goneR j w above, above ≤ y ∧ y ≤ above + 9 * ((j.length - w : Nat) : Int) := by
    intro n
    induction n with
    | zero =>
      intro w above h
      have e : stepsOf j w = [] := by
        unfold stepsOf
        rw [List.getElem?_eq_none (by omega)]
      rw [goneR_eq, e]
      simp
    | succ n ih =>
      intro w above h y hy
      by_cases hw : w < j.length
      · obtain ⟨x, _, _, _, _, r1, r9, _, _⟩ := hj.work hw
        rw [goneR_eq] at hy
        obtain ⟨p, hp, hy⟩ := List.mem_flatMap.mp hy
        unfold visR at hy
        rcases List.mem_cons.mp hy with rfl | hy
        · omega
        · split at hy
          · split at hy
            · have := ih _ _ (by omega) y hy
              omega
            · simp at hy
          · simp at hy
      · have e : stepsOf j w = [] := by
          unfold stepsOf
          rw [List.getElem?_eq_none (by omega)]
        rw [goneR_eq, e] at hy
        simp at hy
  exact fun w above => main _ w above (Nat.le_refl _)
theorem sum_perm {a b : List Nat} (h : a.Perm b) : a.sum = b.sum := by
  induction h with
  | nil => rfl
  | cons x _ ih => simp [ih]
  | swap x y l => simp [Nat.add_left_comm]
  | trans _ _ h1 h2 => exact h1.trans h2
theorem sum_flat {α : Type} (f : α → Nat) : ∀ (xss : List (List α)), ((xss.flatMap id).map f).sum = (xss.map fun xs => (xs.map f).sum).sum
  | [] => rfl
  | xs :: xss => by
    rw [List.flatMap_cons, List.map_append, List.sum_append, sum_flat f xss]
    rfl
theorem sum_add {α : Type} (f g : α → Nat) : ∀ xs : List α, (xs.map fun x => f x + g x).sum = (xs.map f).sum + (xs.map g).sum
  | [] => rfl
  | x :: xs => by
    simp only [List.map_cons, List.sum_cons, sum_add f g xs]
    omega
theorem goneS_len {j : Job} (hj : JobOk j) (w : Nat) : (goneS j w).length = (stepsOf j w).length + ((sends (stepsOf j w)).map fun k => (goneS j k).length).sum := by
  rw [goneS_eq, List.length_flatMap]
  have main : ∀ (ss : List Stp) (o : Nat), (∀ k, .send k ∈ ss → w < k ∧ k < j.length) → ((ss.zipIdx o).map fun p => (visS j w p).length).sum = ss.length + ((sends ss).map fun k => (goneS j k).length).sum := by
    intro ss
    induction ss with
    | nil => intro o _; rfl
    | cons s ss ih =>
      intro o h
      have ih := ih (o + 1) fun k hk => h k (by simp [hk])
      rw [List.zipIdx_cons, List.map_cons, List.sum_cons, ih]
      cases s with
      | doo =>
        simp only [visS, sends, List.filterMap_cons, sendOf, List.length_cons, List.length_nil]
        omega
      | wait =>
        simp only [visS, sends, List.filterMap_cons, sendOf, List.length_cons, List.length_nil]
        omega
      | send k =>
        have := h k (by simp)
        simp only [visS, sends, List.filterMap_cons, sendOf, List.length_cons, List.map_cons, List.sum_cons, if_pos this]
        omega
  exact main _ 0 fun k hk => hj.send hk
theorem range_split {n : Nat} (h : 1 ≤ n) : List.range n = 0 :: List.range' 1 (n - 1) := by
  obtain ⟨m, rfl⟩ : ∃ m, n = m + 1 := ⟨n - 1, by omega⟩
  rw [List.range_eq_range', List.range'_succ]
  simp
theorem job_range {α : Type} {j : Job} (f : Work → α) (g : Nat → α) (h : ∀ w x, j[w]? = some x → g w = f x) : (List.range j.length).map g = j.map f := by
  apply List.ext_getElem?
  intro i
  by_cases hi : i < j.length
  · rw [List.getElem?_map, List.getElem?_range hi, List.getElem?_map, List.getElem?_eq_getElem hi]
    simp [h i j[i] (List.getElem?_eq_getElem hi)]
  · rw [List.getElem?_eq_none (by simp; omega), List.getElem?_eq_none (by simp; omega)]
/-- each work is gone through once -/
theorem gone_all {j : Job} (hj : JobOk j) : (goneS j 0).length = (j.map fun x => x.2.length).sum := by
  have e1 : ((List.range j.length).map fun w => (goneS j w).length).sum = (goneS j 0).length + ((List.range' 1 (j.length - 1)).map fun w => (goneS j w).length).sum := by
    rw [range_split hj.l1]
    simp
  have e2 : ((List.range j.length).map fun w => (goneS j w).length) = (List.range j.length).map fun w => (stepsOf j w).length + ((sends (stepsOf j w)).map fun k => (goneS j k).length).sum := by
    apply List.map_congr_left
    intro w _
    exact goneS_len hj w
  rw [e2, sum_add] at e1
  have st : ∀ (w : Nat) (x : Work), j[w]? = some x → stepsOf j w = x.2 := fun w x e => by unfold stepsOf; rw [e]
  rw [job_range (fun x => x.2.length) _ (fun w x e => by rw [st w x e]), job_range (fun x => ((sends x.2).map fun k => (goneS j k).length).sum) _ (fun w x e => by rw [st w x e])] at e1
  have e3 := sum_flat (fun k => (goneS j k).length) (j.map fun x => sends x.2)
  rw [List.map_map] at e3
  have e4 : (j.map fun x => sends x.2).flatMap id = j.flatMap fun w => sends w.2 := by rw [List.flatMap_map]; rfl
  rw [e4] at e3
  have e5 := sum_perm (hj.once.map fun k => (goneS j k).length)
  have e6 : (j.map ((fun xs => (xs.map fun k => (goneS j k).length).sum) ∘ fun x => sends x.2)).sum = (j.map fun x => ((sends x.2).map fun k => (goneS j k).length).sum).sum := rfl
  omega
theorem sum_le {α : Type} {f : α → Nat} {b : Nat} : ∀ {xs : List α}, (∀ x ∈ xs, f x ≤ b) → (xs.map f).sum ≤ xs.length * b
  | [], _ => by simp
  | x :: xs, h => by
    have := sum_le (xs := xs) fun y hy => h y (by simp [hy])
    have := h x (by simp)
    simp only [List.map_cons, List.sum_cons, List.length_cons, Nat.succ_mul]
    omega
theorem gone_96 {j : Job} (hj : JobOk j) : (goneS j 0).length ≤ 96 := by
  rw [gone_all hj]
  have := sum_le (f := fun x : Work => x.2.length) (xs := j) fun x hx => (hj.steps x hx).2
  have := hj.l12
  omega
theorem encStep_0 (s : Stp) : ∃ z zs, encStep s = .tup (.str z :: zs) ∧ (decide (z = ("send" : Str)) = true → ∃ k, s = .send k ∧ zs = [.int (k : Nat)]) ∧ (decide (z = ("send" : Str)) = false → sendOf s = none) := by
  cases s with
  | doo => exact ⟨_, _, rfl, fun h => absurd h (by decide), fun _ => rfl⟩
  | wait => exact ⟨_, _, rfl, fun h => absurd h (by decide), fun _ => rfl⟩
  | send k => exact ⟨_, _, rfl, fun _ => ⟨k, rfl, rfl⟩, fun h => absurd h (by decide)⟩
theorem nodup_len : ∀ (n : Nat) {ks : List Nat}, ks.Nodup → (∀ k ∈ ks, k < n) → ks.length ≤ n
  | 0, ks, _, h => by
    cases ks with
    | nil => simp
    | cons k ks => exact absurd (h k (by simp)) (by omega)
  | n + 1, ks, nd, h => by
    by_cases hn : n ∈ ks
    · have nd' : (ks.erase n).Nodup := nd.erase n
      have := nodup_len n nd' fun k hk => by
        have h1 := h k (List.mem_of_mem_erase hk)
        have h2 : k ≠ n := fun e => by
          subst e
          exact (List.Nodup.mem_erase_iff nd).mp hk |>.1 rfl
        omega
      rw [List.length_erase_of_mem hn] at this
      omega
    · have := nodup_len n nd fun k hk => by
        have h1 := h k hk
        have h2 : k ≠ n := fun e => hn (e ▸ hk)
        omega
      omega

/-! ### who sends off whom -/
def kidsOf (j : Job) (w : Nat) : List Nat := sends (stepsOf j w)
def parO (j : Job) (k : Nat) : Option Nat := (List.range j.length).find? fun w => decide (k ∈ kidsOf j w)
theorem mem_sends {ss : List Stp} {k : Nat} : k ∈ sends ss ↔ .send k ∈ ss := by
  unfold sends
  rw [List.mem_filterMap]
  constructor
  · rintro ⟨s, h1, h2⟩
    cases s with
    | send m => cases h2; exact h1
    | doo => cases h2
    | wait => cases h2
  · exact fun h => ⟨_, h, rfl⟩
theorem kids_lt {j : Job} (h : JobOk j) {w k : Nat} (hk : k ∈ kidsOf j w) : w < k ∧ k < j.length := h.send (mem_sends.mp hk)
theorem kids_in {j : Job} {w k : Nat} (hk : k ∈ kidsOf j w) : w < j.length := by
  by_cases h : w < j.length
  · exact h
  · unfold kidsOf stepsOf at hk
    rw [List.getElem?_eq_none (by omega)] at hk
    cases hk
theorem flat_range (j : Job) : (j.flatMap fun w => sends w.2) = (List.range j.length).flatMap (kidsOf j) := by
  rw [List.flatMap_def, List.flatMap_def]
  congr 1
  exact (job_range (fun x => sends x.2) (kidsOf j) fun w x e => by unfold kidsOf stepsOf; rw [e]).symm
theorem once_nodup {j : Job} (h : JobOk j) : ((List.range j.length).flatMap (kidsOf j)).Nodup := by
  rw [← flat_range]
  exact h.once.nodup_iff.mpr List.nodup_range'
theorem kids_nodup {j : Job} (h : JobOk j) (w : Nat) : (kidsOf j w).Nodup := by
  by_cases hw : w < j.length
  · have := once_nodup h
    exact (List.pairwise_flatMap.mp this).1 w (by simpa using hw)
  · unfold kidsOf stepsOf
    rw [List.getElem?_eq_none (by omega)]
    exact List.nodup_nil
theorem kids_uniq {j : Job} (h : JobOk j) {w w' k : Nat} (h1 : k ∈ kidsOf j w) (h2 : k ∈ kidsOf j w') : w = w' := by
  have hn := once_nodup h
  have hp := (List.pairwise_flatMap.mp hn).2
  have main : ∀ a b : Nat, a < b → k ∈ kidsOf j a → k ∈ kidsOf j b → False := by
    intro a b hab ha hb
    have l2 := kids_in hb
    rw [List.pairwise_iff_getElem] at hp
    have := hp a b (by simp; omega) (by simpa using l2) hab
    simp only [List.getElem_range] at this
    exact this k ha k hb rfl
  rcases Nat.lt_trichotomy w w' with h | h | h
  · exact (main w w' h h1 h2).elim
  · exact h
  · exact (main w' w h h2 h1).elim
theorem par_some {j : Job} (h : JobOk j) {k w : Nat} : parO j k = some w ↔ k ∈ kidsOf j w := by
  constructor
  · intro e
    simpa using List.find?_some e
  · intro hk
    unfold parO
    cases e : (List.range j.length).find? fun w => decide (k ∈ kidsOf j w) with
    | none =>
      have := List.find?_eq_none.mp e w (by simpa using kids_in hk)
      simp [hk] at this
    | some w' =>
      have := List.find?_some e
      simp at this
      rw [kids_uniq h this hk]
theorem par_lt {j : Job} (h : JobOk j) {k w : Nat} (e : parO j k = some w) : w < k ∧ k < j.length := kids_lt h ((par_some h).mp e)
theorem par_ex {j : Job} (h : JobOk j) {k : Nat} (h1 : 1 ≤ k) (h2 : k < j.length) : ∃ w, parO j k = some w := by
  have hm : k ∈ (j.flatMap fun w => sends w.2) := h.once.mem_iff.mpr (by rw [List.mem_range'_1]; omega)
  rw [flat_range] at hm
  obtain ⟨w, _, hw⟩ := List.mem_flatMap.mp hm
  exact ⟨w, (par_some h).mpr hw⟩
theorem par_0 {j : Job} (h : JobOk j) : parO j 0 = none := by
  cases e : parO j 0 with
  | none => rfl
  | some w => have := par_lt h e; omega
/-- the parents, one by one -/
def upsOf (j : Job) : List (Option Nat) := (List.range j.length).map (parO j)
/-- those written by the works below i and by the first m kids of work i -/
def upsTo (j : Job) (i : Nat) (ks : List Nat) : List (Option Nat) := (List.range j.length).map fun k => match parO j k with
  | some w => if w < i ∨ (w = i ∧ k ∈ ks) then some w else none
  | none => none
theorem upsTo_0 {j : Job} : upsTo j 0 [] = List.replicate j.length none := by
  apply List.ext_getElem?
  intro k
  unfold upsTo
  by_cases hk : k < j.length
  · rw [List.getElem?_map, List.getElem?_range hk, List.getElem?_replicate, if_pos hk]
    simp only [Option.map_some]
    congr 1
    split
    · simp
    · rfl
  · rw [List.getElem?_eq_none (by simp; omega), List.getElem?_eq_none (by simp; omega)]
theorem upsTo_n {j : Job} (h : JobOk j) : upsTo j j.length [] = upsOf j := by
  unfold upsTo upsOf
  apply List.map_congr_left
  intro k _
  split
  · rename_i w e
    have := par_lt h e
    rw [if_pos (.inl (by omega)), e]
  · rename_i e
    rw [e]
theorem upsTo_next {j : Job} (h : JobOk j) {i : Nat} : upsTo j i (kidsOf j i) = upsTo j (i + 1) [] := by
  unfold upsTo
  apply List.map_congr_left
  intro k _
  cases e : parO j k with
  | none => rfl
  | some w =>
    have hk := (par_some h).mp e
    by_cases h1 : w < i
    · simp [h1, show w < i + 1 by omega]
    · by_cases h2 : w = i
      · subst h2
        simp [hk]
      · simp [h1, h2, show ¬ w < i + 1 by omega]
theorem upsTo_set {j : Job} (h : JobOk j) {i k : Nat} {ks : List Nat} (hk : k ∈ kidsOf j i) : (upsTo j i ks).set k (some i) = upsTo j i (ks ++ [k]) := by
  have hl := kids_lt h hk
  have hp := (par_some h).mpr hk
  apply List.ext_getElem?
  intro m
  by_cases hm : m < j.length
  · by_cases e : k = m
    · subst e
      rw [List.getElem?_set_self (by simp [upsTo]; omega)]
      unfold upsTo
      rw [List.getElem?_map, List.getElem?_range hm]
      simp [hp]
    · rw [List.getElem?_set_ne e]
      unfold upsTo
      rw [List.getElem?_map, List.getElem?_range hm, List.getElem?_map, List.getElem?_range hm]
      simp [Ne.symm e]
  · rw [List.getElem?_eq_none (by simp [upsTo]; omega), List.getElem?_eq_none (by simp [upsTo]; omega)]
theorem upsTo_len {j : Job} {i : Nat} {ks : List Nat} : (upsTo j i ks).length = j.length := by simp [upsTo]
theorem kids8 {j : Job} (h : JobOk j) (w : Nat) : (kidsOf j w).length ≤ 8 := by
  have h1 : (kidsOf j w).length ≤ (stepsOf j w).length := List.length_filterMap_le _ _
  by_cases hw : w < j.length
  · obtain ⟨x, _, _, _, _, _, _, _, s8⟩ := h.work hw
    omega
  · have : stepsOf j w = [] := by unfold stepsOf; rw [List.getElem?_eq_none (by omega)]
    rw [this] at h1
    exact Nat.le_trans h1 (by simp)
def C_sent_by : Ct := fun ds G Q _ => ∃ (r : Int) (ss : List Stp), ds = [.tup [.int r, .tup (ss.map encStep)]] ∧ ss.length ≤ 1000 ∧ ∀ p, G p = none → Q (.ref p) (up G p (.lst ((sends ss).map encN)))
theorem len_sent_by (ds G Q E) (h : C_sent_by ds G Q E) : ds.length = 1 := by obtain ⟨_, _, rfl, _⟩ := h; rfl
abbrev N_sent_by : List Str := ["work", "step"]
def T_sent_by : DX → DS := fun E => (dRet (dLc (diSeq (dOp itemD (dVar 0) (dC (.int 1)))) (bdN 1) [1] (dTest (dOp eqD (dOp itemD (dVar 1) (dC (.int 0))) (dC (.str "send")))) (dOp itemD (dVar 1) (dC (.int 1)))))
theorem run_sent_by (ds G Q E) (h : C_sent_by ds G Q E) : T_sent_by E { nx := fun _ G' => DrK Q .non G', rt := DrK Q, bk := fun _ _ => False, ct := fun _ _ => False } (dstart N_sent_by ds) G := by
  obtain ⟨r, ss, rfl, hl, q⟩ := h
  show T_sent_by E _ [some (.tup [.int r, .tup (ss.map encStep)]), none] G
  unfold T_sent_by
  walk_at "run"
  intro p hp
  refine comp_pure ss encStep (fun s => (sendOf s).isSome) (fun s => encN ((sendOf s).getD 0)) (by omega) hp (fun _ => trivial) (fun s hs o => ⟨_, rfl, fun QB h => ?_, fun hk QD h => ?_⟩) ?_
  · cases s with
    | doo => walk_at "run"; exact h
    | wait => walk_at "run"; exact h
    | send k => walk_at "run"; exact h
  · cases s with
    | doo => cases hk
    | wait => cases hk
    | send k => walk_at "run"; exact h
  · have e : (ss.filter fun s => (sendOf s).isSome).map (fun s => encN ((sendOf s).getD 0)) = (sends ss).map encN := by
      clear hl q
      induction ss with
      | nil => rfl
      | cons s ss ih =>
        unfold sends at ih ⊢
        rw [List.filter_cons, List.filterMap_cons]
        cases s with
        | doo => simpa [sendOf] using ih
        | wait => simpa [sendOf] using ih
        | send k => simpa [sendOf] using ih
    rw [e]
    exact s_rt (q p hp)
theorem u_sent_by {j : Job} (hj : JobOk j) {w : Nat} (hw : w < j.length) {d : D} {G : DG} {Q : DK} {E : DX} (hd : (j.map encWork)[w]? = some d) (k : ∀ p, G p = none → Q (.ref p) (up G p (.lst ((kidsOf j w).map encN)))) : UpC C_sent_by [d] G Q E := by
  obtain ⟨x, _, _, _, e, _, _, _, s8⟩ := hj.work hw
  rw [e] at hd
  cases hd
  exact UpC.of ⟨_, _, rfl, by omega, k⟩
def C_parents : Ct := fun ds G Q _ => ∃ j, ds = [encJob j] ∧ JobOk j ∧ ∀ p, G p = none → Q (.ref p) (up G p (.lst ((upsOf j).map encO)))
theorem len_parents (ds G Q E) (h : C_parents ds G Q E) : ds.length = 1 := by obtain ⟨_, rfl, _⟩ := h; rfl
abbrev N_parents : List Str := ["job", "found", "number", "child"]
def T_parents : DX → DS := fun E => (dSeq (dAsg (dOp mulD (dLst (dCons (dC .non) dNil)) (dCB lenD (dCons (dVar 0) dNil))) (dgName 1))
    (dSeq (dFor (diRange (dCons (dCB lenD (dCons (dVar 0) dNil)) dNil)) (dgName 2) (dFor (diSeq (dCall C_sent_by E (dCons (dOp itemD (dVar 0) (dVar 2)) dNil))) (dgName 3) (dAsg (dVar 2) (dgSub (dVar 1) (dVar 3)))))
    (dRet (dVar 1))))
theorem rep_flat {α : Type} {x : α} : ∀ n : Nat, (List.replicate n [x]).flatten = List.replicate n x
  | 0 => rfl
  | n + 1 => by rw [List.replicate_succ, List.flatten_cons, rep_flat n]; rfl
theorem run_parents (ds G Q E) (h : C_parents ds G Q E) : T_parents E { nx := fun _ G' => DrK Q .non G', rt := DrK Q, bk := fun _ _ => False, ct := fun _ _ => False } (dstart N_parents ds) G := by
  obtain ⟨j, rfl, hj, q⟩ := h
  have l12 := hj.l12
  show T_parents E _ [some (.tup (j.map encWork)), none, none, none] G
  unfold T_parents
  walk_at "run"
  intro c hc
  walk_at "run"
  refine s_mulL up_same ⟨by rw [List.length_map]; omega, szL (by rw [List.length_map]; simp; omega)⟩ fun p hp => ?_
  have e0 : (List.replicate ((j.map encWork).length : Int).toNat [D.non]).flatten = (upsTo j 0 []).map encO := by
    rw [rep_flat, upsTo_0]
    simp
  rw [e0]
  refine s_gn (s_goD (G0 := up G p (.lst ((upsTo j 0 []).map encO))) (le_up (le_new hc (.refl _))) ?_)
  have gp := up_free hp
  walk_at "run"
  refine loop_inv (fun i σ G' => ∃ v2 v3, σ = [some (.tup (j.map encWork)), some (.ref p), v2, v3] ∧ G' = up G p (.lst ((upsTo j i []).map encO))) ⟨_, _, rfl, rfl⟩ (fun _ _ _ _ _ => trivial) (fun i d σ' G' N hd hi hP hN => ?_) (fun σ' G' hP => ?_)
  · obtain ⟨v2, v3, rfl, rfl⟩ := hP
    obtain ⟨rfl, hi2⟩ := rangeD_get0 hd
    rw [List.length_map] at hi2
    obtain ⟨x, _, _, _, eD, _⟩ := hj.work (w := i) (by omega)
    walk_at "run"
    refine u_sent_by hj (w := i) (by omega) eD fun r hr => ?_
    have pr : p ≠ r := gne up_same hr
    walk_at "run"
    refine loop_inv (fun m σ G' => ∃ v3, σ = [some (.tup (j.map encWork)), some (.ref p), some (.int i), v3] ∧ G' = up (up G p (.lst ((upsTo j i ((kidsOf j i).take m)).map encO))) r (.lst ((kidsOf j i).map encN))) ⟨_, rfl, rfl⟩ (fun _ _ G' _ hG => by obtain ⟨_, _, rfl⟩ := hG; exact up_same) (fun m d σ' G' N' hd hm hP hN' => ?_) (fun σ' G' hP => ?_)
    · obtain ⟨v3, rfl, rfl⟩ := hP
      rw [List.length_map] at hm
      rw [List.getElem?_map, List.getElem?_eq_getElem hm] at hd
      cases hd
      have hk : (kidsOf j i)[m] ∈ kidsOf j i := List.getElem_mem hm
      have hl := kids_lt hj hk
      walk_at "run"
      refine s_setD (j := (kidsOf j i)[m]) (up_nx pr up_same) (ixN_nat (by rw [List.length_map, upsTo_len]; omega)) ?_
      have e1 : ((upsTo j i ((kidsOf j i).take m)).map encO).set (kidsOf j i)[m] (D.int i) = (upsTo j i ((kidsOf j i).take (m + 1))).map encO := by
        have := congrArg (List.map encO) (upsTo_set hj (ks := (kidsOf j i).take m) hk)
        rw [List.map_set] at this
        rw [List.take_add_one, List.getElem?_eq_getElem hm]
        exact this
      rw [e1]
      refine hN' _ _ _ ?_ ⟨_, rfl, rfl⟩
      walk_at "le"
    · obtain ⟨v3, rfl, rfl⟩ := hP
      rw [List.length_map, List.take_length, upsTo_next hj]
      refine hN _ _ _ ?_ ⟨_, _, rfl, rfl⟩
      exact le_new (up_nn (up_free_ne hr) (up_free hr)) (.refl _)
  · obtain ⟨v2, v3, rfl, rfl⟩ := hP
    rw [rangeD_length, List.length_map, show ((j.length : Int) - 0).toNat = j.length by omega, upsTo_n hj]
    walk_at "run"
    exact s_rt (q p gp)
def C_law_parents : Ct := C_parents
theorem len_law_parents (ds G Q E) (h : C_law_parents ds G Q E) : ds.length = 1 := by obtain ⟨_, rfl, _⟩ := h; rfl
abbrev N_law_parents : List Str := ["job", "found", "work", "step"]
def T_law_parents : DX → DS := fun E => (dSeq (dAsg (dLc (diSeq (dVar 0)) (bdN 2) [2] dYes (dC .non)) (dgName 1))
    (dSeq (dFor (diRange (dCons (dCB lenD (dCons (dVar 0) dNil)) dNil)) (dgName 2) (dFor (diSeq (dOp itemD (dOp itemD (dVar 0) (dVar 2)) (dC (.int 1)))) (dgName 3) (dIf (dTest (dOp eqD (dOp itemD (dVar 3) (dC (.int 0))) (dC (.str "send")))) (dAsg (dVar 2) (dgSub (dVar 1) (dOp itemD (dVar 3) (dC (.int 1))))) dNext)))
    (dRet (dVar 1))))
theorem run_law_parents (ds G Q E) (h : C_law_parents ds G Q E) : T_law_parents E { nx := fun _ G' => DrK Q .non G', rt := DrK Q, bk := fun _ _ => False, ct := fun _ _ => False } (dstart N_law_parents ds) G := by
  obtain ⟨j, rfl, hj, q⟩ := h
  have l12 := hj.l12
  show T_law_parents E _ [some (.tup (j.map encWork)), none, none, none] G
  unfold T_law_parents
  walk_at "run"
  intro p hp
  refine comp_map j encWork (fun _ => .non) (by omega) hp (fun _ => trivial) (fun w hw o => ⟨_, rfl, fun QD h => ?_⟩) ?_
  · walk_at "run"
    exact h
  have e0 : j.map (fun _ => D.non) = (upsTo j 0 []).map encO := by
    rw [upsTo_0, List.map_replicate, List.map_const']
  rw [e0]
  walk_at "run"
  refine loop_inv (fun i σ G' => ∃ v2 v3, σ = [some (.tup (j.map encWork)), some (.ref p), v2, v3] ∧ G' = up G p (.lst ((upsTo j i []).map encO))) ⟨_, _, rfl, rfl⟩ (fun _ _ _ _ _ => trivial) (fun i d σ' G' N hd hi hP hN => ?_) (fun σ' G' hP => ?_)
  · obtain ⟨v2, v3, rfl, rfl⟩ := hP
    obtain ⟨rfl, hi2⟩ := rangeD_get0 hd
    rw [List.length_map] at hi2
    obtain ⟨x, _, _, _, eD, _⟩ := hj.work (w := i) (by omega)
    walk_at "run"
    refine loop_inv (fun m σ G' => ∃ v3, σ = [some (.tup (j.map encWork)), some (.ref p), some (.int i), v3] ∧ G' = up G p (.lst ((upsTo j i (sends ((stepsOf j i).take m))).map encO))) ⟨_, rfl, rfl⟩ (fun _ _ _ _ _ => trivial) (fun m d σ' G' N' hd hm hP hN' => ?_) (fun σ' G' hP => ?_)
    · obtain ⟨v3, rfl, rfl⟩ := hP
      rw [List.length_map] at hm
      rw [List.getElem?_map, List.getElem?_eq_getElem hm] at hd
      cases hd
      have hs : (stepsOf j i)[m] ∈ stepsOf j i := List.getElem_mem hm
      have et : (stepsOf j i).take (m + 1) = (stepsOf j i).take m ++ [(stepsOf j i)[m]] := by rw [List.take_add_one, List.getElem?_eq_getElem hm]; rfl
      have es : sends ((stepsOf j i).take (m + 1)) = sends ((stepsOf j i).take m) ++ sends [(stepsOf j i)[m]] := by rw [et, sends_append]
      obtain ⟨z, zs, ez, z1, z2⟩ := encStep_0 (stepsOf j i)[m]
      rw [ez]
      walk_at "run"
      refine br_bool (fun hz => ?_) (fun hz => ?_)
      · obtain ⟨k, ek, rfl⟩ := z1 hz
        rw [ek] at hs es
        have hl := hj.send hs
        have hk : k ∈ kidsOf j i := mem_sends.mpr hs
        walk_at "run"
        refine s_setD (j := k) up_same (ixN_nat (by rw [List.length_map, upsTo_len]; omega)) ?_
        have e1 : ((upsTo j i (sends ((stepsOf j i).take m))).map encO).set k (D.int i) = (upsTo j i (sends ((stepsOf j i).take (m + 1)))).map encO := by
          have := congrArg (List.map encO) (upsTo_set hj (ks := sends ((stepsOf j i).take m)) hk)
          rw [List.map_set] at this
          rw [es]
          exact this
        rw [e1, up_up]
        exact hN' _ _ _ (.refl _) ⟨_, rfl, rfl⟩
      · walk_at "run"
        have e2 : sends [(stepsOf j i)[m]] = [] := by
          unfold sends
          rw [List.filterMap_cons, z2 hz]
          rfl
        rw [e2, List.append_nil] at es
        rw [← es]
        exact hN' _ _ _ (.refl _) ⟨_, rfl, rfl⟩
    · obtain ⟨v3, rfl, rfl⟩ := hP
      rw [List.length_map, List.take_length]
      show N _ (up G p (.lst ((upsTo j i (kidsOf j i)).map encO)))
      rw [upsTo_next hj]
      exact hN _ _ _ (.refl _) ⟨_, _, rfl, rfl⟩
  · obtain ⟨v2, v3, rfl, rfl⟩ := hP
    rw [rangeD_length, List.length_map, show ((j.length : Int) - 0).toNat = j.length by omega, upsTo_n hj]
    walk_at "run"
    exact s_rt (q p hp)
/-! ### a work and all below it -/
def isB (j : Job) (top k : Nat) : Bool := k == top || match parO j k with
  | some p => if h : p < k then isB j top p else false
  | none => false
theorem isB_eq {j : Job} (hj : JobOk j) (top k : Nat) : isB j top k = (k == top || match parO j k with | some p => isB j top p | none => false) := by
  rw [isB]
  cases e : parO j k with
  | none => rfl
  | some p =>
    have := par_lt hj e
    simp [this.1]
theorem isB_ge {j : Job} (hj : JobOk j) (top : Nat) : ∀ (k : Nat), isB j top k = true → top ≤ k := by
  intro k
  induction k using Nat.strongRecOn with
  | _ k ih =>
    intro h
    rw [isB_eq hj] at h
    cases e : parO j k with
    | none =>
      rw [e] at h
      simp at h
      omega
    | some p =>
      rw [e] at h
      have := par_lt hj e
      simp at h
      rcases h with h | h
      · omega
      · have := ih p this.1 h
        omega
def belowOf (j : Job) (top : Nat) : List Nat := (List.range j.length).filter (isB j top)
/-! ### the law's own way up -/

/-! ### the floor: a plain model -/
inductive WS where
  | unb | liv | ovr
  deriving DecidableEq
def encWS : WS → D
  | .unb => .str "unbegun"
  | .liv => .str "lives"
  | .ovr => .str "over"
structure FSt where
  cur : List (Option Nat)
  piles : List (List Nat)
  at_ : List Nat
  kids : List Int
  st : List WS
  asd : List Bool
  gone : List (Nat × Nat)
def FSt.cu (f : FSt) (h : Nat) : Option Nat := f.cur.getD h none
def FSt.pl (f : FSt) (h : Nat) : List Nat := f.piles.getD h []
def FSt.a (f : FSt) (w : Nat) : Nat := f.at_.getD w 0
def FSt.kd (f : FSt) (w : Nat) : Int := f.kids.getD w 0
def FSt.s (f : FSt) (w : Nat) : WS := f.st.getD w .unb
def FSt.as (f : FSt) (w : Nat) : Bool := f.asd.getD w false
def nextS (j : Job) (f : FSt) (w : Nat) : Option Stp := (stepsOf j w)[f.a w]?
def heldS (j : Job) (f : FSt) (w : Nat) : Bool := match nextS j f w with
  | none => true
  | some .wait => true
  | _ => false
def beginS (j : Job) (f : FSt) (hand work child : Nat) : FSt :=
  let g := { f with st := f.st.set child .liv, kids := f.kids.set work (f.kd work + 1), cur := f.cur.set hand (some child) }
  if heldS j f work = true then { g with asd := f.asd.set work true } else { g with piles := f.piles.set hand (f.pl hand ++ [work]) }
def endS (j : Job) (f : FSt) (work : Nat) : FSt × Option Nat := match parO j work with
  | none => ({ f with st := f.st.set work .ovr }, none)
  | some up =>
    if f.as up = false ∨ 0 < f.kd up - 1 then ({ f with st := f.st.set work .ovr, kids := f.kids.set up (f.kd up - 1) }, none)
    else ({ f with st := f.st.set work .ovr, kids := f.kids.set up (f.kd up - 1), asd := f.asd.set up false }, some up)
def settleN (j : Job) (hand : Nat) : Nat → FSt → Option Nat → FSt
  | 0, f, _ => f
  | n + 1, f, none => f
  | n + 1, f, some w =>
    if heldS j f w = true then
      if 0 < f.kd w then { f with asd := f.asd.set w true, cur := f.cur.set hand none }
      else if (nextS j f w).isSome = true then f
      else settleN j hand n { (endS j f w).1 with cur := (endS j f w).1.cur.set hand (endS j f w).2 } (endS j f w).2
    else f
def settleS (j : Job) (f : FSt) (hand : Nat) : FSt := settleN j hand (j.length + 1) f (f.cu hand)
def tickS (f : FSt) (work : Nat) : FSt := { f with at_ := f.at_.set work (f.a work + 1), gone := f.gone ++ [(work, f.a work)] }
def sentS (j : Job) (f : FSt) (hand work : Nat) : FSt := match nextS j f work with
  | some (.send k) => beginS j (tickS f work) hand work k
  | _ => tickS f work
def stepS (j : Job) (f : FSt) (hand work : Nat) : FSt := settleS j (sentS j f hand work) hand
def ownS (f : FSt) (hand : Nat) (w : Nat) : FSt := { f with piles := f.piles.set hand (f.pl hand).dropLast, cur := f.cur.set hand (some w) }
def robS (f : FSt) (hand other : Nat) (w : Nat) : FSt := { f with piles := f.piles.set other (f.pl other).tail, cur := f.cur.set hand (some w) }
inductive Tell where
  | step (w n : Nat) | own (w : Nat) | took (w o : Nat) | missed (o : Nat)
  deriving DecidableEq
def encTell : Tell → D
  | .step w n => .tup [.str "step", .int w, .int n]
  | .own w => .tup [.str "own", .int w]
  | .took w o => .tup [.str "took", .int w, .int o]
  | .missed o => .tup [.str "missed", .int o]
def goS (j : Job) (f : FSt) (hand other : Nat) : FSt × Tell := match f.cu hand with
  | some w => (stepS j f hand w, .step w (f.a w))
  | none => match (f.pl hand).getLast? with
    | some w => (ownS f hand w, .own w)
    | none => match (f.pl other).head? with
      | some w => (robS f hand other w, .took w other)
      | none => (f, .missed other)
def floor0 (j : Job) (hands : Nat) : FSt := ⟨some 0 :: List.replicate (hands - 1) none, List.replicate hands [], List.replicate j.length 0, List.replicate j.length 0, .liv :: List.replicate (j.length - 1) .unb, List.replicate j.length false, []⟩
/-- the lengths, and what is held is there -/
structure FLen (j : Job) (hands : Nat) (f : FSt) : Prop where
  cur : f.cur.length = hands
  piles : f.piles.length = hands
  at_ : f.at_.length = j.length
  kids : f.kids.length = j.length
  st : f.st.length = j.length
  asd : f.asd.length = j.length
  cb : ∀ w, some w ∈ f.cur → w < j.length
  pb : ∀ l ∈ f.piles, ∀ w ∈ l, w < j.length
theorem FSt.pl_get {f : FSt} {h : Nat} (hh : h < f.piles.length) : f.piles[h]? = some (f.pl h) := by
  unfold FSt.pl
  rw [List.getD_eq_getElem?_getD, List.getElem?_eq_getElem hh]
  rfl
theorem FSt.cu_get {f : FSt} {h : Nat} (hh : h < f.cur.length) : f.cur[h]? = some (f.cu h) := by
  unfold FSt.cu
  rw [List.getD_eq_getElem?_getD, List.getElem?_eq_getElem hh]
  rfl
theorem FLen.setCur {j : Job} {hands : Nat} {f : FSt} (L : FLen j hands f) {hand : Nat} {o : Option Nat} (ho : ∀ w, o = some w → w < j.length) : FLen j hands { f with cur := f.cur.set hand o } :=
  { L with
    cur := by simp [L.cur]
    cb := fun w hw => (List.mem_or_eq_of_mem_set hw).elim (fun h => L.cb w h) (fun h => ho w h.symm) }
theorem FLen.setPil {j : Job} {hands : Nat} {f : FSt} (L : FLen j hands f) {hand : Nat} {l : List Nat} (ho : ∀ w ∈ l, w < j.length) : FLen j hands { f with piles := f.piles.set hand l } :=
  { L with
    piles := by simp [L.piles]
    pb := fun x hx w hw => (List.mem_or_eq_of_mem_set hx).elim (fun h => L.pb x h w hw) (fun h => ho w (h ▸ hw)) }
theorem FLen.end_ {j : Job} (hj : JobOk j) {hands : Nat} {f : FSt} (L : FLen j hands f) {w : Nat} : FLen j hands (endS j f w).1 ∧ ∀ u, (endS j f w).2 = some u → u < w ∧ u < j.length := by
  unfold endS
  split
  · exact ⟨{ L with st := by simp [L.st] }, fun u e => by cases e⟩
  · rename_i up ep
    have hu := par_lt hj ep
    split
    · exact ⟨{ L with st := by simp [L.st], kids := by simp [L.kids] }, fun u e => by cases e⟩
    · exact ⟨{ L with st := by simp [L.st], kids := by simp [L.kids], asd := by simp [L.asd] }, fun u e => by cases e; omega⟩
theorem FLen.begin_ {j : Job} {hands : Nat} {f : FSt} (L : FLen j hands f) {hand w k : Nat} (hw : w < j.length) (hk : k < j.length) : FLen j hands (beginS j f hand w k) := by
  have L1 : FLen j hands { f with st := f.st.set k .liv, kids := f.kids.set w (f.kd w + 1), cur := f.cur.set hand (some k) } := { L with st := by simp [L.st], kids := by simp [L.kids], cur := by simp [L.cur], cb := (L.setCur (hand := hand) (o := some k) fun w h => by cases h; exact hk).cb }
  unfold beginS
  split
  · exact { L1 with asd := by simp [L.asd] }
  · refine L1.setPil fun x hx => ?_
    rcases List.mem_append.mp hx with h | h
    · unfold FSt.pl at h
      rw [List.getD_eq_getElem?_getD] at h
      cases e : f.piles[hand]? with
      | none => rw [e] at h; simp at h
      | some l => rw [e] at h; exact L.pb l (List.mem_of_getElem? e) x h
    · simp at h
      omega
/-! ### the floor on the heap -/
structure FlA where
  p : Addr
  up : Addr
  cur : Addr
  pil : Addr
  at_ : Addr
  kid : Addr
  sta : Addr
  asd : Addr
  gon : Addr
  pc : List Addr
def FlA.own (A : FlA) : List Addr := A.p :: A.up :: A.cur :: A.pil :: A.at_ :: A.kid :: A.sta :: A.asd :: A.gon :: A.pc
structure FlAt (G : DG) (A : FlA) (j : Job) (f : FSt) : Prop where
  hp : G A.p = some (.ins "Floor" [("job", .tup (j.map encWork)), ("up", .ref A.up), ("current", .ref A.cur), ("piles", .ref A.pil), ("at", .ref A.at_), ("kids", .ref A.kid), ("state", .ref A.sta), ("aside", .ref A.asd), ("gone", .ref A.gon)])
  up : G A.up = some (.lst ((upsOf j).map encO))
  cur : G A.cur = some (.lst (f.cur.map encO))
  pil : G A.pil = some (.lst (A.pc.map .ref))
  pln : A.pc.length = f.piles.length
  pc : ∀ (i : Nat) c l, A.pc[i]? = some c → f.piles[i]? = some l → G c = some (.lst (l.map encN))
  at_ : G A.at_ = some (.lst (f.at_.map encN))
  kid : G A.kid = some (.lst (f.kids.map D.int))
  sta : G A.sta = some (.lst (f.st.map encWS))
  asd : G A.asd = some (.lst (f.asd.map D.bl))
  gon : G A.gon = some (.lst (f.gone.map encNN))
  nd : A.own.Nodup
section
variable {G G' : DG} {A : FlA} {j : Job} {f : FSt}
theorem FlAt.le (h : FlAt G A j f) (l : Le G G') : FlAt G' A j f :=
  ⟨l _ _ h.hp, l _ _ h.up, l _ _ h.cur, l _ _ h.pil, h.pln, fun i c x e1 e2 => l _ _ (h.pc i c x e1 e2), l _ _ h.at_, l _ _ h.kid, l _ _ h.sta, l _ _ h.asd, l _ _ h.gon, h.nd⟩
/-- one list of its own is written anew -/
theorem FlAt.put {x : Addr} {o : O} (h : FlAt G A j f) (g : FSt) (hx : x = A.cur ∨ x = A.at_ ∨ x = A.kid ∨ x = A.sta ∨ x = A.asd ∨ x = A.gon) (hp : g.piles = f.piles)
    (h1 : if x = A.cur then o = .lst (g.cur.map encO) else g.cur = f.cur) (h2 : if x = A.at_ then o = .lst (g.at_.map encN) else g.at_ = f.at_) (h3 : if x = A.kid then o = .lst (g.kids.map D.int) else g.kids = f.kids)
    (h4 : if x = A.sta then o = .lst (g.st.map encWS) else g.st = f.st) (h5 : if x = A.asd then o = .lst (g.asd.map D.bl) else g.asd = f.asd) (h6 : if x = A.gon then o = .lst (g.gone.map encNN) else g.gone = f.gone) : FlAt (FD.up G x o) A j g := by
  have nd := h.nd
  simp only [FlA.own, List.nodup_cons, List.mem_cons, not_or] at nd
  obtain ⟨n1, n2, n3, n4, n5, n6, n7, n8, n9, n10⟩ := nd
  have hpc : x ∉ A.pc := by rcases hx with rfl | rfl | rfl | rfl | rfl | rfl <;> grind
  refine ⟨up_nx (by grind) h.hp, up_nx (by grind) h.up, ?_, up_nx (by grind) h.pil, by rw [hp]; exact h.pln, fun i c l e1 e2 => up_nx (fun z => hpc (z ▸ List.mem_of_getElem? e1)) (h.pc i c l e1 (by rw [← hp]; exact e2)), ?_, ?_, ?_, ?_, ?_, h.nd⟩
  · by_cases e : x = A.cur
    · rw [if_pos e] at h1; subst e; rw [h1]; exact up_same
    · rw [if_neg e] at h1; rw [h1]; exact up_nx (Ne.symm e) h.cur
  · by_cases e : x = A.at_
    · rw [if_pos e] at h2; subst e; rw [h2]; exact up_same
    · rw [if_neg e] at h2; rw [h2]; exact up_nx (Ne.symm e) h.at_
  · by_cases e : x = A.kid
    · rw [if_pos e] at h3; subst e; rw [h3]; exact up_same
    · rw [if_neg e] at h3; rw [h3]; exact up_nx (Ne.symm e) h.kid
  · by_cases e : x = A.sta
    · rw [if_pos e] at h4; subst e; rw [h4]; exact up_same
    · rw [if_neg e] at h4; rw [h4]; exact up_nx (Ne.symm e) h.sta
  · by_cases e : x = A.asd
    · rw [if_pos e] at h5; subst e; rw [h5]; exact up_same
    · rw [if_neg e] at h5; rw [h5]; exact up_nx (Ne.symm e) h.asd
  · by_cases e : x = A.gon
    · rw [if_pos e] at h6; subst e; rw [h6]; exact up_same
    · rw [if_neg e] at h6; rw [h6]; exact up_nx (Ne.symm e) h.gon
theorem FlAt.ne (h : FlAt G A j f) : A.cur ≠ A.at_ ∧ A.cur ≠ A.kid ∧ A.cur ≠ A.sta ∧ A.cur ≠ A.asd ∧ A.cur ≠ A.gon ∧ A.at_ ≠ A.kid ∧ A.at_ ≠ A.sta ∧ A.at_ ≠ A.asd ∧ A.at_ ≠ A.gon ∧ A.kid ≠ A.sta ∧ A.kid ≠ A.asd ∧ A.kid ≠ A.gon ∧ A.sta ≠ A.asd ∧ A.sta ≠ A.gon ∧ A.asd ≠ A.gon := by
  have nd := h.nd
  simp only [FlA.own, List.nodup_cons, List.mem_cons, not_or] at nd
  grind
theorem FlAt.setCur (h : FlAt G A j f) (c : List (Option Nat)) : FlAt (FD.up G A.cur (.lst (c.map encO))) A j { f with cur := c } := by
  have := h.ne
  refine h.put _ (.inl rfl) rfl ?_ ?_ ?_ ?_ ?_ ?_ <;> grind
theorem FlAt.setAt (h : FlAt G A j f) (c : List Nat) : FlAt (FD.up G A.at_ (.lst (c.map encN))) A j { f with at_ := c } := by
  have := h.ne
  refine h.put _ (.inr (.inl rfl)) rfl ?_ ?_ ?_ ?_ ?_ ?_ <;> grind
theorem FlAt.setKid (h : FlAt G A j f) (c : List Int) : FlAt (FD.up G A.kid (.lst (c.map D.int))) A j { f with kids := c } := by
  have := h.ne
  refine h.put _ (.inr (.inr (.inl rfl))) rfl ?_ ?_ ?_ ?_ ?_ ?_ <;> grind
theorem FlAt.setSta (h : FlAt G A j f) (c : List WS) : FlAt (FD.up G A.sta (.lst (c.map encWS))) A j { f with st := c } := by
  have := h.ne
  refine h.put _ (.inr (.inr (.inr (.inl rfl)))) rfl ?_ ?_ ?_ ?_ ?_ ?_ <;> grind
theorem FlAt.setAsd (h : FlAt G A j f) (c : List Bool) : FlAt (FD.up G A.asd (.lst (c.map D.bl))) A j { f with asd := c } := by
  have := h.ne
  refine h.put _ (.inr (.inr (.inr (.inr (.inl rfl))))) rfl ?_ ?_ ?_ ?_ ?_ ?_ <;> grind
theorem FlAt.setGon (h : FlAt G A j f) (c : List (Nat × Nat)) : FlAt (FD.up G A.gon (.lst (c.map encNN))) A j { f with gone := c } := by
  have := h.ne
  refine h.put _ (.inr (.inr (.inr (.inr (.inr rfl))))) rfl ?_ ?_ ?_ ?_ ?_ ?_ <;> grind
theorem FlAt.setPil (h : FlAt G A j f) {i : Nat} {c : Addr} (hc : A.pc[i]? = some c) (l : List Nat) : FlAt (FD.up G c (.lst (l.map encN))) A j { f with piles := f.piles.set i l } := by
  have nd := h.nd
  have hm := List.mem_of_getElem? hc
  simp only [FlA.own, List.nodup_cons, List.mem_cons, not_or] at nd
  obtain ⟨n1, n2, n3, n4, n5, n6, n7, n8, n9, n10⟩ := nd
  refine ⟨up_nx (by grind) h.hp, up_nx (by grind) h.up, up_nx (by grind) h.cur, up_nx (by grind) h.pil, by simp [h.pln], fun k d x e1 e2 => ?_, up_nx (by grind) h.at_, up_nx (by grind) h.kid, up_nx (by grind) h.sta, up_nx (by grind) h.asd, up_nx (by grind) h.gon, h.nd⟩
  by_cases e : k = i
  · subst e
    have hi := (List.getElem?_eq_some_iff.mp hc).1
    rw [List.getElem?_set_self (h.pln ▸ hi)] at e2
    rw [hc] at e1
    cases e1
    cases e2
    exact up_same
  · rw [List.getElem?_set_ne (Ne.symm e)] at e2
    refine up_nx (fun z => ?_) (h.pc k d x e1 e2)
    subst z
    obtain ⟨l1, f1⟩ := List.getElem?_eq_some_iff.mp e1
    obtain ⟨l2, f2⟩ := List.getElem?_eq_some_iff.mp hc
    exact e ((List.getElem_inj (h₀ := l1) (h₁ := l2) n10).mp (f1.trans f2.symm))
theorem FlAt.mem_pc {i : Nat} {c : Addr} (hc : A.pc[i]? = some c) : c ∈ A.own := by
  have := List.mem_of_getElem? hc
  simp [FlA.own, this]
theorem FlAt.some_ (h : FlAt G A j f) {a : Addr} (ha : a ∈ A.own) : ∃ o, G a = some o := by
  simp only [FlA.own, List.mem_cons] at ha
  rcases ha with rfl | rfl | rfl | rfl | rfl | rfl | rfl | rfl | rfl | ha
  · exact ⟨_, h.hp⟩
  · exact ⟨_, h.up⟩
  · exact ⟨_, h.cur⟩
  · exact ⟨_, h.pil⟩
  · exact ⟨_, h.at_⟩
  · exact ⟨_, h.kid⟩
  · exact ⟨_, h.sta⟩
  · exact ⟨_, h.asd⟩
  · exact ⟨_, h.gon⟩
  · obtain ⟨i, hi, e⟩ := List.mem_iff_getElem.mp ha
    exact ⟨_, h.pc i a (f.piles[i]'(h.pln ▸ hi)) (by rw [List.getElem?_eq_getElem hi, e]) (List.getElem?_eq_getElem _)⟩
theorem FlAt.notin (h : FlAt G A j f) {a : Addr} (ha : G a = none) : a ∉ A.own := fun m => by
  obtain ⟨o, e⟩ := h.some_ m
  rw [ha] at e
  cases e
theorem FlAt.other (h : FlAt G A j f) {p : Addr} {o : O} (hp : p ∉ A.own) : FlAt (FD.up G p o) A j f := by
  have ne : ∀ a ∈ A.own, a ≠ p := fun a ha e => hp (e ▸ ha)
  have m : ∀ {a}, a ∈ A.own → ∀ {x}, G a = some x → FD.up G p o a = some x := fun {a} ha {x} e => up_nx (ne a ha) e
  exact ⟨m (by simp [FlA.own]) h.hp, m (by simp [FlA.own]) h.up, m (by simp [FlA.own]) h.cur, m (by simp [FlA.own]) h.pil, h.pln, fun i c l e1 e2 => m (by simp [FlA.own, List.mem_of_getElem? e1]) (h.pc i c l e1 e2), m (by simp [FlA.own]) h.at_, m (by simp [FlA.own]) h.kid, m (by simp [FlA.own]) h.sta, m (by simp [FlA.own]) h.asd, m (by simp [FlA.own]) h.gon, h.nd⟩
end
theorem LeX.step {ws : List Addr} {G G' : DG} {x : Addr} {o : O} (l : LeX ws G G') (hx : x ∈ ws) : LeX ws G (up G' x o) := lex_mem hx l
theorem LeX.trans {ws : List Addr} {G G1 G2 : DG} (a : LeX ws G G1) (b : LeX ws G1 G2) : LeX ws G G2 := fun c o h e => b c o h (a c o h e)

/-! ### the floor's methods -/
theorem getD_map {α : Type} {xs : List α} {e : α → D} {i : Nat} {d : α} (h : i < xs.length) : (xs.map e)[i]? = some (e (xs.getD i d)) := by
  rw [List.getElem?_map, List.getElem?_eq_getElem h, List.getD_eq_getElem?_getD, List.getElem?_eq_getElem h]
  rfl
def encNx : Option Stp → D
  | none => .non
  | some s => encStep s
theorem flat_none (G : DG) : ∀ n : Nat, (List.replicate n [D.non]).flatten = (List.replicate n (none : Option Nat)).map encO := fun n => by rw [List.flatten_replicate_singleton, List.map_replicate]
def C_Floor_next_step : Ct := fun ds G Q _ => ∃ A j f w, ds = [.ref A.p, .int (w : Nat)] ∧ FlAt G A j f ∧ JobOk j ∧ f.at_.length = j.length ∧ w < j.length ∧ Q (encNx (nextS j f w)) G
theorem len_Floor_next_step (ds G Q E) (h : C_Floor_next_step ds G Q E) : ds.length = 2 := by obtain ⟨_, _, _, _, rfl, _⟩ := h; rfl
abbrev N_Floor_next_step : List Str := ["self", "work", "steps"]
def T_Floor_next_step : DX → DS := fun E => (dSeq (dAsg (dOp itemD (dOp itemD (dFld "Floor" "job" (dVar 0)) (dVar 1)) (dC (.int 1))) (dgName 2))
    (dRet (dIfE (dTest (dOp ltD (dOp itemD (dFld "Floor" "at" (dVar 0)) (dVar 1)) (dCB lenD (dCons (dVar 2) dNil)))) (dOp itemD (dVar 2) (dOp itemD (dFld "Floor" "at" (dVar 0)) (dVar 1))) (dC .non))))
theorem run_Floor_next_step (ds G Q E) (h : C_Floor_next_step ds G Q E) : T_Floor_next_step E { nx := fun _ G' => DrK Q .non G', rt := DrK Q, bk := fun _ _ => False, ct := fun _ _ => False } (dstart N_Floor_next_step ds) G := by
  obtain ⟨A, j, f, w, rfl, F, hj, hl, hw, q⟩ := h
  show T_Floor_next_step E _ [some (.ref A.p), some (.int w), none] G
  obtain ⟨x, _, _, _, eW, _⟩ := hj.work hw
  have hp := F.hp
  have hat := F.at_
  have ea : (f.at_.map encN)[w]? = some (.int (f.a w)) := getD_map (e := encN) (d := 0) (by omega)
  unfold T_Floor_next_step
  walk_at "run"
  refine br_dec (fun h => ?_) (fun h => ?_)
  · rw [List.length_map] at h
    have e2 : ((stepsOf j w).map encStep)[f.a w]? = some (encNx (nextS j f w)) := by
      unfold nextS
      rw [List.getElem?_map, List.getElem?_eq_getElem (by omega)]
      rfl
    walk_at "run"
    exact s_rt q
  · rw [List.length_map] at h
    have e2 : nextS j f w = none := List.getElem?_eq_none (by omega)
    rw [e2] at q
    walk_at "run"
    exact s_rt q
def encOP : Option Stp → PyData
  | none => .none
  | some .doo => .tuple [.str "do"]
  | some .wait => .tuple [.str "wait"]
  | some (.send k) => .tuple [.str "send", .int k]
theorem ok_Nx : EncOk encNx encOP := ⟨fun n G x => by
  have d1 : PyData.strOk (Str.ofString "do") = true := by decide +kernel
  have d2 : PyData.strOk (Str.ofString "wait") = true := by decide +kernel
  have d3 : PyData.strOk (Str.ofString "send") = true := by decide +kernel
  cases x with
  | none => exact pyD_non
  | some s =>
    cases s with
    | doo => exact pyD_tup (pyAll_c (by simp [pyD, d1]) pyAll_nil)
    | wait => exact pyD_tup (pyAll_c (by simp [pyD, d2]) pyAll_nil)
    | send k => exact pyD_tup (pyAll_c (by simp [pyD, d3]) (pyAll_c pyD_int pyAll_nil)), fun x y => by
  cases x with
  | none => cases y with
    | none => rfl
    | some s => cases s <;> simp [encOP, PyData.eqv]
  | some s => cases y with
    | none => cases s <;> simp [encOP, PyData.eqv]
    | some t =>
      cases s <;> cases t <;> simp [encOP, PyData.eqv, PyData.eqvAll]
      · decide
      · rename_i a b
        by_cases h : a = b
        · simp [h]
        · simp [h]; omega
      · decide⟩
theorem held_in (o : Option Stp) [Decidable (o ∈ [none, some Stp.wait])] : decide (o ∈ [none, some Stp.wait]) = match o with
  | none => true
  | some .wait => true
  | _ => false := by
  cases o with
  | none => simp
  | some s => cases s <;> simp
def C_Floor_is_held : Ct := fun ds G Q _ => ∃ A j f w, ds = [.ref A.p, .int (w : Nat)] ∧ FlAt G A j f ∧ JobOk j ∧ f.at_.length = j.length ∧ w < j.length ∧ Q (.bl (heldS j f w)) G
theorem len_Floor_is_held (ds G Q E) (h : C_Floor_is_held ds G Q E) : ds.length = 2 := by obtain ⟨_, _, _, _, rfl, _⟩ := h; rfl
abbrev N_Floor_is_held : List Str := ["self", "work"]
def T_Floor_is_held : DX → DS := fun E => (dRet (dOp (inD false) (dMeth "Floor" "next_step" C_Floor_next_step E (dVar 0) (dCons (dVar 1) dNil)) (dTup (dCons (dC .non) (dCons (dTup (dCons (dC (.str "wait")) dNil)) dNil)))))
theorem run_Floor_is_held (ds G Q E) (h : C_Floor_is_held ds G Q E) : T_Floor_is_held E { nx := fun _ G' => DrK Q .non G', rt := DrK Q, bk := fun _ _ => False, ct := fun _ _ => False } (dstart N_Floor_is_held ds) G := by
  obtain ⟨A, j, f, w, rfl, F, hj, hl, hw, q⟩ := h
  show T_Floor_is_held E _ [some (.ref A.p), some (.int w)] G
  have hp := F.hp
  unfold T_Floor_is_held
  walk_at "run"
  refine UpC.of ⟨A, j, f, w, rfl, F, hj, hl, hw, ?_⟩
  walk_at "run"
  refine s_inET (xs := [none, some .wait]) ok_Nx ?_
  rw [held_in]
  exact s_rt q
def C_Floor_is_all_over : Ct := fun ds G Q _ => ∃ A j f, ds = [.ref A.p] ∧ FlAt G A j f ∧ 0 < f.st.length ∧ Q (.bl (decide (f.s 0 = .ovr))) G
theorem len_Floor_is_all_over (ds G Q E) (h : C_Floor_is_all_over ds G Q E) : ds.length = 1 := by obtain ⟨_, _, _, rfl, _⟩ := h; rfl
abbrev N_Floor_is_all_over : List Str := ["self"]
def T_Floor_is_all_over : DX → DS := fun E => (dRet (dOp eqD (dOp itemD (dFld "Floor" "state" (dVar 0)) (dC (.int 0))) (dC (.str "over"))))
theorem run_Floor_is_all_over (ds G Q E) (h : C_Floor_is_all_over ds G Q E) : T_Floor_is_all_over E { nx := fun _ G' => DrK Q .non G', rt := DrK Q, bk := fun _ _ => False, ct := fun _ _ => False } (dstart N_Floor_is_all_over ds) G := by
  obtain ⟨A, j, f, rfl, F, hl, q⟩ := h
  show T_Floor_is_all_over E _ [some (.ref A.p)] G
  have hp := F.hp
  have hs := F.sta
  have e0 : atI (f.st.map encWS) 0 = some (encWS (f.s 0)) := by rw [atI_0]; exact getD_map (e := encWS) (d := .unb) hl
  unfold T_Floor_is_all_over
  walk_at "run"
  cases e : f.s 0 <;> rw [e] at q
  all_goals
    refine s_eqS ?_
    exact s_rt q

theorem map_setD {α : Type} {xs : List α} {e : α → D} {i : Nat} {x : α} : (xs.map e).set i (e x) = (xs.set i x).map e := by rw [List.map_set]
theorem ixN_lt {n i : Nat} (h : i < n) : ixN n (i : Int) = some i := ixN_nat h
def C_Floor_begin : Ct := fun ds G Q _ => ∃ A j f hands hand w k, ds = [.ref A.p, .int (hand : Nat), .int (w : Nat), .int (k : Nat)] ∧ FlAt G A j f ∧ JobOk j ∧ FLen j hands f ∧ hand < hands ∧ w < j.length ∧ k < j.length ∧
  (f.pl hand).length < 1000 ∧ ∀ G', FlAt G' A j (beginS j f hand w k) → LeX A.own G G' → Q .non G'
theorem len_Floor_begin (ds G Q E) (h : C_Floor_begin ds G Q E) : ds.length = 4 := by obtain ⟨_, _, _, _, _, _, _, rfl, _⟩ := h; rfl
abbrev N_Floor_begin : List Str := ["self", "hand", "work", "child"]
def T_Floor_begin : DX → DS := fun E => (dSeq (dAsg (dC (.str "lives")) (dgSub (dFld "Floor" "state" (dVar 0)) (dVar 3)))
    (dSeq (dAsg (dOp addD (dOp itemD (dFld "Floor" "kids" (dVar 0)) (dVar 2)) (dC (.int 1))) (dgSub (dFld "Floor" "kids" (dVar 0)) (dVar 2)))
    (dSeq (dAsg (dVar 3) (dgSub (dFld "Floor" "current" (dVar 0)) (dVar 1)))
    (dIf (dTru (dMeth "Floor" "is_held" C_Floor_is_held E (dVar 0) (dCons (dVar 2) dNil))) (dAsg (dC (.bl true)) (dgSub (dFld "Floor" "aside" (dVar 0)) (dVar 2))) (dDrop (dMt appendD (dOp itemD (dFld "Floor" "piles" (dVar 0)) (dVar 1)) (dCons (dVar 2) dNil)))))))
theorem run_Floor_begin (ds G Q E) (h : C_Floor_begin ds G Q E) : T_Floor_begin E { nx := fun _ G' => DrK Q .non G', rt := DrK Q, bk := fun _ _ => False, ct := fun _ _ => False } (dstart N_Floor_begin ds) G := by
  obtain ⟨A, j, f, hands, hand, w, k, rfl, F, hj, L, hh, hw, hk, hpl, q⟩ := h
  show T_Floor_begin E _ [some (.ref A.p), some (.int hand), some (.int w), some (.int k)] G
  have l1 := L.cur
  have l2 := L.kids
  have l3 := L.st
  have l4 := L.asd
  have l5 := L.piles
  have l6 := L.at_
  have hp := F.hp
  have hst := F.sta
  have x1 : ixN (f.st.map encWS).length (k : Int) = some k := by rw [List.length_map]; exact ixN_lt (by omega)
  unfold T_Floor_begin
  walk_at "run"
  have F1 := F.setSta (f.st.set k .liv)
  rw [← map_setD] at F1
  have X1 : LeX A.own G (up G A.sta (.lst ((f.st.map encWS).set k (encWS .liv)))) := lex_mem (by simp [FlA.own]) lex_refl
  have es : encWS .liv = .str "lives" := rfl
  rw [es] at F1 X1
  generalize up G A.sta (.lst ((f.st.map encWS).set k (.str "lives"))) = G1 at F1 X1
  clear hp hst
  have hp := F1.hp
  have hkd : G1 A.kid = some (.lst (f.kids.map D.int)) := F1.kid
  have ek : (f.kids.map D.int)[w]? = some (.int (f.kd w)) := getD_map (e := D.int) (d := 0) (by omega)
  have x2 : ixN (f.kids.map D.int).length (w : Int) = some w := by rw [List.length_map]; exact ixN_lt (by omega)
  walk_at "run"
  have F2 := F1.setKid (f.kids.set w (f.kd w + 1))
  rw [← map_setD] at F2
  have X2 : LeX A.own G (up G1 A.kid (.lst ((f.kids.map D.int).set w (.int (f.kd w + 1))))) := X1.step (by simp [FlA.own])
  generalize up G1 A.kid (.lst ((f.kids.map D.int).set w (.int (f.kd w + 1)))) = G2 at F2 X2
  clear hp hkd
  have hp := F2.hp
  have hcu : G2 A.cur = some (.lst (f.cur.map encO)) := F2.cur
  have x3 : ixN (f.cur.map encO).length (hand : Int) = some hand := by rw [List.length_map]; exact ixN_lt (by omega)
  walk_at "run"
  have F3 := F2.setCur (f.cur.set hand (some k))
  rw [← map_setD] at F3
  have X3 : LeX A.own G (up G2 A.cur (.lst ((f.cur.map encO).set hand (encO (some k))))) := X2.step (by simp [FlA.own])
  have ec : encO (some k) = .int k := rfl
  rw [ec] at F3 X3
  generalize up G2 A.cur (.lst ((f.cur.map encO).set hand (.int k))) = G3 at F3 X3
  clear hp hcu
  have hp := F3.hp
  walk_at "run"
  refine UpC.of ⟨A, j, _, w, rfl, F3, hj, L.at_, hw, ?_⟩
  unfold beginS at q
  have eh : heldS j { f with st := f.st.set k .liv, kids := f.kids.set w (f.kd w + 1), cur := f.cur.set hand (some k) } w = heldS j f w := rfl
  rw [eh]
  walk_at "run"
  refine br_bool (fun h => ?_) (fun h => ?_)
  · rw [if_pos h] at q
    have has : G3 A.asd = some (.lst (f.asd.map D.bl)) := F3.asd
    have x4 : ixN (f.asd.map D.bl).length (w : Int) = some w := by rw [List.length_map]; exact ixN_lt (by omega)
    walk_at "run"
    rw [map_setD]
    exact s_rt (q _ (F3.setAsd _) (X3.step (by simp [FlA.own])))
  · rw [if_neg (by rw [h]; decide)] at q
    have hpi : G3 A.pil = some (.lst (A.pc.map .ref)) := F3.pil
    have hpln := F3.pln
    have hpln' : A.pc.length = f.piles.length := hpln
    obtain ⟨c, hc⟩ : ∃ c, A.pc[hand]? = some c := ⟨A.pc[hand]'(by omega), List.getElem?_eq_getElem _⟩
    have hcD : (A.pc.map D.ref)[hand]? = some (.ref c) := by rw [List.getElem?_map, hc]; rfl
    have hpe : f.piles[hand]? = some (f.pl hand) := by
      unfold FSt.pl
      rw [List.getD_eq_getElem?_getD, List.getElem?_eq_getElem (by omega)]
      rfl
    have hGc : G3 c = some (.lst ((f.pl hand).map encN)) := F3.pc hand c _ hc hpe
    have F4 := F3.setPil hc (f.pl hand ++ [w])
    rw [List.map_append] at F4
    walk_at "run"
    exact s_rt (q _ F4 (X3.step (FlAt.mem_pc hc)))
def C_Floor_end : Ct := fun ds G Q _ => ∃ A j f hands w, ds = [.ref A.p, .int (w : Nat)] ∧ FlAt G A j f ∧ JobOk j ∧ FLen j hands f ∧ w < j.length ∧
  ∀ G', FlAt G' A j (endS j f w).1 → LeX A.own G G' → Q (encO (endS j f w).2) G'
theorem len_Floor_end (ds G Q E) (h : C_Floor_end ds G Q E) : ds.length = 2 := by obtain ⟨_, _, _, _, _, rfl, _⟩ := h; rfl
abbrev N_Floor_end : List Str := ["self", "work", "up"]
def T_Floor_end : DX → DS := fun E => (dSeq (dAsg (dC (.str "over")) (dgSub (dFld "Floor" "state" (dVar 0)) (dVar 1)))
    (dSeq (dAsg (dOp itemD (dFld "Floor" "up" (dVar 0)) (dVar 1)) (dgName 2))
    (dSeq (dIf (dTest (dOp (isD false) (dVar 2) (dC .non))) (dRet (dC .non)) dNext)
    (dSeq (dAsg (dOp subD (dOp itemD (dFld "Floor" "kids" (dVar 0)) (dVar 2)) (dC (.int 1))) (dgSub (dFld "Floor" "kids" (dVar 0)) (dVar 2)))
    (dSeq (dIf (dOr (dNot (dTru (dOp itemD (dFld "Floor" "aside" (dVar 0)) (dVar 2)))) (dTest (dOp gtD (dOp itemD (dFld "Floor" "kids" (dVar 0)) (dVar 2)) (dC (.int 0))))) (dRet (dC .non)) dNext)
    (dSeq (dAsg (dC (.bl false)) (dgSub (dFld "Floor" "aside" (dVar 0)) (dVar 2)))
    (dRet (dVar 2))))))))
theorem run_Floor_end (ds G Q E) (h : C_Floor_end ds G Q E) : T_Floor_end E { nx := fun _ G' => DrK Q .non G', rt := DrK Q, bk := fun _ _ => False, ct := fun _ _ => False } (dstart N_Floor_end ds) G := by
  obtain ⟨A, j, f, hands, w, rfl, F, hj, L, hw, q⟩ := h
  show T_Floor_end E _ [some (.ref A.p), some (.int w), none] G
  have l2 := L.kids
  have l3 := L.st
  have l4 := L.asd
  have hp := F.hp
  have hst := F.sta
  have x1 : ixN (f.st.map encWS).length (w : Int) = some w := by rw [List.length_map]; exact ixN_lt (by omega)
  unfold T_Floor_end
  walk_at "run"
  have F1 := F.setSta (f.st.set w .ovr)
  rw [← map_setD] at F1
  have X1 : LeX A.own G (up G A.sta (.lst ((f.st.map encWS).set w (encWS .ovr)))) := lex_mem (by simp [FlA.own]) lex_refl
  have es : encWS .ovr = .str "over" := rfl
  rw [es] at F1 X1
  generalize up G A.sta (.lst ((f.st.map encWS).set w (.str "over"))) = G1 at F1 X1
  clear hp hst
  have hp := F1.hp
  have hup := F1.up
  have eu : ((upsOf j).map encO)[w]? = some (encO (parO j w)) := by
    rw [List.getElem?_map]
    unfold upsOf
    rw [List.getElem?_map, List.getElem?_range hw]
    rfl
  walk_at "run"
  unfold endS at q
  cases ep : parO j w with
  | none =>
    simp only [ep] at q
    have ee : encO none = .non := rfl
    rw [ee]
    walk_at "run"
    exact s_rt (q _ F1 X1)
  | some u =>
    simp only [ep] at q
    have hu := par_lt hj ep
    have ee : encO (some u) = .int u := rfl
    rw [ee]
    have hkd : G1 A.kid = some (.lst (f.kids.map D.int)) := F1.kid
    have ek : (f.kids.map D.int)[u]? = some (.int (f.kd u)) := getD_map (e := D.int) (d := 0) (by omega)
    have x2 : ixN (f.kids.map D.int).length (u : Int) = some u := by rw [List.length_map]; exact ixN_lt (by omega)
    walk_at "run"
    have F2 := F1.setKid (f.kids.set u (f.kd u - 1))
    rw [← map_setD] at F2
    have X2 : LeX A.own G (up G1 A.kid (.lst ((f.kids.map D.int).set u (.int (f.kd u - 1))))) := X1.step (by simp [FlA.own])
    have hk2 : up G1 A.kid (.lst ((f.kids.map D.int).set u (.int (f.kd u - 1)))) A.kid = some (.lst ((f.kids.map D.int).set u (.int (f.kd u - 1)))) := up_same
    generalize up G1 A.kid (.lst ((f.kids.map D.int).set u (.int (f.kd u - 1)))) = G2 at F2 X2 hk2
    clear hp hkd
    have hp := F2.hp
    have has : G2 A.asd = some (.lst (f.asd.map D.bl)) := F2.asd
    have ea : (f.asd.map D.bl)[u]? = some (.bl (f.as u)) := getD_map (e := D.bl) (d := false) (by omega)
    have x4 : ixN (f.asd.map D.bl).length (u : Int) = some u := by rw [List.length_map]; exact ixN_lt (by omega)
    have ek2 : ((f.kids.map D.int).set u (.int (f.kd u - 1)))[u]? = some (.int (f.kd u - 1)) := List.getElem?_set_self (by rw [List.length_map]; omega)
    walk_at "run"
    cases eb : f.as u with
    | false =>
      rw [if_pos (.inl eb)] at q
      walk_at "run"
      exact s_rt (q _ F2 X2)
    | true =>
      walk_at "run"
      refine br_dec (fun h => ?_) (fun h => ?_)
      · rw [if_pos (.inr h)] at q
        walk_at "run"
        exact s_rt (q _ F2 X2)
      · rw [if_neg (by rw [eb]; simpa using h)] at q
        walk_at "run"
        rw [map_setD]
        exact s_rt (q _ (F2.setAsd _) (X2.step (by simp [FlA.own])))

def C_Floor_settle : Ct := fun ds G Q _ => ∃ A j f hands hand, ds = [.ref A.p, .int (hand : Nat)] ∧ FlAt G A j f ∧ JobOk j ∧ FLen j hands f ∧ hand < hands ∧
  ∀ G', FlAt G' A j (settleS j f hand) → LeX A.own G G' → Q .non G'
theorem len_Floor_settle (ds G Q E) (h : C_Floor_settle ds G Q E) : ds.length = 2 := by obtain ⟨_, _, _, _, _, rfl, _⟩ := h; rfl
abbrev N_Floor_settle : List Str := ["self", "hand", "work"]
def T_Floor_settle : DX → DS := fun E => (dSeq (dAsg (dOp itemD (dFld "Floor" "current" (dVar 0)) (dVar 1)) (dgName 2))
    (dSeq (dWhile (dAnd (dTest (dOp (isD true) (dVar 2) (dC .non))) (dTru (dMeth "Floor" "is_held" C_Floor_is_held E (dVar 0) (dCons (dVar 2) dNil)))) (dSeq (dIf (dTest (dOp gtD (dOp itemD (dFld "Floor" "kids" (dVar 0)) (dVar 2)) (dC (.int 0)))) (dSeq (dAsg (dC (.bl true)) (dgSub (dFld "Floor" "aside" (dVar 0)) (dVar 2)))
    (dSeq (dAsg (dC .non) (dgSub (dFld "Floor" "current" (dVar 0)) (dVar 1)))
    (dRet (dC .non)))) dNext)
    (dSeq (dIf (dTest (dOp (isD true) (dMeth "Floor" "next_step" C_Floor_next_step E (dVar 0) (dCons (dVar 2) dNil)) (dC .non))) (dRet (dC .non)) dNext)
    (dSeq (dAsg (dMeth "Floor" "end" C_Floor_end E (dVar 0) (dCons (dVar 2) dNil)) (dgName 2))
    (dAsg (dVar 2) (dgSub (dFld "Floor" "current" (dVar 0)) (dVar 1)))))))
    (dRet (dC .non))))
def wkOf : DSt → Nat
  | [_, _, some (.int w)] => w.toNat + 1
  | _ => 0
theorem run_Floor_settle (ds G Q E) (h : C_Floor_settle ds G Q E) : T_Floor_settle E { nx := fun _ G' => DrK Q .non G', rt := DrK Q, bk := fun _ _ => False, ct := fun _ _ => False } (dstart N_Floor_settle ds) G := by
  obtain ⟨A, j, f, hands, hand, rfl, F, hj, L, hh, q⟩ := h
  show T_Floor_settle E _ [some (.ref A.p), some (.int hand), none] G
  have l1 := L.cur
  have hp := F.hp
  have hcu := F.cur
  have ec : (f.cur.map encO)[hand]? = some (encO (f.cu hand)) := getD_map (e := encO) (d := none) (by omega)
  unfold T_Floor_settle
  walk_at "run"
  refine while_by (fun σ G' => ∃ (n : Nat) (f1 : FSt) (o : Option Nat), FlAt G' A j f1 ∧ FLen j hands f1 ∧ LeX A.own G G' ∧ (∀ w, o = some w → w < n ∧ w < j.length) ∧ settleN j hand (n + 1) f1 o = settleS j f hand ∧ σ = [some (.ref A.p), some (.int hand), some (encO o)]) (fun σ _ => wkOf σ) ⟨j.length, f, f.cu hand, F, L, lex_refl, fun w e => ?_, rfl, rfl⟩ (fun σ' G' N hP hN => ?_)
  · have : some w ∈ f.cur := by
      rw [← e]
      exact List.mem_of_getElem? (FSt.cu_get (by omega))
    exact ⟨L.cb w this, L.cb w this⟩
  · clear hp hcu
    obtain ⟨n, f1, o, F1, L1, X1, ho, hs, rfl⟩ := hP
    have hp := F1.hp
    cases o with
    | none =>
      have ee : encO none = .non := rfl
      rw [ee]
      have hs' : f1 = settleS j f hand := hs
      walk_at "run"
      exact s_rt (q _ (hs' ▸ F1) X1)
    | some w =>
      obtain ⟨hwn, hwj⟩ := ho w rfl
      have l2 := L1.kids
      have l4 := L1.asd
      have l5 := L1.cur
      have ee : encO (some w) = .int w := rfl
      rw [ee]
      walk_at "run"
      refine UpC.of ⟨A, j, f1, w, rfl, F1, hj, L1.at_, hwj, ?_⟩
      unfold settleN at hs
      walk_at "run"
      refine br_bool (fun h => ?_) (fun h => ?_)
      · rw [if_pos h] at hs
        have hkd := F1.kid
        have ek : (f1.kids.map D.int)[w]? = some (.int (f1.kd w)) := getD_map (e := D.int) (d := 0) (by omega)
        walk_at "run"
        refine br_dec (fun h2 => ?_) (fun h2 => ?_)
        · rw [if_pos h2] at hs
          have has := F1.asd
          have x4 : ixN (f1.asd.map D.bl).length (w : Int) = some w := by rw [List.length_map]; exact ixN_lt (by omega)
          walk_at "run"
          rw [map_setD]
          have F2 := F1.setAsd (f1.asd.set w true)
          have X2 : LeX A.own G (up G' A.asd (.lst ((f1.asd.set w true).map D.bl))) := X1.step (by simp [FlA.own])
          generalize up G' A.asd (.lst ((f1.asd.set w true).map D.bl)) = G2 at F2 X2
          clear hp has hkd
          have hp := F2.hp
          have hcu : G2 A.cur = some (.lst (f1.cur.map encO)) := F2.cur
          have x5 : ixN (f1.cur.map encO).length (hand : Int) = some hand := by rw [List.length_map]; exact ixN_lt (by omega)
          walk_at "run"
          have F3 := F2.setCur (f1.cur.set hand none)
          rw [← map_setD] at F3
          rw [← hs] at q
          exact s_rt (q _ F3 (X2.step (by simp [FlA.own])))
        · rw [if_neg h2] at hs
          walk_at "run"
          refine UpC.of ⟨A, j, f1, w, rfl, F1, hj, L1.at_, hwj, ?_⟩
          cases en : nextS j f1 w with
          | some s =>
            rw [en, if_pos (show (some s).isSome = true from rfl)] at hs
            have e1 : ∀ s : Stp, ∃ xs, encStep s = .tup xs := fun s => by cases s <;> exact ⟨_, rfl⟩
            obtain ⟨xs, e2⟩ := e1 s
            have e3 : encNx (some s) = .tup xs := e2
            rw [e3]
            walk_at "run"
            exact s_rt (q _ (hs ▸ F1) X1)
          | none =>
            rw [en, if_neg (by decide)] at hs
            have e3 : encNx none = .non := rfl
            rw [e3]
            walk_at "run"
            refine UpC.of ⟨A, j, f1, hands, w, rfl, F1, hj, L1, hwj, fun G2 F2 X2 => ?_⟩
            obtain ⟨L2, hu⟩ := L1.end_ hj (w := w)
            have X3 := X1.trans X2
            clear hp hkd
            have hp := F2.hp
            have hcu := F2.cur
            have l6 := L2.cur
            have x5 : ixN ((endS j f1 w).1.cur.map encO).length (hand : Int) = some hand := by rw [List.length_map]; exact ixN_lt (by omega)
            walk_at "run"
            have F3 := F2.setCur ((endS j f1 w).1.cur.set hand (endS j f1 w).2)
            rw [← map_setD] at F3
            have L3 := L2.setCur (hand := hand) (o := (endS j f1 w).2) fun u e => (hu u e).2
            obtain ⟨n', rfl⟩ : ∃ n', n = n' + 1 := ⟨n - 1, by omega⟩
            refine hN _ _ _ (.refl _) ⟨n', _, (endS j f1 w).2, F3, L3, X3.step (by simp [FlA.own]), fun u e => ?_, hs, rfl⟩ ?_
            · have := hu u e
              omega
            · cases eu : (endS j f1 w).2 with
              | none => show 0 < w + 1; omega
              | some u =>
                have := hu u eu
                show (u : Int).toNat + 1 < (w : Int).toNat + 1
                omega
      · rw [if_neg (by rw [h]; decide)] at hs
        walk_at "run"
        exact s_rt (q _ (hs ▸ F1) X1)

theorem encStep_send (s : Stp) : ∃ z zs, encStep s = .tup (.str z :: zs) ∧ ((decide (z = ("send" : Str)) = true ∧ ∃ k, s = .send k ∧ zs = [.int (k : Nat)]) ∨ (decide (z = ("send" : Str)) = false ∧ sendOf s = none)) := by
  cases s with
  | doo => exact ⟨_, _, rfl, .inr ⟨by decide, rfl⟩⟩
  | wait => exact ⟨_, _, rfl, .inr ⟨by decide, rfl⟩⟩
  | send k => exact ⟨_, _, rfl, .inl ⟨by decide, k, rfl, rfl⟩⟩
theorem FLen.tick {j : Job} {hands : Nat} {f : FSt} (L : FLen j hands f) {w : Nat} : FLen j hands (tickS f w) := { L with at_ := by simp [tickS, L.at_] }
theorem nextS_send {j : Job} (hj : JobOk j) {f : FSt} {w k : Nat} (h : nextS j f w = some (.send k)) : w < k ∧ k < j.length := hj.send (List.mem_of_getElem? h)
theorem FLen.sent {j : Job} (hj : JobOk j) {hands : Nat} {f : FSt} (L : FLen j hands f) {hand w : Nat} (hw : w < j.length) : FLen j hands (sentS j f hand w) := by
  unfold sentS
  split
  · rename_i k e
    exact L.tick.begin_ hw (nextS_send hj e).2
  · exact L.tick
def C_Floor_do_step : Ct := fun ds G Q _ => ∃ A j f hands hand w, ds = [.ref A.p, .int (hand : Nat)] ∧ FlAt G A j f ∧ JobOk j ∧ FLen j hands f ∧ hand < hands ∧ f.cu hand = some w ∧ nextS j f w ≠ none ∧ f.gone.length < 1000 ∧ (f.pl hand).length < 1000 ∧
  ∀ G', FlAt G' A j (stepS j f hand w) → LeX A.own G G' → Q (.tup [.int w, .int (f.a w)]) G'
theorem len_Floor_do_step (ds G Q E) (h : C_Floor_do_step ds G Q E) : ds.length = 2 := by obtain ⟨_, _, _, _, _, _, rfl, _⟩ := h; rfl
abbrev N_Floor_do_step : List Str := ["self", "hand", "work", "number", "step"]
def T_Floor_do_step : DX → DS := fun E => (dSeq (dAsg (dOp itemD (dFld "Floor" "current" (dVar 0)) (dVar 1)) (dgName 2))
    (dSeq (dAsg (dOp itemD (dFld "Floor" "at" (dVar 0)) (dVar 2)) (dgName 3))
    (dSeq (dAsg (dOp itemD (dOp itemD (dOp itemD (dFld "Floor" "job" (dVar 0)) (dVar 2)) (dC (.int 1))) (dVar 3)) (dgName 4))
    (dSeq (dAsg (dOp addD (dVar 3) (dC (.int 1))) (dgSub (dFld "Floor" "at" (dVar 0)) (dVar 2)))
    (dSeq (dDrop (dMt appendD (dFld "Floor" "gone" (dVar 0)) (dCons (dTup (dCons (dVar 2) (dCons (dVar 3) dNil))) dNil)))
    (dSeq (dIf (dTest (dOp eqD (dOp itemD (dVar 4) (dC (.int 0))) (dC (.str "send")))) (dDrop (dMeth "Floor" "begin" C_Floor_begin E (dVar 0) (dCons (dVar 1) (dCons (dVar 2) (dCons (dOp itemD (dVar 4) (dC (.int 1))) dNil))))) dNext)
    (dSeq (dDrop (dMeth "Floor" "settle" C_Floor_settle E (dVar 0) (dCons (dVar 1) dNil)))
    (dRet (dTup (dCons (dVar 2) (dCons (dVar 3) dNil)))))))))))
theorem run_Floor_do_step (ds G Q E) (h : C_Floor_do_step ds G Q E) : T_Floor_do_step E { nx := fun _ G' => DrK Q .non G', rt := DrK Q, bk := fun _ _ => False, ct := fun _ _ => False } (dstart N_Floor_do_step ds) G := by
  obtain ⟨A, j, f, hands, hand, w, rfl, F, hj, L, hh, hcw, hnx, hgl, hpl, q⟩ := h
  show T_Floor_do_step E _ [some (.ref A.p), some (.int hand), none, none, none] G
  have l1 := L.cur
  have l6 := L.at_
  have hp := F.hp
  have hcu := F.cur
  have hat := F.at_
  have ec : (f.cur.map encO)[hand]? = some (.int w) := by
    have := getD_map (xs := f.cur) (e := encO) (d := none) (i := hand) (by omega)
    rw [this]
    show some (encO (f.cu hand)) = _
    rw [hcw]
  have hwj : w < j.length := L.cb w (by rw [← hcw]; exact List.mem_of_getElem? (FSt.cu_get (by omega)))
  have ea : (f.at_.map encN)[w]? = some (.int (f.a w)) := getD_map (e := encN) (d := 0) (by omega)
  obtain ⟨x, _, _, _, eW, _⟩ := hj.work hwj
  obtain ⟨s, es⟩ : ∃ s, nextS j f w = some s := by
    cases e : nextS j f w with
    | none => exact absurd e hnx
    | some s => exact ⟨s, rfl⟩
  have eS : ((stepsOf j w).map encStep)[f.a w]? = some (encStep s) := by
    have : (stepsOf j w)[f.a w]? = some s := es
    rw [List.getElem?_map, this]
    rfl
  have x1 : ixN (f.at_.map encN).length (w : Int) = some w := by rw [List.length_map]; exact ixN_lt (by omega)
  unfold T_Floor_do_step
  walk_at "run"
  have F1 := F.setAt (f.at_.set w (f.a w + 1))
  rw [← map_setD] at F1
  have X1 : LeX A.own G (up G A.at_ (.lst ((f.at_.map encN).set w (encN (f.a w + 1))))) := lex_mem (by simp [FlA.own]) lex_refl
  have e1 : encN (f.a w + 1) = .int ((f.a w : Int) + 1) := rfl
  rw [e1] at F1 X1
  generalize up G A.at_ (.lst ((f.at_.map encN).set w (.int ((f.a w : Int) + 1)))) = G1 at F1 X1
  clear hp hcu hat
  have hp := F1.hp
  have hgn : G1 A.gon = some (.lst (f.gone.map encNN)) := F1.gon
  walk_at "run"
  have F2 := F1.setGon (f.gone ++ [(w, f.a w)])
  rw [List.map_append] at F2
  have X2 : LeX A.own G (up G1 A.gon (.lst (f.gone.map encNN ++ [encNN (w, f.a w)]))) := X1.step (by simp [FlA.own])
  have F2' : FlAt (up G1 A.gon (.lst (f.gone.map encNN ++ [encNN (w, f.a w)]))) A j (tickS f w) := F2
  have e2 : encNN (w, f.a w) = .tup [.int w, .int (f.a w)] := rfl
  rw [e2] at F2' X2
  clear F2
  generalize up G1 A.gon (.lst (f.gone.map encNN ++ [.tup [.int w, .int (f.a w)]])) = G2 at F2' X2
  clear hp hgn
  have hp := F2'.hp
  obtain ⟨z, zs, ez, hz⟩ := encStep_send s
  rw [ez]
  walk_at "run"
  generalize hT : Go _ _ = N1
  have fin : ∀ G3, FlAt G3 A j (sentS j f hand w) → LeX A.own G G3 → N1 [some (.ref A.p), some (.int hand), some (.int w), some (.int (f.a w)), some (.tup (.str z :: zs))] G3 := by
    intro G3 F3 X3
    rw [← hT]
    refine s_go ?_
    have hp := F3.hp
    walk_at "run"
    refine UpC.of ⟨A, j, _, hands, hand, rfl, F3, hj, L.sent hj hwj, hh, fun G4 F4 X4 => ?_⟩
    walk_at "run"
    exact s_rt (q G4 F4 (X3.trans X4))
  clear hT
  rcases hz with ⟨hz, k, rfl, rfl⟩ | ⟨hz, hz2⟩
  · have hk := nextS_send hj es
    rw [hz]
    walk_at "run"
    refine UpC.of ⟨A, j, _, hands, hand, w, k, rfl, F2', hj, L.tick, hh, hwj, hk.2, hpl, fun G3 F3 X3 => ?_⟩
    refine fin G3 ?_ (X2.trans X3)
    unfold sentS
    rw [es]
    exact F3
  · rw [hz]
    walk_at "run"
    refine fin G2 ?_ X2
    have : sentS j f hand w = tickS f w := by
      unfold sentS
      rw [es]
      cases s with
      | doo => rfl
      | wait => rfl
      | send k => cases hz2
    rw [this]
    exact F2'
def C_Floor_take_own : Ct := fun ds G Q _ => ∃ A j f hands hand w, ds = [.ref A.p, .int (hand : Nat)] ∧ FlAt G A j f ∧ FLen j hands f ∧ hand < hands ∧ (f.pl hand).getLast? = some w ∧
  ∀ G', FlAt G' A j (ownS f hand w) → LeX A.own G G' → Q (.int (w : Nat)) G'
theorem len_Floor_take_own (ds G Q E) (h : C_Floor_take_own ds G Q E) : ds.length = 2 := by obtain ⟨_, _, _, _, _, _, rfl, _⟩ := h; rfl
abbrev N_Floor_take_own : List Str := ["self", "hand"]
def T_Floor_take_own : DX → DS := fun E => (dSeq (dAsg (dMt popD (dOp itemD (dFld "Floor" "piles" (dVar 0)) (dVar 1)) dNil) (dgSub (dFld "Floor" "current" (dVar 0)) (dVar 1)))
    (dRet (dOp itemD (dFld "Floor" "current" (dVar 0)) (dVar 1))))
theorem run_Floor_take_own (ds G Q E) (h : C_Floor_take_own ds G Q E) : T_Floor_take_own E { nx := fun _ G' => DrK Q .non G', rt := DrK Q, bk := fun _ _ => False, ct := fun _ _ => False } (dstart N_Floor_take_own ds) G := by
  obtain ⟨A, j, f, hands, hand, w, rfl, F, L, hh, hlw, q⟩ := h
  show T_Floor_take_own E _ [some (.ref A.p), some (.int hand)] G
  have l1 := L.cur
  have l5 := L.piles
  have hp := F.hp
  have hpi := F.pil
  have hpln := F.pln
  obtain ⟨c, hc⟩ : ∃ c, A.pc[hand]? = some c := ⟨A.pc[hand]'(by omega), List.getElem?_eq_getElem _⟩
  have hcD : (A.pc.map D.ref)[hand]? = some (.ref c) := by rw [List.getElem?_map, hc]; rfl
  have hGc : G c = some (.lst ((f.pl hand).map encN)) := F.pc hand c _ hc (FSt.pl_get (by omega))
  have hspl : f.pl hand = (f.pl hand).dropLast ++ [w] := by
    obtain ⟨ys, e⟩ := List.getLast?_eq_some_iff.mp hlw
    rw [e]
    simp
  have hGc' : G c = some (.lst ((f.pl hand).dropLast.map encN ++ [.int w])) := by
    have e := congrArg (List.map encN) hspl
    rw [List.map_append] at e
    rw [e] at hGc
    exact hGc
  unfold T_Floor_take_own
  walk_at "run"
  refine s_pop hGc' ?_
  have F1 := F.setPil hc (f.pl hand).dropLast
  have X1 : LeX A.own G (up G c (.lst ((f.pl hand).dropLast.map encN))) := lex_mem (FlAt.mem_pc hc) lex_refl
  generalize up G c (.lst ((f.pl hand).dropLast.map encN)) = G1 at F1 X1
  clear hp hpi hGc hGc'
  have hp := F1.hp
  have hcu : G1 A.cur = some (.lst (f.cur.map encO)) := F1.cur
  have x5 : ixN (f.cur.map encO).length (hand : Int) = some hand := by rw [List.length_map]; exact ixN_lt (by omega)
  walk_at "run"
  have F2 := F1.setCur (f.cur.set hand (some w))
  rw [← map_setD] at F2
  have X2 : LeX A.own G (up G1 A.cur (.lst ((f.cur.map encO).set hand (encO (some w))))) := X1.step (by simp [FlA.own])
  have e2 : encO (some w) = .int w := rfl
  have hc2 : up G1 A.cur (.lst ((f.cur.map encO).set hand (encO (some w)))) A.cur = some (.lst ((f.cur.map encO).set hand (encO (some w)))) := up_same
  rw [e2] at F2 X2 hc2
  generalize up G1 A.cur (.lst ((f.cur.map encO).set hand (.int w))) = G2 at F2 X2 hc2
  clear hp hcu
  have hp := F2.hp
  have ec : ((f.cur.map encO).set hand (.int w))[hand]? = some (.int w) := List.getElem?_set_self (by rw [List.length_map]; omega)
  walk_at "run"
  exact s_rt (q _ F2 X2)
def C_Floor_rob : Ct := fun ds G Q _ => ∃ A j f hands hand other w, ds = [.ref A.p, .int (hand : Nat), .int (other : Nat)] ∧ FlAt G A j f ∧ FLen j hands f ∧ hand < hands ∧ other < hands ∧ (f.pl other).head? = some w ∧
  ∀ G', FlAt G' A j (robS f hand other w) → LeX A.own G G' → Q (.int (w : Nat)) G'
theorem len_Floor_rob (ds G Q E) (h : C_Floor_rob ds G Q E) : ds.length = 3 := by obtain ⟨_, _, _, _, _, _, _, rfl, _⟩ := h; rfl
abbrev N_Floor_rob : List Str := ["self", "hand", "other"]
def T_Floor_rob : DX → DS := fun E => (dSeq (dAsg (dMt popAtD (dOp itemD (dFld "Floor" "piles" (dVar 0)) (dVar 2)) (dCons (dC (.int 0)) dNil)) (dgSub (dFld "Floor" "current" (dVar 0)) (dVar 1)))
    (dRet (dOp itemD (dFld "Floor" "current" (dVar 0)) (dVar 1))))
theorem run_Floor_rob (ds G Q E) (h : C_Floor_rob ds G Q E) : T_Floor_rob E { nx := fun _ G' => DrK Q .non G', rt := DrK Q, bk := fun _ _ => False, ct := fun _ _ => False } (dstart N_Floor_rob ds) G := by
  obtain ⟨A, j, f, hands, hand, other, w, rfl, F, L, hh, ho, hlw, q⟩ := h
  show T_Floor_rob E _ [some (.ref A.p), some (.int hand), some (.int other)] G
  have l1 := L.cur
  have l5 := L.piles
  have hp := F.hp
  have hpi := F.pil
  have hpln := F.pln
  obtain ⟨c, hc⟩ : ∃ c, A.pc[other]? = some c := ⟨A.pc[other]'(by omega), List.getElem?_eq_getElem _⟩
  have hcD : (A.pc.map D.ref)[other]? = some (.ref c) := by rw [List.getElem?_map, hc]; rfl
  have hGc : G c = some (.lst ((f.pl other).map encN)) := F.pc other c _ hc (FSt.pl_get (by omega))
  have hspl : f.pl other = w :: (f.pl other).tail := by
    cases e : f.pl other with
    | nil => rw [e] at hlw; cases hlw
    | cons y ys => rw [e] at hlw; cases hlw; rfl
  have hGc' : G c = some (.lst (.int w :: (f.pl other).tail.map encN)) := by
    rw [hspl] at hGc
    exact hGc
  unfold T_Floor_rob
  walk_at "run"
  refine s_popAt0 hGc' ?_
  have F1 := F.setPil hc (f.pl other).tail
  have X1 : LeX A.own G (up G c (.lst ((f.pl other).tail.map encN))) := lex_mem (FlAt.mem_pc hc) lex_refl
  generalize up G c (.lst ((f.pl other).tail.map encN)) = G1 at F1 X1
  clear hp hpi hGc hGc'
  have hp := F1.hp
  have hcu : G1 A.cur = some (.lst (f.cur.map encO)) := F1.cur
  have x5 : ixN (f.cur.map encO).length (hand : Int) = some hand := by rw [List.length_map]; exact ixN_lt (by omega)
  walk_at "run"
  have F2 := F1.setCur (f.cur.set hand (some w))
  rw [← map_setD] at F2
  have X2 : LeX A.own G (up G1 A.cur (.lst ((f.cur.map encO).set hand (encO (some w))))) := X1.step (by simp [FlA.own])
  have e2 : encO (some w) = .int w := rfl
  have hc2 : up G1 A.cur (.lst ((f.cur.map encO).set hand (encO (some w)))) A.cur = some (.lst ((f.cur.map encO).set hand (encO (some w)))) := up_same
  rw [e2] at F2 X2 hc2
  generalize up G1 A.cur (.lst ((f.cur.map encO).set hand (.int w))) = G2 at F2 X2 hc2
  clear hp hcu
  have hp := F2.hp
  have ec : ((f.cur.map encO).set hand (.int w))[hand]? = some (.int w) := List.getElem?_set_self (by rw [List.length_map]; omega)
  walk_at "run"
  exact s_rt (q _ F2 X2)

def C_Floor___init__ : Ct := fun ds G Q _ => ∃ (x : Addr) (j : Job) (hands : Nat), ds = [.ref x, encJob j, .int (hands : Nat)] ∧ JobOk j ∧ 1 ≤ hands ∧ hands ≤ 100 ∧ G x = some (.ins "Floor" []) ∧
  ∀ G' A, A.p = x → FlAt G' A j (floor0 j hands) → LeX [x] G G' → (∀ a ∈ A.own, a ≠ x → G a = none) → Q .non G'
theorem len_Floor___init__ (ds G Q E) (h : C_Floor___init__ ds G Q E) : ds.length = 3 := by obtain ⟨_, _, _, rfl, _⟩ := h; rfl
abbrev N_Floor___init__ : List Str := ["self", "job", "hands", "hand"]
def T_Floor___init__ : DX → DS := fun E => (dSeq (dSetF "Floor" "job" (dVar 0) (dVar 1))
    (dSeq (dSetF "Floor" "up" (dVar 0) (dCall C_parents E (dCons (dVar 1) dNil)))
    (dSeq (dSetF "Floor" "current" (dVar 0) (dOp addD (dLst (dCons (dC (.int 0)) dNil)) (dOp mulD (dLst (dCons (dC .non) dNil)) (dOp subD (dVar 2) (dC (.int 1))))))
    (dSeq (dSetF "Floor" "piles" (dVar 0) (dLc (diRange (dCons (dVar 2) dNil)) (bdN 3) [3] dYes (dLst dNil)))
    (dSeq (dSetF "Floor" "at" (dVar 0) (dOp mulD (dLst (dCons (dC (.int 0)) dNil)) (dCB lenD (dCons (dVar 1) dNil))))
    (dSeq (dSetF "Floor" "kids" (dVar 0) (dOp mulD (dLst (dCons (dC (.int 0)) dNil)) (dCB lenD (dCons (dVar 1) dNil))))
    (dSeq (dSetF "Floor" "state" (dVar 0) (dOp addD (dLst (dCons (dC (.str "lives")) dNil)) (dOp mulD (dLst (dCons (dC (.str "unbegun")) dNil)) (dOp subD (dCB lenD (dCons (dVar 1) dNil)) (dC (.int 1))))))
    (dSeq (dSetF "Floor" "aside" (dVar 0) (dOp mulD (dLst (dCons (dC (.bl false)) dNil)) (dCB lenD (dCons (dVar 1) dNil))))
    (dSetF "Floor" "gone" (dVar 0) (dLst dNil))))))))))
theorem rep_flat' {α : Type} {x : α} (n : Nat) : (List.replicate n [x]).flatten = List.replicate n x := List.flatten_replicate_singleton
theorem run_Floor___init__ (ds G Q E) (h : C_Floor___init__ ds G Q E) : T_Floor___init__ E { nx := fun _ G' => DrK Q .non G', rt := DrK Q, bk := fun _ _ => False, ct := fun _ _ => False } (dstart N_Floor___init__ ds) G := by
  obtain ⟨x, j, hands, rfl, hj, h1, h2, hx, q⟩ := h
  have hl1 := hj.l1
  have hl12 := hj.l12
  have ej : encJob j = .tup (j.map encWork) := rfl
  show T_Floor___init__ E _ [some (.ref x), some (.tup (j.map encWork)), some (.int hands), none] G
  unfold T_Floor___init__
  walk_at "run"
  refine UpC.of ⟨j, rfl, hj, fun u hu => ?_⟩
  walk_at "run"
  intro c1 hc1
  walk_at "run"
  intro c2 hc2
  walk_at "run"
  refine s_mulL up_same ⟨⟨by omega, by omega⟩, szL (by simp; omega)⟩ (fun c3 hc3 => ?_)
  rw [rep_flat'] at *
  refine s_addL (by walk_at "look") up_same (szL (by simp; omega)) (fun cu hcu => ?_)
  walk_at "run"
  intro pil hpil
  rw [rangeD0]
  generalize hG4 : up (up (up (up (up (up (up (up G x _) u _) x _) c1 _) c2 _) c3 _) cu _) x _ = G4 at *
  have fx : G4 x = some (.ins "Floor" [("job", .tup (j.map encWork)), ("up", .ref u), ("current", .ref cu)]) := by rw [← hG4]; exact up_same
  have fu : G4 u = some (.lst ((upsOf j).map encO)) := by rw [← hG4]; walk_at "look"
  have fc : G4 cu = some (.lst ((floor0 j hands).cur.map encO)) := by
    rw [← hG4]
    have e : (floor0 j hands).cur.map encO = [D.int 0] ++ List.replicate ((hands : Int) - 1).toNat D.non := by
      show encO (some 0) :: (List.replicate (hands - 1) none).map encO = _
      rw [List.map_replicate, show ((hands : Int) - 1).toNat = hands - 1 by omega]
      rfl
    rw [e]
    walk_at "look"
  have L4 : LeX [x] G G4 := by rw [← hG4]; walk_at "lex"
  have nu : x ≠ u := by walk_at "ne"
  have nc1 : x ≠ cu := by walk_at "ne"
  have nc2 : u ≠ cu := by walk_at "ne"
  have gu : G u = none := up_free hu
  have gc : G cu = none := up_free (up_free (up_free (up_free (up_free (up_free hcu)))))
  clear hG4 hcu hc3 hc2 hc1 hu
  refine comp_inv (fun i G' => ∃ cs, Lls G4 G' pil cs (List.replicate i [])) ⟨[], le_new hpil (.refl _), up_same, by simp, by simp, by simp, by simp, hpil, by simp⟩ (fun _ _ _ _ => trivial) (fun i d G' hd hi hP => ?_) (fun G5 hP => ?_)
  · obtain ⟨cs, hL⟩ := hP
    simp only [List.length_map, List.length_range] at hi
    refine ⟨_, rfl, fun N hN => ?_⟩
    walk_at "run"
    intro c hc
    refine ⟨cs.map .ref, up_nx (gne hL.ha hc) hL.ha, szLt (by rw [List.length_map, hL.len]; simp; omega), hN _ _ (.refl _) ⟨cs ++ [c], ?_⟩⟩
    have := hL.more (ws := []) hc
    rw [List.map_append] at this
    rw [List.replicate_succ']
    exact this
  · obtain ⟨cs, hL⟩ := hP
    simp only [List.length_map, List.length_range] at hL
    have fx5 := hL.le _ _ fx
    have fu5 := hL.le _ _ fu
    have fc5 := hL.le _ _ fc
    have fp5 := hL.ha
    have np1 : x ≠ pil := gne fx hL.fa
    have np2 : u ≠ pil := gne fu hL.fa
    have np3 : cu ≠ pil := gne fc hL.fa
    have nx : x ∉ cs := fun m => gne fx (hL.fc x m) rfl
    have nuu : u ∉ cs := fun m => gne fu (hL.fc u m) rfl
    have ncu : cu ∉ cs := fun m => gne fc (hL.fc cu m) rfl
    have lnone : ∀ a, a ≠ x → G4 a = none → G a = none := fun a h e => by
      cases e2 : G a with
      | none => rfl
      | some o => rw [L4 a o (by simpa using h) e2] at e; cases e
    have L5 : LeX [x] G G5 := fun b o h e => hL.le b o (L4 b o h e)
    have gp : G pil = none := lnone pil (Ne.symm np1) hL.fa
    have gcs : ∀ c ∈ cs, G c = none := fun c hc => lnone c (fun z => nx (z ▸ hc)) (hL.fc c hc)
    have at5 := hL.at_
    have ndc := hL.nd
    have pnc := hL.ac
    have lcs : cs.length = hands := by have := hL.len; simpa using this
    clear hL fx fu fc hpil L4 lnone
    walk_at "run"
    intro e1 he1
    generalize hG5' : up G5 x _ = G5' at *
    have sx5 : G5' x = some (.ins "Floor" [("job", .tup (j.map encWork)), ("up", .ref u), ("current", .ref cu), ("piles", .ref pil)]) := by rw [← hG5']; exact up_same
    have sl5 : LeX [x] G5 G5' := by rw [← hG5']; walk_at "lex"
    clear hG5'
    walk_at "run"
    refine s_mulL up_same ⟨⟨by omega, by simp; omega⟩, szL (by simp; omega)⟩ (fun at_ hat => ?_)
    rw [rep_flat'] at *
    walk_at "run"
    intro e2 he2
    generalize hG6 : up (up (up G5' e1 _) at_ _) x _ = G6 at *
    have sx6 : G6 x = some (.ins "Floor" [("job", .tup (j.map encWork)), ("up", .ref u), ("current", .ref cu), ("piles", .ref pil), ("at", .ref at_)]) := by rw [← hG6]; exact up_same
    have sl6 : LeX [x] G5' G6 := by rw [← hG6]; walk_at "lex"
    have nx6 : x ≠ at_ := by walk_at "ne"
    have sn6 : G6 at_ = some (.lst (List.replicate j.length (D.int 0))) := by
      rw [← hG6]
      rw [show ((j.map encWork).length : Int).toNat = j.length by simp]
      walk_at "look"
    have sf6 : G5' at_ = none := up_free hat
    clear hG6 hat he1
    walk_at "run"
    refine s_mulL up_same ⟨⟨by omega, by simp; omega⟩, szL (by simp; omega)⟩ (fun kid hkid => ?_)
    rw [rep_flat'] at *
    walk_at "run"
    intro e3 he3
    generalize hG7 : up (up (up G6 e2 _) kid _) x _ = G7 at *
    have sx7 : G7 x = some (.ins "Floor" [("job", .tup (j.map encWork)), ("up", .ref u), ("current", .ref cu), ("piles", .ref pil), ("at", .ref at_), ("kids", .ref kid)]) := by rw [← hG7]; exact up_same
    have sl7 : LeX [x] G6 G7 := by rw [← hG7]; walk_at "lex"
    have nx7 : x ≠ kid := by walk_at "ne"
    have sn7 : G7 kid = some (.lst (List.replicate j.length (D.int 0))) := by
      rw [← hG7]
      rw [show ((j.map encWork).length : Int).toNat = j.length by simp]
      walk_at "look"
    have sf7 : G6 kid = none := up_free hkid
    clear hG7 hkid he2
    walk_at "run"
    intro e4 he4
    walk_at "run"
    refine s_mulL up_same ⟨⟨by simp; omega, by simp; omega⟩, szL (by simp; omega)⟩ (fun e5 he5 => ?_)
    rw [rep_flat'] at *
    refine s_addL (by walk_at "look") up_same (szL (by simp; omega)) (fun sta hsta => ?_)
    walk_at "run"
    intro e6 he6
    generalize hG8 : up (up (up (up (up G7 e3 _) e4 _) e5 _) sta _) x _ = G8 at *
    have sx8 : G8 x = some (.ins "Floor" [("job", .tup (j.map encWork)), ("up", .ref u), ("current", .ref cu), ("piles", .ref pil), ("at", .ref at_), ("kids", .ref kid), ("state", .ref sta)]) := by rw [← hG8]; exact up_same
    have sl8 : LeX [x] G7 G8 := by rw [← hG8]; walk_at "lex"
    have nx8 : x ≠ sta := by walk_at "ne"
    have sn8 : G8 sta = some (.lst ([D.str "lives"] ++ List.replicate (j.length - 1) (D.str "unbegun"))) := by
      rw [← hG8]
      rw [show (((j.map encWork).length : Int) - 1).toNat = j.length - 1 by simp]
      walk_at "look"
    have sf8 : G7 sta = none := up_free (up_free (up_free hsta))
    clear hG8 hsta he5 he4 he3
    walk_at "run"
    refine s_mulL up_same ⟨⟨by omega, by simp; omega⟩, szL (by simp; omega)⟩ (fun asd hasd => ?_)
    rw [rep_flat'] at *
    walk_at "run"
    intro gon hgon
    generalize hG9 : up (up (up G8 e6 _) asd _) x _ = G9 at *
    have sx9 : G9 x = some (.ins "Floor" [("job", .tup (j.map encWork)), ("up", .ref u), ("current", .ref cu), ("piles", .ref pil), ("at", .ref at_), ("kids", .ref kid), ("state", .ref sta), ("aside", .ref asd)]) := by rw [← hG9]; exact up_same
    have sl9 : LeX [x] G8 G9 := by rw [← hG9]; walk_at "lex"
    have nx9 : x ≠ asd := by walk_at "ne"
    have sn9 : G9 asd = some (.lst (List.replicate j.length (D.bl false))) := by
      rw [← hG9]
      rw [show ((j.map encWork).length : Int).toNat = j.length by simp]
      walk_at "look"
    have sf9 : G8 asd = none := up_free hasd
    clear hG9 hasd he6
    walk_at "run"
    have nx10 : x ≠ gon := gne sx9 hgon
    -- all at the end
    have k9 : ∀ a o, a ≠ x → G9 a = some o → up (up G9 gon (.lst [])) x (.ins "Floor" [("job", .tup (j.map encWork)), ("up", .ref u), ("current", .ref cu), ("piles", .ref pil), ("at", .ref at_), ("kids", .ref kid), ("state", .ref sta), ("aside", .ref asd), ("gone", .ref gon)]) a = some o := fun a o h e => up_nx h (up_nx (gne e hgon) e)
    have k8 : ∀ a o, a ≠ x → G8 a = some o → G9 a = some o := fun a o h e => sl9 a o (by simpa using h) e
    have k7 : ∀ a o, a ≠ x → G7 a = some o → G8 a = some o := fun a o h e => sl8 a o (by simpa using h) e
    have k6 : ∀ a o, a ≠ x → G6 a = some o → G7 a = some o := fun a o h e => sl7 a o (by simpa using h) e
    have k5 : ∀ a o, a ≠ x → G5 a = some o → G6 a = some o := fun a o h e => sl6 a o (by simpa using h) (sl5 a o (by simpa using h) e)
    have k5' : ∀ a o, a ≠ x → G5 a = some o → G5' a = some o := fun a o h e => sl5 a o (by simpa using h) e
    have pcs : ∀ c ∈ cs, c ≠ x ∧ G5 c = some (.lst []) := fun c hc => by
      obtain ⟨i, hi, e⟩ := List.mem_iff_getElem.mp hc
      exact ⟨fun z => nx (z ▸ hc), at5 i c [] (by rw [List.getElem?_eq_getElem hi, e]) (by rw [List.getElem?_replicate, if_pos (by omega)])⟩
    have lG : ∀ a, a ≠ x → ∀ o, G a = some o → G9 a = some o := fun a h o e => k8 a o h (k7 a o h (k6 a o h (k5 a o h (L5 a o (by simpa using h) e))))
    have fr : ∀ (a : Addr) (Gk : DG), a ≠ x → (∀ o, G a = some o → Gk a = some o) → Gk a = none → G a = none := fun a Gk h hk e => by
      cases e2 : G a with
      | none => rfl
      | some o => rw [hk o e2] at e; cases e
    have gat : G at_ = none := fr at_ G5' (Ne.symm nx6) (fun o e => k5' _ _ (Ne.symm nx6) (L5 _ _ (by simpa using Ne.symm nx6) e)) sf6
    have gki : G kid = none := fr kid G6 (Ne.symm nx7) (fun o e => k5 _ _ (Ne.symm nx7) (L5 _ _ (by simpa using Ne.symm nx7) e)) sf7
    have gst : G sta = none := fr sta G7 (Ne.symm nx8) (fun o e => k6 _ _ (Ne.symm nx8) (k5 _ _ (Ne.symm nx8) (L5 _ _ (by simpa using Ne.symm nx8) e))) sf8
    have gas : G asd = none := fr asd G8 (Ne.symm nx9) (fun o e => k7 _ _ (Ne.symm nx9) (k6 _ _ (Ne.symm nx9) (k5 _ _ (Ne.symm nx9) (L5 _ _ (by simpa using Ne.symm nx9) e)))) sf9
    have ggo : G gon = none := fr gon G9 (Ne.symm nx10) (fun o e => lG _ (Ne.symm nx10) o e) hgon
    have a5 : ∀ a, (a = u ∨ a = cu ∨ a = pil ∨ a ∈ cs) → a ≠ x ∧ ∃ o, G5 a = some o := fun a h => by
      rcases h with rfl | rfl | rfl | h
      · exact ⟨Ne.symm nu, _, fu5⟩
      · exact ⟨Ne.symm nc1, _, fc5⟩
      · exact ⟨Ne.symm np1, _, fp5⟩
      · exact ⟨(pcs a h).1, _, (pcs a h).2⟩
    have d6 : ∀ a, (a = u ∨ a = cu ∨ a = pil ∨ a ∈ cs) → a ≠ at_ := fun a h => let ⟨h1, o, h2⟩ := a5 a h; gne (k5' a o h1 h2) sf6
    have a6 : ∀ a, (a = u ∨ a = cu ∨ a = pil ∨ a ∈ cs ∨ a = at_) → a ≠ x ∧ ∃ o, G6 a = some o := fun a h => by
      rcases h with h | h | h | h | rfl
      · have := a5 a (.inl h); exact ⟨this.1, let ⟨o, e⟩ := this.2; ⟨o, k5 a o this.1 e⟩⟩
      · have := a5 a (.inr (.inl h)); exact ⟨this.1, let ⟨o, e⟩ := this.2; ⟨o, k5 a o this.1 e⟩⟩
      · have := a5 a (.inr (.inr (.inl h))); exact ⟨this.1, let ⟨o, e⟩ := this.2; ⟨o, k5 a o this.1 e⟩⟩
      · have := a5 a (.inr (.inr (.inr h))); exact ⟨this.1, let ⟨o, e⟩ := this.2; ⟨o, k5 a o this.1 e⟩⟩
      · exact ⟨Ne.symm nx6, _, sn6⟩
    have d7 : ∀ a, (a = u ∨ a = cu ∨ a = pil ∨ a ∈ cs ∨ a = at_) → a ≠ kid := fun a h => let ⟨_, o, h2⟩ := a6 a h; gne h2 sf7
    have a7 : ∀ a, ((a = u ∨ a = cu ∨ a = pil ∨ a ∈ cs ∨ a = at_) ∨ a = kid) → a ≠ x ∧ ∃ o, G7 a = some o := fun a h => by
      rcases h with h | rfl
      · have := a6 a h; exact ⟨this.1, let ⟨o, e⟩ := this.2; ⟨o, k6 a o this.1 e⟩⟩
      · exact ⟨Ne.symm nx7, _, sn7⟩
    have d8 : ∀ a, ((a = u ∨ a = cu ∨ a = pil ∨ a ∈ cs ∨ a = at_) ∨ a = kid) → a ≠ sta := fun a h => let ⟨_, o, h2⟩ := a7 a h; gne h2 sf8
    have a8 : ∀ a, (((a = u ∨ a = cu ∨ a = pil ∨ a ∈ cs ∨ a = at_) ∨ a = kid) ∨ a = sta) → a ≠ x ∧ ∃ o, G8 a = some o := fun a h => by
      rcases h with h | rfl
      · have := a7 a h; exact ⟨this.1, let ⟨o, e⟩ := this.2; ⟨o, k7 a o this.1 e⟩⟩
      · exact ⟨Ne.symm nx8, _, sn8⟩
    have d9 : ∀ a, (((a = u ∨ a = cu ∨ a = pil ∨ a ∈ cs ∨ a = at_) ∨ a = kid) ∨ a = sta) → a ≠ asd := fun a h => let ⟨_, o, h2⟩ := a8 a h; gne h2 sf9
    have a9 : ∀ a, ((((a = u ∨ a = cu ∨ a = pil ∨ a ∈ cs ∨ a = at_) ∨ a = kid) ∨ a = sta) ∨ a = asd) → a ≠ x ∧ ∃ o, G9 a = some o := fun a h => by
      rcases h with h | rfl
      · have := a8 a h; exact ⟨this.1, let ⟨o, e⟩ := this.2; ⟨o, k8 a o this.1 e⟩⟩
      · exact ⟨Ne.symm nx9, _, sn9⟩
    have d10 : ∀ a, ((((a = u ∨ a = cu ∨ a = pil ∨ a ∈ cs ∨ a = at_) ∨ a = kid) ∨ a = sta) ∨ a = asd) → a ≠ gon := fun a h => let ⟨_, o, h2⟩ := a9 a h; gne h2 hgon
    refine s_rt (q _ ⟨x, u, cu, pil, at_, kid, sta, asd, gon, cs⟩ rfl ⟨up_same, k9 _ _ (Ne.symm nu) (k8 _ _ (Ne.symm nu) (k7 _ _ (Ne.symm nu) (k6 _ _ (Ne.symm nu) (k5 _ _ (Ne.symm nu) fu5)))), k9 _ _ (Ne.symm nc1) (k8 _ _ (Ne.symm nc1) (k7 _ _ (Ne.symm nc1) (k6 _ _ (Ne.symm nc1) (k5 _ _ (Ne.symm nc1) fc5)))), k9 _ _ (Ne.symm np1) (k8 _ _ (Ne.symm np1) (k7 _ _ (Ne.symm np1) (k6 _ _ (Ne.symm np1) (k5 _ _ (Ne.symm np1) fp5)))), ?_, fun i c l e1 e2 => ?_, ?_, ?_, ?_, ?_, up_nx (Ne.symm nx10) up_same, ?_⟩ ?_ ?_)
    · show cs.length = (List.replicate hands []).length
      simp [lcs]
    · have hc := pcs c (List.mem_of_getElem? e1)
      have e2' : (List.replicate hands ([] : List Nat))[i]? = some l := e2
      rw [List.getElem?_replicate] at e2'
      split at e2'
      · cases e2'
        exact k9 _ _ hc.1 (k8 _ _ hc.1 (k7 _ _ hc.1 (k6 _ _ hc.1 (k5 _ _ hc.1 hc.2))))
      · cases e2'
    · have e : (floor0 j hands).at_.map encN = List.replicate j.length (D.int 0) := by show (List.replicate j.length 0).map encN = _; rw [List.map_replicate]; rfl
      rw [e]
      exact k9 _ _ (Ne.symm nx6) (k8 _ _ (Ne.symm nx6) (k7 _ _ (Ne.symm nx6) (k6 _ _ (Ne.symm nx6) sn6)))
    · have e : (floor0 j hands).kids.map D.int = List.replicate j.length (D.int 0) := by show (List.replicate j.length 0).map D.int = _; rw [List.map_replicate]
      rw [e]
      exact k9 _ _ (Ne.symm nx7) (k8 _ _ (Ne.symm nx7) (k7 _ _ (Ne.symm nx7) sn7))
    · have e : (floor0 j hands).st.map encWS = [D.str "lives"] ++ List.replicate (j.length - 1) (D.str "unbegun") := by show encWS .liv :: (List.replicate (j.length - 1) WS.unb).map encWS = _; rw [List.map_replicate]; rfl
      rw [e]
      exact k9 _ _ (Ne.symm nx8) (k8 _ _ (Ne.symm nx8) sn8)
    · have e : (floor0 j hands).asd.map D.bl = List.replicate j.length (D.bl false) := by show (List.replicate j.length false).map D.bl = _; rw [List.map_replicate]
      rw [e]
      exact k9 _ _ (Ne.symm nx9) sn9
    · show (x :: u :: cu :: pil :: at_ :: kid :: sta :: asd :: gon :: cs).Nodup
      simp only [List.nodup_cons, List.mem_cons, not_or]
      refine ⟨⟨nu, nc1, np1, nx6, nx7, nx8, nx9, nx10, nx⟩, ⟨nc2, np2, d6 _ (by simp), d7 _ (by simp), d8 _ (by simp), d9 _ (by simp), d10 _ (by simp), nuu⟩, ⟨np3, d6 _ (by simp), d7 _ (by simp), d8 _ (by simp), d9 _ (by simp), d10 _ (by simp), ncu⟩, ⟨d6 _ (by simp), d7 _ (by simp), d8 _ (by simp), d9 _ (by simp), d10 _ (by simp), pnc⟩, ⟨d7 _ (by simp), d8 _ (by simp), d9 _ (by simp), d10 _ (by simp), fun z => d6 _ (.inr (.inr (.inr z))) rfl⟩, ⟨d8 _ (by simp), d9 _ (by simp), d10 _ (by simp), fun z => d7 _ (.inr (.inr (.inr (.inl z)))) rfl⟩, ⟨d9 _ (by simp), d10 _ (by simp), fun z => d8 _ (.inl (.inr (.inr (.inr (.inl z))))) rfl⟩, ⟨d10 _ (by simp), fun z => d9 _ (.inl (.inl (.inr (.inr (.inr (.inl z)))))) rfl⟩, fun z => d10 _ (.inl (.inl (.inl (.inr (.inr (.inr (.inl z))))))) rfl, ndc⟩
    · exact fun b o h e => k9 b o (by simpa using h) (lG b (by simpa using h) o e)
    · intro a ha hax
      have ha' : a ∈ x :: u :: cu :: pil :: at_ :: kid :: sta :: asd :: gon :: cs := ha
      simp only [List.mem_cons] at ha'
      rcases ha' with rfl | rfl | rfl | rfl | rfl | rfl | rfl | rfl | rfl | h
      · exact absurd rfl hax
      · exact gu
      · exact gc
      · exact gp
      · exact gat
      · exact gki
      · exact gst
      · exact gas
      · exact ggo
      · exact gcs a h

/-! ### what stands at every moment -/
theorem getD_set {α : Type} {l : List α} {i k : Nat} {v d : α} (h : i < l.length) : (l.set i v).getD k d = if k = i then v else l.getD k d := by
  rw [List.getD_eq_getElem?_getD, List.getD_eq_getElem?_getD]
  by_cases e : k = i
  · subst e
    rw [List.getElem?_set_self h, if_pos rfl]
    rfl
  · rw [List.getElem?_set_ne (Ne.symm e), if_neg e]
def sentOf (j : Job) (f : FSt) (w : Nat) : List Nat := sends ((stepsOf j w).take (f.a w))
theorem sent_kids {j : Job} {f : FSt} {w k : Nat} (h : k ∈ sentOf j f w) : k ∈ kidsOf j w := by
  rw [sentOf, mem_sends] at h
  exact mem_sends.mpr (List.mem_of_mem_take h)
theorem sent_all {j : Job} {f : FSt} {w k : Nat} (ha : f.a w = (stepsOf j w).length) : k ∈ kidsOf j w → k ∈ sentOf j f w := by
  intro h
  unfold sentOf
  rw [ha, List.take_length]
  exact h
def SetS (j : Job) (f : FSt) (w : Nat) : Prop := nextS j f w ≠ none ∧ (heldS j f w = true → f.kd w = 0)
def livC (j : Job) (s : Nat → WS) (w : Nat) : Nat := ((kidsOf j w).filter fun k => decide (s k = .liv)).length
structure FB (j : Job) (hands : Nat) (f : FSt) : Prop where
  len : FLen j hands f
  atl : ∀ w, f.a w ≤ (stepsOf j w).length
  bg : ∀ w k, k ∈ kidsOf j w → (f.s k = .unb ↔ k ∉ sentOf j f w)
  b0 : f.s 0 ≠ .unb
  u0 : ∀ k, f.s k = .unb → f.a k = 0
  o1 : ∀ w, f.s w = .ovr → f.a w = (stepsOf j w).length ∧ ∀ k ∈ kidsOf j w, f.s k = .ovr
  kd : ∀ w, w < j.length → f.kd w = (livC j f.s w : Nat)
  as : ∀ w, f.as w = true → f.s w = .liv ∧ heldS j f w = true ∧ 0 < f.kd w
  cl : ∀ h w, f.cu h = some w → f.s w = .liv ∧ f.as w = false
  pl : ∀ h w, w ∈ f.pl h → f.s w = .liv ∧ f.as w = false ∧ heldS j f w = false
  u1 : ∀ h h' w, f.cu h = some w → f.cu h' = some w → h = h'
  u2 : ∀ h h' w, f.cu h = some w → w ∉ f.pl h'
  u3 : ∀ h h' w, w ∈ f.pl h → w ∈ f.pl h' → h = h'
  u4 : ∀ h, (f.pl h).Nodup
  lv : ∀ w, f.s w = .liv → (∃ h, f.cu h = some w) ∨ (∃ h, w ∈ f.pl h) ∨ f.as w = true
  gl : f.gone.length = f.at_.sum
structure FOk (j : Job) (hands : Nat) (f : FSt) : Prop where
  b : FB j hands f
  st : ∀ h w, f.cu h = some w → SetS j f w
section
variable {j : Job} {hands : Nat} {f : FSt}
theorem FB.inr (h : FB j hands f) {w : Nat} (e : f.s w ≠ .unb) : w < j.length := by
  by_cases hw : w < j.length
  · exact hw
  · exfalso
    apply e
    unfold FSt.s
    rw [List.getD_eq_getElem?_getD, List.getElem?_eq_none (by rw [h.len.st]; omega)]
    rfl
theorem FB.hin (h : FB j hands f) {x w : Nat} (e : f.cu x = some w) : x < hands := by
  by_cases hx : x < hands
  · exact hx
  · unfold FSt.cu at e
    rw [List.getD_eq_getElem?_getD, List.getElem?_eq_none (by rw [h.len.cur]; omega)] at e
    cases e
theorem FB.pin (h : FB j hands f) {x w : Nat} (e : w ∈ f.pl x) : x < hands := by
  by_cases hx : x < hands
  · exact hx
  · unfold FSt.pl at e
    rw [List.getD_eq_getElem?_getD, List.getElem?_eq_none (by rw [h.len.piles]; omega)] at e
    simp at e
theorem FB.par (h : FB j hands f) {w k : Nat} (hk : k ∈ kidsOf j w) (e : f.s k = .liv) : f.s w = .liv := by
  cases es : f.s w with
  | liv => rfl
  | ovr =>
    have := (h.o1 w es).2 k hk
    rw [e] at this
    cases this
  | unb =>
    have h0 := h.u0 w es
    have : f.s k = .unb := (h.bg w k hk).mpr (by unfold sentOf; rw [h0]; simp [sends])
    rw [e] at this
    cases this
theorem FB.gl96 (hj : JobOk j) (h : FB j hands f) : f.gone.length ≤ 96 := by
  rw [h.gl]
  have : (f.at_.map id).sum ≤ f.at_.length * 8 := sum_le fun x hx => by
    obtain ⟨i, hi, e⟩ := List.mem_iff_getElem.mp hx
    have h1 := h.atl i
    have h2 : f.a i = x := by
      unfold FSt.a
      rw [List.getD_eq_getElem?_getD, List.getElem?_eq_getElem hi, e]
      rfl
    have h3 : (stepsOf j i).length ≤ 8 := by
      by_cases hi2 : i < j.length
      · obtain ⟨_, _, _, _, _, _, _, _, h8⟩ := hj.work hi2
        exact h8
      · unfold stepsOf
        rw [List.getElem?_eq_none (by omega)]
        simp
    show x ≤ 8
    omega
  rw [List.map_id] at this
  have := h.len.at_
  have := hj.l12
  omega
theorem FB.pl12 (hj : JobOk j) (h : FB j hands f) (x : Nat) : (f.pl x).length ≤ 12 := by
  have := nodup_len j.length (h.u4 x) fun k hk => h.inr (by rw [(h.pl x k hk).1]; simp)
  have := hj.l12
  omega
theorem livC_0 {s : Nat → WS} {w : Nat} : livC j s w = 0 ↔ ∀ k ∈ kidsOf j w, s k ≠ .liv := by
  unfold livC
  rw [List.length_eq_zero_iff, List.filter_eq_nil_iff]
  simp
theorem livC_congr {s s' : Nat → WS} {w : Nat} (h : ∀ k ∈ kidsOf j w, s k = s' k) : livC j s w = livC j s' w := by
  unfold livC
  rw [List.filter_congr fun k hk => by rw [h k hk]]
/-- one kid changes -/
theorem livC_one (hj : JobOk j) {s s' : Nat → WS} {w k : Nat} (hk : k ∈ kidsOf j w) (h : ∀ x, x ≠ k → s x = s' x) : livC j s' w + (if s k = .liv then 1 else 0) = livC j s w + (if s' k = .liv then 1 else 0) := by
  unfold livC
  have nd := kids_nodup hj w
  generalize kidsOf j w = l at hk nd
  induction l with
  | nil => simp at hk
  | cons y ys ih =>
    rw [List.nodup_cons] at nd
    by_cases e : y = k
    · subst e
      have e2 : ys.filter (fun x => decide (s' x = .liv)) = ys.filter fun x => decide (s x = .liv) := List.filter_congr fun x hx => by rw [h x fun z => nd.1 (z ▸ hx)]
      rw [List.filter_cons, List.filter_cons, e2]
      by_cases a : s y = .liv <;> by_cases b : s' y = .liv <;> simp [a, b]
    · have hk' : k ∈ ys := by
        rcases List.mem_cons.mp hk with z | z
        · exact absurd z.symm e
        · exact z
      have := ih hk' nd.2
      rw [List.filter_cons, List.filter_cons, h y e]
      by_cases a : s' y = .liv <;> simp [a] <;> omega
end
theorem floor0_ok {j : Job} (hj : JobOk j) {hands : Nat} (hh : 1 ≤ hands) : FOk j hands (floor0 j hands) := by
  have hl := hj.l1
  have ea : ∀ w, (floor0 j hands).a w = 0 := fun w => by
    show (List.replicate j.length 0).getD w 0 = 0
    rw [List.getD_eq_getElem?_getD, List.getElem?_replicate]
    split <;> rfl
  have es : ∀ w, (floor0 j hands).s w = if w = 0 then .liv else .unb := fun w => by
    show (WS.liv :: List.replicate (j.length - 1) WS.unb).getD w .unb = _
    rw [List.getD_eq_getElem?_getD]
    cases w with
    | zero => rfl
    | succ w =>
      rw [List.getElem?_cons_succ, List.getElem?_replicate]
      split <;> simp
  have ek : ∀ w, (floor0 j hands).kd w = 0 := fun w => by
    show (List.replicate j.length (0 : Int)).getD w 0 = 0
    rw [List.getD_eq_getElem?_getD, List.getElem?_replicate]
    split <;> rfl
  have eas : ∀ w, (floor0 j hands).as w = false := fun w => by
    show (List.replicate j.length false).getD w false = false
    rw [List.getD_eq_getElem?_getD, List.getElem?_replicate]
    split <;> rfl
  have ec : ∀ h, (floor0 j hands).cu h = if h = 0 then some 0 else none := fun h => by
    show ((some 0) :: List.replicate (hands - 1) none).getD h none = _
    rw [List.getD_eq_getElem?_getD]
    cases h with
    | zero => rfl
    | succ h =>
      rw [List.getElem?_cons_succ, List.getElem?_replicate]
      split <;> simp
  have ep : ∀ h, (floor0 j hands).pl h = [] := fun h => by
    show (List.replicate hands ([] : List Nat)).getD h [] = []
    rw [List.getD_eq_getElem?_getD, List.getElem?_replicate]
    split <;> rfl
  have hc0 : ∀ {h w}, (floor0 j hands).cu h = some w → h = 0 ∧ w = 0 := fun {h w} e => by
    rw [ec] at e
    split at e
    · rename_i z
      exact ⟨z, (Option.some.inj e).symm⟩
    · cases e
  refine ⟨⟨⟨?_, ?_, ?_, ?_, ?_, ?_, ?_, ?_⟩, fun w => by rw [ea]; omega, fun w k hk => ?_, by rw [es]; simp, fun k _ => ea k, fun w e => ?_, fun w hw => ?_, fun w e => (by rw [eas] at e; cases e), fun h w e => ?_, fun h w e => (by rw [ep] at e; cases e), fun h h' w e1 e2 => ?_, fun h h' w e1 e2 => (by rw [ep] at e2; cases e2), fun h h' w e1 => (by rw [ep] at e1; cases e1), fun h => by rw [ep]; simp, fun w e => ?_, ?_⟩, fun h w e => ?_⟩
  · show (some 0 :: List.replicate (hands - 1) none).length = hands
    simp
    omega
  · show (List.replicate hands ([] : List Nat)).length = hands
    simp
  · show (List.replicate j.length 0).length = j.length
    simp
  · show (List.replicate j.length (0 : Int)).length = j.length
    simp
  · show (WS.liv :: List.replicate (j.length - 1) WS.unb).length = j.length
    simp
    omega
  · show (List.replicate j.length false).length = j.length
    simp
  · intro w hw
    have hw' : some w ∈ some 0 :: List.replicate (hands - 1) none := hw
    simp at hw'
    omega
  · intro l hl2 w hw
    have hl' : l ∈ List.replicate hands ([] : List Nat) := hl2
    rw [List.eq_of_mem_replicate hl'] at hw
    cases hw
  · have := (kids_lt hj hk).1
    rw [es, if_neg (by omega)]
    simp [sentOf, ea, sends]
  · rw [es] at e
    split at e <;> cases e
  · rw [ek]
    have : livC j (floor0 j hands).s w = 0 := livC_0.mpr fun k hk => by
      have := (kids_lt hj hk).1
      rw [es, if_neg (by omega)]
      simp
    rw [this]
    rfl
  · obtain ⟨_, rfl⟩ := hc0 e
    exact ⟨by rw [es]; rfl, eas 0⟩
  · rw [(hc0 e1).1, (hc0 e2).1]
  · rw [es] at e
    split at e
    · rename_i z
      exact .inl ⟨0, by rw [ec, z]; rfl⟩
    · cases e
  · show 0 = (List.replicate j.length 0).sum
    simp
  · obtain ⟨_, rfl⟩ := hc0 e
    obtain ⟨_, _, _, _, _, _, _, h1, _⟩ := hj.work (w := 0) (by omega)
    refine ⟨fun z => ?_, fun _ => ek 0⟩
    unfold nextS at z
    rw [ea] at z
    have := List.getElem?_eq_none_iff.mp z
    omega

theorem sum_set : ∀ {l : List Nat} {i : Nat}, i < l.length → (l.set i (l.getD i 0 + 1)).sum = l.sum + 1
  | [], i, h => by simp at h
  | x :: xs, 0, _ => by simp; omega
  | x :: xs, i + 1, h => by
    have := sum_set (l := xs) (i := i) (by simpa using h)
    simp only [List.set_cons_succ, List.sum_cons, List.getD_cons_succ]
    omega
section
variable {j : Job} {hands : Nat} {f : FSt}
theorem tick_a (L : FLen j hands f) {w : Nat} (hw : w < j.length) (x : Nat) : (tickS f w).a x = if x = w then f.a w + 1 else f.a x := getD_set (by rw [L.at_]; exact hw)
theorem next_ne {g : FSt} {x : Nat} (h : g.a x = f.a x) : nextS j g x = nextS j f x := by unfold nextS; rw [h]
theorem held_ne {g : FSt} {x : Nat} (h : g.a x = f.a x) : heldS j g x = heldS j f x := by unfold heldS; rw [next_ne h]
theorem sent_ne {g : FSt} {x : Nat} (h : g.a x = f.a x) : sentOf j g x = sentOf j f x := by unfold sentOf; rw [h]
theorem next_lt {x : Nat} {s : Stp} (h : nextS j f x = some s) : f.a x < (stepsOf j x).length := (List.getElem?_eq_some_iff.mp h).1
theorem sent_tick (L : FLen j hands f) {w : Nat} (hw : w < j.length) {s : Stp} (h : nextS j f w = some s) : sentOf j (tickS f w) w = sentOf j f w ++ (sendOf s).toList := by
  unfold sentOf
  rw [tick_a L hw, if_pos rfl, List.take_add_one]
  have : (stepsOf j w)[f.a w]? = some s := h
  rw [this, sends_append]
  cases s <;> simp [sends, sendOf]
/-- a step that is no send -/
theorem FB.doo (h : FB j hands f) (hj : JobOk j) {hand w : Nat} {s : Stp} (hc : f.cu hand = some w) (hn : nextS j f w = some s) (hs : sendOf s = none) : FB j hands (tickS f w) := by
  obtain ⟨hl, has⟩ := h.cl hand w hc
  have hw : w < j.length := h.inr (by rw [hl]; simp)
  have L := h.len
  have ea := tick_a L hw
  have en : ∀ x, x ≠ w → (tickS f w).a x = f.a x := fun x hx => by rw [ea, if_neg hx]
  have es : ∀ x, sentOf j (tickS f w) x = sentOf j f x := fun x => by
    by_cases hx : x = w
    · subst hx
      rw [sent_tick L hw hn, hs]
      simp
    · exact sent_ne (en x hx)
  refine ⟨L.tick, fun x => ?_, fun x k hk => ?_, h.b0, fun k hk => ?_, fun x hx => ?_, h.kd, fun x hx => ?_, h.cl, fun y x hx => ?_, h.u1, h.u2, h.u3, h.u4, h.lv, ?_⟩
  · by_cases hx : x = w
    · subst hx
      rw [ea, if_pos rfl]
      exact next_lt hn
    · rw [en x hx]
      exact h.atl x
  · rw [es]
    exact h.bg x k hk
  · have hk' : f.s k = .unb := hk
    have : k ≠ w := fun z => by rw [z, hl] at hk'; cases hk'
    rw [en k this]
    exact h.u0 k hk'
  · have hx' : f.s x = .ovr := hx
    have : x ≠ w := fun z => by rw [z, hl] at hx'; cases hx'
    rw [en x this]
    exact h.o1 x hx'
  · have hx' : f.as x = true := hx
    have : x ≠ w := fun z => by rw [z, has] at hx'; cases hx'
    rw [held_ne (en x this)]
    exact h.as x hx'
  · have hx' : x ∈ f.pl y := hx
    have : x ≠ w := fun z => h.u2 hand y w hc (z ▸ hx')
    rw [held_ne (en x this)]
    exact h.pl y x hx'
  · show (f.gone ++ [(w, f.a w)]).length = (f.at_.set w (f.at_.getD w 0 + 1)).sum
    rw [sum_set (by rw [L.at_]; exact hw), List.length_append, h.gl]
    rfl
theorem kid_new (hj : JobOk j) (h : FB j hands f) {w k : Nat} (hn : nextS j f w = some (.send k)) : k ∈ kidsOf j w ∧ f.s k = .unb := by
  have hm : Stp.send k ∈ stepsOf j w := List.mem_of_getElem? hn
  have hk : k ∈ kidsOf j w := mem_sends.mpr hm
  refine ⟨hk, (h.bg w k hk).mpr fun z => ?_⟩
  have nd := kids_nodup hj w
  have hlt := next_lt hn
  have e : stepsOf j w = (stepsOf j w).take (f.a w) ++ .send k :: (stepsOf j w).drop (f.a w + 1) := by
    have : (stepsOf j w)[f.a w]? = some (.send k) := hn
    have e2 := List.getElem?_eq_some_iff.mp this
    rw [← e2.2, List.getElem_cons_drop, List.take_append_drop]
  unfold kidsOf at nd
  rw [e, sends_append, List.nodup_append] at nd
  exact nd.2.2 k z k (by simp [sends, sendOf]) rfl
theorem begin_view (L : FLen j hands f) {hand w k : Nat} (hh : hand < hands) (hw : w < j.length) (hk : k < j.length) (hwk : w ≠ k) :
    (∀ x, (beginS j f hand w k).s x = if x = k then .liv else f.s x) ∧ (∀ x, (beginS j f hand w k).kd x = if x = w then f.kd w + 1 else f.kd x) ∧ (∀ x, (beginS j f hand w k).cu x = if x = hand then some k else f.cu x) ∧
    (∀ x, (beginS j f hand w k).a x = f.a x) ∧ (∀ x, (beginS j f hand w k).as x = if x = w ∧ heldS j f w = true then true else f.as x) ∧ (∀ x, (beginS j f hand w k).pl x = if x = hand ∧ heldS j f w = false then f.pl hand ++ [w] else f.pl x) ∧ (beginS j f hand w k).gone = f.gone ∧ (beginS j f hand w k).at_ = f.at_ := by
  unfold beginS
  split
  · rename_i hb
    refine ⟨fun x => getD_set (by rw [L.st]; exact hk), fun x => getD_set (by rw [L.kids]; exact hw), fun x => getD_set (by rw [L.cur]; exact hh), fun x => rfl, fun x => ?_, fun x => ?_, rfl, rfl⟩
    · show (f.asd.set w true).getD x false = _
      rw [getD_set (by rw [L.asd]; exact hw)]
      by_cases hx : x = w
      · rw [if_pos hx, if_pos ⟨hx, hb⟩]
      · rw [if_neg hx, if_neg fun z => hx z.1]
        rfl
    · rw [if_neg fun z => by rw [hb] at z; cases z.2]
      rfl
  · rename_i hb
    have hb' : heldS j f w = false := by simpa using hb
    refine ⟨fun x => getD_set (by rw [L.st]; exact hk), fun x => getD_set (by rw [L.kids]; exact hw), fun x => getD_set (by rw [L.cur]; exact hh), fun x => rfl, fun x => ?_, fun x => ?_, rfl, rfl⟩
    · rw [if_neg fun z => hb z.2]
      rfl
    · show (f.piles.set hand (f.pl hand ++ [w])).getD x [] = _
      rw [getD_set (by rw [L.piles]; exact hh)]
      by_cases hx : x = hand
      · rw [if_pos hx, if_pos ⟨hx, hb'⟩]
      · rw [if_neg hx, if_neg fun z => hx z.1]
        rfl
/-- a send -/
theorem FOk.send (hj : JobOk j) (ok : FOk j hands f) {hand w k : Nat} (hc : f.cu hand = some w) (hn : nextS j f w = some (.send k)) : FOk j hands (beginS j (tickS f w) hand w k) := by
  have h := ok.b
  obtain ⟨hl, has⟩ := h.cl hand w hc
  have hw : w < j.length := h.inr (by rw [hl]; simp)
  have L := h.len
  obtain ⟨hkk, hku⟩ := kid_new hj h hn
  obtain ⟨hwk, hkl⟩ := kids_lt hj hkk
  have hh := h.hin hc
  obtain ⟨vs, vk, vc, va0, vas, vp, vg, vat⟩ := begin_view (L.tick (w := w)) hh hw hkl (by omega)
  generalize hg : beginS j (tickS f w) hand w k = g at *
  have Lg : FLen j hands g := by rw [← hg]; exact L.tick.begin_ hw hkl
  have va : ∀ x, g.a x = if x = w then f.a w + 1 else f.a x := fun x => (va0 x).trans (tick_a L hw x)
  have vs' : ∀ x, g.s x = if x = k then .liv else f.s x := vs
  have vk' : ∀ x, g.kd x = if x = w then f.kd w + 1 else f.kd x := vk
  have vc' : ∀ x, g.cu x = if x = hand then some k else f.cu x := vc
  have hheld : heldS j (tickS f w) w = heldS j g w := (held_ne (va0 w)).symm
  rw [hheld] at vas vp
  have vas' : ∀ x, g.as x = if x = w ∧ heldS j g w = true then true else f.as x := vas
  have vp' : ∀ x, g.pl x = if x = hand ∧ heldS j g w = false then f.pl hand ++ [w] else f.pl x := vp
  clear vs vk vc vas vp
  have en : ∀ x, x ≠ w → g.a x = f.a x := fun x hx => by rw [va, if_neg hx]
  have esw : sentOf j g w = sentOf j f w ++ [k] := by
    rw [sent_ne (va0 w), sent_tick L hw hn]
    rfl
  have kas : f.as k = false := by
    cases e : f.as k with
    | false => rfl
    | true => rw [(h.as k e).1] at hku; cases hku
  have kcu : ∀ x, f.cu x ≠ some k := fun x e => by rw [(h.cl x k e).1] at hku; cases hku
  have kpl : ∀ x, k ∉ f.pl x := fun x e => by rw [(h.pl x k e).1] at hku; cases hku
  have mpl : ∀ x y, x ∈ g.pl y → x ∈ f.pl y ∨ (x = w ∧ y = hand ∧ heldS j g w = false) := fun x y e => by
    rw [vp'] at e
    split at e
    · rename_i z
      rcases List.mem_append.mp e with e | e
      · exact .inl (z.1 ▸ e)
      · exact .inr ⟨by simpa using e, z.1, z.2⟩
    · exact .inl e
  have mpl' : ∀ x y, x ∈ f.pl y → x ∈ g.pl y := fun x y e => by
    rw [vp']
    split
    · rename_i z
      rw [z.1] at e
      exact List.mem_append_left _ e
    · exact e
  have kdw : 0 ≤ f.kd w := by rw [h.kd w hw]; omega
  refine ⟨⟨Lg, fun x => ?_, fun x y hy => ?_, ?_, fun x hx => ?_, fun x hx => ?_, fun x hx => ?_, fun x hx => ?_, fun y x hx => ?_, fun y x hx => ?_, fun y y' x h1 h2 => ?_, fun y y' x h1 h2 => ?_, fun y y' x h1 h2 => ?_, fun y => ?_, fun x hx => ?_, ?_⟩, fun y x hx => ?_⟩
  · by_cases hx : x = w
    · rw [hx, va, if_pos rfl]
      exact next_lt hn
    · rw [en x hx]
      exact h.atl x
  · rw [vs']
    by_cases hyk : y = k
    · subst hyk
      have : x = w := kids_uniq hj hy hkk
      subst this
      rw [if_pos rfl, esw]
      simp
    · rw [if_neg hyk, h.bg x y hy]
      by_cases hx : x = w
      · rw [hx, esw]
        simp [hyk]
      · rw [sent_ne (en x hx)]
  · rw [vs', if_neg (by omega)]
    exact h.b0
  · rw [vs'] at hx
    split at hx
    · cases hx
    · have : x ≠ w := fun z => by rw [z, hl] at hx; cases hx
      rw [en x this]
      exact h.u0 x hx
  · rw [vs'] at hx
    split at hx
    · cases hx
    · have hxw : x ≠ w := fun z => by rw [z, hl] at hx; cases hx
      obtain ⟨o1, o2⟩ := h.o1 x hx
      refine ⟨by rw [en x hxw]; exact o1, fun y hy => ?_⟩
      have := o2 y hy
      rw [vs', if_neg fun z => by rw [z, hku] at this; cases this]
      exact this
  · rw [vk']
    have hgs : ∀ x, x ≠ k → f.s x = g.s x := fun x hx => by rw [vs', if_neg hx]
    by_cases hxw : x = w
    · subst hxw
      rw [if_pos rfl, h.kd x hw]
      have := livC_one hj hkk hgs
      rw [hku, vs', if_pos rfl] at this
      simp at this
      omega
    · rw [if_neg hxw, h.kd x hx]
      congr 1
      exact livC_congr fun y hy => hgs y fun z => hxw (kids_uniq hj (z ▸ hy) hkk)
  · rw [vas'] at hx
    split at hx
    · rename_i z
      obtain ⟨rfl, z2⟩ := z
      exact ⟨by rw [vs', if_neg (by omega)]; exact hl, z2, by rw [vk', if_pos rfl]; omega⟩
    · obtain ⟨a1, a2, a3⟩ := h.as x hx
      have hxw : x ≠ w := fun z => by rw [z, has] at hx; cases hx
      have hxk : x ≠ k := fun z => by rw [z, kas] at hx; cases hx
      exact ⟨by rw [vs', if_neg hxk]; exact a1, by rw [held_ne (en x hxw)]; exact a2, by rw [vk', if_neg hxw]; exact a3⟩
  · rw [vc'] at hx
    split at hx
    · cases hx
      exact ⟨by rw [vs', if_pos rfl], by rw [vas', if_neg (by omega)]; exact kas⟩
    · rename_i hyh
      have hxw : x ≠ w := fun z => hyh (h.u1 y hand w (z ▸ hx) hc)
      have hxk : x ≠ k := fun z => kcu y (z ▸ hx)
      obtain ⟨a1, a2⟩ := h.cl y x hx
      exact ⟨by rw [vs', if_neg hxk]; exact a1, by rw [vas', if_neg fun z => hxw z.1]; exact a2⟩
  · rcases mpl x y hx with e | ⟨e1, e2, e3⟩
    · have hxw : x ≠ w := fun z => h.u2 hand y w hc (z ▸ e)
      have hxk : x ≠ k := fun z => kpl y (z ▸ e)
      obtain ⟨a1, a2, a3⟩ := h.pl y x e
      exact ⟨by rw [vs', if_neg hxk]; exact a1, by rw [vas', if_neg fun z => hxw z.1]; exact a2, by rw [held_ne (en x hxw)]; exact a3⟩
    · subst e1
      exact ⟨by rw [vs', if_neg (by omega)]; exact hl, by rw [vas', if_neg fun z => by rw [e3] at z; cases z.2]; exact has, e3⟩
  · rw [vc'] at h1 h2
    split at h1 <;> split at h2
    · rename_i a b
      rw [a, b]
    · cases h1
      exact absurd h2 (kcu _)
    · cases h2
      exact absurd h1 (kcu _)
    · exact h.u1 y y' x h1 h2
  · rw [vc'] at h1
    split at h1
    · cases h1
      rcases mpl k y' h2 with e | ⟨e1, _⟩
      · exact kpl y' e
      · omega
    · rename_i hyh
      rcases mpl x y' h2 with e | ⟨e1, _⟩
      · exact h.u2 y y' x h1 e
      · exact hyh (h.u1 y hand w (e1 ▸ h1) hc)
  · rcases mpl x y h1 with e | ⟨e1, e2, _⟩ <;> rcases mpl x y' h2 with e' | ⟨e1', e2', _⟩
    · exact h.u3 y y' x e e'
    · exact absurd e (e1' ▸ h.u2 hand y w hc)
    · exact absurd e' (e1 ▸ h.u2 hand y' w hc)
    · rw [e2, e2']
  · rw [vp']
    split
    · rw [List.nodup_append]
      exact ⟨h.u4 hand, by simp, fun a ha b hb => by simp at hb; subst hb; exact fun z => h.u2 hand hand b hc (z ▸ ha)⟩
    · exact h.u4 y
  · rw [vs'] at hx
    split at hx
    · rename_i z
      exact .inl ⟨hand, by rw [vc', if_pos rfl, z]⟩
    · by_cases hxw : x = w
      · subst hxw
        cases e : heldS j g x with
        | true => exact .inr (.inr (by rw [vas', if_pos ⟨rfl, e⟩]))
        | false => exact .inr (.inl ⟨hand, by rw [vp', if_pos ⟨rfl, e⟩]; simp⟩)
      · rcases h.lv x hx with ⟨y, e⟩ | ⟨y, e⟩ | e
        · exact .inl ⟨y, by rw [vc', if_neg fun z => by rw [z, hc] at e; exact hxw (Option.some.inj e).symm]; exact e⟩
        · exact .inr (.inl ⟨y, mpl' x y e⟩)
        · exact .inr (.inr (by rw [vas', if_neg fun z => hxw z.1]; exact e))
  · rw [vg, vat]
    show (f.gone ++ [(w, f.a w)]).length = (f.at_.set w (f.at_.getD w 0 + 1)).sum
    rw [sum_set (by rw [L.at_]; exact hw), List.length_append, h.gl]
    rfl
  · rw [vc'] at hx
    split at hx
    · cases hx
      have hak : g.a k = 0 := by rw [en k (by omega)]; exact h.u0 k hku
      refine ⟨fun z => ?_, fun _ => ?_⟩
      · unfold nextS at z
        rw [hak] at z
        have := List.getElem?_eq_none_iff.mp z
        obtain ⟨_, _, _, _, _, _, _, h1, _⟩ := hj.work hkl
        omega
      · rw [vk', if_neg (by omega), h.kd k hkl]
        have : livC j f.s k = 0 := livC_0.mpr fun y hy => by
          have : f.s y = .unb := (h.bg k y hy).mpr (by unfold sentOf; rw [h.u0 k hku]; simp [sends])
          rw [this]
          simp
        rw [this]
        rfl
    · rename_i hyh
      have hxw : x ≠ w := fun z => hyh (h.u1 y hand w (z ▸ hx) hc)
      obtain ⟨s1, s2⟩ := ok.st y x hx
      unfold SetS
      rw [next_ne (en x hxw), held_ne (en x hxw), vk', if_neg hxw]
      exact ⟨s1, s2⟩
end

section
variable {j : Job} {hands : Nat} {f : FSt}
theorem end_view (hj : JobOk j) (L : FLen j hands f) {w : Nat} (hw : w < j.length) :
    (∀ x, (endS j f w).1.s x = if x = w then .ovr else f.s x) ∧ (∀ x, (endS j f w).1.a x = f.a x) ∧ (∀ x, (endS j f w).1.cu x = f.cu x) ∧ (∀ x, (endS j f w).1.pl x = f.pl x) ∧ (endS j f w).1.gone = f.gone ∧ (endS j f w).1.at_ = f.at_ ∧
    (∀ x, (endS j f w).1.kd x = if parO j w = some x then f.kd x - 1 else f.kd x) ∧ (∀ x, (endS j f w).1.as x = if (endS j f w).2 = some x then false else f.as x) ∧
    (∀ u, (endS j f w).2 = some u ↔ parO j w = some u ∧ f.as u = true ∧ f.kd u - 1 ≤ 0) := by
  unfold endS
  split
  · rename_i ep
    refine ⟨fun x => getD_set (by rw [L.st]; exact hw), fun _ => rfl, fun _ => rfl, fun _ => rfl, rfl, rfl, fun x => ?_, fun x => ?_, fun u => ?_⟩
    · rw [if_neg (by rw [ep]; simp)]
      rfl
    · rw [if_neg (by simp)]
      rfl
    · simp [ep]
  · rename_i up ep
    have hu := par_lt hj ep
    split
    · rename_i hc
      refine ⟨fun x => getD_set (by rw [L.st]; exact hw), fun _ => rfl, fun _ => rfl, fun _ => rfl, rfl, rfl, fun x => ?_, fun x => ?_, fun u => ?_⟩
      · show (f.kids.set up (f.kd up - 1)).getD x 0 = _
        rw [getD_set (by rw [L.kids]; omega)]
        by_cases hx : x = up
        · subst hx
          rw [if_pos rfl, if_pos ep]
        · rw [if_neg hx, if_neg fun z => hx (by rw [ep] at z; exact (Option.some.inj z).symm)]
          rfl
      · rw [if_neg (by simp)]
        rfl
      · refine ⟨fun z => (by cases z), fun ⟨z1, z2, z3⟩ => ?_⟩
        rw [ep] at z1
        cases z1
        rcases hc with hc | hc
        · rw [hc] at z2; cases z2
        · omega
    · rename_i hc
      refine ⟨fun x => getD_set (by rw [L.st]; exact hw), fun _ => rfl, fun _ => rfl, fun _ => rfl, rfl, rfl, fun x => ?_, fun x => ?_, fun u => ?_⟩
      · show (f.kids.set up (f.kd up - 1)).getD x 0 = _
        rw [getD_set (by rw [L.kids]; omega)]
        by_cases hx : x = up
        · subst hx
          rw [if_pos rfl, if_pos ep]
        · rw [if_neg hx, if_neg fun z => hx (by rw [ep] at z; exact (Option.some.inj z).symm)]
          rfl
      · show (f.asd.set up false).getD x false = _
        rw [getD_set (by rw [L.asd]; omega)]
        by_cases hx : x = up
        · subst hx
          rw [if_pos rfl, if_pos rfl]
        · rw [if_neg hx, if_neg fun z => hx (Option.some.inj z).symm]
          rfl
      · refine ⟨fun z => ?_, fun ⟨z1, _, _⟩ => by rw [ep] at z1; exact z1⟩
        cases z
        refine ⟨ep, ?_, ?_⟩
        · cases e : f.as up with
          | true => rfl
          | false => exact absurd (.inl e) hc
        · by_cases e : 0 < f.kd up - 1
          · exact absurd (.inr e) hc
          · omega
theorem held_cases {x : Nat} (h : heldS j f x = true) : nextS j f x = none ∨ nextS j f x = some .wait := by
  unfold heldS at h
  cases e : nextS j f x with
  | none => exact .inl rfl
  | some s =>
    rw [e] at h
    cases s with
    | wait => exact .inr rfl
    | doo => cases h
    | send k => cases h
theorem held_no {x : Nat} (h : heldS j f x = false) : nextS j f x ≠ none := fun e => by
  unfold heldS at h
  rw [e] at h
  cases h
/-- a work ends -/
theorem FB.end_ (hj : JobOk j) (h : FB j hands f) {hand w : Nat} (hc : f.cu hand = some w) (hn : nextS j f w = none) (hk : f.kd w ≤ 0) :
    FB j hands { (endS j f w).1 with cur := (endS j f w).1.cur.set hand (endS j f w).2 } ∧ ({ (endS j f w).1 with cur := (endS j f w).1.cur.set hand (endS j f w).2 } : FSt).cu hand = (endS j f w).2 ∧
    (∀ y x, y ≠ hand → ({ (endS j f w).1 with cur := (endS j f w).1.cur.set hand (endS j f w).2 } : FSt).cu y = some x → f.cu y = some x) ∧ ∀ y x, y ≠ hand → f.cu y = some x → SetS j f x → SetS j { (endS j f w).1 with cur := (endS j f w).1.cur.set hand (endS j f w).2 } x := by
  obtain ⟨hl, has⟩ := h.cl hand w hc
  have hw : w < j.length := h.inr (by rw [hl]; simp)
  have L := h.len
  have hh := h.hin hc
  obtain ⟨Le, hu⟩ := L.end_ hj (w := w)
  obtain ⟨vs, va, vc0, vp, vg, vat, vk, vas, vu⟩ := end_view hj L hw
  have Lg := Le.setCur (hand := hand) (o := (endS j f w).2) fun u e => (hu u e).2
  have vc : ∀ x, ({ (endS j f w).1 with cur := (endS j f w).1.cur.set hand (endS j f w).2 } : FSt).cu x = if x = hand then (endS j f w).2 else f.cu x := fun x => by
    show ((endS j f w).1.cur.set hand (endS j f w).2).getD x none = _
    rw [getD_set (by rw [Le.cur]; exact hh)]
    split
    · rfl
    · exact vc0 x
  generalize hg : ({ (endS j f w).1 with cur := (endS j f w).1.cur.set hand (endS j f w).2 } : FSt) = g at *
  have vs' : ∀ x, g.s x = if x = w then .ovr else f.s x := by rw [← hg]; exact vs
  have va' : ∀ x, g.a x = f.a x := by rw [← hg]; exact va
  have vp' : ∀ x, g.pl x = f.pl x := by rw [← hg]; exact vp
  have vk' : ∀ x, g.kd x = if parO j w = some x then f.kd x - 1 else f.kd x := by rw [← hg]; exact vk
  have vas' : ∀ x, g.as x = if (endS j f w).2 = some x then false else f.as x := by rw [← hg]; exact vas
  have vg' : g.gone = f.gone := by rw [← hg]; exact vg
  have vat' : g.at_ = f.at_ := by rw [← hg]; exact vat
  clear vs va vp vk vas vg vat vc0 hg
  generalize (endS j f w).2 = o at *
  have kl : livC j f.s w = 0 := by have := h.kd w hw; omega
  have kn := livC_0.mp kl
  have alen : f.a w = (stepsOf j w).length := by
    have h1 := h.atl w
    have h2 := List.getElem?_eq_none_iff.mp hn
    omega
  have kov : ∀ k ∈ kidsOf j w, f.s k = .ovr := fun k hk2 => by
    cases e : f.s k with
    | ovr => rfl
    | liv => exact absurd e (kn k hk2)
    | unb => exact absurd (sent_all alen hk2) ((h.bg w k hk2).mp e)
  have hgs : ∀ x, x ≠ w → f.s x = g.s x := fun x hx => by rw [vs', if_neg hx]
  have upl : ∀ u, parO j w = some u → f.s u = .liv ∧ 0 < f.kd u := fun u hu2 => by
    have hm := (par_some hj).mp hu2
    have h1 := h.par hm hl
    refine ⟨h1, ?_⟩
    rw [h.kd u (h.inr (by rw [h1]; simp))]
    have : livC j f.s u ≠ 0 := fun z => livC_0.mp z w hm hl
    omega
  have onot : ∀ u, o = some u → u ≠ w ∧ f.as u = true ∧ f.s u = .liv := fun u hu2 => by
    obtain ⟨a1, a2, a3⟩ := (vu u).mp hu2
    have := par_lt hj a1
    exact ⟨by omega, a2, (h.as u a2).1⟩
  refine ⟨⟨Lg, fun x => by rw [va']; exact h.atl x, fun x k hk2 => ?_, ?_, fun x hx => ?_, fun x hx => ?_, fun x hx => ?_, fun x hx => ?_, fun y x hx => ?_, fun y x hx => ?_, fun y y' x h1 h2 => ?_, fun y y' x h1 h2 => ?_, fun y y' x h1 h2 => ?_, fun y => by rw [vp']; exact h.u4 y, fun x hx => ?_, by rw [vg', vat']; exact h.gl⟩, ?_, fun y x hy e => ?_, fun y x hy hcy hst => ?_⟩
  · rw [sent_ne (va' x), vs']
    by_cases e : k = w
    · subst e
      rw [if_pos rfl]
      have := h.bg x k hk2
      rw [hl] at this
      simp at this ⊢
      exact this
    · rw [if_neg e]
      exact h.bg x k hk2
  · rw [vs']
    split
    · simp
    · exact h.b0
  · rw [vs'] at hx
    split at hx
    · cases hx
    · rw [va']
      exact h.u0 x hx
  · rw [vs'] at hx
    rw [va']
    split at hx
    · rename_i z
      subst z
      refine ⟨alen, fun k hk2 => ?_⟩
      rw [vs']
      split
      · rfl
      · exact kov k hk2
    · obtain ⟨a1, a2⟩ := h.o1 x hx
      refine ⟨a1, fun k hk2 => ?_⟩
      rw [vs']
      split
      · rfl
      · exact a2 k hk2
  · rw [vk']
    by_cases e : parO j w = some x
    · rw [if_pos e, h.kd x hx]
      have hm := (par_some hj).mp e
      have := livC_one hj hm hgs
      rw [hl, vs', if_pos rfl] at this
      simp at this
      omega
    · rw [if_neg e, h.kd x hx]
      congr 1
      exact livC_congr fun y hy => hgs y fun z => e ((par_some hj).mpr (z ▸ hy))
  · rw [vas'] at hx
    split at hx
    · cases hx
    · rename_i ho
      obtain ⟨a1, a2, a3⟩ := h.as x hx
      have hxw : x ≠ w := fun z => by rw [z, has] at hx; cases hx
      refine ⟨by rw [vs', if_neg hxw]; exact a1, by rw [held_ne (va' x)]; exact a2, ?_⟩
      rw [vk']
      split
      · rename_i hp
        by_cases z : f.kd x - 1 ≤ 0
        · exact absurd ((vu x).mpr ⟨hp, hx, z⟩) ho
        · omega
      · exact a3
  · rw [vc] at hx
    split at hx
    · obtain ⟨b1, b2, b3⟩ := onot x hx
      exact ⟨by rw [vs', if_neg b1]; exact b3, by rw [vas', if_pos hx]⟩
    · rename_i hyh
      obtain ⟨a1, a2⟩ := h.cl y x hx
      have hxw : x ≠ w := fun z => hyh (h.u1 y hand w (z ▸ hx) hc)
      refine ⟨by rw [vs', if_neg hxw]; exact a1, ?_⟩
      rw [vas']
      split
      · rfl
      · exact a2
  · rw [vp'] at hx
    obtain ⟨a1, a2, a3⟩ := h.pl y x hx
    have hxw : x ≠ w := fun z => h.u2 hand y w hc (z ▸ hx)
    refine ⟨by rw [vs', if_neg hxw]; exact a1, ?_, by rw [held_ne (va' x)]; exact a3⟩
    rw [vas']
    split
    · rfl
    · exact a2
  · rw [vc] at h1 h2
    split at h1 <;> split at h2
    · rename_i a b
      rw [a, b]
    · have := (h.cl y' x h2).2
      rw [(onot x h1).2.1] at this
      cases this
    · have := (h.cl y x h1).2
      rw [(onot x h2).2.1] at this
      cases this
    · exact h.u1 y y' x h1 h2
  · rw [vc] at h1
    rw [vp'] at h2
    split at h1
    · have := (h.pl y' x h2).2.1
      rw [(onot x h1).2.1] at this
      cases this
    · exact h.u2 y y' x h1 h2
  · rw [vp'] at h1 h2
    exact h.u3 y y' x h1 h2
  · rw [vs'] at hx
    split at hx
    · cases hx
    · rename_i hxw
      rcases h.lv x hx with ⟨y, e⟩ | ⟨y, e⟩ | e
      · have hyh : y ≠ hand := fun z => by rw [z, hc] at e; exact hxw (Option.some.inj e).symm
        exact .inl ⟨y, by rw [vc, if_neg hyh]; exact e⟩
      · exact .inr (.inl ⟨y, by rw [vp']; exact e⟩)
      · by_cases ho : o = some x
        · exact .inl ⟨hand, by rw [vc, if_pos rfl]; exact ho⟩
        · exact .inr (.inr (by rw [vas', if_neg ho]; exact e))
  · rw [vc, if_pos rfl]
  · rw [vc, if_neg hy] at e
    exact e
  · unfold SetS
    rw [next_ne (va' x), held_ne (va' x)]
    refine ⟨hst.1, fun z => ?_⟩
    have h0 := hst.2 z
    rw [vk']
    split
    · rename_i hp
      have := (upl x hp).2
      omega
    · exact h0
/-- settled -/
theorem settle_ok (hj : JobOk j) {hand : Nat} : ∀ (n : Nat) (f : FSt) (o : Option Nat), FB j hands f → (∀ y x, y ≠ hand → f.cu y = some x → SetS j f x) → f.cu hand = o → hand < hands → (∀ w, o = some w → w < n) → FOk j hands (settleN j hand (n + 1) f o) := by
  intro n
  induction n with
  | zero =>
    intro f o h hs hc hh ho
    cases o with
    | some w => exact absurd (ho w rfl) (by omega)
    | none =>
      show FOk j hands f
      refine ⟨h, fun y x e => ?_⟩
      by_cases hy : y = hand
      · subst hy
        rw [hc] at e
        cases e
      · exact hs y x hy e
  | succ n ih =>
    intro f o h hs hc hh ho
    cases o with
    | none =>
      show FOk j hands f
      refine ⟨h, fun y x e => ?_⟩
      by_cases hy : y = hand
      · subst hy
        rw [hc] at e
        cases e
      · exact hs y x hy e
    | some w =>
      obtain ⟨hl, has⟩ := h.cl hand w hc
      have hw : w < j.length := h.inr (by rw [hl]; simp)
      have L := h.len
      have done : SetS j f w → FOk j hands f := fun z => ⟨h, fun y x e => by
        by_cases hy : y = hand
        · subst hy
          rw [hc] at e
          cases e
          exact z
        · exact hs y x hy e⟩
      unfold settleN
      split
      · rename_i hb
        split
        · rename_i hk
          have vc : ∀ x, ({ f with asd := f.asd.set w true, cur := f.cur.set hand none } : FSt).cu x = if x = hand then none else f.cu x := fun x => getD_set (by rw [L.cur]; exact hh)
          have vas : ∀ x, ({ f with asd := f.asd.set w true, cur := f.cur.set hand none } : FSt).as x = if x = w then true else f.as x := fun x => getD_set (by rw [L.asd]; exact hw)
          have Lg : FLen j hands { f with asd := f.asd.set w true, cur := f.cur.set hand none } := { L.setCur (hand := hand) (o := none) (fun w e => by cases e) with asd := by simp [L.asd] }
          generalize hg : ({ f with asd := f.asd.set w true, cur := f.cur.set hand none } : FSt) = g at *
          have vs' : ∀ x, g.s x = f.s x := by rw [← hg]; exact fun _ => rfl
          have va' : ∀ x, g.a x = f.a x := by rw [← hg]; exact fun _ => rfl
          have vp' : ∀ x, g.pl x = f.pl x := by rw [← hg]; exact fun _ => rfl
          have vk' : ∀ x, g.kd x = f.kd x := by rw [← hg]; exact fun _ => rfl
          have vg' : g.gone = f.gone := by rw [← hg]
          have vat' : g.at_ = f.at_ := by rw [← hg]
          have efs : g.s = f.s := funext vs'
          clear hg
          refine ⟨⟨Lg, fun x => by rw [va']; exact h.atl x, fun x k hk2 => by rw [sent_ne (va' x), vs']; exact h.bg x k hk2, by rw [vs']; exact h.b0, fun x hx => by rw [va']; exact h.u0 x (by rw [← vs']; exact hx), fun x hx => ?_, fun x hx => by rw [vk', efs]; exact h.kd x hx, fun x hx => ?_, fun y x hx => ?_, fun y x hx => ?_, fun y y' x h1 h2 => ?_, fun y y' x h1 h2 => ?_, fun y y' x h1 h2 => ?_, fun y => by rw [vp']; exact h.u4 y, fun x hx => ?_, by rw [vg', vat']; exact h.gl⟩, fun y x hx => ?_⟩
          · obtain ⟨a1, a2⟩ := h.o1 x (by rw [← vs']; exact hx)
            exact ⟨by rw [va']; exact a1, fun k hk2 => by rw [vs']; exact a2 k hk2⟩
          · rw [vs', held_ne (va' x), vk']
            rw [vas] at hx
            split at hx
            · rename_i z
              subst z
              exact ⟨hl, hb, hk⟩
            · exact h.as x hx
          · rw [vc] at hx
            split at hx
            · cases hx
            · rename_i hy
              obtain ⟨a1, a2⟩ := h.cl y x hx
              exact ⟨by rw [vs']; exact a1, by rw [vas, if_neg fun z => hy (h.u1 y hand w (by rw [← z]; exact hx) hc)]; exact a2⟩
          · rw [vp'] at hx
            obtain ⟨a1, a2, a3⟩ := h.pl y x hx
            exact ⟨by rw [vs']; exact a1, by rw [vas, if_neg fun z => h.u2 hand y w hc (by rw [← z]; exact hx)]; exact a2, by rw [held_ne (va' x)]; exact a3⟩
          · rw [vc] at h1 h2
            split at h1
            · cases h1
            · split at h2
              · cases h2
              · exact h.u1 y y' x h1 h2
          · rw [vc] at h1
            rw [vp'] at h2
            split at h1
            · cases h1
            · exact h.u2 y y' x h1 h2
          · rw [vp'] at h1 h2
            exact h.u3 y y' x h1 h2
          · rw [vs'] at hx
            by_cases hxw : x = w
            · exact .inr (.inr (by rw [vas, if_pos hxw]))
            · rcases h.lv x hx with ⟨y, e⟩ | ⟨y, e⟩ | e
              · exact .inl ⟨y, by rw [vc, if_neg fun z => by rw [z, hc] at e; exact hxw (Option.some.inj e).symm]; exact e⟩
              · exact .inr (.inl ⟨y, by rw [vp']; exact e⟩)
              · exact .inr (.inr (by rw [vas, if_neg hxw]; exact e))
          · rw [vc] at hx
            split at hx
            · cases hx
            · rename_i hy
              unfold SetS
              rw [next_ne (va' x), held_ne (va' x), vk']
              exact hs y x hy hx
        · rename_i hk
          have hk0 : f.kd w = 0 := by
            have := h.kd w hw
            omega
          split
          · rename_i hsome
            refine done ⟨fun z => ?_, fun _ => hk0⟩
            rw [z] at hsome
            cases hsome
          · rename_i hnone
            have hn : nextS j f w = none := by
              cases e : nextS j f w with
              | none => rfl
              | some s => rw [e] at hnone; exact absurd rfl hnone
            obtain ⟨b1, b2, b3, b4⟩ := h.end_ hj hc hn (by omega)
            refine ih _ _ b1 (fun y x hy e => ?_) b2 hh (fun u hu => ?_)
            · have e2 := b3 y x hy e
              exact b4 y x hy e2 (hs y x hy e2)
            · have := (L.end_ hj (w := w)).2 u hu
              have := ho w rfl
              omega
      · rename_i hb
        have hb' : heldS j f w = false := by simpa using hb
        exact done ⟨held_no hb', fun z => absurd z hb⟩
theorem FOk.step (hj : JobOk j) (ok : FOk j hands f) {hand w : Nat} (hc : f.cu hand = some w) : FOk j hands (stepS j f hand w) := by
  have h := ok.b
  obtain ⟨hl, has⟩ := h.cl hand w hc
  have hw : w < j.length := h.inr (by rw [hl]; simp)
  have hh := h.hin hc
  have hst := ok.st hand w hc
  obtain ⟨s, hn⟩ : ∃ s, nextS j f w = some s := by
    cases e : nextS j f w with
    | none => exact absurd e hst.1
    | some s => exact ⟨s, rfl⟩
  unfold stepS settleS
  have main : FB j hands (sentS j f hand w) ∧ ∀ y x, y ≠ hand → (sentS j f hand w).cu y = some x → SetS j (sentS j f hand w) x := by
    unfold sentS
    rw [hn]
    have dooo : sendOf s = none → FB j hands (tickS f w) ∧ ∀ y x, y ≠ hand → (tickS f w).cu y = some x → SetS j (tickS f w) x := fun hs => by
      refine ⟨h.doo hj hc hn hs, fun y x hy e => ?_⟩
      have e' : f.cu y = some x := e
      have hxw : x ≠ w := fun z => hy (h.u1 y hand w (z ▸ e') hc)
      have ea : (tickS f w).a x = f.a x := by rw [tick_a h.len hw, if_neg hxw]
      unfold SetS
      rw [next_ne ea, held_ne ea]
      exact ok.st y x e'
    cases s with
    | doo => exact dooo rfl
    | wait => exact dooo rfl
    | send k =>
      have := ok.send hj hc hn
      exact ⟨this.b, fun y x _ e => this.st y x e⟩
  exact settle_ok hj j.length _ _ main.1 main.2 rfl hh fun u hu => main.1.inr (by rw [(main.1.cl hand u hu).1]; simp)
theorem FOk.take (ok : FOk j hands f) {hand x w : Nat} {l : List Nat} (hh : hand < hands) (hx : x < hands) (hc : f.cu hand = none) (hm : w ∈ f.pl x) (hl : ∀ y, y ∈ l ↔ y ∈ f.pl x ∧ y ≠ w) (hnd : l.Nodup) : FOk j hands { f with piles := f.piles.set x l, cur := f.cur.set hand (some w) } := by
  have h := ok.b
  have L := h.len
  obtain ⟨w1, w2, w3⟩ := h.pl x w hm
  have hw : w < j.length := h.inr (by rw [w1]; simp)
  have vc : ∀ y, ({ f with piles := f.piles.set x l, cur := f.cur.set hand (some w) } : FSt).cu y = if y = hand then some w else f.cu y := fun y => getD_set (by rw [L.cur]; exact hh)
  have vp : ∀ y, ({ f with piles := f.piles.set x l, cur := f.cur.set hand (some w) } : FSt).pl y = if y = x then l else f.pl y := fun y => getD_set (by rw [L.piles]; exact hx)
  have Lg : FLen j hands { f with piles := f.piles.set x l, cur := f.cur.set hand (some w) } := { (L.setCur (hand := hand) (o := some w) (fun u e => by cases e; exact hw)) with piles := by simp [L.piles], pb := (L.setPil (hand := x) (l := l) fun u hu => h.inr (by rw [(h.pl x u ((hl u).mp hu).1).1]; simp)).pb }
  generalize hg : ({ f with piles := f.piles.set x l, cur := f.cur.set hand (some w) } : FSt) = g at *
  have vs' : ∀ y, g.s y = f.s y := by rw [← hg]; exact fun _ => rfl
  have va' : ∀ y, g.a y = f.a y := by rw [← hg]; exact fun _ => rfl
  have vk' : ∀ y, g.kd y = f.kd y := by rw [← hg]; exact fun _ => rfl
  have vas : ∀ y, g.as y = f.as y := by rw [← hg]; exact fun _ => rfl
  have vg' : g.gone = f.gone := by rw [← hg]
  have vat' : g.at_ = f.at_ := by rw [← hg]
  have efs : g.s = f.s := funext vs'
  clear hg
  have mp : ∀ y z, z ∈ g.pl y → z ∈ f.pl y ∧ z ≠ w := fun y z e => by
    rw [vp] at e
    split at e
    · rename_i q
      subst q
      exact (hl z).mp e
    · rename_i q
      exact ⟨e, fun r => q (h.u3 y x w (r ▸ e) hm)⟩
  refine ⟨⟨Lg, fun y => by rw [va']; exact h.atl y, fun y k hk2 => by rw [sent_ne (va' y), vs']; exact h.bg y k hk2, by rw [vs']; exact h.b0, fun y hy => by rw [va']; exact h.u0 y (by rw [← vs']; exact hy), fun y hy => ?_, fun y hy => by rw [vk', efs]; exact h.kd y hy, fun y hy => ?_, fun y z hz => ?_, fun y z hz => ?_, fun y y' z h1 h2 => ?_, fun y y' z h1 h2 => ?_, fun y y' z h1 h2 => ?_, fun y => ?_, fun y hy => ?_, by rw [vg', vat']; exact h.gl⟩, fun y z hz => ?_⟩
  · obtain ⟨a1, a2⟩ := h.o1 y (by rw [← vs']; exact hy)
    exact ⟨by rw [va']; exact a1, fun k hk2 => by rw [vs']; exact a2 k hk2⟩
  · rw [vs', held_ne (va' y), vk']
    rw [vas] at hy
    exact h.as y hy
  · rw [vs', vas]
    rw [vc] at hz
    split at hz
    · cases hz
      exact ⟨w1, w2⟩
    · exact h.cl y z hz
  · rw [vs', vas, held_ne (va' z)]
    exact h.pl y z (mp y z hz).1
  · rw [vc] at h1 h2
    split at h1 <;> split at h2
    · rename_i a b
      rw [a, b]
    · cases h1
      exact absurd hm (h.u2 y' x _ h2)
    · cases h2
      exact absurd hm (h.u2 y x _ h1)
    · exact h.u1 y y' z h1 h2
  · rw [vc] at h1
    split at h1
    · cases h1
      exact (mp y' _ h2).2 rfl
    · exact h.u2 y y' z h1 (mp y' z h2).1
  · exact h.u3 y y' z (mp y z h1).1 (mp y' z h2).1
  · rw [vp]
    split
    · exact hnd
    · exact h.u4 y
  · rw [vs'] at hy
    rcases h.lv y hy with ⟨z, e⟩ | ⟨z, e⟩ | e
    · exact .inl ⟨z, by rw [vc, if_neg fun q => by rw [q, hc] at e; cases e]; exact e⟩
    · by_cases hyw : y = w
      · exact .inl ⟨hand, by rw [vc, if_pos rfl, hyw]⟩
      · refine .inr (.inl ⟨z, ?_⟩)
        rw [vp]
        split
        · rename_i q
          subst q
          exact (hl y).mpr ⟨e, hyw⟩
        · exact e
    · exact .inr (.inr (by rw [vas]; exact e))
  · unfold SetS
    rw [next_ne (va' z), held_ne (va' z), vk']
    rw [vc] at hz
    split at hz
    · cases hz
      exact ⟨held_no w3, fun q => by rw [w3] at q; cases q⟩
    · exact ok.st y z hz
theorem FOk.own (ok : FOk j hands f) {hand w : Nat} (hh : hand < hands) (hc : f.cu hand = none) (hl : (f.pl hand).getLast? = some w) : FOk j hands (ownS f hand w) := by
  obtain ⟨ys, e⟩ := List.getLast?_eq_some_iff.mp hl
  have nd := ok.b.u4 hand
  rw [e, List.nodup_append] at nd
  refine ok.take hh hh hc (by rw [e]; simp) (fun y => ?_) ?_
  · rw [e]
    simp
    constructor
    · exact fun z => ⟨.inl z, fun q => nd.2.2 y z w (by simp) q⟩
    · rintro ⟨z | z, q⟩
      · exact z
      · exact absurd z q
  · rw [e]
    simpa using nd.1
theorem FOk.rob (ok : FOk j hands f) {hand other w : Nat} (hh : hand < hands) (ho : other < hands) (hc : f.cu hand = none) (hl : (f.pl other).head? = some w) : FOk j hands (robS f hand other w) := by
  have e : f.pl other = w :: (f.pl other).tail := by
    cases e : f.pl other with
    | nil => rw [e] at hl; cases hl
    | cons y ys => rw [e] at hl; cases hl; rfl
  have nd := ok.b.u4 other
  rw [e, List.nodup_cons] at nd
  refine ok.take hh ho hc (by rw [e]; simp) (fun y => ?_) nd.2
  constructor
  · exact fun z => ⟨by rw [e]; exact List.mem_cons_of_mem _ z, fun q => nd.1 (q ▸ z)⟩
  · rintro ⟨z, q⟩
    rw [e] at z
    rcases List.mem_cons.mp z with r | r
    · exact absurd r q
    · exact r
theorem FOk.go (hj : JobOk j) (ok : FOk j hands f) {hand other : Nat} (hh : hand < hands) (ho : other < hands) : FOk j hands (goS j f hand other).1 := by
  unfold goS
  cases hc : f.cu hand with
  | some w => exact ok.step hj hc
  | none =>
    cases hl : (f.pl hand).getLast? with
    | some w => exact ok.own hh hc hl
    | none =>
      cases hl2 : (f.pl other).head? with
      | some w => exact ok.rob hh ho hc hl2
      | none => exact ok
/-- what a turn asks -/
theorem FOk.pre (hj : JobOk j) (ok : FOk j hands f) (hand : Nat) : (∀ w, f.cu hand = some w → nextS j f w ≠ none) ∧ f.gone.length < 1000 ∧ (f.pl hand).length < 1000 := by
  refine ⟨fun w e => (ok.st hand w e).1, ?_, ?_⟩
  · have := ok.b.gl96 hj
    omega
  · have := ok.b.pl12 hj hand
    omega
end

/-! ### weavings -/
abbrev encTurn (t : Nat × Nat) : D := .tup [.int t.1, .int t.2]
def TurnOk (hands : Nat) (t : Nat × Nat) : Prop := t.1 < hands ∧ t.2 < hands ∧ (t.1 ≠ t.2 ∨ hands = 1)
def runF (j : Job) (f : FSt) : List (Nat × Nat) → FSt
  | [] => f
  | t :: ts => runF j (goS j f t.1 t.2).1 ts
def tells (j : Job) (f : FSt) : List (Nat × Nat) → List Tell
  | [] => []
  | t :: ts => (goS j f t.1 t.2).2 :: tells j (goS j f t.1 t.2).1 ts
theorem runF_snoc {j : Job} : ∀ {ts : List (Nat × Nat)} {f : FSt} {t : Nat × Nat}, runF j f (ts ++ [t]) = (goS j (runF j f ts) t.1 t.2).1
  | [], f, t => rfl
  | u :: ts, f, t => runF_snoc (ts := ts)
theorem tells_snoc {j : Job} : ∀ {ts : List (Nat × Nat)} {f : FSt} {t : Nat × Nat}, tells j f (ts ++ [t]) = tells j f ts ++ [(goS j (runF j f ts) t.1 t.2).2]
  | [], f, t => rfl
  | u :: ts, f, t => congrArg (_ :: ·) (tells_snoc (ts := ts))
theorem tells_len {j : Job} : ∀ {ts : List (Nat × Nat)} {f : FSt}, (tells j f ts).length = ts.length
  | [], f => rfl
  | u :: ts, f => by simp [tells, tells_len (ts := ts)]
theorem runF_ok {j : Job} (hj : JobOk j) {hands : Nat} : ∀ {ts : List (Nat × Nat)} {f : FSt}, FOk j hands f → (∀ t ∈ ts, TurnOk hands t) → FOk j hands (runF j f ts)
  | [], f, ok, _ => ok
  | u :: ts, f, ok, h => runF_ok hj (ts := ts) (ok.go hj (h u (by simp)).1 (h u (by simp)).2.1) fun t ht => h t (by simp [ht])

/-! ### the laws' own yard: by the steps done alone -/
def over (j : Job) (a : Nat → Nat) (w : Nat) : Bool := decide (a w = (stepsOf j w).length) && (stepsOf j w).all fun s => match s with
  | .send k => if h : w < k ∧ k < j.length then over j a k else true
  | _ => true
termination_by j.length - w
decreasing_by omega
theorem over_iff {j : Job} (hj : JobOk j) {a : Nat → Nat} {w : Nat} : over j a w = true ↔ a w = (stepsOf j w).length ∧ ∀ k ∈ kidsOf j w, over j a k = true := by
  rw [over, Bool.and_eq_true, decide_eq_true_iff, List.all_eq_true]
  refine and_congr_right fun _ => ⟨fun h k hk => ?_, fun h s hs => ?_⟩
  · have := h _ (mem_sends.mp hk)
    simp only at this
    rw [dif_pos (kids_lt hj hk)] at this
    exact this
  · cases s with
    | doo => rfl
    | wait => rfl
    | send k =>
      have hk : k ∈ kidsOf j w := mem_sends.mpr hs
      simp only
      rw [dif_pos (kids_lt hj hk)]
      exact h k hk
theorem isB_up {j : Job} (hj : JobOk j) {w k : Nat} (hk : k ∈ kidsOf j w) : ∀ (x : Nat), isB j k x = true → isB j w x = true := by
  intro x
  induction x using Nat.strongRecOn with
  | _ x ih =>
    intro h
    rw [isB_eq hj] at h ⊢
    have hp := (par_some hj).mpr hk
    rcases Bool.or_eq_true _ _ |>.mp h with e | e
    · have e' : x = k := by simpa using e
      subst e'
      rw [hp]
      have : isB j w w = true := by rw [isB_eq hj]; simp
      simp [this]
    · cases ep : parO j x with
      | none => rw [ep] at e; cases e
      | some p =>
        rw [ep] at e
        have := ih p (par_lt hj ep).1 e
        simp [this]
section
variable {j : Job} {hands : Nat} {f : FSt}
theorem ovr_over (hj : JobOk j) (h : FB j hands f) : ∀ (n w : Nat), j.length - w ≤ n → f.s w = .ovr → over j f.a w = true := by
  intro n
  induction n with
  | zero =>
    intro w hn e
    have := h.inr (w := w) (by rw [e]; simp)
    omega
  | succ n ih =>
    intro w hn e
    have hw := h.inr (w := w) (by rw [e]; simp)
    obtain ⟨a1, a2⟩ := h.o1 w e
    rw [over_iff hj]
    refine ⟨a1, fun k hk => ih k ?_ (a2 k hk)⟩
    have := kids_lt hj hk
    omega
/-- of works that aren't above a loose one -/
theorem over_ovr (hj : JobOk j) (h : FB j hands f) {hand : Nat} (hs : ∀ y x, y ≠ hand → f.cu y = some x → SetS j f x) : ∀ (n w : Nat), j.length - w ≤ n → w < j.length → (∀ x, f.cu hand = some x → isB j w x = false) → over j f.a w = true → f.s w = .ovr := by
  intro n
  induction n with
  | zero => intro w hn hw; omega
  | succ n ih =>
    intro w hn hw hx ho
    obtain ⟨a1, a2⟩ := (over_iff hj).mp ho
    have hnx : nextS j f w = none := List.getElem?_eq_none (by omega)
    cases e : f.s w with
    | ovr => rfl
    | unb =>
      have h0 := h.u0 w e
      obtain ⟨_, _, _, _, _, _, _, h1, _⟩ := hj.work hw
      omega
    | liv =>
      exfalso
      rcases h.lv w e with ⟨y, c⟩ | ⟨y, c⟩ | c
      · by_cases hy : y = hand
        · subst hy
          have := hx w c
          rw [isB_eq hj] at this
          simp at this
        · exact (hs y w hy c).1 hnx
      · exact held_no (h.pl y w c).2.2 hnx
      · obtain ⟨_, _, c3⟩ := h.as w c
        rw [h.kd w hw] at c3
        have : livC j f.s w ≠ 0 := by omega
        apply this
        refine livC_0.mpr fun k hk hl => ?_
        have hkl := kids_lt hj hk
        have := ih k (by omega) hkl.2 (fun x hc => ?_) (a2 k hk)
        · rw [hl] at this
          cases this
        · have h2 := hx x hc
          cases eb : isB j k x with
          | false => rfl
          | true =>
            have : isB j w x = true := isB_up hj hk x eb
            rw [h2] at this
            cases this
def keptB (j : Job) (f : FSt) (w : Nat) : Bool := heldS j f w && (sentOf j f w).any fun k => !over j f.a k
theorem isB_no (hj : JobOk j) {k w : Nat} (h : w < k) : isB j k w = false := by
  cases e : isB j k w with
  | false => rfl
  | true =>
    have := isB_ge hj k w e
    omega
/-- a loose work: over just where it ends -/
theorem loose_over (hj : JobOk j) (h : FB j hands f) {hand w : Nat} (hc : f.cu hand = some w) (hs : ∀ y x, y ≠ hand → f.cu y = some x → SetS j f x) : over j f.a w = true ↔ nextS j f w = none ∧ f.kd w ≤ 0 := by
  obtain ⟨hl, has⟩ := h.cl hand w hc
  have hw : w < j.length := h.inr (by rw [hl]; simp)
  have kid : ∀ k ∈ kidsOf j w, over j f.a k = true → f.s k = .ovr := fun k hk ho => over_ovr hj h hs _ k (Nat.le_refl _) (kids_lt hj hk).2 (fun x hx => by
    rw [hc] at hx
    cases hx
    exact isB_no hj (kids_lt hj hk).1) ho
  rw [over_iff hj]
  constructor
  · rintro ⟨a1, a2⟩
    refine ⟨List.getElem?_eq_none (by omega), ?_⟩
    rw [h.kd w hw]
    have : livC j f.s w = 0 := livC_0.mpr fun k hk => by rw [kid k hk (a2 k hk)]; simp
    omega
  · rintro ⟨a1, a2⟩
    have alen : f.a w = (stepsOf j w).length := by
      have h1 := h.atl w
      have h2 := List.getElem?_eq_none_iff.mp a1
      omega
    have kn := livC_0.mp (by have := h.kd w hw; omega : livC j f.s w = 0)
    refine ⟨alen, fun k hk => ?_⟩
    cases e : f.s k with
    | ovr => exact ovr_over hj h _ k (Nat.le_refl _) e
    | liv => exact absurd e (kn k hk)
    | unb => exact absurd (sent_all alen hk) ((h.bg w k hk).mp e)
theorem loose_kept (hj : JobOk j) (h : FB j hands f) {hand w : Nat} (hc : f.cu hand = some w) (hs : ∀ y x, y ≠ hand → f.cu y = some x → SetS j f x) : keptB j f w = true ↔ heldS j f w = true ∧ 0 < f.kd w := by
  obtain ⟨hl, has⟩ := h.cl hand w hc
  have hw : w < j.length := h.inr (by rw [hl]; simp)
  unfold keptB
  rw [Bool.and_eq_true, List.any_eq_true]
  refine and_congr_right fun _ => ?_
  rw [h.kd w hw]
  constructor
  · rintro ⟨k, hk, ho⟩
    have hkk := sent_kids hk
    have : f.s k ≠ .unb := fun e => (h.bg w k hkk).mp e hk
    have : f.s k ≠ .ovr := fun e => by
      rw [ovr_over hj h _ k (Nat.le_refl _) e] at ho
      cases ho
    have hkl : f.s k = .liv := by
      cases e : f.s k with
      | liv => rfl
      | ovr => exact absurd e this
      | unb => exact absurd e (by assumption)
    have : livC j f.s w ≠ 0 := fun z => livC_0.mp z k hkk hkl
    omega
  · intro hk
    have : livC j f.s w ≠ 0 := by omega
    obtain ⟨k, hkk, hkl⟩ : ∃ k, k ∈ kidsOf j w ∧ f.s k = .liv := by
      apply Classical.byContradiction
      intro z
      exact this (livC_0.mpr fun k hk e => z ⟨k, hk, e⟩)
    refine ⟨k, ?_, ?_⟩
    · apply Classical.byContradiction
      intro z
      have := (h.bg w k hkk).mpr z
      rw [hkl] at this
      cases this
    · cases e : over j f.a k with
      | false => rfl
      | true =>
        have := over_ovr hj h hs _ k (Nat.le_refl _) (kids_lt hj hkk).2 (fun x hx => by
          rw [hc] at hx
          cases hx
          exact isB_no hj (kids_lt hj hkk).1) e
        rw [hkl] at this
        cases this
/-- the one above a loose work that ends -/
theorem loose_up (hj : JobOk j) (h : FB j hands f) {hand w u : Nat} (hc : f.cu hand = some w) (hs : ∀ y x, y ≠ hand → f.cu y = some x → SetS j f x) (ho : over j f.a w = true) (hu : parO j w = some u) (has : f.as u = true) : keptB j f u = false ↔ f.kd u - 1 ≤ 0 := by
  obtain ⟨hl, _⟩ := h.cl hand w hc
  have hm := (par_some hj).mp hu
  obtain ⟨ul, uh, uk⟩ := h.as u has
  have hul := h.inr (w := u) (by rw [ul]; simp)
  have hsib : ∀ k ∈ kidsOf j u, k ≠ w → isB j k w = false := fun k hk hkw => by
    rw [isB_eq hj, hu]
    have h1 := isB_no hj (kids_lt hj hk).1
    simp [h1, Ne.symm hkw]
  have sib : ∀ k ∈ kidsOf j u, k ≠ w → (over j f.a k = true ↔ f.s k = .ovr) := fun k hk hkw => ⟨fun z => over_ovr hj h hs _ k (Nat.le_refl _) (kids_lt hj hk).2 (fun x hx => by
    rw [hc] at hx
    cases hx
    exact hsib k hk hkw) z, fun z => ovr_over hj h _ k (Nat.le_refl _) z⟩
  have one := livC_one hj (s := f.s) (s' := fun x => if x = w then .ovr else f.s x) hm (fun x hx => by simp [hx])
  rw [hl] at one
  simp at one
  rw [h.kd u hul]
  have key : keptB j f u = false ↔ livC j (fun x => if x = w then .ovr else f.s x) u = 0 := by
    unfold keptB
    rw [uh, Bool.true_and, livC_0]
    constructor
    · intro z k hk e
      have hkw : k ≠ w := fun q => by rw [q] at e; simp at e
      simp [hkw] at e
      have hks : k ∈ sentOf j f u := by
        apply Classical.byContradiction
        intro q
        have := (h.bg u k hk).mpr q
        rw [e] at this
        cases this
      rw [List.any_eq_false] at z
      have z2 := z k hks
      have : over j f.a k = true := by simpa using z2
      have := (sib k hk hkw).mp this
      rw [e] at this
      cases this
    · intro z
      rw [List.any_eq_false]
      intro k hks
      have hk := sent_kids hks
      by_cases hkw : k = w
      · rw [hkw, ho]
        decide
      · have z2 := z k hk
        simp only [if_neg hkw] at z2
        have : f.s k = .ovr := by
          cases e : f.s k with
          | ovr => rfl
          | liv => exact absurd e z2
          | unb => exact absurd hks ((h.bg u k hk).mp e)
        rw [(sib k hk hkw).mpr this]
        decide
  rw [key]
  omega
/-- settled, all of them: over by the steps done is over -/
theorem FOk.over (hj : JobOk j) (ok : FOk j hands f) {w : Nat} (hw : w < j.length) : over j f.a w = decide (f.s w = .ovr) := by
  have h := ok.b
  cases e : FD.over j f.a w with
  | true =>
    have : f.s w = .ovr := over_ovr hj h (hand := hands) (fun y x _ hc => ok.st y x hc) _ w (Nat.le_refl _) hw (fun x hx => absurd (h.hin hx) (by omega)) e
    rw [this]
    rfl
  | false =>
    cases e2 : f.s w with
    | ovr => rw [ovr_over hj h _ w (Nat.le_refl _) e2] at e; cases e
    | liv => rfl
    | unb => rfl
end

theorem sends_filter (ss : List Stp) : (ss.filter fun s => (sendOf s).isSome).map (fun s => encN ((sendOf s).getD 0)) = (sends ss).map encN := by
  induction ss with
  | nil => rfl
  | cons s ss ih =>
    unfold sends at ih ⊢
    rw [List.filter_cons, List.filterMap_cons]
    cases s with
    | doo => simpa [sendOf] using ih
    | wait => simpa [sendOf] using ih
    | send k => simpa [sendOf] using ih
theorem ok_B : EncOk D.bl PyData.bool := ⟨fun n G x => pyD_bl, fun x y => by
  cases x <;> cases y <;> rfl⟩
theorem steps8 {j : Job} (hj : JobOk j) (w : Nat) : (stepsOf j w).length ≤ 8 := by
  by_cases hi2 : w < j.length
  · obtain ⟨_, _, _, _, _, _, _, _, h8⟩ := hj.work hi2
    exact h8
  · unfold stepsOf
    rw [List.getElem?_eq_none (by omega)]
    simp
def ovl (j : Job) (a : Nat → Nat) (i : Nat) : List Bool := (List.range j.length).map fun k => if j.length - i ≤ k then over j a k else false
def C_law_overs : Ct := fun ds G Q _ => ∃ (j : Job) (a : Addr) (f : FSt), ds = [encJob j, .ref a] ∧ JobOk j ∧ f.at_.length = j.length ∧ G a = some (.lst (f.at_.map encN)) ∧ ∀ p, G p = none → Q (.ref p) (up G p (.lst (((List.range j.length).map (over j f.a)).map D.bl)))
theorem len_law_overs (ds G Q E) (h : C_law_overs ds G Q E) : ds.length = 2 := by obtain ⟨_, _, _, rfl, _⟩ := h; rfl
abbrev N_law_overs : List Str := ["job", "at", "found", "work", "kids", "step", "kid"]
def T_law_overs : DX → DS := fun E => (dSeq (dAsg (dLc (diSeq (dVar 0)) (bdN 3) [3] dYes (dC (.bl false))) (dgName 2))
    (dSeq (dFor (diRange3 (dCons (dOp subD (dCB lenD (dCons (dVar 0) dNil)) (dC (.int 1))) (dCons (dUn negD (dC (.int 1))) (dCons (dUn negD (dC (.int 1))) dNil)))) (dgName 3) (dSeq (dAsg (dLc (diSeq (dOp itemD (dOp itemD (dVar 0) (dVar 3)) (dC (.int 1)))) (bdN 5) [5] (dTest (dOp eqD (dOp itemD (dVar 5) (dC (.int 0))) (dC (.str "send")))) (dOp itemD (dVar 5) (dC (.int 1)))) (dgName 4))
    (dAsg (dAndV (dOp eqD (dOp itemD (dVar 1) (dVar 3)) (dCB lenD (dCons (dOp itemD (dOp itemD (dVar 0) (dVar 3)) (dC (.int 1))) dNil))) (dOp (inD true) (dC (.bl false)) (dLc (diSeq (dVar 4)) (bdN 6) [6] dYes (dOp itemD (dVar 2) (dVar 6))))) (dgSub (dVar 2) (dVar 3)))))
    (dRet (dVar 2))))
theorem run_law_overs (ds G Q E) (h : C_law_overs ds G Q E) : T_law_overs E { nx := fun _ G' => DrK Q .non G', rt := DrK Q, bk := fun _ _ => False, ct := fun _ _ => False } (dstart N_law_overs ds) G := by
  obtain ⟨j, a, f, rfl, hj, hla, ha, q⟩ := h
  have hl1 := hj.l1
  have hl12 := hj.l12
  show T_law_overs E _ [some (.tup (j.map encWork)), some (.ref a), none, none, none, none, none] G
  unfold T_law_overs
  walk_at "run"
  intro p hp
  have ap : a ≠ p := gne ha hp
  refine comp_map j encWork (fun _ => .bl false) (by omega) hp (fun _ => trivial) (fun x hx o => ⟨_, rfl, fun QD h => h⟩) ?_
  walk_at "run"
  have e0 : j.map (fun _ => D.bl false) = (ovl j f.a 0).map D.bl := by
    unfold ovl
    rw [List.map_map]
    apply List.ext_getElem?
    intro k
    by_cases hk : k < j.length
    · rw [List.getElem?_map, List.getElem?_map, List.getElem?_range hk, List.getElem?_eq_getElem hk]
      simp
      omega
    · rw [List.getElem?_eq_none (by simp; omega), List.getElem?_eq_none (by simp; omega)]
  rw [e0]
  refine loop_inv (fun i σ G' => ∃ v3 v4 v5 v6, σ = [some (.tup (j.map encWork)), some (.ref a), some (.ref p), v3, v4, v5, v6] ∧ G' = up G p (.lst ((ovl j f.a i).map D.bl))) ⟨_, _, _, _, rfl, rfl⟩ (fun _ _ _ _ _ => trivial) (fun i d σ' G' N hd hi hP hN => ?_) (fun σ' G' hP => ?_)
  · obtain ⟨v3, v4, v5, v6, rfl, rfl⟩ := hP
    have hlen : (downD (((j.map encWork).length : Int) - 1) (-1)).length = j.length := by simp [downD]
    rw [hlen] at hi
    obtain ⟨w, hw, ed⟩ : ∃ w : Nat, w + 1 + i = j.length ∧ d = .int (w : Nat) := by
      refine ⟨j.length - 1 - i, by omega, ?_⟩
      unfold downD at hd
      rw [List.getElem?_map, List.getElem?_range (by simp; omega)] at hd
      cases hd
      congr 1
      simp
      omega
    subst ed
    have hwj : w < j.length := by omega
    obtain ⟨x, _, _, _, eW, _⟩ := hj.work hwj
    have h8 := steps8 hj w
    have k8 : (kidsOf j w).length ≤ 8 := kids8 hj w
    have ea : (f.at_.map encN)[w]? = some (.int (f.a w)) := getD_map (e := encN) (d := 0) (by omega)
    have ov : ∀ k, w < k → k < j.length → ((ovl j f.a i).map D.bl)[k]? = some (.bl (over j f.a k)) := fun k h1 h2 => by
      unfold ovl
      rw [List.getElem?_map, List.getElem?_map, List.getElem?_range h2]
      simp
      intro z
      omega
    walk_at "run"
    intro c1 hc1
    refine comp_pure (stepsOf j w) encStep (fun s => (sendOf s).isSome) (fun s => encN ((sendOf s).getD 0)) (by omega) hc1 (fun _ => trivial) (fun s hs o => ⟨_, rfl, fun QB h => ?_, fun hk QD h => ?_⟩) ?_
    · cases s with
      | doo => walk_at "run"; exact h
      | wait => walk_at "run"; exact h
      | send k => walk_at "run"; exact h
    · cases s with
      | doo => cases hk
      | wait => cases hk
      | send k => walk_at "run"; exact h
    rw [sends_filter]
    have hk1 : up (up G p (.lst ((ovl j f.a i).map D.bl))) c1 (.lst ((sends (stepsOf j w)).map encN)) c1 = some (.lst ((kidsOf j w).map encN)) := up_same
    have hx : ixN ((ovl j f.a i).map D.bl).length (w : Int) = some w := by simp only [ovl, List.length_map, List.length_range]; exact ixN_lt hwj
    have fin : ∀ (b : Bool) (G2 : DG), b = over j f.a w → G2 p = some (.lst ((ovl j f.a i).map D.bl)) → Le G G2 → (∀ o, up G2 p o = up G2 p o) → N [some (.tup (j.map encWork)), some (.ref a), some (.ref p), some (.int w), some (.ref c1), v5, v6] (up G2 p (.lst (((ovl j f.a i).map D.bl).set w (.bl b)))) := by
      intro b G2 hb hGp hle _
      refine hN _ _ (up G p (.lst ((ovl j f.a (i + 1)).map D.bl))) ?_ ⟨_, _, _, _, rfl, rfl⟩
      have e1 : ((ovl j f.a i).map D.bl).set w (.bl b) = (ovl j f.a (i + 1)).map D.bl := by
        rw [hb, map_setD]
        congr 1
        unfold ovl
        apply List.ext_getElem?
        intro k
        by_cases hk : k < j.length
        · by_cases ekw : k = w
          · subst ekw
            rw [List.getElem?_set_self (by simp; omega), List.getElem?_map, List.getElem?_range hk]
            simp
            intro z
            omega
          · rw [List.getElem?_set_ne (Ne.symm ekw), List.getElem?_map, List.getElem?_map, List.getElem?_range hk]
            simp only [Option.map_some]
            by_cases z : j.length - i ≤ k
            · rw [if_pos z, if_pos (by omega)]
            · rw [if_neg z, if_neg (by omega)]
        · rw [List.getElem?_eq_none (by simp; omega), List.getElem?_eq_none (by simp; omega)]
      rw [e1]
      exact le_up hle
    have l1 : Le G (up (up G p (.lst ((ovl j f.a i).map D.bl))) c1 (.lst ((sends (stepsOf j w)).map encN))) := le_new (up_free hc1) (le_new hp (.refl _))
    walk_at "run"
    refine br_bool (fun h => ?_) (fun h => ?_)
    · have h' : f.a w = (stepsOf j w).length := by
        have := beq_iff_eq.mp h
        rw [List.length_map] at this
        omega
      walk_at "run"
      intro c2 hc2
      refine comp_map (kidsOf j w) encN (fun k => .bl (over j f.a k)) (by omega) hc2 (fun o => up_nx (gne hk1 hc2) hk1) (fun k hk o => ⟨_, rfl, fun QD h => ?_⟩) ?_
      · have hkl := kids_lt hj hk
        have ek := ov k hkl.1 hkl.2
        have hGp : up (up (up G p (.lst ((ovl j f.a i).map D.bl))) c1 (.lst ((sends (stepsOf j w)).map encN))) c2 o p = some (.lst ((ovl j f.a i).map D.bl)) := by walk_at "look"
        walk_at "run"
        exact h
      rw [show (fun k => D.bl (over j f.a k)) = D.bl ∘ over j f.a from rfl, ← List.map_map]
      refine s_ninE (x := false) ok_B up_same ?_
      walk_at "run"
      refine fin _ _ ?_ (by walk_at "look") (le_new (up_free (up_free hc2)) l1) (fun _ => rfl)
      rw [Bool.eq_iff_iff, over_iff hj]
      simp [h']
    · have h' : f.a w ≠ (stepsOf j w).length := fun z => by
        have : ¬ ((f.a w : Int) = ((stepsOf j w).map encStep).length) := beq_eq_false_iff_ne.mp h
        rw [List.length_map] at this
        omega
      walk_at "run"
      refine fin _ _ ?_ (by walk_at "look") l1 (fun _ => rfl)
      cases e : over j f.a w with
      | false => rfl
      | true => exact absurd ((over_iff hj).mp e).1 h'
  · obtain ⟨v3, v4, v5, v6, rfl, rfl⟩ := hP
    have hlen : (downD (((j.map encWork).length : Int) - 1) (-1)).length = j.length := by simp [downD]
    rw [hlen]
    walk_at "run"
    have e1 : ovl j f.a j.length = (List.range j.length).map (over j f.a) := by
      unfold ovl
      refine List.map_congr_left fun k _ => ?_
      rw [if_pos (by omega)]
    rw [e1]
    exact s_rt (q p hp)
def C_law_sent : Ct := fun ds G Q _ => ∃ (j : Job) (a : Addr) (f : FSt) (w : Nat), ds = [encJob j, .ref a, .int (w : Nat)] ∧ JobOk j ∧ f.at_.length = j.length ∧ w < j.length ∧ G a = some (.lst (f.at_.map encN)) ∧ ∀ p, G p = none → Q (.ref p) (up G p (.lst ((sentOf j f w).map encN)))
theorem len_law_sent (ds G Q E) (h : C_law_sent ds G Q E) : ds.length = 3 := by obtain ⟨_, _, _, _, rfl, _⟩ := h; rfl
abbrev N_law_sent : List Str := ["job", "at", "work", "step"]
def T_law_sent : DX → DS := fun E => (dRet (dLc (diSeq (dSl (dOp itemD (dOp itemD (dVar 0) (dVar 2)) (dC (.int 1))) dNoPart (dPart (dOp itemD (dVar 1) (dVar 2))))) (bdN 3) [3] (dTest (dOp eqD (dOp itemD (dVar 3) (dC (.int 0))) (dC (.str "send")))) (dOp itemD (dVar 3) (dC (.int 1)))))
theorem run_law_sent (ds G Q E) (h : C_law_sent ds G Q E) : T_law_sent E { nx := fun _ G' => DrK Q .non G', rt := DrK Q, bk := fun _ _ => False, ct := fun _ _ => False } (dstart N_law_sent ds) G := by
  obtain ⟨j, a, f, w, rfl, hj, hla, hw, ha, q⟩ := h
  show T_law_sent E _ [some (.tup (j.map encWork)), some (.ref a), some (.int w), none] G
  obtain ⟨x, _, _, _, eW, _⟩ := hj.work hw
  have h8 := steps8 hj w
  have ea : (f.at_.map encN)[w]? = some (.int (f.a w)) := getD_map (e := encN) (d := 0) (by omega)
  unfold T_law_sent
  walk_at "run"
  rw [cutD_upto, ← List.map_take]
  intro p hp
  refine comp_pure ((stepsOf j w).take (f.a w)) encStep (fun s => (sendOf s).isSome) (fun s => encN ((sendOf s).getD 0)) (by simp; omega) hp (fun _ => trivial) (fun s hs o => ⟨_, rfl, fun QB h => ?_, fun hk QD h => ?_⟩) ?_
  · cases s with
    | doo => walk_at "run"; exact h
    | wait => walk_at "run"; exact h
    | send k => walk_at "run"; exact h
  · cases s with
    | doo => cases hk
    | wait => cases hk
    | send k => walk_at "run"; exact h
  rw [sends_filter]
  exact s_rt (q p hp)

def shStep : Stp → PyData
  | .doo => .tuple [.str "do"]
  | .wait => .tuple [.str "wait"]
  | .send k => .tuple [.str "send", .int k]
theorem py_step (n : Nat) (G : DG) (s : Stp) : pyD (n + 3) G (encStep s) = some (shStep s) := by
  have d1 : PyData.strOk (Str.ofString "do") = true := by decide +kernel
  have d2 : PyData.strOk (Str.ofString "wait") = true := by decide +kernel
  have d3 : PyData.strOk (Str.ofString "send") = true := by decide +kernel
  cases s with
  | doo => exact pyD_tup (pyAll_c (by simp [pyD, d1]) pyAll_nil)
  | wait => exact pyD_tup (pyAll_c (by simp [pyD, d2]) pyAll_nil)
  | send k => exact pyD_tup (pyAll_c (by simp [pyD, d3]) (pyAll_c pyD_int pyAll_nil))
theorem eq_step (s t : Stp) : PyData.eqv (shStep s) (shStep t) = decide (s = t) := by
  cases s <;> cases t <;> simp [shStep, PyData.eqv, PyData.eqvAll]
  · decide
  · rename_i a b
    by_cases h : a = b
    · simp [h]
    · simp [h]; omega
  · decide
theorem ok_S : EncOk encStep shStep := ⟨fun n G x => py_step (n + 1) G x, eq_step⟩
def encSS (l : List Stp) : D := .tup (l.map encStep)
def shSS (l : List Stp) : PyData := .tuple (l.map shStep)
theorem ok_SS : EncOk encSS shSS := ⟨fun n G x => pyD_tup (pyAll_map fun s _ => py_step n G s), fun x y => by
  show PyData.eqvAll (x.map shStep) (y.map shStep) = _
  exact ok_S.all x y⟩
theorem held_slice {j : Job} {f : FSt} {w : Nat} {inst : Decidable (((stepsOf j w).drop (f.a w)).take 1 ∈ [[Stp.wait], []])} : @decide (((stepsOf j w).drop (f.a w)).take 1 ∈ [[Stp.wait], []]) inst = heldS j f w := by
  have e : ((stepsOf j w).drop (f.a w)).take 1 = (nextS j f w).toList := by
    unfold nextS
    rw [List.take_one, List.head?_drop]
  rw [Bool.eq_iff_iff, decide_eq_true_iff, e]
  unfold heldS
  cases nextS j f w with
  | none => simp
  | some s => cases s <;> simp
def C_law_is_held : Ct := fun ds G Q _ => ∃ (j : Job) (a : Addr) (f : FSt) (w : Nat), ds = [encJob j, .ref a, .int (w : Nat)] ∧ JobOk j ∧ f.at_.length = j.length ∧ w < j.length ∧ G a = some (.lst (f.at_.map encN)) ∧ Q (.bl (heldS j f w)) G
theorem len_law_is_held (ds G Q E) (h : C_law_is_held ds G Q E) : ds.length = 3 := by obtain ⟨_, _, _, _, rfl, _⟩ := h; rfl
abbrev N_law_is_held : List Str := ["job", "at", "work"]
def T_law_is_held : DX → DS := fun E => (dRet (dOp (inD false) (dSl (dOp itemD (dOp itemD (dVar 0) (dVar 2)) (dC (.int 1))) (dPart (dOp itemD (dVar 1) (dVar 2))) (dPart (dOp addD (dOp itemD (dVar 1) (dVar 2)) (dC (.int 1))))) (dLst (dCons (dTup (dCons (dTup (dCons (dC (.str "wait")) dNil)) dNil)) (dCons (dTup dNil) dNil)))))
theorem cutD_one {xs : List D} {a : Nat} : cutD xs (some (a : Int)) (some ((a : Int) + 1)) = (xs.drop a).take 1 := by
  unfold cutD
  rw [show ((a : Int) + 1) = ((a + 1 : Nat) : Int) by omega, HT.sIx_nat, HT.sIx_nat]
  by_cases h : a < xs.length
  · rw [Nat.min_eq_left (by omega), Nat.min_eq_left (by omega)]
    congr 1
    omega
  · rw [List.drop_eq_nil_of_le (by omega), List.drop_eq_nil_of_le (by omega)]
    simp
theorem run_law_is_held (ds G Q E) (h : C_law_is_held ds G Q E) : T_law_is_held E { nx := fun _ G' => DrK Q .non G', rt := DrK Q, bk := fun _ _ => False, ct := fun _ _ => False } (dstart N_law_is_held ds) G := by
  obtain ⟨j, a, f, w, rfl, hj, hla, hw, ha, q⟩ := h
  show T_law_is_held E _ [some (.tup (j.map encWork)), some (.ref a), some (.int w)] G
  obtain ⟨x, _, _, _, eW, _⟩ := hj.work hw
  have ea : (f.at_.map encN)[w]? = some (.int (f.a w)) := getD_map (e := encN) (d := 0) (by omega)
  unfold T_law_is_held
  walk_at "run"
  rw [cutD_one, ← List.map_drop, ← List.map_take]
  intro p hp
  refine s_inE (x := ((stepsOf j w).drop (f.a w)).take 1) (xs := [[.wait], []]) ok_SS up_same ?_
  have fin : ∀ b, b = heldS j f w → DrK Q (.bl b) (up G p (.lst [.tup [.tup [.str "wait"]], .tup []])) := fun b e => by
    rw [e]
    exact s_rtD (le_new hp (.refl _)) q
  exact fin _ held_slice
def C_law_is_kept_off : Ct := fun ds G Q _ => ∃ (j : Job) (a : Addr) (f : FSt) (w : Nat), ds = [encJob j, .ref a, .int (w : Nat)] ∧ JobOk j ∧ f.at_.length = j.length ∧ w < j.length ∧ G a = some (.lst (f.at_.map encN)) ∧ Q (.bl (keptB j f w)) G
theorem len_law_is_kept_off (ds G Q E) (h : C_law_is_kept_off ds G Q E) : ds.length = 3 := by obtain ⟨_, _, _, _, rfl, _⟩ := h; rfl
abbrev N_law_is_kept_off : List Str := ["job", "at", "work", "overs", "kid"]
def T_law_is_kept_off : DX → DS := fun E => (dSeq (dAsg (dCall C_law_overs E (dCons (dVar 0) (dCons (dVar 1) dNil))) (dgName 3))
    (dRet (dAndV (dCall C_law_is_held E (dCons (dVar 0) (dCons (dVar 1) (dCons (dVar 2) dNil)))) (dOp (inD false) (dC (.bl false)) (dLc (diSeq (dCall C_law_sent E (dCons (dVar 0) (dCons (dVar 1) (dCons (dVar 2) dNil))))) (bdN 4) [4] dYes (dOp itemD (dVar 3) (dVar 4)))))))
theorem run_law_is_kept_off (ds G Q E) (h : C_law_is_kept_off ds G Q E) : T_law_is_kept_off E { nx := fun _ G' => DrK Q .non G', rt := DrK Q, bk := fun _ _ => False, ct := fun _ _ => False } (dstart N_law_is_kept_off ds) G := by
  obtain ⟨j, a, f, w, rfl, hj, hla, hw, ha, q⟩ := h
  show T_law_is_kept_off E _ [some (.tup (j.map encWork)), some (.ref a), some (.int w), none, none] G
  unfold T_law_is_kept_off
  walk_at "run"
  refine UpC.of ⟨j, a, f, rfl, hj, hla, ha, fun p hp => ?_⟩
  have ap : a ≠ p := gne ha hp
  walk_at "run"
  refine UpC.of ⟨j, a, f, w, rfl, hj, hla, hw, up_nx ap ha, ?_⟩
  walk_at "run"
  unfold keptB at q
  refine br_bool (fun h => ?_) (fun h => ?_)
  · rw [h, Bool.true_and] at q
    walk_at "run"
    refine UpC.of ⟨j, a, f, w, rfl, hj, hla, hw, up_nx ap ha, fun c1 hc1 => ?_⟩
    walk_at "run"
    intro c2 hc2
    have h8 : (sentOf j f w).length ≤ 8 := by
      have h1 := steps8 hj w
      have h2 : (sends ((stepsOf j w).take (f.a w))).length ≤ ((stepsOf j w).take (f.a w)).length := List.length_filterMap_le _ _
      rw [List.length_take] at h2
      unfold sentOf
      omega
    refine comp_map (sentOf j f w) encN (fun k => .bl (over j f.a k)) (by omega) hc2 (fun o => by walk_at "look") (fun k hk o => ⟨_, rfl, fun QD h => ?_⟩) ?_
    · have hkl := kids_lt hj (sent_kids hk)
      have ek : (((List.range j.length).map (over j f.a)).map D.bl)[k]? = some (.bl (over j f.a k)) := by
        rw [List.getElem?_map, List.getElem?_map, List.getElem?_range hkl.2]
        rfl
      walk_at "run"
      exact h
    rw [show (fun k => D.bl (over j f.a k)) = D.bl ∘ over j f.a from rfl, ← List.map_map]
    refine s_inE (x := false) ok_B up_same ?_
    have e : decide (false ∈ (sentOf j f w).map (over j f.a)) = (sentOf j f w).any fun k => !over j f.a k := by
      rw [Bool.eq_iff_iff, decide_eq_true_iff, List.any_eq_true]
      simp
    rw [e]
    exact s_rtD (G0 := G) (le_new (up_free (up_free hc2)) (le_new (up_free hc1) (le_new hp (.refl _)))) q
  · rw [h, Bool.false_and] at q
    exact s_rtD (le_new hp (.refl _)) q
/-! ### its state on the heap -/
structure LwA where
  at_ : Addr
  hold : Addr
  pil : Addr
  pc : List Addr
def LwA.own (A : LwA) : List Addr := A.at_ :: A.hold :: A.pil :: A.pc
structure LwAt (G : DG) (A : LwA) (f : FSt) : Prop where
  at_ : G A.at_ = some (.lst (f.at_.map encN))
  hold : G A.hold = some (.lst (f.cur.map encO))
  pil : G A.pil = some (.lst (A.pc.map .ref))
  pln : A.pc.length = f.piles.length
  pc : ∀ (i : Nat) c l, A.pc[i]? = some c → f.piles[i]? = some l → G c = some (.lst (l.map encN))
  nd : A.own.Nodup
section
variable {G G' : DG} {A : LwA} {f : FSt}
theorem LwAt.le (h : LwAt G A f) (l : Le G G') : LwAt G' A f := ⟨l _ _ h.at_, l _ _ h.hold, l _ _ h.pil, h.pln, fun i c x e1 e2 => l _ _ (h.pc i c x e1 e2), h.nd⟩
theorem LwAt.some_ (h : LwAt G A f) {a : Addr} (ha : a ∈ A.own) : ∃ o, G a = some o := by
  simp only [LwA.own, List.mem_cons] at ha
  rcases ha with rfl | rfl | rfl | ha
  · exact ⟨_, h.at_⟩
  · exact ⟨_, h.hold⟩
  · exact ⟨_, h.pil⟩
  · obtain ⟨i, hi, e⟩ := List.mem_iff_getElem.mp ha
    exact ⟨_, h.pc i a (f.piles[i]'(h.pln ▸ hi)) (by rw [List.getElem?_eq_getElem hi, e]) (List.getElem?_eq_getElem _)⟩
theorem LwAt.notin (h : LwAt G A f) {a : Addr} (ha : G a = none) : a ∉ A.own := fun m => by
  obtain ⟨o, e⟩ := h.some_ m
  rw [ha] at e
  cases e
theorem LwAt.other (h : LwAt G A f) {p : Addr} {o : O} (hp : p ∉ A.own) : LwAt (up G p o) A f := by
  have m : ∀ {a}, a ∈ A.own → ∀ {x}, G a = some x → up G p o a = some x := fun {a} ha {x} e => up_nx (fun z => hp (z ▸ ha)) e
  exact ⟨m (by simp [LwA.own]) h.at_, m (by simp [LwA.own]) h.hold, m (by simp [LwA.own]) h.pil, h.pln, fun i c l e1 e2 => m (by simp [LwA.own, List.mem_of_getElem? e1]) (h.pc i c l e1 e2), h.nd⟩
theorem LwAt.setHold (h : LwAt G A f) (g : FSt) (h1 : g.at_ = f.at_) (h2 : g.piles = f.piles) : LwAt (up G A.hold (.lst (g.cur.map encO))) A g := by
  have nd := h.nd
  simp only [LwA.own, List.nodup_cons, List.mem_cons, not_or] at nd
  obtain ⟨n1, n2, n3, n4⟩ := nd
  refine ⟨up_nx (by grind) (by rw [h1]; exact h.at_), up_same, up_nx (by grind) h.pil, by rw [h2]; exact h.pln, fun i c l e1 e2 => up_nx (fun z => ?_) (h.pc i c l e1 (by rw [← h2]; exact e2)), h.nd⟩
  have := List.mem_of_getElem? e1
  grind
theorem LwAt.setAt (h : LwAt G A f) (g : FSt) (h1 : g.cur = f.cur) (h2 : g.piles = f.piles) : LwAt (up G A.at_ (.lst (g.at_.map encN))) A g := by
  have nd := h.nd
  simp only [LwA.own, List.nodup_cons, List.mem_cons, not_or] at nd
  obtain ⟨n1, n2, n3, n4⟩ := nd
  refine ⟨up_same, up_nx (by grind) (by rw [h1]; exact h.hold), up_nx (by grind) h.pil, by rw [h2]; exact h.pln, fun i c l e1 e2 => up_nx (fun z => ?_) (h.pc i c l e1 (by rw [← h2]; exact e2)), h.nd⟩
  have := List.mem_of_getElem? e1
  grind
theorem LwAt.setPil (h : LwAt G A f) {i : Nat} {c : Addr} (hc : A.pc[i]? = some c) (l : List Nat) (g : FSt) (h1 : g.cur = f.cur) (h2 : g.at_ = f.at_) (h3 : g.piles = f.piles.set i l) : LwAt (up G c (.lst (l.map encN))) A g := by
  have nd := h.nd
  have hm := List.mem_of_getElem? hc
  simp only [LwA.own, List.nodup_cons, List.mem_cons, not_or] at nd
  obtain ⟨n1, n2, n3, n4⟩ := nd
  refine ⟨up_nx (by grind) (by rw [h2]; exact h.at_), up_nx (by grind) (by rw [h1]; exact h.hold), up_nx (by grind) h.pil, by rw [h3]; simp [h.pln], fun k d x e1 e2 => ?_, h.nd⟩
  rw [h3] at e2
  by_cases e : k = i
  · subst e
    have hi := (List.getElem?_eq_some_iff.mp hc).1
    rw [List.getElem?_set_self (h.pln ▸ hi)] at e2
    rw [hc] at e1
    cases e1
    cases e2
    exact up_same
  · rw [List.getElem?_set_ne (Ne.symm e)] at e2
    refine up_nx (fun z => ?_) (h.pc k d x e1 e2)
    subst z
    obtain ⟨l1, f1⟩ := List.getElem?_eq_some_iff.mp e1
    obtain ⟨l2, f2⟩ := List.getElem?_eq_some_iff.mp hc
    exact e ((List.getElem_inj (h₀ := l1) (h₁ := l2) n4).mp (f1.trans f2.symm))
theorem LwAt.as (h : LwAt G A f) (g : FSt) (h1 : g.at_ = f.at_) (h2 : g.piles = f.piles) (h3 : g.cur = f.cur) : LwAt G A g := ⟨by rw [h1]; exact h.at_, by rw [h3]; exact h.hold, h.pil, by rw [h2]; exact h.pln, fun i c l e1 e2 => h.pc i c l e1 (by rw [← h2]; exact e2), h.nd⟩
end

theorem settleN_keep (j : Job) (hand : Nat) : ∀ (n : Nat) (f : FSt) (o : Option Nat), (settleN j hand n f o).at_ = f.at_ ∧ (settleN j hand n f o).piles = f.piles
  | 0, f, o => ⟨rfl, rfl⟩
  | n + 1, f, none => ⟨rfl, rfl⟩
  | n + 1, f, some w => by
    unfold settleN
    have e : (endS j f w).1.at_ = f.at_ ∧ (endS j f w).1.piles = f.piles := by
      unfold endS
      split
      · exact ⟨rfl, rfl⟩
      · split <;> exact ⟨rfl, rfl⟩
    split
    · split
      · exact ⟨rfl, rfl⟩
      · split
        · exact ⟨rfl, rfl⟩
        · have := settleN_keep j hand n { (endS j f w).1 with cur := (endS j f w).1.cur.set hand (endS j f w).2 } (endS j f w).2
          exact ⟨this.1.trans e.1, this.2.trans e.2⟩
    · exact ⟨rfl, rfl⟩
theorem endS_keep (j : Job) (f : FSt) (w : Nat) : (endS j f w).1.at_ = f.at_ ∧ (endS j f w).1.piles = f.piles ∧ (endS j f w).1.cur = f.cur := by
  unfold endS
  split
  · exact ⟨rfl, rfl, rfl⟩
  · split <;> exact ⟨rfl, rfl, rfl⟩
def C_law_settle : Ct := fun ds G Q _ => ∃ (j : Job) (u : Addr) (A : LwA) (f : FSt) (hands hand : Nat), ds = [encJob j, .ref u, .tup [.ref A.at_, .ref A.hold, .ref A.pil], .int (hand : Nat)] ∧ JobOk j ∧ G u = some (.lst ((upsOf j).map encO)) ∧ u ≠ A.hold ∧ LwAt G A f ∧ FB j hands f ∧ (∀ y x, y ≠ hand → f.cu y = some x → SetS j f x) ∧ hand < hands ∧ hands ≤ 100 ∧
  ∀ G', LwAt G' A (settleS j f hand) → LeX [A.hold] G G' → Q .non G'
theorem len_law_settle (ds G Q E) (h : C_law_settle ds G Q E) : ds.length = 4 := by obtain ⟨_, _, _, _, _, _, rfl, _⟩ := h; rfl
abbrev N_law_settle : List Str := ["job", "up", "state", "hand", "at", "hold", "piles", "turn", "work", "above", "lying", "pile"]
def T_law_settle : DX → DS := fun E => (dSeq (dAsg (dVar 2) (dgTup 3 (dgCons (dgName 4) (dgCons (dgName 5) (dgCons (dgName 6) dgNil)))))
    (dFor (diRange (dCons (dOp addD (dCB lenD (dCons (dVar 0) dNil)) (dC (.int 1))) dNil)) (dgName 7) (dSeq (dAsg (dOp itemD (dVar 5) (dVar 3)) (dgName 8))
    (dSeq (dIf (dTest (dOp (isD false) (dVar 8) (dC .non))) dRetN dNext)
    (dIf (dTru (dOp itemD (dCall C_law_overs E (dCons (dVar 0) (dCons (dVar 4) dNil))) (dVar 8))) (dSeq (dAsg (dOp itemD (dVar 1) (dVar 8)) (dgName 9))
    (dSeq (dAsg (dC .non) (dgSub (dVar 5) (dVar 3)))
    (dSeq (dAsg (dCB listD (dCons (dVar 5) dNil)) (dgName 10))
    (dSeq (dFor (diSeq (dVar 6)) (dgName 11) (dAsg (dOp addD (dVar 10) (dVar 11)) (dgName 10)))
    (dIf (dAnd (dTest (dOp (isD true) (dVar 9) (dC .non))) (dAnd (dTest (dOp (inD true) (dVar 9) (dVar 10))) (dNot (dTru (dCall C_law_is_kept_off E (dCons (dVar 0) (dCons (dVar 4) (dCons (dVar 9) dNil)))))))) (dAsg (dVar 9) (dgSub (dVar 5) (dVar 3))) dNext))))) (dIf (dTru (dCall C_law_is_kept_off E (dCons (dVar 0) (dCons (dVar 4) (dCons (dVar 8) dNil))))) (dAsg (dC .non) (dgSub (dVar 5) (dVar 3))) dRetN))))))
theorem mem_lying {hands : Nat} {j : Job} {f : FSt} (h : FB j hands f) {hand u : Nat} (hh : hand < hands) : (some u ∈ f.cur.set hand none ++ (f.piles.flatten).map some) ↔ (∃ y, y ≠ hand ∧ f.cu y = some u) ∨ ∃ y, u ∈ f.pl y := by
  rw [List.mem_append]
  refine or_congr ⟨fun z => ?_, fun ⟨y, hy, e⟩ => ?_⟩ ⟨fun z => ?_, fun ⟨y, e⟩ => ?_⟩
  · obtain ⟨y, hy, e⟩ := List.mem_iff_getElem.mp z
    rw [List.length_set] at hy
    by_cases q : hand = y
    · subst q
      rw [List.getElem_set_self] at e
      cases e
    · rw [List.getElem_set_ne q] at e
      refine ⟨y, Ne.symm q, ?_⟩
      have := FSt.cu_get hy
      rw [List.getElem?_eq_getElem hy, e] at this
      exact (Option.some.inj this).symm
  · have hy2 := h.hin e
    have hc : f.cur[y]? = some (some u) := by rw [FSt.cu_get (by rw [h.len.cur]; exact hy2), e]
    exact List.mem_of_getElem? (i := y) (by rw [List.getElem?_set_ne (Ne.symm hy)]; exact hc)
  · obtain ⟨x, hx, e⟩ := List.mem_map.mp z
    cases e
    obtain ⟨l, hl, hxl⟩ := List.mem_flatten.mp hx
    obtain ⟨y, hy, e⟩ := List.mem_iff_getElem.mp hl
    refine ⟨y, ?_⟩
    have := FSt.pl_get hy
    rw [List.getElem?_eq_getElem hy, e] at this
    rw [← Option.some.inj this]
    exact hxl
  · have hy := h.pin e
    exact List.mem_map.mpr ⟨u, List.mem_flatten.mpr ⟨f.pl y, List.mem_of_getElem? (FSt.pl_get (by rw [h.len.piles]; exact hy)), e⟩, rfl⟩
theorem run_law_settle (ds G Q E) (h : C_law_settle ds G Q E) : T_law_settle E { nx := fun _ G' => DrK Q .non G', rt := DrK Q, bk := fun _ _ => False, ct := fun _ _ => False } (dstart N_law_settle ds) G := by
  obtain ⟨j, u, A, f, hands, hand, rfl, hj, hu, huh, LW, hB, hS, hh, hh100, q⟩ := h
  have hl12 := hj.l12
  have hl1 := hj.l1
  show T_law_settle E _ [some (.tup (j.map encWork)), some (.ref u), some (.tup [.ref A.at_, .ref A.hold, .ref A.pil]), some (.int hand), none, none, none, none, none, none, none, none] G
  unfold T_law_settle
  walk_at "run"
  refine loop_inv (fun i σ G' => ∃ (f1 : FSt) (n : Nat) (v7 v8 v9 v10 v11 : Option D), LwAt G' A f1 ∧ FB j hands f1 ∧ (∀ y x, y ≠ hand → f1.cu y = some x → SetS j f1 x) ∧ settleN j hand (n + 1) f1 (f1.cu hand) = settleS j f hand ∧ (∀ w, f1.cu hand = some w → w < n ∧ w + i < j.length) ∧ LeX [A.hold] G G' ∧
    σ = [some (.tup (j.map encWork)), some (.ref u), some (.tup [.ref A.at_, .ref A.hold, .ref A.pil]), some (.int hand), some (.ref A.at_), some (.ref A.hold), some (.ref A.pil), v7, v8, v9, v10, v11]) ⟨f, j.length, none, none, none, none, none, LW, hB, hS, rfl, fun w e => ?_, lex_refl, rfl⟩ (fun _ _ _ _ _ => trivial) (fun i d σ' G' N hd hi hP hN => ?_) (fun σ' G' hP => ?_)
  · have := hB.inr (w := w) (by rw [(hB.cl hand w e).1]; simp)
    exact ⟨this, by omega⟩
  · obtain ⟨f1, n, v7, v8, v9, v10, v11, L1, B1, S1, hset, hw1, X1, rfl⟩ := hP
    obtain ⟨rfl, hi2⟩ := rangeD_get0 hd
    have hat := L1.at_
    have hho := L1.hold
    have hpi := L1.pil
    have l1 := B1.len.cur
    have l6 := B1.len.at_
    have l5 := B1.len.piles
    have hGu : G' u = some (.lst ((upsOf j).map encO)) := X1 u _ (by simpa using huh) hu
    have ec : (f1.cur.map encO)[hand]? = some (encO (f1.cu hand)) := getD_map (e := encO) (d := none) (by omega)
    have xh : ixN (f1.cur.map encO).length (hand : Int) = some hand := by rw [List.length_map]; exact ixN_lt (by omega)
    walk_at "run"
    cases hc : f1.cu hand with
    | none =>
      have ee : encO none = .non := rfl
      rw [ee]
      rw [hc] at hset
      have hset' : f1 = settleS j f hand := hset
      walk_at "run"
      exact s_rt (q G' (hset' ▸ L1) X1)
    | some w =>
      have ee : encO (some w) = .int w := rfl
      rw [ee]
      obtain ⟨hwn, hwi⟩ := hw1 w hc
      obtain ⟨hwl, hwas⟩ := B1.cl hand w hc
      have hwj : w < j.length := by omega
      have lo := loose_over hj B1 hc S1
      have lk := loose_kept hj B1 hc S1
      rw [hc] at hset
      unfold settleN at hset
      walk_at "run"
      refine UpC.of ⟨j, A.at_, f1, rfl, hj, l6, hat, fun c1 hc1 => ?_⟩
      have eo : (((List.range j.length).map (over j f1.a)).map D.bl)[w]? = some (.bl (over j f1.a w)) := by
        rw [List.getElem?_map, List.getElem?_map, List.getElem?_range hwj]
        rfl
      have le1 : Le G' (up G' c1 (.lst (((List.range j.length).map (over j f1.a)).map D.bl))) := le_new hc1 (.refl _)
      walk_at "run"
      refine br_bool (fun ho => ?_) (fun ho => ?_)
      · -- it is over
        obtain ⟨hnx, hkd⟩ := lo.mp ho
        have hheld : heldS j f1 w = true := by unfold heldS; rw [hnx]
        rw [if_pos hheld, if_neg (by omega), if_neg (by rw [hnx]; simp)] at hset
        have eu : ((upsOf j).map encO)[w]? = some (encO (parO j w)) := by
          rw [List.getElem?_map]
          unfold upsOf
          rw [List.getElem?_map, List.getElem?_range hwj]
          rfl
        walk_at "run"
        have exs : (f1.cur.map encO).set hand .non = (f1.cur.set hand none).map encO := map_setD (e := encO) (x := none)
        rw [exs]
        have L2 : LwAt (up (up G' c1 (.lst (((List.range j.length).map (over j f1.a)).map D.bl))) A.hold (.lst ((f1.cur.set hand none).map encO))) A { f1 with cur := f1.cur.set hand none } := (L1.le le1).setHold { f1 with cur := f1.cur.set hand none } rfl rfl
        have X2 : LeX [A.hold] G (up (up G' c1 (.lst (((List.range j.length).map (over j f1.a)).map D.bl))) A.hold (.lst ((f1.cur.set hand none).map encO))) := lex_mem (by simp) (lex_new' X1 hc1)
        generalize up (up G' c1 (.lst (((List.range j.length).map (over j f1.a)).map D.bl))) A.hold (.lst ((f1.cur.set hand none).map encO)) = G2 at L2 X2
        clear hat hho hpi hGu hc1 le1
        have hpi : G2 A.pil = some (.lst (A.pc.map .ref)) := L2.pil
        have hpln : A.pc.length = f1.piles.length := L2.pln
        intro c2 hc2
        walk_at "run"
        have pl12 : ∀ l ∈ f1.piles, l.length ≤ 12 := fun l hl => by
          obtain ⟨y, hy, e⟩ := List.mem_iff_getElem.mp hl
          have := FSt.pl_get hy
          rw [List.getElem?_eq_getElem hy, e] at this
          rw [Option.some.inj this]
          exact B1.pl12 hj y
        have fl : ∀ i', ((f1.piles.take i').flatten).length ≤ 12 * i' := fun i' => by
          induction i' with
          | zero => simp
          | succ i' ih =>
            rw [List.take_add_one]
            cases e : f1.piles[i']? with
            | none => simp at ih ⊢; omega
            | some l =>
              have := pl12 l (List.mem_of_getElem? e)
              simp at ih ⊢
              omega
        refine loop_inv (fun i' σ G3 => ∃ (y : Addr) (v11 : Option D), Le G2 G3 ∧ G3 y = some (.lst ((f1.cur.set hand none ++ ((f1.piles.take i').flatten).map some).map encO)) ∧ σ = [some (.tup (j.map encWork)), some (.ref u), some (.tup [.ref A.at_, .ref A.hold, .ref A.pil]), some (.int hand), some (.ref A.at_), some (.ref A.hold), some (.ref A.pil), some (.int i), some (.int w), some (encO (parO j w)), some (.ref y), v11]) ⟨c2, _, le_new hc2 (.refl _), by simp; exact up_same, rfl⟩ (fun _ _ G3 _ hP => ?_) (fun i' d σ' G3 N2 hd2 hi' hP hN2 => ?_) (fun σ' G3 hP => ?_)
        · obtain ⟨y, v11, le3, _⟩ := hP
          exact le3 _ _ hpi
        · obtain ⟨y, v11, le3, hy, rfl⟩ := hP
          rw [List.length_map] at hi'
          rw [List.getElem?_map, List.getElem?_eq_getElem hi'] at hd2
          cases hd2
          have el : f1.piles[i']? = some (f1.piles[i']'(by omega)) := List.getElem?_eq_getElem _
          have hGc : G3 A.pc[i'] = some (.lst ((f1.piles[i']'(by omega)).map encN)) := le3 _ _ (L2.pc i' _ _ (List.getElem?_eq_getElem hi') el)
          have hl := pl12 _ (List.mem_of_getElem? el)
          have hfl := fl i'
          generalize (f1.piles[i']'(by omega)) = l at el hGc hl
          generalize A.pc[i'] = c at hGc
          walk_at "run"
          refine s_addL hy hGc (szL (by simp only [List.length_map, List.length_append, List.length_set]; omega)) (fun y2 hy2 => ?_)
          walk_at "run"
          refine hN2 _ _ _ (.refl _) ⟨y2, _, le3.trans (le_new hy2 (.refl _)), ?_, rfl⟩
          rw [up_same, List.take_add_one, el]
          simp only [Option.toList_some, List.flatten_append, List.flatten_cons, List.flatten_nil, List.append_nil, List.map_append, List.append_assoc, List.map_map]
          rfl
        · obtain ⟨y, v11, le3, hy, rfl⟩ := hP
          rw [List.length_map, List.take_of_length_le (by omega)] at hy
          have L3 := L2.le le3
          have X3 : LeX [A.hold] G G3 := fun b o h e => le3 b o (X2 b o h e)
          have hat3 : G3 A.at_ = some (.lst (f1.at_.map encN)) := L3.at_
          have hho3 : G3 A.hold = some (.lst ((f1.cur.set hand none).map encO)) := L3.hold
          obtain ⟨b1, b2, b3, b4⟩ := B1.end_ hj hc hnx hkd
          obtain ⟨_, _, _, _, _, _, _, _, vu⟩ := end_view hj B1.len hwj
          obtain ⟨k1, k2, k3⟩ := endS_keep j f1 w
          have hu2 := (B1.len.end_ hj (w := w)).2
          obtain ⟨n', rfl⟩ : ∃ n', n = n' + 1 := ⟨n - 1, by omega⟩
          have fin : ∀ (o : Option Nat) (G4 : DG), o = (endS j f1 w).2 → LwAt G4 A { f1 with cur := f1.cur.set hand o } → LeX [A.hold] G G4 → N [some (.tup (j.map encWork)), some (.ref u), some (.tup [.ref A.at_, .ref A.hold, .ref A.pil]), some (.int hand), some (.ref A.at_), some (.ref A.hold), some (.ref A.pil), some (.int i), some (.int w), some (encO (parO j w)), some (.ref y), v11] G4 := by
            intro o G4 eo2 L4 X4
            subst eo2
            refine hN _ _ _ (.refl _) ⟨{ (endS j f1 w).1 with cur := (endS j f1 w).1.cur.set hand (endS j f1 w).2 }, n', _, _, _, _, _, L4.as _ k1 k2 (by show (endS j f1 w).1.cur.set hand _ = f1.cur.set hand _; rw [k3]), b1, fun y' x hy' e => b4 y' x hy' (b3 y' x hy' e) (S1 y' x hy' (b3 y' x hy' e)), by rw [b2]; exact hset, fun w' e => ?_, X4, rfl⟩
            rw [b2] at e
            have := hu2 w' e
            omega
          have onone : (∀ x, parO j w = some x → f1.as x = true → f1.kd x - 1 ≤ 0 → False) → none = (endS j f1 w).2 := fun z => by
            cases e : (endS j f1 w).2 with
            | none => rfl
            | some x =>
              obtain ⟨a1, a2, a3⟩ := (vu x).mp e
              exact (z x a1 a2 a3).elim
          walk_at "run"
          cases ep : parO j w with
          | none =>
            have e1 : encO none = .non := rfl
            rw [ep] at fin
            rw [e1] at fin ⊢
            walk_at "run"
            exact fin none G3 (onone fun x hx => by rw [ep] at hx; cases hx) L3 X3
          | some u1 =>
            have e1 : encO (some u1) = .int u1 := rfl
            rw [ep] at fin
            rw [e1] at fin ⊢
            have hu1 := par_lt hj ep
            have hul : f1.s u1 = .liv := B1.par ((par_some hj).mp ep) hwl
            have ml := mem_lying B1 (hand := hand) (u := u1) hh
            have u1x : ∀ x, parO j w = some x → x = u1 := fun x hx => by rw [ep] at hx; exact (Option.some.inj hx).symm
            walk_at "run"
            refine s_ninE (x := some u1) ok_O hy ?_
            walk_at "run"
            refine br_bool (fun hm0 => ?_) (fun hm0 => ?_)
            rotate_left
            · have hm : some u1 ∈ f1.cur.set hand none ++ (f1.piles.flatten).map some := by
                simp only [Bool.not_eq_false', decide_eq_true_iff] at hm0
                exact hm0
              walk_at "run"
              refine fin none G3 (onone fun x hx has _ => ?_) L3 X3
              rw [u1x x hx] at has
              rcases ml.mp hm with ⟨y', _, e⟩ | ⟨y', e⟩
              · rw [(B1.cl y' u1 e).2] at has; cases has
              · rw [(B1.pl y' u1 e).2.1] at has; cases has
            · have hm : ¬ (some u1 ∈ f1.cur.set hand none ++ (f1.piles.flatten).map some) := by
                simp only [Bool.not_eq_true', decide_eq_false_iff_not] at hm0
                exact hm0
              have has : f1.as u1 = true := by
                rcases B1.lv u1 hul with ⟨y', e⟩ | ⟨y', e⟩ | e
                · by_cases hy' : y' = hand
                  · rw [hy', hc] at e
                    cases e
                    omega
                  · exact absurd (ml.mpr (.inl ⟨y', hy', e⟩)) hm
                · exact absurd (ml.mpr (.inr ⟨y', e⟩)) hm
                · exact e
              have lu := loose_up hj B1 hc S1 ho ep has
              walk_at "run"
              refine UpC.of ⟨j, A.at_, f1, u1, rfl, hj, l6, by omega, hat3, ?_⟩
              walk_at "run"
              cases ek : keptB j f1 u1 with
              | true =>
                walk_at "run"
                refine fin none G3 (onone fun x hx _ hk => ?_) L3 X3
                rw [u1x x hx] at hk
                rw [lu.mpr hk] at ek
                cases ek
              | false =>
                have xh3 : ixN ((f1.cur.set hand none).map encO).length (hand : Int) = some hand := by rw [List.length_map, List.length_set]; exact ixN_lt (by omega)
                walk_at "run"
                have e2 : ((f1.cur.set hand none).map encO).set hand (.int u1) = (f1.cur.set hand (some u1)).map encO := by
                  rw [show D.int u1 = encO (some u1) from rfl, map_setD, List.set_set]
                rw [e2]
                exact fin (some u1) _ ((vu u1).mpr ⟨ep, has, lu.mp ek⟩).symm (L3.setHold { f1 with cur := f1.cur.set hand (some u1) } rfl rfl) (lex_mem (by simp) X3)
      · -- it isn't over
        have hno : ¬ (nextS j f1 w = none ∧ f1.kd w ≤ 0) := fun z => by rw [lo.mpr z] at ho; cases ho
        walk_at "run"
        refine UpC.of ⟨j, A.at_, f1, w, rfl, hj, l6, hwj, le1 _ _ hat, ?_⟩
        walk_at "run"
        refine br_bool (fun hk => ?_) (fun hk => ?_)
        · obtain ⟨k1, k2⟩ := lk.mp hk
          rw [if_pos k1, if_pos k2] at hset
          have hho1 := le1 _ _ hho
          walk_at "run"
          have exs : (f1.cur.map encO).set hand .non = (f1.cur.set hand none).map encO := map_setD (e := encO) (x := none)
          rw [exs]
          have ok := settle_ok hj (hand := hand) n f1 (some w) B1 S1 hc hh fun w' e => by cases e; exact hwn
          unfold settleN at ok
          rw [if_pos k1, if_pos k2] at ok
          have hcn : ({ f1 with asd := f1.asd.set w true, cur := f1.cur.set hand none } : FSt).cu hand = none := by
            show (f1.cur.set hand none).getD hand none = none
            rw [getD_set (by omega), if_pos rfl]
          refine hN _ _ _ (.refl _) ⟨{ f1 with asd := f1.asd.set w true, cur := f1.cur.set hand none }, n, _, _, _, _, _, (L1.le le1).setHold { f1 with asd := f1.asd.set w true, cur := f1.cur.set hand none } rfl rfl, ok.b, fun y x _ e => ok.st y x e, ?_, fun w' e => (by rw [hcn] at e; cases e), lex_mem (by simp) (lex_new' X1 hc1), rfl⟩
          rw [hcn]
          exact hset
        · have hkn : ¬ (heldS j f1 w = true ∧ 0 < f1.kd w) := fun z => by rw [lk.mpr z] at hk; cases hk
          have hset' : f1 = settleS j f hand := by
            rw [← hset]
            split
            · rename_i z
              rw [if_neg fun z2 => hkn ⟨z, z2⟩, if_pos]
              cases en : nextS j f1 w with
              | none => exact absurd ⟨en, Int.not_lt.mp fun q2 => hkn ⟨z, q2⟩⟩ hno
              | some s => rfl
            · rfl
          walk_at "run"
          exact s_rtD le1 (q G' (hset' ▸ L1) X1)
  · obtain ⟨f1, n, v7, v8, v9, v10, v11, L1, B1, S1, hset, hw1, X1, rfl⟩ := hP
    have hcn : f1.cu hand = none := by
      cases e : f1.cu hand with
      | none => rfl
      | some w =>
        have := (hw1 w e).2
        rw [rangeD_length, List.length_map] at this
        omega
    rw [hcn] at hset
    have hset' : f1 = settleS j f hand := hset
    exact s_rt (q G' (hset' ▸ L1) X1)

def C_law_go : Ct := fun ds G Q _ => ∃ (j : Job) (u : Addr) (A : LwA) (f : FSt) (hands hand other : Nat), ds = [encJob j, .ref u, .tup [.ref A.at_, .ref A.hold, .ref A.pil], .int (hand : Nat), .int (other : Nat)] ∧ JobOk j ∧ G u = some (.lst ((upsOf j).map encO)) ∧ u ∉ A.own ∧ LwAt G A f ∧ FOk j hands f ∧ hand < hands ∧ other < hands ∧ hands ≤ 100 ∧
  ∀ G', LwAt G' A (goS j f hand other).1 → LeX A.own G G' → Q (encTell (goS j f hand other).2) G'
theorem len_law_go (ds G Q E) (h : C_law_go ds G Q E) : ds.length = 5 := by obtain ⟨_, _, _, _, _, _, _, rfl, _⟩ := h; rfl
abbrev N_law_go : List Str := ["job", "up", "state", "hand", "other", "at", "hold", "piles", "work", "number"]
def T_law_go : DX → DS := fun E => (dSeq (dAsg (dVar 2) (dgTup 3 (dgCons (dgName 5) (dgCons (dgName 6) (dgCons (dgName 7) dgNil)))))
    (dSeq (dAsg (dOp itemD (dVar 6) (dVar 3)) (dgName 8))
    (dSeq (dIf (dAnd (dTest (dOp (isD false) (dVar 8) (dC .non))) (dTest (dOp neD (dOp itemD (dVar 7) (dVar 3)) (dLst dNil)))) (dSeq (dAsg (dMt popD (dOp itemD (dVar 7) (dVar 3)) dNil) (dgSub (dVar 6) (dVar 3)))
    (dRet (dTup (dCons (dC (.str "own")) (dCons (dOp itemD (dVar 6) (dVar 3)) dNil))))) dNext)
    (dSeq (dIf (dAnd (dTest (dOp (isD false) (dVar 8) (dC .non))) (dTest (dOp neD (dOp itemD (dVar 7) (dVar 4)) (dLst dNil)))) (dSeq (dAsg (dMt popAtD (dOp itemD (dVar 7) (dVar 4)) (dCons (dC (.int 0)) dNil)) (dgSub (dVar 6) (dVar 3)))
    (dRet (dTup (dCons (dC (.str "took")) (dCons (dOp itemD (dVar 6) (dVar 3)) (dCons (dVar 4) dNil)))))) dNext)
    (dSeq (dIf (dTest (dOp (isD false) (dVar 8) (dC .non))) (dRet (dTup (dCons (dC (.str "missed")) (dCons (dVar 4) dNil)))) dNext)
    (dSeq (dAsg (dOp itemD (dVar 5) (dVar 8)) (dgName 9))
    (dSeq (dAsg (dOp addD (dVar 9) (dC (.int 1))) (dgSub (dVar 5) (dVar 8)))
    (dSeq (dIf (dTest (dOp eqD (dOp itemD (dOp itemD (dOp itemD (dOp itemD (dVar 0) (dVar 8)) (dC (.int 1))) (dVar 9)) (dC (.int 0))) (dC (.str "send")))) (dSeq (dAsg (dOp itemD (dOp itemD (dOp itemD (dOp itemD (dVar 0) (dVar 8)) (dC (.int 1))) (dVar 9)) (dC (.int 1))) (dgSub (dVar 6) (dVar 3)))
    (dIf (dNot (dTru (dCall C_law_is_held E (dCons (dVar 0) (dCons (dVar 5) (dCons (dVar 8) dNil)))))) (dDrop (dMt appendD (dOp itemD (dVar 7) (dVar 3)) (dCons (dVar 8) dNil))) dNext)) dNext)
    (dSeq (dDrop (dCall C_law_settle E (dCons (dVar 0) (dCons (dVar 1) (dCons (dVar 2) (dCons (dVar 3) dNil))))))
    (dRet (dTup (dCons (dC (.str "step")) (dCons (dVar 8) (dCons (dVar 9) dNil))))))))))))))
theorem LwA.mem_pc {A : LwA} {i : Nat} {c : Addr} (hc : A.pc[i]? = some c) : c ∈ A.own := by
  have := List.mem_of_getElem? hc
  simp [LwA.own, this]
theorem LeX.weak {G G' : DG} {ws ws' : List Addr} (l : LeX ws G G') (h : ∀ a ∈ ws, a ∈ ws') : LeX ws' G G' := fun b o hb e => l b o (fun m => hb (h b m)) e
theorem run_law_go (ds G Q E) (h : C_law_go ds G Q E) : T_law_go E { nx := fun _ G' => DrK Q .non G', rt := DrK Q, bk := fun _ _ => False, ct := fun _ _ => False } (dstart N_law_go ds) G := by
  obtain ⟨j, u, A, f, hands, hand, other, rfl, hj, hu, huA, LW, ok, hh, ho, hh100, q⟩ := h
  show T_law_go E _ [some (.tup (j.map encWork)), some (.ref u), some (.tup [.ref A.at_, .ref A.hold, .ref A.pil]), some (.int hand), some (.int other), none, none, none, none, none] G
  have B := ok.b
  have l1 := B.len.cur
  have l5 := B.len.piles
  have l6 := B.len.at_
  have hat := LW.at_
  have hho := LW.hold
  have hpi := LW.pil
  have hpln := LW.pln
  have ec : (f.cur.map encO)[hand]? = some (encO (f.cu hand)) := getD_map (e := encO) (d := none) (by omega)
  have xh : ixN (f.cur.map encO).length (hand : Int) = some hand := by rw [List.length_map]; exact ixN_lt (by omega)
  obtain ⟨c, hc⟩ : ∃ c, A.pc[hand]? = some c := ⟨A.pc[hand]'(by omega), List.getElem?_eq_getElem _⟩
  have hcD : (A.pc.map D.ref)[hand]? = some (.ref c) := by rw [List.getElem?_map, hc]; rfl
  have hGc : G c = some (.lst ((f.pl hand).map encN)) := LW.pc hand c _ hc (FSt.pl_get (by omega))
  obtain ⟨d, hd⟩ : ∃ d, A.pc[other]? = some d := ⟨A.pc[other]'(by omega), List.getElem?_eq_getElem _⟩
  have hdD : (A.pc.map D.ref)[other]? = some (.ref d) := by rw [List.getElem?_map, hd]; rfl
  have hGd : G d = some (.lst ((f.pl other).map encN)) := LW.pc other d _ hd (FSt.pl_get (by omega))
  unfold goS at q
  unfold T_law_go
  walk_at "run"
  cases hw : f.cu hand with
  | none =>
    simp only [hw] at q
    have e1 : encO none = .non := rfl
    rw [e1]
    walk_at "run"
    intro c1 hc1
    have le1 : Le G (up G c1 (.lst [])) := le_new hc1 (.refl _)
    refine s_neLE (ys := []) ok_N (by walk_at "look") up_same ?_
    -- what follows a take: the hand's work is written and told
    have put : ∀ (w x : Nat) (cx : Addr) (l : List Nat) (G1 : DG), A.pc[x]? = some cx → LeX A.own G G1 → LwAt G1 A { f with piles := f.piles.set x l } →
        (∀ G2, LwAt G2 A { f with piles := f.piles.set x l, cur := f.cur.set hand (some w) } → LeX A.own G G2 → G2 A.hold = some (.lst ((f.cur.set hand (some w)).map encO)) → Q (.int (w : Nat)) G2) → True := fun _ _ _ _ _ _ _ _ _ => trivial
    clear put
    cases hl : (f.pl hand).getLast? with
    | some w =>
      simp only [hl] at q
      have hne : f.pl hand ≠ [] := fun z => by rw [z] at hl; cases hl
      rw [decide_eq_false hne]
      have hspl : f.pl hand = (f.pl hand).dropLast ++ [w] := by
        obtain ⟨ys, e⟩ := List.getLast?_eq_some_iff.mp hl
        rw [e]
        simp
      have hGc' : up G c1 (.lst []) c = some (.lst ((f.pl hand).dropLast.map encN ++ [.int w])) := by
        have e := congrArg (List.map encN) hspl
        rw [List.map_append] at e
        rw [e] at hGc
        exact le1 _ _ hGc
      walk_at "run"
      refine s_pop hGc' ?_
      have L1 := (LW.le le1).setPil hc (f.pl hand).dropLast { f with piles := f.piles.set hand (f.pl hand).dropLast } rfl rfl rfl
      have X1 : LeX A.own G (up (up G c1 (.lst [])) c (.lst ((f.pl hand).dropLast.map encN))) := lex_mem (LwA.mem_pc hc) (lex_new' lex_refl hc1)
      generalize up (up G c1 (.lst [])) c (.lst ((f.pl hand).dropLast.map encN)) = G1 at L1 X1
      clear hat hho hpi hGc hGd hGc' hc1 le1
      have hho : G1 A.hold = some (.lst (f.cur.map encO)) := L1.hold
      walk_at "run"
      have L2 := L1.setHold (ownS f hand w) rfl rfl
      have e2 : (ownS f hand w).cur.map encO = (f.cur.map encO).set hand (.int w) := (map_setD (e := encO) (x := some w)).symm
      rw [e2] at L2
      have hc2 : up G1 A.hold (.lst ((f.cur.map encO).set hand (.int w))) A.hold = some (.lst ((f.cur.map encO).set hand (.int w))) := up_same
      have ec2 : ((f.cur.map encO).set hand (.int w))[hand]? = some (.int w) := List.getElem?_set_self (by rw [List.length_map]; omega)
      walk_at "run"
      exact s_rt (q _ L2 (X1.step (by simp [LwA.own])))
    | none =>
      simp only [hl] at q
      have hne : f.pl hand = [] := List.getLast?_eq_none_iff.mp hl
      rw [decide_eq_true hne]
      walk_at "run"
      intro c2 hc2
      have le2 : Le G (up (up G c1 (.lst [])) c2 (.lst [])) := le_new (up_free hc2) le1
      refine s_neLE (xs := f.pl other) (ys := []) ok_N (by walk_at "look") up_same ?_
      cases hl2 : (f.pl other).head? with
      | some w =>
        simp only [hl2] at q
        have hne2 : f.pl other ≠ [] := fun z => by rw [z] at hl2; cases hl2
        rw [decide_eq_false hne2]
        have hspl : f.pl other = w :: (f.pl other).tail := by
          cases e : f.pl other with
          | nil => rw [e] at hl2; cases hl2
          | cons y ys => rw [e] at hl2; cases hl2; rfl
        have hGd' : up (up G c1 (.lst [])) c2 (.lst []) d = some (.lst (.int w :: (f.pl other).tail.map encN)) := by
          rw [hspl] at hGd
          exact le2 _ _ hGd
        walk_at "run"
        refine s_popAt0 hGd' ?_
        have L1 := (LW.le le2).setPil hd (f.pl other).tail { f with piles := f.piles.set other (f.pl other).tail } rfl rfl rfl
        have X1 : LeX A.own G (up (up (up G c1 (.lst [])) c2 (.lst [])) d (.lst ((f.pl other).tail.map encN))) := lex_mem (LwA.mem_pc hd) (lex_new' (lex_new' lex_refl hc1) hc2)
        generalize up (up (up G c1 (.lst [])) c2 (.lst [])) d (.lst ((f.pl other).tail.map encN)) = G1 at L1 X1
        clear hat hho hpi hGc hGd hGd' hc1 le1 hc2 le2
        have hho : G1 A.hold = some (.lst (f.cur.map encO)) := L1.hold
        walk_at "run"
        have L2 := L1.setHold (robS f hand other w) rfl rfl
        have e2 : (robS f hand other w).cur.map encO = (f.cur.map encO).set hand (.int w) := (map_setD (e := encO) (x := some w)).symm
        rw [e2] at L2
        have hc2 : up G1 A.hold (.lst ((f.cur.map encO).set hand (.int w))) A.hold = some (.lst ((f.cur.map encO).set hand (.int w))) := up_same
        have ec2 : ((f.cur.map encO).set hand (.int w))[hand]? = some (.int w) := List.getElem?_set_self (by rw [List.length_map]; omega)
        walk_at "run"
        exact s_rt (q _ L2 (X1.step (by simp [LwA.own])))
      | none =>
        simp only [hl2] at q
        have hne2 : f.pl other = [] := by
          cases e : f.pl other with
          | nil => rfl
          | cons y ys => rw [e] at hl2; cases hl2
        rw [decide_eq_true hne2]
        walk_at "run"
        exact s_rtD (G0 := G) le2 (q G LW lex_refl)
  | some w =>
    simp only [hw] at q
    have e1 : encO (some w) = .int w := rfl
    rw [e1]
    obtain ⟨hwl, hwas⟩ := B.cl hand w hw
    have hwj : w < j.length := B.inr (by rw [hwl]; simp)
    obtain ⟨x, _, _, _, eW, _⟩ := hj.work hwj
    obtain ⟨s, es⟩ : ∃ s, nextS j f w = some s := by
      cases e : nextS j f w with
      | none => exact absurd e (ok.st hand w hw).1
      | some s => exact ⟨s, rfl⟩
    have eS : ((stepsOf j w).map encStep)[f.a w]? = some (encStep s) := by
      have : (stepsOf j w)[f.a w]? = some s := es
      rw [List.getElem?_map, this]
      rfl
    obtain ⟨z, zs, ez, hz⟩ := encStep_send s
    rw [ez] at eS
    have ea : (f.at_.map encN)[w]? = some (.int (f.a w)) := getD_map (e := encN) (d := 0) (by omega)
    have xw : ixN (f.at_.map encN).length (w : Int) = some w := by rw [List.length_map]; exact ixN_lt (by omega)
    walk_at "run"
    have L1 := LW.setAt (tickS f w) rfl rfl
    have e2 : (tickS f w).at_.map encN = (f.at_.map encN).set w (.int ((f.a w : Int) + 1)) := (map_setD (e := encN) (x := f.a w + 1)).symm
    rw [e2] at L1
    have X1 : LeX A.own G (up G A.at_ (.lst ((f.at_.map encN).set w (.int ((f.a w : Int) + 1))))) := lex_mem (by simp [LwA.own]) lex_refl
    generalize up G A.at_ (.lst ((f.at_.map encN).set w (.int ((f.a w : Int) + 1)))) = G1 at L1 X1
    clear hat hho hpi hGc hGd
    walk_at "run"
    generalize hT : Go _ _ = N1
    have main : FB j hands (sentS j f hand w) ∧ ∀ y x, y ≠ hand → (sentS j f hand w).cu y = some x → SetS j (sentS j f hand w) x := by
      have dooo : sendOf s = none → FB j hands (tickS f w) ∧ ∀ y x, y ≠ hand → (tickS f w).cu y = some x → SetS j (tickS f w) x := fun hs => by
        refine ⟨B.doo hj hw es hs, fun y x hy e => ?_⟩
        have e' : f.cu y = some x := e
        have hxw : x ≠ w := fun z => hy (B.u1 y hand w (z ▸ e') hw)
        have ea : (tickS f w).a x = f.a x := by rw [tick_a B.len hwj, if_neg hxw]
        unfold SetS
        rw [next_ne ea, held_ne ea]
        exact ok.st y x e'
      unfold sentS
      rw [es]
      cases s with
      | doo => exact dooo rfl
      | wait => exact dooo rfl
      | send k =>
        have := ok.send hj hw es
        exact ⟨this.b, fun y x _ e => this.st y x e⟩
    have fin : ∀ G3, LwAt G3 A (sentS j f hand w) → LeX A.own G G3 → N1 [some (.tup (j.map encWork)), some (.ref u), some (.tup [.ref A.at_, .ref A.hold, .ref A.pil]), some (.int hand), some (.int other), some (.ref A.at_), some (.ref A.hold), some (.ref A.pil), some (.int w), some (.int (f.a w))] G3 := by
      intro G3 L3 X3
      rw [← hT]
      refine s_go ?_
      walk_at "run"
      refine UpC.of ⟨j, u, A, _, hands, hand, rfl, hj, X3 u _ huA hu, fun e => huA (by rw [e]; simp [LwA.own]), L3, main.1, main.2, hh, hh100, fun G4 L4 X4 => ?_⟩
      walk_at "run"
      exact s_rt (q G4 L4 (X3.trans (X4.weak fun a ha => by simp at ha; rw [ha]; simp [LwA.own])))
    clear hT
    rcases hz with ⟨hz, k, rfl, rfl⟩ | ⟨hz, hz2⟩
    · have hk := nextS_send hj es
      rw [hz]
      have hho1 : G1 A.hold = some (.lst (f.cur.map encO)) := L1.hold
      walk_at "run"
      have L2 := L1.setHold { tickS f w with cur := f.cur.set hand (some k) } rfl rfl
      have e3 : (f.cur.set hand (some k)).map encO = (f.cur.map encO).set hand (.int k) := (map_setD (e := encO) (x := some k)).symm
      have X2 : LeX A.own G (up G1 A.hold (.lst ((f.cur.map encO).set hand (.int k)))) := X1.step (by simp [LwA.own])
      have L2' : LwAt (up G1 A.hold (.lst ((f.cur.map encO).set hand (.int k)))) A { tickS f w with cur := f.cur.set hand (some k) } := by rw [← e3]; exact L2
      clear L2
      generalize up G1 A.hold (.lst ((f.cur.map encO).set hand (.int k))) = G2 at L2' X2
      walk_at "run"
      refine UpC.of ⟨j, A.at_, tickS f w, w, rfl, hj, by simp [tickS, l6], hwj, L2'.at_, ?_⟩
      have esent : sentS j f hand w = beginS j (tickS f w) hand w k := by unfold sentS; rw [es]
      walk_at "run"
      cases hb : heldS j (tickS f w) w with
      | true =>
        walk_at "run"
        refine fin G2 ?_ X2
        rw [esent]
        unfold beginS
        rw [if_pos hb]
        exact L2'.as _ rfl rfl rfl
      | false =>
        have hpi2 : G2 A.pil = some (.lst (A.pc.map .ref)) := L2'.pil
        have hGc2 : G2 c = some (.lst ((f.pl hand).map encN)) := L2'.pc hand c _ hc (show f.piles[hand]? = some (f.pl hand) from FSt.pl_get (by omega))
        have hp12 := B.pl12 hj hand
        walk_at "run"
        have L3 := L2'.setPil hc (f.pl hand ++ [w]) (beginS j (tickS f w) hand w k) (by unfold beginS; rw [if_neg (by rw [hb]; decide)]; rfl) (by unfold beginS; rw [if_neg (by rw [hb]; decide)]) (by unfold beginS; rw [if_neg (by rw [hb]; decide)]; rfl)
        rw [List.map_append] at L3
        refine fin _ ?_ (X2.step (LwA.mem_pc hc))
        rw [esent]
        exact L3
    · rw [hz]
      walk_at "run"
      refine fin G1 ?_ X1
      have : sentS j f hand w = tickS f w := by
        unfold sentS
        rw [es]
        cases s with
        | doo => rfl
        | wait => rfl
        | send k => cases hz2
      rw [this]
      exact L1

def C_law_floor : Ct := fun ds G Q _ => ∃ (j : Job) (hands : Nat), ds = [encJob j, .int (hands : Nat)] ∧ JobOk j ∧ 1 ≤ hands ∧ hands ≤ 100 ∧
  ∀ G' A, LwAt G' A (floor0 j hands) → Le G G' → (∀ a ∈ A.own, G a = none) → Q (.tup [.ref A.at_, .ref A.hold, .ref A.pil]) G'
theorem len_law_floor (ds G Q E) (h : C_law_floor ds G Q E) : ds.length = 2 := by obtain ⟨_, _, rfl, _⟩ := h; rfl
abbrev N_law_floor : List Str := ["job", "hands", "work", "hand"]
def T_law_floor : DX → DS := fun E => (dRet (dTup (dCons (dLc (diSeq (dVar 0)) (bdN 2) [2] dYes (dC (.int 0))) (dCons (dOp addD (dLst (dCons (dC (.int 0)) dNil)) (dLc (diRange (dCons (dC (.int 1)) (dCons (dVar 1) dNil))) (bdN 3) [3] dYes (dC .non))) (dCons (dLc (diRange (dCons (dVar 1) dNil)) (bdN 3) [3] dYes (dLst dNil)) dNil)))))
theorem map_const {α β : Type} (xs : List α) (d : β) : xs.map (fun _ => d) = List.replicate xs.length d := by
  induction xs with
  | nil => rfl
  | cons x xs ih => rw [List.map_cons, ih]; rfl
theorem run_law_floor (ds G Q E) (h : C_law_floor ds G Q E) : T_law_floor E { nx := fun _ G' => DrK Q .non G', rt := DrK Q, bk := fun _ _ => False, ct := fun _ _ => False } (dstart N_law_floor ds) G := by
  obtain ⟨j, hands, rfl, hj, h1, h2, q⟩ := h
  have hl1 := hj.l1
  have hl12 := hj.l12
  show T_law_floor E _ [some (.tup (j.map encWork)), some (.int hands), none, none] G
  unfold T_law_floor
  walk_at "run"
  intro at_ hat
  refine comp_map j encWork (fun _ => .int 0) (by omega) hat (fun _ => trivial) (fun x hx o => ⟨_, rfl, fun QD h => h⟩) ?_
  rw [map_const]
  walk_at "run"
  intro c1 hc1
  walk_at "run"
  intro c2 hc2
  have er : rangeD 1 (hands : Int) = (List.range (hands - 1)).map fun i : Nat => D.int (1 + (i : Nat)) := by
    unfold rangeD
    rw [show ((hands : Int) - 1).toNat = hands - 1 by omega]
  rw [er]
  refine comp_map (List.range (hands - 1)) (fun i : Nat => D.int (1 + (i : Nat))) (fun _ => .non) (by simp; omega) hc2 (fun _ => trivial) (fun x hx o => ⟨_, rfl, fun QD h => h⟩) ?_
  rw [map_const, List.length_range]
  refine s_addL (by walk_at "look") up_same (szL (by simp; omega)) (fun hold hhold => ?_)
  walk_at "run"
  intro pil hpil
  rw [rangeD0]
  generalize hG3 : up (up (up (up G at_ _) c1 _) c2 _) hold _ = G3 at *
  have ha : G3 at_ = some (.lst (List.replicate j.length (D.int 0))) := by rw [← hG3]; walk_at "look"
  have hh : G3 hold = some (.lst ([D.int 0] ++ List.replicate (hands - 1) D.non)) := by rw [← hG3]; exact up_same
  have le3 : Le G G3 := by
    rw [← hG3]
    exact le_new (up_free (up_free (up_free hhold))) (le_new (up_free (up_free hc2)) (le_new (up_free hc1) (le_new hat (.refl _))))
  have n1 : at_ ≠ hold := by walk_at "ne"
  have g1 : G at_ = none := hat
  have g2 : G hold = none := up_free (up_free (up_free hhold))
  clear hG3 hhold hc2 hc1 hat
  refine comp_inv (fun i G' => ∃ cs, Lls G3 G' pil cs (List.replicate i [])) ⟨[], le_new hpil (.refl _), up_same, by simp, by simp, by simp, by simp, hpil, by simp⟩ (fun _ _ _ _ => trivial) (fun i d G' hd hi hP => ?_) (fun G5 hP => ?_)
  · obtain ⟨cs, hL⟩ := hP
    simp only [List.length_map, List.length_range] at hi
    refine ⟨_, rfl, fun N hN => ?_⟩
    walk_at "run"
    intro c hc
    refine ⟨cs.map .ref, up_nx (gne hL.ha hc) hL.ha, szLt (by rw [List.length_map, hL.len]; simp; omega), hN _ _ (.refl _) ⟨cs ++ [c], ?_⟩⟩
    have := hL.more (ws := []) hc
    rw [List.map_append] at this
    rw [List.replicate_succ']
    exact this
  · obtain ⟨cs, hL⟩ := hP
    simp only [List.length_map, List.length_range] at hL
    walk_at "run"
    refine s_rt (q G5 ⟨at_, hold, pil, cs⟩ ⟨?_, ?_, hL.ha, ?_, fun i c l e1 e2 => ?_, ?_⟩ (le3.trans hL.le) fun a ha2 => ?_)
    · have e : (floor0 j hands).at_.map encN = List.replicate j.length (D.int 0) := by show (List.replicate j.length 0).map encN = _; rw [List.map_replicate]; rfl
      rw [e]
      exact hL.le _ _ ha
    · have e : (floor0 j hands).cur.map encO = [D.int 0] ++ List.replicate (hands - 1) D.non := by
        show encO (some 0) :: (List.replicate (hands - 1) none).map encO = _
        rw [List.map_replicate]
        rfl
      rw [e]
      exact hL.le _ _ hh
    · have := hL.len
      show cs.length = (List.replicate hands ([] : List Nat)).length
      simpa using this
    · have e2' : (List.replicate hands ([] : List Nat))[i]? = some l := e2
      rw [List.getElem?_replicate] at e2'
      split at e2'
      · cases e2'
        exact hL.at_ i c [] e1 (by rw [List.getElem?_replicate, if_pos (by assumption)])
      · cases e2'
    · show (at_ :: hold :: pil :: cs).Nodup
      simp only [List.nodup_cons, List.mem_cons, not_or]
      exact ⟨⟨n1, gne ha hL.fa, fun m => gne ha (hL.fc _ m) rfl⟩, ⟨gne hh hL.fa, fun m => gne hh (hL.fc _ m) rfl⟩, hL.ac, hL.nd⟩
    · have ha' : a ∈ at_ :: hold :: pil :: cs := ha2
      simp only [List.mem_cons] at ha'
      rcases ha' with rfl | rfl | rfl | h
      · exact g1
      · exact g2
      · exact le_none le3 hL.fa
      · exact le_none le3 (hL.fc a h)

/-! ### beats: the plain model -/
def livs (j : Job) (f : FSt) : List Nat := (List.range j.length).filter fun w => decide (f.s w = .liv)
def spaceS (j : Job) (f : FSt) : Int := ((livs j f).map (roomOf j)).sum
def C_Floor_of_state : Ct := fun ds G Q _ => ∃ A j f, ds = [.ref A.p, .str "lives"] ∧ FlAt G A j f ∧ JobOk j ∧ f.st.length = j.length ∧ ∀ p, G p = none → Q (.ref p) (up G p (.lst ((livs j f).map encN)))
theorem len_Floor_of_state (ds G Q E) (h : C_Floor_of_state ds G Q E) : ds.length = 2 := by obtain ⟨_, _, _, rfl, _⟩ := h; rfl
abbrev N_Floor_of_state : List Str := ["self", "state", "work"]
def T_Floor_of_state : DX → DS := fun E => (dRet (dLc (diRange (dCons (dCB lenD (dCons (dFld "Floor" "job" (dVar 0)) dNil)) dNil)) (bdN 2) [2] (dTest (dOp eqD (dOp itemD (dFld "Floor" "state" (dVar 0)) (dVar 2)) (dVar 1))) (dVar 2)))
theorem run_Floor_of_state (ds G Q E) (h : C_Floor_of_state ds G Q E) : T_Floor_of_state E { nx := fun _ G' => DrK Q .non G', rt := DrK Q, bk := fun _ _ => False, ct := fun _ _ => False } (dstart N_Floor_of_state ds) G := by
  obtain ⟨A, j, f, rfl, F, hj, hl, q⟩ := h
  have hl12 := hj.l12
  show T_Floor_of_state E _ [some (.ref A.p), some (.str "lives"), none] G
  have hp := F.hp
  have hst := F.sta
  unfold T_Floor_of_state
  walk_at "run"
  rw [List.length_map, rangeD0]
  intro p hp'
  refine comp_pure (List.range j.length) (fun k : Nat => D.int k) (fun w => decide (f.s w = .liv)) encN (by simp; omega) hp' (fun _ => trivial) (fun w hw o => ⟨_, rfl, fun QB h => ?_, fun _ QD h => ?_⟩) ?_
  · have hw' : w < j.length := by simpa using hw
    have es : (f.st.map encWS)[w]? = some (encWS (f.s w)) := getD_map (e := encWS) (d := .unb) (by omega)
    have hp2 : up G p o A.p = _ := up_nx (gne hp hp') hp
    have hst2 : up G p o A.sta = _ := up_nx (gne hst hp') hst
    clear hp hst
    walk_at "run"
    cases e : f.s w <;> rw [e] at h
    all_goals
      refine s_eqS ?_
      exact h
  · walk_at "run"
    exact h
  exact s_rt (q p hp')
def C_Floor_space : Ct := fun ds G Q _ => ∃ A j f, ds = [.ref A.p] ∧ FlAt G A j f ∧ JobOk j ∧ f.st.length = j.length ∧ Q (.int (spaceS j f)) G
theorem len_Floor_space (ds G Q E) (h : C_Floor_space ds G Q E) : ds.length = 1 := by obtain ⟨_, _, _, rfl, _⟩ := h; rfl
abbrev N_Floor_space : List Str := ["self", "work"]
def T_Floor_space : DX → DS := fun E => (dRet (dCB sumD (dCons (dLc (diSeq (dMeth "Floor" "of_state" C_Floor_of_state E (dVar 0) (dCons (dC (.str "lives")) dNil))) (bdN 1) [1] dYes (dOp itemD (dOp itemD (dFld "Floor" "job" (dVar 0)) (dVar 1)) (dC (.int 0)))) dNil)))
theorem run_Floor_space (ds G Q E) (h : C_Floor_space ds G Q E) : T_Floor_space E { nx := fun _ G' => DrK Q .non G', rt := DrK Q, bk := fun _ _ => False, ct := fun _ _ => False } (dstart N_Floor_space ds) G := by
  obtain ⟨A, j, f, rfl, F, hj, hl, q⟩ := h
  have hl12 := hj.l12
  show T_Floor_space E _ [some (.ref A.p), none] G
  have hp := F.hp
  unfold T_Floor_space
  walk_at "run"
  refine UpC.of ⟨A, j, f, rfl, F, hj, hl, fun c hc => ?_⟩
  walk_at "run"
  intro p hp'
  have hlen : (livs j f).length ≤ j.length := by
    have := List.length_filter_le (fun w => decide (f.s w = .liv)) (List.range j.length)
    rw [List.length_range] at this
    exact this
  refine comp_map (livs j f) encN (fun w => .int (roomOf j w)) (by omega) hp' (fun o => by walk_at "look") (fun w hw o => ⟨_, rfl, fun QD h => ?_⟩) ?_
  · have hw' : w < j.length := by
      have := (List.mem_filter.mp hw).1
      simpa using this
    obtain ⟨x, _, _, _, eW, _⟩ := hj.work hw'
    have hp2 : up (up G c (.lst ((livs j f).map encN))) p o A.p = _ := up_nx (gne (up_nx (gne hp hc) hp) hp') (up_nx (gne hp hc) hp)
    walk_at "run"
    exact h
  rw [show (fun w => D.int (roomOf j w)) = D.int ∘ roomOf j from rfl, ← List.map_map]
  walk_at "run"
  refine s_sumL up_same ?_
  exact s_rtD (G0 := G) (le_new (up_free hp') (le_new hc (.refl _))) q
/-! ### some hand can go on -/
theorem FB.able {j : Job} {hands : Nat} {f : FSt} (hj : JobOk j) (h : FB j hands f) (h0 : f.s 0 ≠ .ovr) : ∃ x, x < hands ∧ (f.cu x ≠ none ∨ f.pl x ≠ []) := by
  have l0 : f.s 0 = .liv := by
    cases e : f.s 0 with
    | liv => rfl
    | ovr => exact absurd e h0
    | unb => exact absurd e h.b0
  -- the last living work
  have main : ∀ (n w : Nat), j.length - w ≤ n → f.s w = .liv → ∃ v, f.s v = .liv ∧ ∀ k ∈ kidsOf j v, f.s k ≠ .liv := by
    intro n
    induction n with
    | zero =>
      intro w hn e
      have := h.inr (w := w) (by rw [e]; simp)
      omega
    | succ n ih =>
      intro w hn e
      by_cases hq : ∃ k, k ∈ kidsOf j w ∧ f.s k = .liv
      · obtain ⟨k, hk, ek⟩ := hq
        have := kids_lt hj hk
        exact ih k (by omega) ek
      · exact ⟨w, e, fun k hk ek => hq ⟨k, hk, ek⟩⟩
  obtain ⟨v, ev, hv⟩ := main _ 0 (Nat.le_refl _) l0
  have hvl := h.inr (w := v) (by rw [ev]; simp)
  rcases h.lv v ev with ⟨y, e⟩ | ⟨y, e⟩ | e
  · exact ⟨y, h.hin e, .inl (by rw [e]; simp)⟩
  · exact ⟨y, h.pin e, .inr fun z => by rw [z] at e; cases e⟩
  · have := (h.as v e).2.2
    rw [h.kd v hvl, livC_0.mpr hv] at this
    omega
/-! ### looking -/
def lookO (f : FSt) : List Nat → Option (Nat × Nat)
  | [] => none
  | o :: os => match (f.pl o).head? with
    | some w => some (o, w)
    | none => lookO f os
def lookS (f : FSt) (ord : List Nat) (hand : Nat) : FSt × Nat := match (f.pl hand).getLast? with
  | some w => (ownS f hand w, 0)
  | none => match lookO f ord with
    | some (o, w) => (robS f hand o w, 1)
    | none => (f, 0)
def looksN (f : FSt) (ord : List (List Nat)) : Nat → FSt × Nat
  | 0 => (f, 0)
  | i + 1 => match (looksN f ord i).1.cu i with
    | some _ => looksN f ord i
    | none => ((lookS (looksN f ord i).1 (ord.getD i []) i).1, (looksN f ord i).2 + (lookS (looksN f ord i).1 (ord.getD i []) i).2)
structure OrdL (hands : Nat) (ord : List (List Nat)) : Prop where
  len : ord.length = hands
  row : ∀ h, h < hands → (ord.getD h []).Perm ((List.range hands).filter fun o => decide (o ≠ h))
theorem lookO_some {f : FSt} : ∀ {os : List Nat} {o w : Nat}, lookO f os = some (o, w) → o ∈ os ∧ (f.pl o).head? = some w
  | [], o, w, h => by cases h
  | x :: xs, o, w, h => by
    unfold lookO at h
    split at h
    · rename_i y e
      cases h
      exact ⟨by simp, e⟩
    · obtain ⟨a, b⟩ := lookO_some h
      exact ⟨by simp [a], b⟩
theorem lookO_none {f : FSt} : ∀ {os : List Nat}, lookO f os = none → ∀ o ∈ os, f.pl o = []
  | [], _, o, h => by cases h
  | x :: xs, h, o, ho => by
    unfold lookO at h
    split at h
    · cases h
    · rename_i e
      rcases List.mem_cons.mp ho with rfl | ho
      · cases e2 : f.pl o with
        | nil => rfl
        | cons y ys => rw [e2] at e; cases e
      · exact lookO_none h o ho
theorem OrdL.lt {hands : Nat} {ord : List (List Nat)} (h : OrdL hands ord) {x o : Nat} (hx : x < hands) (ho : o ∈ ord.getD x []) : o < hands ∧ o ≠ x := by
  have := (h.row x hx).mem_iff.mp ho
  simpa using this
theorem FOk.look {j : Job} {hands : Nat} {f : FSt} (ok : FOk j hands f) {ord : List (List Nat)} (hord : OrdL hands ord) {hand : Nat} (hh : hand < hands) (hc : f.cu hand = none) : FOk j hands (lookS f (ord.getD hand []) hand).1 := by
  unfold lookS
  cases hl : (f.pl hand).getLast? with
  | some w => exact ok.own hh hc hl
  | none =>
    cases hl2 : lookO f (ord.getD hand []) with
    | none => exact ok
    | some p =>
      obtain ⟨o, w⟩ := p
      obtain ⟨a, b⟩ := lookO_some hl2
      exact ok.rob hh (hord.lt hh a).1 hc b
theorem looksN_ok {j : Job} {hands : Nat} {f : FSt} (ok : FOk j hands f) {ord : List (List Nat)} (hord : OrdL hands ord) : ∀ i, i ≤ hands → FOk j hands (looksN f ord i).1
  | 0, _ => ok
  | i + 1, hi => by
    have := looksN_ok ok hord i (by omega)
    unfold looksN
    split
    · exact this
    · exact this.look hord (by omega) (by assumption)
/-! ### steps of a beat -/
structure BSt where
  f : FSt
  row : List (Option (Nat × Nat))
  peak : Int
def actB (j : Job) (s : BSt) (h : Nat) : BSt := match s.f.cu h with
  | some w => ⟨stepS j s.f h w, s.row.set h (some (w, s.f.a w)), if spaceS j (stepS j s.f h w) > s.peak then spaceS j (stepS j s.f h w) else s.peak⟩
  | none => s
def busyS (f : FSt) (hands : Nat) : List Nat := (List.range hands).filter fun h => (f.cu h).isSome
structure BeatS where
  f : FSt
  stolen : Int
  rest : Int
  peak : Int
def beatS (j : Job) (hands : Nat) (ord : List (List Nat)) (b : BeatS) : BeatS × List (Option (Nat × Nat)) :=
  let l := looksN b.f ord hands
  let s := (busyS l.1 hands).foldl (actB j) ⟨l.1, List.replicate hands none, b.peak⟩
  (⟨s.f, b.stolen + l.2, b.rest + hands - (busyS l.1 hands).length, s.peak⟩, s.row)
theorem settleN_cu (j : Job) {hand y : Nat} (hy : y ≠ hand) : ∀ (n : Nat) (f : FSt) (o : Option Nat), (settleN j hand n f o).cu y = f.cu y
  | 0, f, o => rfl
  | n + 1, f, none => rfl
  | n + 1, f, some w => by
    have cs : ∀ (g : FSt) (o : Option Nat), ({ g with cur := g.cur.set hand o } : FSt).cu y = g.cu y := fun g o => by
      show (g.cur.set hand o).getD y none = g.cur.getD y none
      rw [List.getD_eq_getElem?_getD, List.getD_eq_getElem?_getD, List.getElem?_set_ne (Ne.symm hy)]
    have ec : (endS j f w).1.cu y = f.cu y := by
      unfold endS
      split
      · rfl
      · split <;> rfl
    unfold settleN
    split
    · split
      · exact cs { f with asd := f.asd.set w true } none
      · split
        · rfl
        · rw [settleN_cu j hy n, cs, ec]
    · rfl
theorem stepS_cu (j : Job) (f : FSt) {hand y w : Nat} (hy : y ≠ hand) : (stepS j f hand w).cu y = f.cu y := by
  unfold stepS settleS
  rw [settleN_cu j hy]
  unfold sentS
  split
  · unfold beginS
    have cs : ∀ (g : FSt) (o : Option Nat), ({ g with cur := g.cur.set hand o } : FSt).cu y = g.cu y := fun g o => by
      show (g.cur.set hand o).getD y none = g.cur.getD y none
      rw [List.getD_eq_getElem?_getD, List.getD_eq_getElem?_getD, List.getElem?_set_ne (Ne.symm hy)]
    split
    · exact cs (tickS f w) _
    · exact cs (tickS f w) _
  · rfl
theorem settleN_gone (j : Job) (hand : Nat) : ∀ (n : Nat) (f : FSt) (o : Option Nat), (settleN j hand n f o).gone = f.gone
  | 0, f, o => rfl
  | n + 1, f, none => rfl
  | n + 1, f, some w => by
    unfold settleN
    have ec : (endS j f w).1.gone = f.gone := by
      unfold endS
      split
      · rfl
      · split <;> rfl
    split
    · split
      · rfl
      · split
        · rfl
        · rw [settleN_gone j hand n]
          exact ec
    · rfl
theorem stepS_gone (j : Job) (f : FSt) (hand w : Nat) : (stepS j f hand w).gone = f.gone ++ [(w, f.a w)] := by
  unfold stepS settleS
  rw [settleN_gone]
  unfold sentS
  split
  · unfold beginS
    split <;> rfl
  · rfl
theorem List.reverseRecOn' {α : Type} {P : List α → Prop} (l : List α) (nil : P []) (snoc : ∀ l x, P l → P (l ++ [x])) : P l := by
  have : ∀ (n : Nat) (l : List α), l.length = n → P l := by
    intro n
    induction n with
    | zero =>
      intro l h
      rw [List.eq_nil_of_length_eq_zero h]
      exact nil
    | succ n ih =>
      intro l h
      have hne : l ≠ [] := fun z => by rw [z] at h; cases h
      rw [← List.dropLast_concat_getLast hne]
      exact snoc _ _ (ih _ (by simp [h]))
  exact this _ l rfl
/-- busy hands, one by one -/
structure ActOk (j : Job) (hands : Nat) (s0 s : BSt) (n : Nat) : Prop where
  ok : FOk j hands s.f
  len : s.row.length = hands
  gone : s.f.gone.length = s0.f.gone.length + n
theorem act_ok {j : Job} (hj : JobOk j) {hands : Nat} {s0 : BSt} (ok0 : FOk j hands s0.f) (hl : s0.row.length = hands) : ∀ (l : List Nat), l.Nodup → (∀ h ∈ l, (s0.f.cu h).isSome = true) → ActOk j hands s0 (l.foldl (actB j) s0) l.length ∧ ∀ y, y ∉ l → (l.foldl (actB j) s0).f.cu y = s0.f.cu y := by
  intro l
  refine List.reverseRecOn' (P := fun l => l.Nodup → (∀ h ∈ l, (s0.f.cu h).isSome = true) → ActOk j hands s0 (l.foldl (actB j) s0) l.length ∧ ∀ y, y ∉ l → (l.foldl (actB j) s0).f.cu y = s0.f.cu y) l (fun _ _ => ⟨⟨ok0, hl, by simp⟩, fun y _ => rfl⟩) fun l h ih => ?_
  · intro nd hb
    rw [List.nodup_append] at nd
    have hnl : h ∉ l := fun m => nd.2.2 h m h (by simp) rfl
    obtain ⟨A, hcu⟩ := ih nd.1 fun x hx => hb x (by simp [hx])
    rw [List.foldl_append]
    show ActOk j hands s0 (actB j (l.foldl (actB j) s0) h) _ ∧ _
    have hc := hcu h hnl
    have hs := hb h (by simp)
    cases e : s0.f.cu h with
    | none => rw [e] at hs; cases hs
    | some w =>
      rw [e] at hc
      have hact : actB j (l.foldl (actB j) s0) h = ⟨stepS j (l.foldl (actB j) s0).f h w, (l.foldl (actB j) s0).row.set h (some (w, (l.foldl (actB j) s0).f.a w)), if spaceS j (stepS j (l.foldl (actB j) s0).f h w) > (l.foldl (actB j) s0).peak then spaceS j (stepS j (l.foldl (actB j) s0).f h w) else (l.foldl (actB j) s0).peak⟩ := by
        show (match (l.foldl (actB j) s0).f.cu h with | some w => _ | none => _) = _
        rw [hc]
      refine ⟨⟨?_, ?_, ?_⟩, fun y hy => ?_⟩
      · rw [hact]; exact A.ok.step hj hc
      · rw [hact]; simp [A.len]
      · rw [hact]
        show (stepS j (l.foldl (actB j) s0).f h w).gone.length = _
        rw [stepS_gone, List.length_append, A.gone]
        simp
        omega
      · have hyl : y ∉ l ∧ y ≠ h := by simpa using hy
        show (actB j (l.foldl (actB j) s0) h).f.cu y = _
        rw [hact]
        show (stepS j (l.foldl (actB j) s0).f h w).cu y = _
        rw [stepS_cu j _ hyl.2, hcu y hyl.1]

theorem getD_set' {α : Type} {l : List α} {i k : Nat} {v d : α} (h : k ≠ i) : (l.set i v).getD k d = l.getD k d := by
  rw [List.getD_eq_getElem?_getD, List.getD_eq_getElem?_getD, List.getElem?_set_ne (Ne.symm h)]
theorem lookS_s {f : FSt} {ord : List Nat} {h : Nat} : (lookS f ord h).1.st = f.st ∧ (lookS f ord h).1.at_ = f.at_ ∧ (lookS f ord h).1.gone = f.gone := by
  unfold lookS
  split
  · exact ⟨rfl, rfl, rfl⟩
  · split
    · exact ⟨rfl, rfl, rfl⟩
    · exact ⟨rfl, rfl, rfl⟩
theorem lookS_cu {f : FSt} {ord : List Nat} {h x : Nat} (hx : x ≠ h) : (lookS f ord h).1.cu x = f.cu x := by
  unfold lookS
  split
  · exact getD_set' hx
  · split
    · exact getD_set' hx
    · rfl
theorem lookS_pl {f : FSt} {ord : List Nat} {h x : Nat} (hx : f.pl x = []) : (lookS f ord h).1.pl x = [] := by
  unfold lookS
  split
  · rename_i w hl
    by_cases e : x = h
    · rw [← e, hx] at hl
      cases hl
    · exact (getD_set' e).trans hx
  · split
    · rename_i o w hl
      obtain ⟨_, b⟩ := lookO_some hl
      by_cases e : x = o
      · rw [← e, hx] at b
        cases b
      · exact (getD_set' e).trans hx
    · exact hx
theorem looksN_s {f : FSt} {ord : List (List Nat)} : ∀ i, (looksN f ord i).1.st = f.st ∧ (looksN f ord i).1.at_ = f.at_ ∧ (looksN f ord i).1.gone = f.gone
  | 0 => ⟨rfl, rfl, rfl⟩
  | i + 1 => by
    have ih := looksN_s (f := f) (ord := ord) i
    unfold looksN
    split
    · exact ih
    · have := lookS_s (f := (looksN f ord i).1) (ord := ord.getD i []) (h := i)
      exact ⟨this.1.trans ih.1, this.2.1.trans ih.2.1, this.2.2.trans ih.2.2⟩
theorem looksN_idle {j : Job} {hands : Nat} {f : FSt} (ok : FOk j hands f) {ord : List (List Nat)} (hord : OrdL hands ord) : ∀ i, i ≤ hands → ∀ x, x < i → (looksN f ord i).1.cu x ≠ none ∨ (looksN f ord i).1.pl x = []
  | 0, _, x, hx => by omega
  | i + 1, hi, x, hx => by
    have ih := looksN_idle ok hord i (by omega)
    have oki := looksN_ok ok hord i (by omega)
    unfold looksN
    split
    · rename_i w hc
      by_cases e : x = i
      · rw [e]
        exact .inl (by rw [hc]; simp)
      · exact ih x (by omega)
    · rename_i hc
      by_cases e : x = i
      · subst e
        cases hl : ((looksN f ord x).1.pl x).getLast? with
        | some w =>
          left
          have : (lookS (looksN f ord x).1 (ord.getD x []) x).1.cu x = some w := by
            unfold lookS
            rw [hl]
            show ((looksN f ord x).1.cur.set x (some w)).getD x none = _
            rw [getD_set (by rw [oki.b.len.cur]; omega), if_pos rfl]
          rw [this]
          simp
        | none =>
          right
          exact lookS_pl (List.getLast?_eq_none_iff.mp hl)
      · rcases ih x (by omega) with h | h
        · exact .inl (by show (lookS _ _ _).1.cu x ≠ none; rw [lookS_cu e]; exact h)
        · exact .inr (lookS_pl h)
theorem busy_some {j : Job} {hands : Nat} {f : FSt} (hj : JobOk j) (ok : FOk j hands f) {ord : List (List Nat)} (hord : OrdL hands ord) (h0 : f.s 0 ≠ .ovr) : busyS (looksN f ord hands).1 hands ≠ [] := by
  have okl := looksN_ok ok hord hands (Nat.le_refl _)
  have hs : (looksN f ord hands).1.s 0 ≠ .ovr := by
    unfold FSt.s
    rw [(looksN_s (f := f) (ord := ord) hands).1]
    exact h0
  obtain ⟨x, hx, h⟩ := okl.b.able hj hs
  have hc : (looksN f ord hands).1.cu x ≠ none := by
    rcases looksN_idle ok hord hands (Nat.le_refl _) x hx with a | a
    · exact a
    · rcases h with b | b
      · exact b
      · exact absurd a b
  intro z
  have : x ∈ busyS (looksN f ord hands).1 hands := by
    unfold busyS
    rw [List.mem_filter]
    refine ⟨by simpa using hx, ?_⟩
    cases e : (looksN f ord hands).1.cu x with
    | none => exact absurd e hc
    | some w => rfl
  rw [z] at this
  cases this
theorem busy_nd {f : FSt} {hands : Nat} : (busyS f hands).Nodup ∧ ∀ h ∈ busyS f hands, h < hands ∧ (f.cu h).isSome = true := by
  unfold busyS
  exact ⟨List.nodup_range.filter _, fun h hh => by simpa using List.mem_filter.mp hh⟩
/-- a beat keeps all, and does as many steps as hands are busy -/
theorem beat_ok {j : Job} (hj : JobOk j) {hands : Nat} {b : BeatS} (ok : FOk j hands b.f) {ord : List (List Nat)} (hord : OrdL hands ord) :
    FOk j hands (beatS j hands ord b).1.f ∧ (beatS j hands ord b).2.length = hands ∧ (beatS j hands ord b).1.f.gone.length = b.f.gone.length + (busyS (looksN b.f ord hands).1 hands).length := by
  have okl := looksN_ok ok hord hands (Nat.le_refl _)
  obtain ⟨nd, hb⟩ := busy_nd (f := (looksN b.f ord hands).1) (hands := hands)
  obtain ⟨A, _⟩ := act_ok hj (s0 := ⟨(looksN b.f ord hands).1, List.replicate hands none, b.peak⟩) okl (by simp) _ nd fun h hh => (hb h hh).2
  refine ⟨A.ok, A.len, ?_⟩
  have := A.gone
  rw [show (BSt.f ⟨(looksN b.f ord hands).1, List.replicate hands none, b.peak⟩).gone = b.f.gone from (looksN_s hands).2.2] at this
  exact this
/-- beat by beat, till the end -/
def beatsN (j : Job) (hands : Nat) (ord : List (List Nat)) : Nat → BeatS × List (List (Option (Nat × Nat)))
  | 0 => (⟨floor0 j hands, 0, 0, spaceS j (floor0 j hands)⟩, [])
  | n + 1 => if (beatsN j hands ord n).1.f.s 0 = .ovr then beatsN j hands ord n else ((beatS j hands ord (beatsN j hands ord n).1).1, (beatsN j hands ord n).2 ++ [(beatS j hands ord (beatsN j hands ord n).1).2])
structure BtOk (j : Job) (hands n : Nat) (b : BeatS × List (List (Option (Nat × Nat)))) : Prop where
  ok : FOk j hands b.1.f
  len : b.2.length ≤ b.1.f.gone.length
  rows : ∀ r ∈ b.2, r.length = hands
  run : b.1.f.s 0 ≠ .ovr → b.2.length = n
theorem beats_ok {j : Job} (hj : JobOk j) {hands : Nat} (hh : 1 ≤ hands) {ord : List (List Nat)} (hord : OrdL hands ord) : ∀ n, BtOk j hands n (beatsN j hands ord n)
  | 0 => ⟨floor0_ok hj hh, by simp [beatsN], by simp [beatsN], fun _ => rfl⟩
  | n + 1 => by
    have ih := beats_ok hj hh hord n
    unfold beatsN
    split
    · rename_i h
      exact ⟨ih.ok, ih.len, ih.rows, fun z => absurd h z⟩
    · rename_i h
      obtain ⟨a, b, c⟩ := beat_ok hj ih.ok hord
      have hb := busy_some hj ih.ok hord h
      have hl := List.length_pos_iff.mpr hb
      have := ih.len
      refine ⟨a, ?_, ?_, fun _ => ?_⟩
      · show (_ ++ [_]).length ≤ _
        rw [List.length_append, c]
        simp
        omega
      · intro r hr
        rcases List.mem_append.mp hr with q | q
        · exact ih.rows r q
        · rw [List.mem_singleton.mp q]
          exact b
      · show (_ ++ [_]).length = _
        rw [List.length_append, ih.run h]
        rfl
theorem beats_end {j : Job} (hj : JobOk j) {hands : Nat} (hh : 1 ≤ hands) {ord : List (List Nat)} (hord : OrdL hands ord) {n : Nat} (hn : 97 ≤ n) : (beatsN j hands ord n).1.f.s 0 = .ovr := by
  have B := beats_ok hj hh hord n
  apply Classical.byContradiction
  intro z
  have h1 := B.run z
  have h2 := B.len
  have h3 := B.ok.b.gl96 hj
  omega
theorem beats_stay {j : Job} {hands : Nat} {ord : List (List Nat)} {n : Nat} (h : (beatsN j hands ord n).1.f.s 0 = .ovr) : ∀ k, beatsN j hands ord (n + k) = beatsN j hands ord n
  | 0 => rfl
  | k + 1 => by
    have ih := beats_stay h k
    have e : beatsN j hands ord (n + k + 1) = if (beatsN j hands ord (n + k)).1.f.s 0 = .ovr then beatsN j hands ord (n + k) else ((beatS j hands ord (beatsN j hands ord (n + k)).1).1, (beatsN j hands ord (n + k)).2 ++ [(beatS j hands ord (beatsN j hands ord (n + k)).1).2]) := rfl
    show beatsN j hands ord (n + k + 1) = _
    rw [e, ih, if_pos h]

abbrev encRowN (l : List Nat) : D := .tup (l.map encN)
abbrev encOrd (ord : List (List Nat)) : D := .tup (ord.map encRowN)
theorem ord_get {hands : Nat} {ord : List (List Nat)} (h : OrdL hands ord) {x : Nat} (hx : x < hands) : (ord.map encRowN)[x]? = some (encRowN (ord.getD x [])) := getD_map (e := encRowN) (d := []) (by rw [h.len]; exact hx)
theorem sorted_ord {hands h : Nat} {l : List Nat} (hp : l.Perm ((List.range hands).filter fun o => decide (o ≠ h))) {ms : List Int} (h1 : ms.Perm (l.map fun k : Nat => (k : Int))) (h2 : ms.Pairwise (· ≤ ·)) : ms.map D.int = ((List.range hands).filter fun o => decide (o ≠ h)).map encN := by
  have : ms = ((List.range hands).filter fun o => decide (o ≠ h)).map fun k : Nat => (k : Int) := by
    refine sorted_uniq (h1.trans (hp.map _)) h2 ?_
    rw [List.pairwise_map]
    refine List.Pairwise.imp (fun {a b} (z : a < b) => by omega) (List.Pairwise.filter _ ?_)
    exact List.pairwise_lt_range
  rw [this, List.map_map]
  rfl
def C_is_order : Ct := fun ds G Q _ => ∃ (ord : List (List Nat)) (hands : Nat), ds = [encOrd ord, .int (hands : Nat)] ∧ OrdL hands ord ∧ hands ≤ 100 ∧ Q (.bl true) G
theorem len_is_order (ds G Q E) (h : C_is_order ds G Q E) : ds.length = 2 := by obtain ⟨_, _, rfl, _⟩ := h; rfl
abbrev N_is_order : List Str := ["thing", "hands", "hand", "some", "one", "other"]
def T_is_order : DX → DS := fun E => (dSeq (dIf (dOr (dNot (dTru (dCB isinstD (dCons (dVar 0) (dCons (dC (.ty "tuple")) dNil))))) (dTest (dOp neD (dCB lenD (dCons (dVar 0) dNil)) (dVar 1)))) (dRet (dC (.bl false))) dNext)
    (dSeq (dFor (diRange (dCons (dVar 1) dNil)) (dgName 2) (dSeq (dAsg (dOp itemD (dVar 0) (dVar 2)) (dgName 3))
    (dSeq (dIf (dOr (dNot (dTru (dCB isinstD (dCons (dVar 3) (dCons (dC (.ty "tuple")) dNil))))) (dNot (dTru (dCB allD (dCons (dLc (diSeq (dVar 3)) (bdN 4) [4] dYes (dAndV (dCB isinstD (dCons (dVar 4) (dCons (dC (.ty "int")) dNil))) (dNotV (dCB isinstD (dCons (dVar 4) (dCons (dC (.ty "bool")) dNil)))))) dNil))))) (dRet (dC (.bl false))) dNext)
    (dIf (dTest (dOp neD (dCB sortedTD (dCons (dVar 3) dNil)) (dLc (diRange (dCons (dVar 1) dNil)) (bdN 5) [5] (dTest (dOp neD (dVar 5) (dVar 2))) (dVar 5)))) (dRet (dC (.bl false))) dNext))))
    (dRet (dC (.bl true)))))
theorem run_is_order (ds G Q E) (h : C_is_order ds G Q E) : T_is_order E { nx := fun _ G' => DrK Q .non G', rt := DrK Q, bk := fun _ _ => False, ct := fun _ _ => False } (dstart N_is_order ds) G := by
  obtain ⟨ord, hands, rfl, ho, hh, q⟩ := h
  show T_is_order E _ [some (.tup (ord.map encRowN)), some (.int hands), none, none, none, none] G
  unfold T_is_order
  walk_at "run"
  refine br_ff (by rw [List.length_map, ho.len]; simp) ?_
  walk_at "run"
  refine loop_inv (fun i σ G' => ∃ v2 v3 v4 v5, Le G G' ∧ σ = [some (.tup (ord.map encRowN)), some (.int hands), v2, v3, v4, v5]) ⟨_, _, _, _, .refl _, rfl⟩ (fun _ _ _ _ _ => trivial) (fun i d σ' G' N hd hi hP hN => ?_) (fun σ' G' hP => ?_)
  · obtain ⟨v2, v3, v4, v5, le, rfl⟩ := hP
    obtain ⟨rfl, hi2⟩ := rangeD_get0 hd
    have hi3 : i < hands := by omega
    have er := ord_get ho hi3
    have hrow := ho.row i hi3
    have hlr : (ord.getD i []).length ≤ hands := by
      rw [hrow.length_eq]
      have := List.length_filter_le (fun o => decide (o ≠ i)) (List.range hands)
      rw [List.length_range] at this
      exact this
    generalize ord.getD i [] = row at er hrow hlr
    walk_at "run"
    intro c1 hc1
    refine comp_map row encN (fun _ => .bl true) (by omega) hc1 (fun _ => trivial) (fun x hx o => ⟨_, rfl, fun QD h => ?_⟩) ?_
    · walk_at "run"
      exact h
    walk_at "run"
    refine s_allL (bs := row.map fun _ => true) (by rw [up_same, List.map_map]; rfl) ?_
    have e1 : ((row.map fun _ => true).all id) = true := by simp
    rw [e1]
    walk_at "run"
    have e2 : encRowN row = .tup ((row.map fun k : Nat => (k : Int)).map D.int) := by rw [List.map_map]; rfl
    rw [e2]
    refine s_sortT fun ms c2 p1 p2 hc2 => ?_
    rw [sorted_ord hrow p1 p2]
    walk_at "run"
    intro c3 hc3
    rw [rangeD0]
    refine comp_pure (List.range hands) (fun k : Nat => D.int k) (fun o => decide (o ≠ i)) encN (by simp; omega) hc3 (fun _ => trivial) (fun x hx o => ⟨_, rfl, fun QB h => ?_, fun _ QD h => ?_⟩) ?_
    · walk_at "run"
      have : (!((x : Int) == (i : Int))) = decide (x ≠ i) := by
        by_cases z : x = i
        · simp [z]
        · have : ¬ ((x : Int) = i) := by omega
          simp [z]
          omega
      rw [this]
      exact h
    · walk_at "run"
      exact h
    refine s_neLE (xs := (List.range hands).filter fun o => decide (o ≠ i)) (ys := (List.range hands).filter fun o => decide (o ≠ i)) ok_N (by walk_at "look") up_same ?_
    rw [decide_eq_true rfl]
    walk_at "run"
    exact hN _ _ _ (.refl _) ⟨_, _, _, _, le.trans (le_new (up_free (up_free hc3)) (le_new (up_free hc2) (le_new hc1 (.refl _)))), rfl⟩
  · obtain ⟨v2, v3, v4, v5, le, rfl⟩ := hP
    walk_at "run"
    exact s_rtD le q
/-! ### Beaten on the heap -/
structure BtA where
  p : Addr
  F : FlA
structure BtAt (G : DG) (A : BtA) (j : Job) (ord : List (List Nat)) (b : BeatS) : Prop where
  hp : G A.p = some (.ins "Beaten" [("ground", .ref A.F.p), ("sight", .tup (ord.map encRowN)), ("stolen", .int b.stolen), ("rest", .int b.rest), ("peak", .int b.peak)])
  fl : FlAt G A.F j b.f
  np : A.p ∉ A.F.own
section
variable {G G' : DG} {A : BtA} {j : Job} {ord : List (List Nat)} {b : BeatS}
def BtA.own (A : BtA) : List Addr := A.p :: A.F.own
theorem BtAt.le (h : BtAt G A j ord b) (l : Le G G') : BtAt G' A j ord b := ⟨l _ _ h.hp, h.fl.le l, h.np⟩
/-- the floor has gone on -/
theorem BtAt.floor (h : BtAt G A j ord b) {f : FSt} (hf : FlAt G' A.F j f) (x : LeX A.F.own G G') : BtAt G' A j ord { b with f := f } := ⟨x _ _ h.np h.hp, hf, h.np⟩
theorem BtAt.fields (h : BtAt G A j ord b) (s r p : Int) : BtAt (up G A.p (.ins "Beaten" [("ground", .ref A.F.p), ("sight", .tup (ord.map encRowN)), ("stolen", .int s), ("rest", .int r), ("peak", .int p)])) A j ord ⟨b.f, s, r, p⟩ := ⟨up_same, h.fl.other h.np, h.np⟩
theorem putB_stolen {d a1 a2 a3 a4 a5 : D} : putD "stolen" d ([("ground", a1), ("sight", a2), ("stolen", a3), ("rest", a4), ("peak", a5)] : List (Str × D)) = ([("ground", a1), ("sight", a2), ("stolen", d), ("rest", a4), ("peak", a5)] : List (Str × D)) := by
  rw [putD, if_neg (by decide), putD, if_neg (by decide), putD, if_pos rfl]
theorem putB_rest {d a1 a2 a3 a4 a5 : D} : putD "rest" d ([("ground", a1), ("sight", a2), ("stolen", a3), ("rest", a4), ("peak", a5)] : List (Str × D)) = ([("ground", a1), ("sight", a2), ("stolen", a3), ("rest", d), ("peak", a5)] : List (Str × D)) := by
  rw [putD, if_neg (by decide), putD, if_neg (by decide), putD, if_neg (by decide), putD, if_pos rfl]
theorem putB_peak {d a1 a2 a3 a4 a5 : D} : putD "peak" d ([("ground", a1), ("sight", a2), ("stolen", a3), ("rest", a4), ("peak", a5)] : List (Str × D)) = ([("ground", a1), ("sight", a2), ("stolen", a3), ("rest", a4), ("peak", d)] : List (Str × D)) := by
  rw [putD, if_neg (by decide), putD, if_neg (by decide), putD, if_neg (by decide), putD, if_neg (by decide), putD, if_pos rfl]
end

theorem BtAt.notin {G : DG} {A : BtA} {j : Job} {ord : List (List Nat)} {b : BeatS} (h : BtAt G A j ord b) {a : Addr} (ha : G a = none) : a ∉ A.own := fun m => by
  rcases List.mem_cons.mp m with rfl | m
  · rw [h.hp] at ha; cases ha
  · exact h.fl.notin ha m
theorem BtAt.other {G : DG} {A : BtA} {j : Job} {ord : List (List Nat)} {b : BeatS} (h : BtAt G A j ord b) {p : Addr} {o : O} (hp : p ∉ A.own) : BtAt (up G p o) A j ord b := ⟨up_nx (fun z => hp (by rw [← z]; simp [BtA.own])) h.hp, h.fl.other fun m => hp (by simp [BtA.own, m]), h.np⟩
theorem LeX.wide {G G' : DG} {A : BtA} (l : LeX A.F.own G G') : LeX A.own G G' := fun b o hb e => l b o (fun m => hb (by simp [BtA.own, m])) e
def C_Beaten_look : Ct := fun ds G Q _ => ∃ A j ord b hands hand, ds = [.ref A.p, .int (hand : Nat)] ∧ BtAt G A j ord b ∧ FOk j hands b.f ∧ OrdL hands ord ∧ hands ≤ 100 ∧ hand < hands ∧ b.f.cu hand = none ∧
  ∀ G', BtAt G' A j ord { b with f := (lookS b.f (ord.getD hand []) hand).1, stolen := b.stolen + ((lookS b.f (ord.getD hand []) hand).2 : Nat) } → LeX A.own G G' → Q .non G'
theorem len_Beaten_look (ds G Q E) (h : C_Beaten_look ds G Q E) : ds.length = 2 := by obtain ⟨_, _, _, _, _, _, rfl, _⟩ := h; rfl
abbrev N_Beaten_look : List Str := ["self", "hand", "other"]
def T_Beaten_look : DX → DS := fun E => (dSeq (dIf (dTest (dOp neD (dOp itemD (dFld "Floor" "piles" (dFld "Beaten" "ground" (dVar 0))) (dVar 1)) (dLst dNil))) (dSeq (dDrop (dMeth "Floor" "take_own" C_Floor_take_own E (dFld "Beaten" "ground" (dVar 0)) (dCons (dVar 1) dNil)))
    (dRet (dC .non))) dNext)
    (dSeq (dFor (diSeq (dOp itemD (dFld "Beaten" "sight" (dVar 0)) (dVar 1))) (dgName 2) (dIf (dTest (dOp neD (dOp itemD (dFld "Floor" "piles" (dFld "Beaten" "ground" (dVar 0))) (dVar 2)) (dLst dNil))) (dSeq (dDrop (dMeth "Floor" "rob" C_Floor_rob E (dFld "Beaten" "ground" (dVar 0)) (dCons (dVar 1) (dCons (dVar 2) dNil))))
    (dSeq (dSetF "Beaten" "stolen" (dVar 0) (dOp addD (dFld "Beaten" "stolen" (dVar 0)) (dC (.int 1))))
    (dRet (dC .non)))) dNext))
    (dRet (dC .non))))
theorem run_Beaten_look (ds G Q E) (h : C_Beaten_look ds G Q E) : T_Beaten_look E { nx := fun _ G' => DrK Q .non G', rt := DrK Q, bk := fun _ _ => False, ct := fun _ _ => False } (dstart N_Beaten_look ds) G := by
  obtain ⟨A, j, ord, b, hands, hand, rfl, B, ok, hord, hh100, hh, hc, q⟩ := h
  show T_Beaten_look E _ [some (.ref A.p), some (.int hand), none] G
  have F := B.fl
  have hB := B.hp
  have hp := F.hp
  have hpi := F.pil
  have hpln := F.pln
  have l5 := ok.b.len.piles
  have gp : ∀ x, x < hands → ∃ c, A.F.pc[x]? = some c ∧ (A.F.pc.map D.ref)[x]? = some (.ref c) ∧ G c = some (.lst ((b.f.pl x).map encN)) := fun x hx => by
    have hc : A.F.pc[x]? = some (A.F.pc[x]'(by omega)) := List.getElem?_eq_getElem _
    exact ⟨_, hc, by rw [List.getElem?_map, hc]; rfl, F.pc x _ _ hc (FSt.pl_get (by omega))⟩
  obtain ⟨c, hc1, hcD, hGc⟩ := gp hand hh
  unfold lookS at q
  unfold T_Beaten_look
  walk_at "run"
  intro c1 hc2
  have le1 : Le G (up G c1 (.lst [])) := le_new hc2 (.refl _)
  refine s_neLE (ys := []) ok_N (by walk_at "look") up_same ?_
  cases hl : (b.f.pl hand).getLast? with
  | some w =>
    simp only [hl] at q
    have hne : b.f.pl hand ≠ [] := fun z => by rw [z] at hl; cases hl
    rw [decide_eq_false hne]
    walk_at "run"
    refine UpC.of ⟨A.F, j, b.f, hands, hand, w, rfl, F.le le1, ok.b.len, hh, hl, fun G1 F1 X1 => ?_⟩
    walk_at "run"
    have B1 := (B.le le1).floor F1 X1
    have X2 : LeX A.own G G1 := (lex_new' lex_refl hc2).trans X1.wide
    have := q G1 (by simpa using B1) X2
    exact s_rt this
  | none =>
    simp only [hl] at q
    have hne : b.f.pl hand = [] := List.getLast?_eq_none_iff.mp hl
    rw [decide_eq_true hne]
    have B1 := B.le le1
    have X1 : LeX A.own G (up G c1 (.lst [])) := lex_new' lex_refl hc2
    generalize up G c1 (.lst []) = G1 at B1 X1 le1
    have F1 := B1.fl
    have hB1 := B1.hp
    have er := ord_get hord hh
    have rlt : ∀ o ∈ ord.getD hand [], o < hands := fun o ho => (hord.lt hh ho).1
    generalize hrow : ord.getD hand [] = row at er q rlt
    walk_at "run"
    refine loop_inv (fun i σ G2 => ∃ v2, (lookO b.f row = lookO b.f (row.drop i)) ∧ BtAt G2 A j ord b ∧ LeX A.own G G2 ∧ σ = [some (.ref A.p), some (.int hand), v2]) ⟨_, rfl, B1, X1, rfl⟩ (fun _ _ _ _ _ => trivial) (fun i d σ' G2 N hd hi hP hN => ?_) (fun σ' G2 hP => ?_)
    · clear hB hp hpi hB1
      obtain ⟨v2, hlo, B2, X2, rfl⟩ := hP
      rw [List.length_map] at hi
      rw [List.getElem?_map, List.getElem?_eq_getElem hi] at hd
      cases hd
      have hol := rlt _ (List.getElem_mem hi)
      rw [List.drop_eq_getElem_cons hi] at hlo
      generalize row[i] = o at hol hlo
      have F2 := B2.fl
      have hB2 := B2.hp
      have hp2 := F2.hp
      have hpi2 := F2.pil
      have hoc : A.F.pc[o]? = some (A.F.pc[o]'(by omega)) := List.getElem?_eq_getElem _
      have hocD : (A.F.pc.map D.ref)[o]? = some (.ref (A.F.pc[o]'(by omega))) := by rw [List.getElem?_map, hoc]; rfl
      have hGo : G2 (A.F.pc[o]'(by omega)) = some (.lst ((b.f.pl o).map encN)) := F2.pc o _ _ hoc (FSt.pl_get (by omega))
      generalize (A.F.pc[o]'(by omega)) = co at hoc hocD hGo
      walk_at "run"
      intro c3 hc3
      have le3 : Le G2 (up G2 c3 (.lst [])) := le_new hc3 (.refl _)
      refine s_neLE (xs := b.f.pl o) (ys := []) ok_N (by walk_at "look") up_same ?_
      rw [show lookO b.f (o :: row.drop (i + 1)) = (match (b.f.pl o).head? with | some w => some (o, w) | none => lookO b.f (row.drop (i + 1))) from rfl] at hlo
      cases hl2 : (b.f.pl o).head? with
      | some w =>
        simp only [hl2] at hlo
        have hne2 : b.f.pl o ≠ [] := fun z => by rw [z] at hl2; cases hl2
        rw [decide_eq_false hne2]
        rw [hlo] at q
        walk_at "run"
        refine UpC.of ⟨A.F, j, b.f, hands, hand, o, w, rfl, F2.le le3, ok.b.len, hh, hol, hl2, fun G4 F4 X4 => ?_⟩
        have B4 := (B2.le le3).floor F4 X4
        have X4' : LeX A.own G G4 := X2.trans ((lex_new' lex_refl hc3).trans X4.wide)
        have hB4 := B4.hp
        walk_at "run"
        refine s_setFB hB4 (by simp) putB_stolen ?_
        walk_at "run"
        refine s_rt (q _ (B4.fields (b.stolen + 1) b.rest b.peak) (lex_mem (by simp [BtA.own]) X4'))
      | none =>
        simp only [hl2] at hlo
        have hne2 : b.f.pl o = [] := by
          cases e : b.f.pl o with
          | nil => rfl
          | cons y ys => rw [e] at hl2; cases hl2
        rw [decide_eq_true hne2]
        walk_at "run"
        exact hN _ _ _ (.refl _) ⟨_, hlo, B2.le le3, X2.trans (lex_new' lex_refl hc3), rfl⟩
    · obtain ⟨v2, hlo, B2, X2, rfl⟩ := hP
      rw [List.length_map, List.drop_length] at hlo
      have hlo' : lookO b.f row = none := hlo
      rw [hlo'] at q
      walk_at "run"
      refine s_rt (q G2 ?_ X2)
      simpa using B2

abbrev encStepO : Option (Nat × Nat) → D
  | none => .non
  | some p => .tup [.int p.1, .int p.2]
def C_Beaten_beat : Ct := fun ds G Q _ => ∃ A j ord b hands, ds = [.ref A.p] ∧ BtAt G A j ord b ∧ JobOk j ∧ FOk j hands b.f ∧ OrdL hands ord ∧ hands ≤ 100 ∧
  ∀ G' p, BtAt G' A j ord (beatS j hands ord b).1 → LeX A.own G G' → G p = none → p ∉ A.own → G' p = some (.lst ((beatS j hands ord b).2.map encStepO)) → Q (.ref p) G'
theorem len_Beaten_beat (ds G Q E) (h : C_Beaten_beat ds G Q E) : ds.length = 1 := by obtain ⟨_, _, _, _, _, rfl, _⟩ := h; rfl
abbrev N_Beaten_beat : List Str := ["self", "hand", "busy", "found"]
def T_Beaten_beat : DX → DS := fun E => (dSeq (dFor (diRange (dCons (dCB lenD (dCons (dFld "Beaten" "sight" (dVar 0)) dNil)) dNil)) (dgName 1) (dIf (dTest (dOp (isD false) (dOp itemD (dFld "Floor" "current" (dFld "Beaten" "ground" (dVar 0))) (dVar 1)) (dC .non))) (dDrop (dMeth "Beaten" "look" C_Beaten_look E (dVar 0) (dCons (dVar 1) dNil))) dNext))
    (dSeq (dAsg (dLc (diRange (dCons (dCB lenD (dCons (dFld "Beaten" "sight" (dVar 0)) dNil)) dNil)) (bdN 1) [1] (dTest (dOp (isD true) (dOp itemD (dFld "Floor" "current" (dFld "Beaten" "ground" (dVar 0))) (dVar 1)) (dC .non))) (dVar 1)) (dgName 2))
    (dSeq (dAsg (dOp mulD (dLst (dCons (dC .non) dNil)) (dCB lenD (dCons (dFld "Beaten" "sight" (dVar 0)) dNil))) (dgName 3))
    (dSeq (dFor (diSeq (dVar 2)) (dgName 1) (dSeq (dAsg (dMeth "Floor" "do_step" C_Floor_do_step E (dFld "Beaten" "ground" (dVar 0)) (dCons (dVar 1) dNil)) (dgSub (dVar 3) (dVar 1)))
    (dSetF "Beaten" "peak" (dVar 0) (dCB maxD (dCons (dFld "Beaten" "peak" (dVar 0)) (dCons (dMeth "Floor" "space" C_Floor_space E (dFld "Beaten" "ground" (dVar 0)) dNil) dNil))))))
    (dSeq (dSetF "Beaten" "rest" (dVar 0) (dOp subD (dOp addD (dFld "Beaten" "rest" (dVar 0)) (dCB lenD (dCons (dFld "Beaten" "sight" (dVar 0)) dNil))) (dCB lenD (dCons (dVar 2) dNil))))
    (dRet (dVar 3)))))))
theorem run_Beaten_beat (ds G Q E) (h : C_Beaten_beat ds G Q E) : T_Beaten_beat E { nx := fun _ G' => DrK Q .non G', rt := DrK Q, bk := fun _ _ => False, ct := fun _ _ => False } (dstart N_Beaten_beat ds) G := by
  obtain ⟨A, j, ord, b, hands, rfl, B, hj, ok, hord, hh100, q⟩ := h
  show T_Beaten_beat E _ [some (.ref A.p), none, none, none] G
  have hB := B.hp
  have hol := hord.len
  unfold T_Beaten_beat
  walk_at "run"
  rw [List.length_map, hol]
  refine loop_inv (fun i σ G1 => ∃ v1, BtAt G1 A j ord { b with f := (looksN b.f ord i).1, stolen := b.stolen + ((looksN b.f ord i).2 : Nat) } ∧ LeX A.own G G1 ∧ σ = [some (.ref A.p), v1, none, none]) ⟨_, by simpa [looksN] using B, lex_refl, rfl⟩ (fun _ _ _ _ _ => trivial) (fun i d σ' G1 N hd hi hP hN => ?_) (fun σ' G1 hP => ?_)
  · clear hB
    obtain ⟨v1, B1, X1, rfl⟩ := hP
    obtain ⟨rfl, hi2⟩ := rangeD_get0 hd
    have hi3 : i < hands := by omega
    have ok1 := looksN_ok ok hord i (by omega)
    have hB1 := B1.hp
    have hp1 := B1.fl.hp
    have hcu := B1.fl.cur
    have l1 := ok1.b.len.cur
    have ec : ((looksN b.f ord i).1.cur.map encO)[i]? = some (encO ((looksN b.f ord i).1.cu i)) := getD_map (e := encO) (d := none) (by omega)
    walk_at "run"
    cases hc : (looksN b.f ord i).1.cu i with
    | some w =>
      have e1 : encO (some w) = .int w := rfl
      rw [e1]
      walk_at "run"
      refine hN _ _ _ (.refl _) ⟨_, ?_, X1, rfl⟩
      have e2 : looksN b.f ord (i + 1) = looksN b.f ord i := by
        show (match (looksN b.f ord i).1.cu i with | some _ => looksN b.f ord i | none => _) = _
        rw [hc]
      rw [e2]
      exact B1
    | none =>
      have e1 : encO none = .non := rfl
      rw [e1]
      walk_at "run"
      refine UpC.of ⟨A, j, ord, _, hands, i, rfl, B1, ok1, hord, hh100, hi3, hc, fun G2 B2 X2 => ?_⟩
      walk_at "run"
      refine hN _ _ _ (.refl _) ⟨_, ?_, X1.trans X2, rfl⟩
      have e2 : looksN b.f ord (i + 1) = ((lookS (looksN b.f ord i).1 (ord.getD i []) i).1, (looksN b.f ord i).2 + (lookS (looksN b.f ord i).1 (ord.getD i []) i).2) := by
        show (match (looksN b.f ord i).1.cu i with | some _ => looksN b.f ord i | none => _) = _
        rw [hc]
      rw [e2]
      have e3 : b.stolen + (((looksN b.f ord i).2 + (lookS (looksN b.f ord i).1 (ord.getD i []) i).2 : Nat) : Int) = b.stolen + ((looksN b.f ord i).2 : Nat) + ((lookS (looksN b.f ord i).1 (ord.getD i []) i).2 : Nat) := by omega
      rw [e3]
      exact B2
  · clear hB
    obtain ⟨v1, B1, X1, rfl⟩ := hP
    rw [rangeD_length, show (((hands : Nat) : Int) - 0).toNat = hands by omega] at B1
    have okl := looksN_ok ok hord hands (Nat.le_refl _)
    have ebt : beatS j hands ord b = (⟨((busyS (looksN b.f ord hands).1 hands).foldl (actB j) ⟨(looksN b.f ord hands).1, List.replicate hands none, b.peak⟩).f, b.stolen + ((looksN b.f ord hands).2 : Nat), b.rest + hands - ((busyS (looksN b.f ord hands).1 hands).length : Nat), ((busyS (looksN b.f ord hands).1 hands).foldl (actB j) ⟨(looksN b.f ord hands).1, List.replicate hands none, b.peak⟩).peak⟩, ((busyS (looksN b.f ord hands).1 hands).foldl (actB j) ⟨(looksN b.f ord hands).1, List.replicate hands none, b.peak⟩).row) := rfl
    rw [ebt] at q
    obtain ⟨bnd, bmem⟩ := busy_nd (f := (looksN b.f ord hands).1) (hands := hands)
    have hstol : b.stolen + ((looksN b.f ord hands).2 : Nat) = b.stolen + ((looksN b.f ord hands).2 : Nat) := rfl
    generalize hst : b.stolen + ((looksN b.f ord hands).2 : Nat) = stol at B1 q
    clear hstol hst ebt
    generalize hF0 : (looksN b.f ord hands).1 = f0 at *
    have hB1 := B1.hp
    have hp1 := B1.fl.hp
    have hcu := B1.fl.cur
    have l1 := okl.b.len.cur
    walk_at "run"
    intro c1 hc1
    rw [List.length_map, hol, rangeD0]
    refine comp_pure (List.range hands) (fun k : Nat => D.int k) (fun h => (f0.cu h).isSome) encN (by simp; omega) hc1 (fun _ => trivial) (fun x hx o => ⟨_, rfl, fun QB h => ?_, fun _ QD h => ?_⟩) ?_
    · have hx' : x < hands := by simpa using hx
      have ec : (f0.cur.map encO)[x]? = some (encO (f0.cu x)) := getD_map (e := encO) (d := none) (by omega)
      have hB2 : up G1 c1 o A.p = _ := up_nx (gne hB1 hc1) hB1
      have hp2 : up G1 c1 o A.F.p = _ := up_nx (gne hp1 hc1) hp1
      have hcu2 : up G1 c1 o A.F.cur = _ := up_nx (gne hcu hc1) hcu
      walk_at "run"
      cases e : f0.cu x with
      | none =>
        rw [e] at h
        have e1 : encO none = .non := rfl
        rw [e1]
        walk_at "run"
        exact h
      | some w =>
        rw [e] at h
        have e1 : encO (some w) = .int w := rfl
        rw [e1]
        walk_at "run"
        exact h
    · walk_at "run"
      exact h
    have ebusy : ((List.range hands).filter fun h => (f0.cu h).isSome) = busyS f0 hands := rfl
    rw [ebusy]
    have hlb : (busyS f0 hands).length ≤ hands := by
      have := List.length_filter_le (fun h => (f0.cu h).isSome) (List.range hands)
      rw [List.length_range] at this
      exact this
    have c1A : c1 ∉ A.own := B1.notin hc1
    have B2 := B1.other (o := .lst ((busyS f0 hands).map encN)) c1A
    have X2 : LeX A.own G (up G1 c1 (.lst ((busyS f0 hands).map encN))) := lex_new' X1 hc1
    have gc1 : up G1 c1 (.lst ((busyS f0 hands).map encN)) c1 = some (.lst ((busyS f0 hands).map encN)) := up_same
    generalize hG2 : up G1 c1 (.lst ((busyS f0 hands).map encN)) = G2 at B2 X2 gc1
    clear hG2 hB1 hp1 hcu hc1
    have hB2 := B2.hp
    walk_at "run"
    intro c2 hc2
    walk_at "run"
    rw [List.length_map, hol]
    refine s_mulL up_same ⟨⟨by omega, by omega⟩, szL (by simp; omega)⟩ (fun row hrow => ?_)
    rw [rep_flat', Int.toNat_natCast] at *
    have c2A : c2 ∉ A.own := B2.notin hc2
    have hc2c : c1 ≠ c2 := gne gc1 hc2
    have rowA : row ∉ A.own := (B2.other (o := .lst [.non]) c2A).notin hrow
    have hrc : c1 ≠ row := gne (G := up G2 c2 (.lst [.non])) (up_nx hc2c gc1) hrow
    have B3 := (B2.other (o := .lst [.non]) c2A).other (o := .lst (List.replicate hands .non)) rowA
    have X3 : LeX A.own G (up (up G2 c2 (.lst [.non])) row (.lst (List.replicate hands .non))) := lex_new' (lex_new' X2 hc2) hrow
    have g3 : up (up G2 c2 (.lst [.non])) row (.lst (List.replicate hands .non)) c1 = some (.lst ((busyS f0 hands).map encN)) := up_nx hrc (up_nx hc2c gc1)
    have r3 : up (up G2 c2 (.lst [.non])) row (.lst (List.replicate hands .non)) row = some (.lst ((List.replicate hands (none : Option (Nat × Nat))).map encStepO)) := by
      rw [up_same, List.map_replicate]
    have grow : G row = none := by
      cases e : G row with
      | none => rfl
      | some o =>
        have h2 := X2 row o rowA e
        have := up_free hrow
        rw [h2] at this
        cases this
    generalize hG3 : up (up G2 c2 (.lst [.non])) row (.lst (List.replicate hands .non)) = G3 at B3 X3 g3 r3
    clear hG3 hB2 hc2 hrow gc1
    walk_at "run"
    refine loop_inv (fun i σ G4 => ∃ v1, BtAt G4 A j ord ⟨(((busyS f0 hands).take i).foldl (actB j) ⟨f0, List.replicate hands none, b.peak⟩).f, stol, b.rest, (((busyS f0 hands).take i).foldl (actB j) ⟨f0, List.replicate hands none, b.peak⟩).peak⟩ ∧ LeX A.own G G4 ∧ G4 c1 = some (.lst ((busyS f0 hands).map encN)) ∧ G4 row = some (.lst ((((busyS f0 hands).take i).foldl (actB j) ⟨f0, List.replicate hands none, b.peak⟩).row.map encStepO)) ∧ σ = [some (.ref A.p), v1, some (.ref c1), some (.ref row)]) ⟨_, B3, X3, g3, r3, rfl⟩ (fun i σ' G4 _ hP => ?_) (fun i d σ' G4 N hd hi hP hN => ?_) (fun σ' G4 hP => ?_)
    · obtain ⟨v1, _, _, g4, _⟩ := hP
      exact g4
    · obtain ⟨v1, B4, X4, g4, r4, rfl⟩ := hP
      rw [List.length_map] at hi
      rw [List.getElem?_map, List.getElem?_eq_getElem hi] at hd
      cases hd
      have etk : (busyS f0 hands).take (i + 1) = (busyS f0 hands).take i ++ [(busyS f0 hands)[i]] := by rw [List.take_add_one, List.getElem?_eq_getElem hi]; rfl
      obtain ⟨hbl, hbs⟩ := bmem _ (List.getElem_mem hi)
      have nd1 : ((busyS f0 hands).take i).Nodup := (List.take_sublist _ _).nodup bnd
      obtain ⟨AO, hcu⟩ := act_ok hj (s0 := ⟨f0, List.replicate hands none, b.peak⟩) okl (by simp) _ nd1 fun h hh => (bmem h (List.mem_of_mem_take hh)).2
      have hnin : (busyS f0 hands)[i] ∉ (busyS f0 hands).take i := fun m => by
        rw [← List.take_append_drop (i + 1) (busyS f0 hands), etk] at bnd
        rw [List.nodup_append] at bnd
        have := bnd.1
        rw [List.nodup_append] at this
        exact this.2.2 _ m _ (by simp) rfl
      have hcx := hcu _ hnin
      generalize hsx : ((busyS f0 hands).take i).foldl (actB j) ⟨f0, List.replicate hands none, b.peak⟩ = sx at *
      generalize (busyS f0 hands)[i] = h at *
      have hrl := AO.len
      have rA : row ≠ A.p := fun z => rowA (by rw [z]; simp [BtA.own])
      obtain ⟨w, ew⟩ : ∃ w, sx.f.cu h = some w := by
        rw [hcx]
        cases e : f0.cu h with
        | none =>
          rw [e] at hbs
          cases hbs
        | some w => exact ⟨w, rfl⟩
      obtain ⟨p1, p2, p3⟩ := AO.ok.pre hj h
      have hB4 := B4.hp
      have hF4 := B4.fl.hp
      have hact : actB j sx h = ⟨stepS j sx.f h w, sx.row.set h (some (w, sx.f.a w)), if spaceS j (stepS j sx.f h w) > sx.peak then spaceS j (stepS j sx.f h w) else sx.peak⟩ := by
        show (match sx.f.cu h with | some w => _ | none => _) = _
        rw [ew]
      walk_at "run"
      refine UpC.of ⟨A.F, j, sx.f, hands, h, w, rfl, B4.fl, hj, AO.ok.b.len, hbl, ew, p1 w ew, p2, p3, fun G5 F5 X5 => ?_⟩
      have B5 := B4.floor F5 X5
      have g5 : G5 c1 = some (.lst ((busyS f0 hands).map encN)) := X5 _ _ (fun m => c1A (by simp [BtA.own, m])) g4
      have r5 : G5 row = some (.lst (sx.row.map encStepO)) := X5 _ _ (fun m => rowA (by simp [BtA.own, m])) r4
      have X6 : LeX A.own G G5 := X4.trans X5.wide
      have xr : ixN (sx.row.map encStepO).length (h : Int) = some h := by rw [List.length_map, hrl]; exact ixN_lt hbl
      walk_at "run"
      have B6 := B5.other (o := .lst ((sx.row.map encStepO).set h (.tup [.int w, .int (sx.f.a w)]))) rowA
      have g6 : up G5 row (.lst ((sx.row.map encStepO).set h (.tup [.int w, .int (sx.f.a w)]))) c1 = some (.lst ((busyS f0 hands).map encN)) := up_nx hrc g5
      have r6 : up G5 row (.lst ((sx.row.map encStepO).set h (.tup [.int w, .int (sx.f.a w)]))) row = some (.lst ((sx.row.set h (some (w, sx.f.a w))).map encStepO)) := by rw [up_same, ← map_setD]
      have X7 : LeX A.own G (up G5 row (.lst ((sx.row.map encStepO).set h (.tup [.int w, .int (sx.f.a w)])))) := fun b o hb e => up_nx (gne e grow) (X6 b o hb e)
      generalize up G5 row (.lst ((sx.row.map encStepO).set h (.tup [.int w, .int (sx.f.a w)]))) = G6 at B6 g6 r6 X7
      clear hB4
      have hB6 := B6.hp
      have hF6 := B6.fl.hp
      have okn := AO.ok.step hj ew
      walk_at "run"
      refine UpC.of ⟨A.F, j, _, rfl, B6.fl, hj, okn.b.len.st, ?_⟩
      walk_at "run"
      refine s_setFB hB6 (by simp) putB_peak ?_
      refine hN _ _ _ (.refl _) ⟨_, ?_, lex_mem (by simp [BtA.own]) X7, up_nx (fun z => c1A (by rw [z]; simp [BtA.own])) g6, up_nx rA ?_, rfl⟩
      · rw [etk, List.foldl_append, hsx]
        show BtAt _ A j ord ⟨(actB j sx h).f, stol, b.rest, (actB j sx h).peak⟩
        rw [hact]
        exact B6.fields stol b.rest _
      · rw [etk, List.foldl_append, hsx]
        show G6 row = some (.lst ((actB j sx h).row.map encStepO))
        rw [hact]
        exact r6
    · obtain ⟨v1, B4, X4, g4, r4, rfl⟩ := hP
      rw [List.length_map, List.take_length] at B4 r4
      have hB4 := B4.hp
      have hF4 := B4.fl.hp
      walk_at "run"
      refine s_setFB hB4 (by simp) putB_rest ?_
      walk_at "run"
      refine s_rt (q _ row ?_ (lex_mem (by simp [BtA.own]) X4) grow rowA (up_nx (fun z => rowA (by rw [z]; simp [BtA.own])) r4))
      rw [List.length_map, hol, List.length_map]
      exact B4.fields stol _ _

theorem Lls.lex {G G' G2 : DG} {a : Addr} {cs own : List Addr} {wss : List (List D)} (h : Lls G G' a cs wss) (X : LeX own G' G2) (hf : ∀ x ∈ own, G x = none) (ha : a ∉ own) (hc : ∀ c ∈ cs, c ∉ own) : Lls G G2 a cs wss :=
  { h with
    le := fun b o e => X b o (fun m => by rw [hf b m] at e; cases e) (h.le b o e)
    ha := X _ _ ha h.ha
    at_ := fun i c ws e1 e2 => X _ _ (hc c (List.mem_of_getElem? e1)) (h.at_ i c ws e1 e2) }
theorem Lls.app {G G' : DG} {a c : Addr} {cs : List Addr} {wss : List (List D)} {ws : List D} (h : Lls G G' a cs wss) (hc : G' c = some (.lst ws)) (gc : G c = none) (ca : c ≠ a) (cc : c ∉ cs) : Lls G (up G' a (.lst ((cs ++ [c]).map .ref))) a (cs ++ [c]) (wss ++ [ws]) := by
  refine ⟨le_new h.fa h.le, up_same, by simp [h.len], ?_, by simp [h.ac, Ne.symm ca], fun i d ws' e1 e2 => ?_, h.fa, ?_⟩
  · rw [List.nodup_append]
    exact ⟨h.nd, by simp, fun u hu v hv => by simp at hv; subst hv; exact fun e => cc (e ▸ hu)⟩
  · have hd := List.mem_of_getElem? e1
    refine up_nx (fun e => ?_) ?_
    · subst e
      simp [h.ac, Ne.symm ca] at hd
    · by_cases hi : i < cs.length
      · rw [List.getElem?_append_left hi] at e1
        rw [List.getElem?_append_left (h.len ▸ hi)] at e2
        exact h.at_ i d ws' e1 e2
      · have : i = cs.length := by
          have := (List.getElem?_eq_some_iff.mp e1).1
          simp at this
          omega
        subst this
        rw [List.getElem?_append_right (by omega)] at e1
        rw [h.len, List.getElem?_append_right (by omega)] at e2
        simp at e1 e2
        subst e1
        subst e2
        exact hc
  · intro u hu
    simp at hu
    rcases hu with hu | rfl
    · exact h.fc u hu
    · exact gc
theorem Lls.mem {G G' : DG} {a c : Addr} {cs : List Addr} {wss : List (List D)} (h : Lls G G' a cs wss) (hc : c ∈ cs) : ∃ ws, G' c = some (.lst ws) := by
  obtain ⟨i, hi, e⟩ := List.mem_iff_getElem.mp hc
  exact ⟨_, h.at_ i c (wss[i]'(h.len ▸ hi)) (by rw [List.getElem?_eq_getElem hi, e]) (List.getElem?_eq_getElem _)⟩
def C_Beaten___init__ : Ct := fun ds G Q _ => ∃ (x : Addr) (j : Job) (hands : Nat) (ord : List (List Nat)), ds = [.ref x, encJob j, .int (hands : Nat), encOrd ord] ∧ JobOk j ∧ 1 ≤ hands ∧ hands ≤ 100 ∧ G x = some (.ins "Beaten" []) ∧
  ∀ G' A, A.p = x → BtAt G' A j ord ⟨floor0 j hands, 0, 0, spaceS j (floor0 j hands)⟩ → LeX [x] G G' → (∀ a ∈ A.own, a ≠ x → G a = none) → Q .non G'
theorem len_Beaten___init__ (ds G Q E) (h : C_Beaten___init__ ds G Q E) : ds.length = 4 := by obtain ⟨_, _, _, _, rfl, _⟩ := h; rfl
abbrev N_Beaten___init__ : List Str := ["self", "job", "hands", "order"]
def T_Beaten___init__ : DX → DS := fun E => (dSeq (dSetF "Beaten" "ground" (dVar 0) (dMake "Floor" C_Floor___init__ E (dCons (dVar 1) (dCons (dVar 2) dNil))))
    (dSeq (dSetF "Beaten" "sight" (dVar 0) (dVar 3))
    (dSeq (dSetF "Beaten" "stolen" (dVar 0) (dC (.int 0)))
    (dSeq (dSetF "Beaten" "rest" (dVar 0) (dC (.int 0)))
    (dSetF "Beaten" "peak" (dVar 0) (dMeth "Floor" "space" C_Floor_space E (dFld "Beaten" "ground" (dVar 0)) dNil))))))
theorem run_Beaten___init__ (ds G Q E) (h : C_Beaten___init__ ds G Q E) : T_Beaten___init__ E { nx := fun _ G' => DrK Q .non G', rt := DrK Q, bk := fun _ _ => False, ct := fun _ _ => False } (dstart N_Beaten___init__ ds) G := by
  obtain ⟨x, j, hands, ord, rfl, hj, h1, h2, hx, q⟩ := h
  show T_Beaten___init__ E _ [some (.ref x), some (.tup (j.map encWork)), some (.int hands), some (.tup (ord.map encRowN))] G
  unfold T_Beaten___init__
  walk_at "run"
  intro fl hfl
  refine UpC.of ⟨fl, j, hands, rfl, hj, h1, h2, up_same, fun G1 F ef FA X hfr => ⟨rfl, ?_⟩⟩
  subst ef
  have xf : x ≠ F.p := gne hx hfl
  have hx1 : G1 x = some (.ins "Beaten" []) := X _ _ (by simp [xf]) (up_nx xf hx)
  have frG : ∀ a ∈ F.own, G a = none := fun a ha => by
    by_cases e : a = F.p
    · rw [e]; exact hfl
    · exact up_free (hfr a ha e)
  have le1 : Le G G1 := fun b o e => X b o (by simp; exact gne e hfl) (up_nx (gne e hfl) e)
  have xF : x ∉ F.own := fun m => by have := frG x m; rw [hx] at this; cases this
  walk_at "run"
  simp only [up_up]
  have FA2 := FA.other (o := .ins "Beaten" [("ground", .ref F.p), ("sight", .tup (ord.map encRowN)), ("stolen", .int 0), ("rest", .int 0)]) xF
  have hx2 : up G1 x (.ins "Beaten" [("ground", .ref F.p), ("sight", .tup (ord.map encRowN)), ("stolen", .int 0), ("rest", .int 0)]) x = some (.ins "Beaten" [("ground", .ref F.p), ("sight", .tup (ord.map encRowN)), ("stolen", .int 0), ("rest", .int 0)]) := up_same
  have X2 : LeX [x] G (up G1 x (.ins "Beaten" [("ground", .ref F.p), ("sight", .tup (ord.map encRowN)), ("stolen", .int 0), ("rest", .int 0)])) := lex_mem (by simp) fun b o _ e => le1 b o e
  generalize up G1 x (.ins "Beaten" [("ground", .ref F.p), ("sight", .tup (ord.map encRowN)), ("stolen", .int 0), ("rest", .int 0)]) = G2 at *
  have hF2 := FA2.hp
  walk_at "run"
  refine UpC.of ⟨F, j, _, rfl, FA2, hj, (floor0_ok hj h1).b.len.st, ?_⟩
  walk_at "run"
  refine s_rt (q _ ⟨x, F⟩ rfl ⟨up_same, FA2.other xF, xF⟩ (lex_mem (by simp) X2) fun a ha e => ?_)
  have : a ∈ F.own := by
    rcases List.mem_cons.mp ha with z | z
    · exact absurd z e
    · exact z
  exact frG a this
def C_all_beats : Ct := fun ds G Q _ => ∃ (j : Job) (hands : Nat) (ord : List (List Nat)), ds = [encJob j, .int (hands : Nat), encOrd ord] ∧ JobOk j ∧ 1 ≤ hands ∧ hands ≤ 100 ∧ OrdL hands ord ∧
  ∀ G' A p cs, BtAt G' A j ord (beatsN j hands ord 97).1 → Lls G G' p cs ((beatsN j hands ord 97).2.map (·.map encStepO)) → Q (.tup [.ref A.p, .ref p]) G'
theorem len_all_beats (ds G Q E) (h : C_all_beats ds G Q E) : ds.length = 3 := by obtain ⟨_, _, _, rfl, _⟩ := h; rfl
abbrev N_all_beats : List Str := ["job", "hands", "order", "found", "rows"]
def T_all_beats : DX → DS := fun E => (dSeq (dIf (dNot (dTru (dCall C_is_order E (dCons (dVar 2) (dCons (dVar 1) dNil))))) dNever dNext)
    (dSeq (dAsg (dMake "Beaten" C_Beaten___init__ E (dCons (dVar 0) (dCons (dVar 1) (dCons (dVar 2) dNil)))) (dgName 3))
    (dSeq (dAsg (dLst dNil) (dgName 4))
    (dSeq (dWhile (dNot (dTru (dMeth "Floor" "is_all_over" C_Floor_is_all_over E (dFld "Beaten" "ground" (dVar 3)) dNil))) (dDrop (dMt appendD (dVar 4) (dCons (dMeth "Beaten" "beat" C_Beaten_beat E (dVar 3) dNil) dNil))))
    (dRet (dTup (dCons (dVar 3) (dCons (dVar 4) dNil))))))))
theorem run_all_beats (ds G Q E) (h : C_all_beats ds G Q E) : T_all_beats E { nx := fun _ G' => DrK Q .non G', rt := DrK Q, bk := fun _ _ => False, ct := fun _ _ => False } (dstart N_all_beats ds) G := by
  obtain ⟨j, hands, ord, rfl, hj, h1, h2, hord, q⟩ := h
  have hl1 := hj.l1
  show T_all_beats E _ [some (.tup (j.map encWork)), some (.int hands), some (.tup (ord.map encRowN)), none, none] G
  unfold T_all_beats
  walk_at "run"
  refine UpC.of ⟨ord, hands, rfl, hord, h2, ?_⟩
  walk_at "run"
  intro x hx
  refine UpC.of ⟨x, j, hands, ord, rfl, hj, h1, h2, up_same, fun G1 A ex B X hfr => ⟨rfl, ?_⟩⟩
  subst ex
  have frG : ∀ a ∈ A.own, G a = none := fun a ha => by
    by_cases e : a = A.p
    · rw [e]; exact hx
    · exact up_free (hfr a ha e)
  have le1 : Le G G1 := fun b o e => X b o (by simp; exact gne e hx) (up_nx (gne e hx) e)
  walk_at "run"
  intro p hp
  have gp : G p = none := le_none le1 hp
  have pA : p ∉ A.own := B.notin hp
  walk_at "run"
  refine while_by (fun σ G2 => ∃ n cs, σ = [some (.tup (j.map encWork)), some (.int hands), some (.tup (ord.map encRowN)), some (.ref A.p), some (.ref p)] ∧ BtAt G2 A j ord (beatsN j hands ord n).1 ∧ Lls G G2 p cs ((beatsN j hands ord n).2.map (·.map encStepO)) ∧ (∀ c ∈ cs, c ∉ A.own)) (fun _ G2 => 97 - (match G2 p with | some (.lst l) => l.length | _ => 0)) ⟨0, [], rfl, B.le (le_new hp (.refl _)), ⟨le1.trans (le_new hp (.refl _)), up_same, rfl, by simp, by simp, by simp [beatsN], gp, by simp⟩, by simp⟩ (fun σ' G2 N hP hN => ?_)
  obtain ⟨n, cs, rfl, B2, L2, hcs⟩ := hP
  have BO := beats_ok hj h1 hord n
  have hp2 := L2.ha
  have hB2 := B2.hp
  have hF2 := B2.fl.hp
  walk_at "run"
  refine UpC.of ⟨A.F, j, _, rfl, B2.fl, by rw [BO.ok.b.len.st]; omega, ?_⟩
  walk_at "run"
  have hlen : cs.length = (beatsN j hands ord n).2.length := by rw [L2.len, List.length_map]
  have hb1 := BO.len
  have hb2 := BO.ok.b.gl96 hj
  by_cases h0 : (beatsN j hands ord n).1.f.s 0 = .ovr
  · refine br_ff (by simp [h0]) ?_
    walk_at "run"
    have e97 : beatsN j hands ord 97 = beatsN j hands ord n := by
      rw [← beats_stay (beats_end hj h1 hord (Nat.le_refl 97)) n, Nat.add_comm, beats_stay h0 97]
    refine s_rt (q _ A p cs ?_ ?_)
    · rw [e97]; exact B2
    · rw [e97]; exact L2
  · refine br_tt (by simp [h0]) ?_
    walk_at "run"
    refine UpC.of ⟨A, j, ord, _, hands, rfl, B2, hj, BO.ok, hord, h2, fun G3 r B3 X3 fr rA hr => ?_⟩
    have L3 := L2.lex X3 frG pA hcs
    have hp3 := L3.ha
    walk_at "run"
    have en : beatsN j hands ord (n + 1) = ((beatS j hands ord (beatsN j hands ord n).1).1, (beatsN j hands ord n).2 ++ [(beatS j hands ord (beatsN j hands ord n).1).2]) := by
      show (if (beatsN j hands ord n).1.f.s 0 = .ovr then beatsN j hands ord n else _) = _
      rw [if_neg h0]
    have rp : r ≠ p := fun z => by rw [z, hp2] at fr; cases fr
    have rc : r ∉ cs := fun m => by
      obtain ⟨ws, e⟩ := L2.mem m
      rw [e] at fr
      cases fr
    have gr : G r = none := le_none L2.le fr
    have em : cs.map D.ref ++ [D.ref r] = (cs ++ [r]).map D.ref := by rw [List.map_append]; rfl
    rw [em]
    refine hN _ _ _ (.refl _) ⟨n + 1, cs ++ [r], rfl, ?_, ?_, ?_⟩ ?_
    · rw [en]
      exact B3.other pA
    · rw [en]
      have := L3.app hr gr rp rc
      rw [show (((beatS j hands ord (beatsN j hands ord n).1).1, (beatsN j hands ord n).2 ++ [(beatS j hands ord (beatsN j hands ord n).1).2]).2.map fun x => x.map encStepO) = ((beatsN j hands ord n).2.map fun x => x.map encStepO) ++ [(beatS j hands ord (beatsN j hands ord n).1).2.map encStepO] from List.map_append]
      exact this
    · intro c hc
      rcases List.mem_append.mp hc with z | z
      · exact hcs c z
      · rw [List.mem_singleton.mp z]
        exact rA
    · have e1 : (match up G3 p (.lst ((cs ++ [r]).map .ref)) p with | some (.lst l) => l.length | _ => 0) = cs.length + 1 := by rw [up_same]; simp
      have e2 : (match G2 p with | some (.lst l) => l.length | _ => 0) = cs.length := by rw [hp2]; simp
      show 97 - (match up G3 p (.lst ((cs ++ [r]).map .ref)) p with | some (.lst l) => l.length | _ => 0) < 97 - (match G2 p with | some (.lst l) => l.length | _ => 0)
      rw [e1, e2]
      omega
def C_beaten : Ct := fun ds G Q _ => ∃ (j : Job) (hands : Nat) (ord : List (List Nat)), ds = [encJob j, .int (hands : Nat), encOrd ord] ∧ JobOk j ∧ 1 ≤ hands ∧ hands ≤ 100 ∧ OrdL hands ord ∧
  ∀ G' p cs, Lls G G' p cs ((beatsN j hands ord 97).2.map (·.map encStepO)) → Q (.ref p) G'
theorem len_beaten (ds G Q E) (h : C_beaten ds G Q E) : ds.length = 3 := by obtain ⟨_, _, _, rfl, _⟩ := h; rfl
abbrev N_beaten : List Str := ["job", "hands", "order"]
def T_beaten : DX → DS := fun E => (dRet (dOp itemD (dCall C_all_beats E (dCons (dVar 0) (dCons (dVar 1) (dCons (dVar 2) dNil)))) (dC (.int 1))))
theorem run_beaten (ds G Q E) (h : C_beaten ds G Q E) : T_beaten E { nx := fun _ G' => DrK Q .non G', rt := DrK Q, bk := fun _ _ => False, ct := fun _ _ => False } (dstart N_beaten ds) G := by
  obtain ⟨j, hands, ord, rfl, hj, h1, h2, hord, q⟩ := h
  show T_beaten E _ [some (.tup (j.map encWork)), some (.int hands), some (.tup (ord.map encRowN))] G
  unfold T_beaten
  walk_at "run"
  refine UpC.of ⟨j, hands, ord, rfl, hj, h1, h2, hord, fun G' A p cs B L => ?_⟩
  walk_at "run"
  exact s_rt (q _ _ _ L)
def C_measured : Ct := fun ds G Q _ => ∃ (j : Job) (hands : Nat) (ord : List (List Nat)), ds = [encJob j, .int (hands : Nat), encOrd ord] ∧ JobOk j ∧ 1 ≤ hands ∧ hands ≤ 100 ∧ OrdL hands ord ∧
  ∀ G', Le G G' → Q (.tup [.int ((beatsN j hands ord 97).2.length : Nat), .int (beatsN j hands ord 97).1.stolen, .int (beatsN j hands ord 97).1.rest, .int (beatsN j hands ord 97).1.peak]) G'
theorem len_measured (ds G Q E) (h : C_measured ds G Q E) : ds.length = 3 := by obtain ⟨_, _, _, rfl, _⟩ := h; rfl
abbrev N_measured : List Str := ["job", "hands", "order", "found", "rows"]
def T_measured : DX → DS := fun E => (dSeq (dAsg (dCall C_all_beats E (dCons (dVar 0) (dCons (dVar 1) (dCons (dVar 2) dNil)))) (dgTup 2 (dgCons (dgName 3) (dgCons (dgName 4) dgNil))))
    (dRet (dTup (dCons (dCB lenD (dCons (dVar 4) dNil)) (dCons (dFld "Beaten" "stolen" (dVar 3)) (dCons (dFld "Beaten" "rest" (dVar 3)) (dCons (dFld "Beaten" "peak" (dVar 3)) dNil)))))))
theorem run_measured (ds G Q E) (h : C_measured ds G Q E) : T_measured E { nx := fun _ G' => DrK Q .non G', rt := DrK Q, bk := fun _ _ => False, ct := fun _ _ => False } (dstart N_measured ds) G := by
  obtain ⟨j, hands, ord, rfl, hj, h1, h2, hord, q⟩ := h
  show T_measured E _ [some (.tup (j.map encWork)), some (.int hands), some (.tup (ord.map encRowN)), none, none] G
  unfold T_measured
  walk_at "run"
  refine UpC.of ⟨j, hands, ord, rfl, hj, h1, h2, hord, fun G' A p cs B L => ?_⟩
  have hB := B.hp
  have hp := L.ha
  have hlen : cs.length = (beatsN j hands ord 97).2.length := by rw [L.len, List.length_map]
  walk_at "run"
  rw [List.length_map, hlen]
  exact s_rt (q _ L.le)

def begN (j : Job) (f : FSt) (i : Nat) : List Nat := 0 :: ((List.range i).map (sentOf j f)).flatten
theorem begN_succ (j : Job) (f : FSt) (i : Nat) : begN j f (i + 1) = begN j f i ++ sentOf j f i := by
  unfold begN
  rw [List.range_succ, List.map_append, List.flatten_append]
  simp
theorem sent_len {j : Job} (hj : JobOk j) {f : FSt} {w : Nat} : (sentOf j f w).length ≤ 8 := by
  have h8 := steps8 hj w
  have h1 : (sentOf j f w).length ≤ ((stepsOf j w).take (f.a w)).length := List.length_filterMap_le _ _
  rw [List.length_take] at h1
  omega
theorem begN_len {j : Job} (hj : JobOk j) (f : FSt) : ∀ i, (begN j f i).length ≤ 1 + 8 * i
  | 0 => by simp [begN]
  | i + 1 => by
    have := begN_len hj f i
    have := sent_len hj (f := f) (w := i)
    rw [begN_succ, List.length_append]
    omega
theorem begN_mem {j : Job} {f : FSt} {i k : Nat} : k ∈ begN j f i ↔ k = 0 ∨ ∃ w, w < i ∧ k ∈ sentOf j f w := by
  unfold begN
  rw [List.mem_cons, List.mem_flatten]
  constructor
  · rintro (h | ⟨l, h1, h2⟩)
    · exact .inl h
    · obtain ⟨w, hw, rfl⟩ := List.mem_map.mp h1
      exact .inr ⟨w, by simpa using hw, h2⟩
  · rintro (h | ⟨w, h1, h2⟩)
    · exact .inl h
    · exact .inr ⟨_, List.mem_map.mpr ⟨w, by simpa using h1, rfl⟩, h2⟩
theorem lives_eq {j : Job} (hj : JobOk j) {hands : Nat} {f : FSt} (ok : FOk j hands f) {w : Nat} (hw : w < j.length) : (decide (w ∈ begN j f j.length) && !over j f.a w) = decide (f.s w = .liv) := by
  rw [ok.over hj hw]
  have h := ok.b
  cases e : f.s w with
  | ovr => simp
  | liv =>
    have : w ∈ begN j f j.length := by
      rw [begN_mem]
      by_cases z : w = 0
      · exact .inl z
      · obtain ⟨v, hv⟩ := par_ex hj (k := w) (by omega) hw
        have hk := (par_some hj).mp hv
        refine .inr ⟨v, kids_in hk, ?_⟩
        apply Classical.byContradiction
        intro hn
        have := (h.bg v w hk).mpr hn
        rw [e] at this
        cases this
    simp [this]
  | unb =>
    have : w ∉ begN j f j.length := by
      rw [begN_mem]
      rintro (z | ⟨v, _, hv⟩)
      · subst z
        exact h.b0 e
      · exact (h.bg v w (sent_kids hv)).mp e hv
    simp [this]
def C_law_lives : Ct := fun ds G Q _ => ∃ (j : Job) (a : Addr) (f : FSt) (hands : Nat), ds = [encJob j, .ref a] ∧ JobOk j ∧ FOk j hands f ∧ G a = some (.lst (f.at_.map encN)) ∧ ∀ p G', Le G G' → G p = none → G' p = some (.lst ((livs j f).map encN)) → Q (.ref p) G'
theorem len_law_lives (ds G Q E) (h : C_law_lives ds G Q E) : ds.length = 2 := by obtain ⟨_, _, _, _, rfl, _⟩ := h; rfl
abbrev N_law_lives : List Str := ["job", "at", "overs", "begun", "work"]
def T_law_lives : DX → DS := fun E => (dSeq (dAsg (dCall C_law_overs E (dCons (dVar 0) (dCons (dVar 1) dNil))) (dgName 2))
    (dSeq (dAsg (dLst (dCons (dC (.int 0)) dNil)) (dgName 3))
    (dSeq (dFor (diRange (dCons (dCB lenD (dCons (dVar 0) dNil)) dNil)) (dgName 4) (dAsg (dOp addD (dVar 3) (dCall C_law_sent E (dCons (dVar 0) (dCons (dVar 1) (dCons (dVar 4) dNil))))) (dgName 3)))
    (dRet (dLc (diRange (dCons (dCB lenD (dCons (dVar 0) dNil)) dNil)) (bdN 4) [4] (dAnd (dTest (dOp (inD false) (dVar 4) (dVar 3))) (dNot (dTru (dOp itemD (dVar 2) (dVar 4))))) (dVar 4))))))
theorem run_law_lives (ds G Q E) (h : C_law_lives ds G Q E) : T_law_lives E { nx := fun _ G' => DrK Q .non G', rt := DrK Q, bk := fun _ _ => False, ct := fun _ _ => False } (dstart N_law_lives ds) G := by
  obtain ⟨j, a, f, hands, rfl, hj, ok, ha, q⟩ := h
  have hl12 := hj.l12
  have hla := ok.b.len.at_
  have ej : encJob j = .tup (j.map encWork) := rfl
  show T_law_lives E _ [some (.tup (j.map encWork)), some (.ref a), none, none, none] G
  unfold T_law_lives
  walk_at "run"
  refine UpC.of ⟨j, a, f, rfl, hj, hla, ha, fun o ho => ?_⟩
  walk_at "run"
  intro c hc
  walk_at "run"
  rw [List.length_map]
  have l1 : Le G (up G o (.lst (((List.range j.length).map (over j f.a)).map D.bl))) := le_new ho (.refl _)
  have go : up G o (.lst (((List.range j.length).map (over j f.a)).map D.bl)) o = some (.lst (((List.range j.length).map (over j f.a)).map D.bl)) := up_same
  generalize up G o (.lst (((List.range j.length).map (over j f.a)).map D.bl)) = G1 at *
  refine loop_inv (fun i σ G2 => ∃ v4 b, Le G1 G2 ∧ G2 b = some (.lst ((begN j f i).map encN)) ∧ σ = [some (.tup (j.map encWork)), some (.ref a), some (.ref o), some (.ref b), v4]) ⟨_, _, le_new hc (.refl _), up_same, rfl⟩ (fun _ _ _ _ _ => trivial) (fun i d σ' G2 N hd hi hP hN => ?_) (fun σ' G2 hP => ?_)
  · obtain ⟨v4, b, le2, hb, rfl⟩ := hP
    obtain ⟨rfl, hi2⟩ := rangeD_get0 hd
    have hi3 : i < j.length := by omega
    have ha2 := le2 _ _ (l1 _ _ ha)
    have hbl := begN_len hj f i
    have hsl := sent_len hj (f := f) (w := i)
    walk_at "run"
    refine UpC.of ⟨j, a, f, i, rfl, hj, hla, hi3, ha2, fun p hp => ?_⟩
    refine s_addL (up_nx (gne hb hp) hb) up_same (szL (by simp; omega)) (fun b2 hb2 => ?_)
    rw [← List.map_append, ← begN_succ]
    walk_at "run"
    exact hN _ _ _ (.refl _) ⟨_, b2, le2.trans (le_new (up_free hb2) (le_new hp (.refl _))), up_same, rfl⟩
  · obtain ⟨v4, b, le2, hb, rfl⟩ := hP
    rw [rangeD_length, show (((j.length : Nat) : Int) - 0).toNat = j.length by omega] at hb
    have go2 := le2 _ _ go
    clear hc ho
    walk_at "run"
    intro p hp
    rw [List.length_map, rangeD0]
    refine comp_pure (List.range j.length) (fun k : Nat => D.int k) (fun w => decide (f.s w = .liv)) encN (by simp; omega) hp (fun _ => trivial) (fun w hw ob => ⟨_, rfl, fun QB h => ?_, fun _ QD h => ?_⟩) ?_
    · have hw' : w < j.length := by simpa using hw
      rw [← lives_eq hj ok hw'] at h
      have eo : (((List.range j.length).map (over j f.a)).map D.bl)[w]? = some (.bl (over j f.a w)) := by
        rw [List.getElem?_map, List.getElem?_map, List.getElem?_range hw']
        rfl
      have hb3 : up G2 p ob b = _ := up_nx (gne hb hp) hb
      have go3 : up G2 p ob o = _ := up_nx (gne go2 hp) go2
      walk_at "run"
      refine s_inE (x := w) ok_N hb3 ?_
      walk_at "run"
      refine br_bool (fun z => ?_) (fun z => ?_)
      · have z' : w ∈ begN j f j.length := by simpa using z
        rw [decide_eq_true z', Bool.true_and] at h
        walk_at "run"
        exact h
      · have z' : w ∉ begN j f j.length := by simpa using z
        rw [decide_eq_false z', Bool.false_and] at h
        exact h
    · walk_at "run"
      exact h
    exact s_rt (q p _ (l1.trans (le2.trans (le_new hp (.refl _)))) (le_none (l1.trans le2) hp) up_same)

theorem s_popAtN {G : DG} {Q : DK} {p : Addr} {xs : List D} {d : D} {i : Nat} (e : G p = some (.lst xs)) (hd : xs[i]? = some d) (hi : i < 1000000) (h : Q d (up G p (.lst (xs.eraseIdx i)))) : popAtD (.ref p) [.int (i : Nat)] G Q := by
  have hl := (List.getElem?_eq_some_iff.mp hd).1
  refine ⟨xs, i, d, e, by omega, by omega, ?_, hd, h⟩
  unfold seqIndex?
  have h1 : ¬ ((i : Int) < 0) := by omega
  have h2 : (i : Int) < xs.length := by omega
  simp [h1, h2]
  try omega
theorem lex_none {ws : List Addr} {G G' : DG} {p : Addr} (l : LeX ws G G') (hp : p ∉ ws) (h : G' p = none) : G p = none := by
  cases e : G p with
  | none => rfl
  | some o => rw [l p o hp e] at h; cases h
theorem map_erase (xs : List Nat) (r : Nat) : (xs.map encN).eraseIdx r = (xs.eraseIdx r).map encN := by
  rw [List.eraseIdx_eq_take_drop_succ, List.eraseIdx_eq_take_drop_succ, List.map_append, List.map_take, List.map_drop]
theorem perm_pop {α : Type} : ∀ {xs : List α} {i : Nat} {d : α}, xs[i]? = some d → (d :: xs.eraseIdx i).Perm xs
  | [], i, d, h => by simp at h
  | x :: xs, 0, d, h => by
    simp at h
    subst h
    exact .refl _
  | x :: xs, i + 1, d, h => by
    simp at h
    rw [List.eraseIdx_cons_succ]
    exact (List.Perm.swap x d _).trans ((perm_pop h).cons x)
def C_law_order : Ct := fun ds G Q _ => ∃ (a : Addr) (x y : Int) (hands : Nat), ds = [.ref a, .int (hands : Nat)] ∧ G a = some (feed x y) ∧ FeedOk x y ∧ hands ≤ 100 ∧
  ∀ ord G', OrdL hands ord → LeX [a] G G' → Q (encOrd ord) G'
theorem len_law_order (ds G Q E) (h : C_law_order ds G Q E) : ds.length = 2 := by obtain ⟨_, _, _, _, rfl, _⟩ := h; rfl
abbrev N_law_order : List Str := ["feed", "hands", "found", "hand", "rest", "other", "line"]
def T_law_order : DX → DS := fun E => (dSeq (dAsg (dLst dNil) (dgName 2))
    (dSeq (dFor (diRange (dCons (dVar 1) dNil)) (dgName 3) (dSeq (dAsg (dLc (diRange (dCons (dVar 1) dNil)) (bdN 5) [5] (dTest (dOp neD (dVar 5) (dVar 3))) (dVar 5)) (dgName 4))
    (dSeq (dAsg (dLst dNil) (dgName 6))
    (dSeq (dWhile (dTest (dOp neD (dVar 4) (dLst dNil))) (dDrop (dMt appendD (dVar 6) (dCons (dMt popAtD (dVar 4) (dCons (dCall C_law_take E (dCons (dVar 0) (dCons (dCB lenD (dCons (dVar 4) dNil)) dNil))) dNil)) dNil))))
    (dDrop (dMt appendD (dVar 2) (dCons (dCB tupleD (dCons (dVar 6) dNil)) dNil)))))))
    (dRet (dCB tupleD (dCons (dVar 2) dNil)))))
theorem run_law_order (ds G Q E) (h : C_law_order ds G Q E) : T_law_order E { nx := fun _ G' => DrK Q .non G', rt := DrK Q, bk := fun _ _ => False, ct := fun _ _ => False } (dstart N_law_order ds) G := by
  obtain ⟨a, x, y, hands, rfl, ha, hf, hh, q⟩ := h
  show T_law_order E _ [some (.ref a), some (.int hands), none, none, none, none, none] G
  unfold T_law_order
  walk_at "run"
  intro p hp
  have ap : a ≠ p := gne ha hp
  walk_at "run"
  refine loop_inv (fun i σ G1 => ∃ (ord : List (List Nat)) (x y : Int) (v3 v4 v5 v6 : Option D), ord.length = i ∧ (∀ h, h < i → (ord.getD h []).Perm ((List.range hands).filter fun o => decide (o ≠ h))) ∧ FeedOk x y ∧ G1 a = some (feed x y) ∧ G1 p = some (.lst (ord.map encRowN)) ∧ LeX [a] G G1 ∧ σ = [some (.ref a), some (.int hands), some (.ref p), v3, v4, v5, v6]) ⟨[], x, y, _, _, _, _, rfl, by simp, hf, up_nx ap ha, up_same, fun b o hb e => up_nx (gne e hp) e, rfl⟩ (fun _ _ _ _ _ => trivial) (fun i d σ' G1 N hd hi hP hN => ?_) (fun σ' G1 hP => ?_)
  · obtain ⟨ord, x, y, v3, v4, v5, v6, hl, hperm, hf1, ha1, hp1, X1, rfl⟩ := hP
    obtain ⟨rfl, hi2⟩ := rangeD_get0 hd
    have hi3 : i < hands := by omega
    walk_at "run"
    intro c hc
    rw [rangeD0]
    refine comp_pure (List.range hands) (fun k : Nat => D.int k) (fun o => decide (o ≠ i)) encN (by simp; omega) hc (fun _ => trivial) (fun w hw o => ⟨_, rfl, fun QB h => ?_, fun _ QD h => ?_⟩) ?_
    · walk_at "run"
      have : (!((w : Int) == (i : Int))) = decide (w ≠ i) := by
        by_cases z : w = i
        · simp [z]
        · have : ¬ ((w : Int) = i) := by omega
          simp [z]
          omega
      rw [this]
      exact h
    · walk_at "run"
      exact h
    have hlen : ((List.range hands).filter fun o => decide (o ≠ i)).length ≤ 100 := by
      have := List.length_filter_le (fun o => decide (o ≠ i)) (List.range hands)
      rw [List.length_range] at this
      omega
    generalize hR : ((List.range hands).filter fun o => decide (o ≠ i)) = R at *
    walk_at "run"
    intro l hl2
    have ca : a ≠ c := gne ha1 hc
    have cp : p ≠ c := gne hp1 hc
    have la : a ≠ l := gne (up_nx ca ha1) hl2
    have lp : p ≠ l := gne (up_nx cp hp1) hl2
    have cl : c ≠ l := gne (G := up G1 c (.lst (R.map encN))) up_same hl2
    have gc : G c = none := lex_none X1 (by simp [Ne.symm ca]) hc
    have gl : G l = none := lex_none X1 (by simp [Ne.symm la]) (up_free hl2)
    have b1 : up (up G1 c (.lst (R.map encN))) l (.lst []) a = some (feed x y) := up_nx la (up_nx ca ha1)
    have b2 : up (up G1 c (.lst (R.map encN))) l (.lst []) p = some (.lst (ord.map encRowN)) := up_nx lp (up_nx cp hp1)
    have b3 : up (up G1 c (.lst (R.map encN))) l (.lst []) c = some (.lst (R.map encN)) := up_nx cl up_same
    have b4 : up (up G1 c (.lst (R.map encN))) l (.lst []) l = some (.lst (([] : List Nat).map encN)) := up_same
    have b5 : LeX [a] G (up (up G1 c (.lst (R.map encN))) l (.lst [])) := lex_new' (lex_new' X1 hc) hl2
    generalize up (up G1 c (.lst (R.map encN))) l (.lst []) = G2 at *
    clear hc hl2 ha1 hp1 X1
    walk_at "run"
    have hm : ∀ {G : DG} {xs : List Nat}, G c = some (.lst (xs.map encN)) → (match G c with | some (.lst l) => l.length | _ => 0) = xs.length := fun e => by rw [e]; simp
    refine while_by (fun σ G3 => ∃ (rest line : List Nat) (x y : Int), FeedOk x y ∧ G3 a = some (feed x y) ∧ G3 p = some (.lst (ord.map encRowN)) ∧ G3 c = some (.lst (rest.map encN)) ∧ G3 l = some (.lst (line.map encN)) ∧ LeX [a] G G3 ∧ (line ++ rest).Perm R ∧ σ = [some (.ref a), some (.int hands), some (.ref p), some (.int i), some (.ref c), v5, some (.ref l)]) (fun _ G3 => match G3 c with | some (.lst l) => l.length | _ => 0) ⟨R, [], x, y, hf1, b1, b2, b3, b4, b5, by simp, rfl⟩ (fun σ' G3 N3 hP hN3 => ?_)
    clear b1 b2 b3 b4 b5
    obtain ⟨rest, line, x, y, hf3, a3, p3, c3, l3, X3, hpm, rfl⟩ := hP
    have hml : line.length + rest.length ≤ 100 := by rw [← List.length_append, hpm.length_eq]; exact hlen
    have hmc := hm c3
    walk_at "run"
    intro e he
    refine s_neLE (xs := rest) (ys := []) ok_N (by walk_at "look") up_same ?_
    have ea : a ≠ e := gne a3 he
    have ge : G e = none := lex_none X3 (by simp [Ne.symm ea]) he
    have a4 : up G3 e (.lst []) a = _ := up_nx ea a3
    have p4 : up G3 e (.lst []) p = _ := up_nx (gne p3 he) p3
    have c4 : up G3 e (.lst []) c = _ := up_nx (gne c3 he) c3
    have l4 : up G3 e (.lst []) l = _ := up_nx (gne l3 he) l3
    have X4 : LeX [a] G (up G3 e (.lst [])) := lex_new' X3 he
    by_cases hr : rest = []
    · rw [decide_eq_true hr]
      generalize up G3 e (.lst []) = G4 at *
      clear he
      walk_at "run"
      refine hN _ _ _ (.refl _) ⟨ord ++ [line], x, y, _, _, _, _, by simp [hl], fun h hh' => ?_, hf3, up_nx ap a4, ?_, fun b o hb e => up_nx (gne e hp) (X4 b o hb e), rfl⟩
      · by_cases z : h < i
        · rw [List.getD_eq_getElem?_getD, List.getElem?_append_left (by omega), ← List.getD_eq_getElem?_getD]
          exact hperm h z
        · have : h = ord.length := by omega
          subst this
          rw [hr, List.append_nil] at hpm
          rw [hl, hR, ← hl]
          simpa using hpm
      · rw [List.map_append]
        exact up_same
    · rw [decide_eq_false hr]
      generalize up G3 e (.lst []) = G4 at *
      clear he
      have hrl : 0 < rest.length := List.length_pos_iff.mpr hr
      walk_at "run"
      refine u_take a4 hf3 (by simp; omega) (by simp; omega) fun r x5 y5 r0 r1 hf5 => ?_
      obtain ⟨r, rfl⟩ : ∃ n : Nat, r = (n : Int) := ⟨r.toNat, by omega⟩
      have hr2 : r < rest.length := by simp at r1; omega
      have c5 : up G4 a (feed x5 y5) c = _ := up_nx (Ne.symm ca) c4
      have er : (rest.map encN)[r]? = some (encN rest[r]) := by rw [List.getElem?_map, List.getElem?_eq_getElem hr2]; rfl
      walk_at "run"
      refine s_popAtN c5 er (by omega) ?_
      have eer : (rest.map encN).eraseIdx r = (rest.eraseIdx r).map encN := map_erase rest r
      rw [eer]
      have l5 : up (up G4 a (feed x5 y5)) c (.lst ((rest.eraseIdx r).map encN)) l = some (.lst (line.map encN)) := up_nx (Ne.symm cl) (up_nx (Ne.symm la) l4)
      have a5 : up (up G4 a (feed x5 y5)) c (.lst ((rest.eraseIdx r).map encN)) a = some (feed x5 y5) := up_nx ca up_same
      have p5 : up (up G4 a (feed x5 y5)) c (.lst ((rest.eraseIdx r).map encN)) p = some (.lst (ord.map encRowN)) := up_nx cp (up_nx (Ne.symm ap) p4)
      have cc5 : up (up G4 a (feed x5 y5)) c (.lst ((rest.eraseIdx r).map encN)) c = some (.lst ((rest.eraseIdx r).map encN)) := up_same
      have X5 : LeX [a] G (up (up G4 a (feed x5 y5)) c (.lst ((rest.eraseIdx r).map encN))) := fun b o hb e => up_nx (gne e gc) (lex_mem (by simp) X4 b o hb e)
      generalize up (up G4 a (feed x5 y5)) c (.lst ((rest.eraseIdx r).map encN)) = G5 at *
      clear c5
      walk_at "run"
      have em : line.map encN ++ [encN rest[r]] = (line ++ [rest[r]]).map encN := by rw [List.map_append]; rfl
      rw [em]
      have c6 : up G5 l (.lst ((line ++ [rest[r]]).map encN)) c = _ := up_nx cl cc5
      refine hN3 _ _ _ (.refl _) ⟨rest.eraseIdx r, line ++ [rest[r]], x5, y5, hf5, up_nx la a5, up_nx lp p5, c6, up_same, fun b o hb e => up_nx (gne e gl) (X5 b o hb e), ?_, rfl⟩ ?_
      · rw [List.append_assoc]
        exact ((perm_pop (List.getElem?_eq_getElem hr2)).append_left line).trans hpm
      · rw [hm c6, hmc, List.length_eraseIdx, if_pos hr2]
        omega
  · obtain ⟨ord, x, y, v3, v4, v5, v6, hl, hperm, hf1, ha1, hp1, X1, rfl⟩ := hP
    rw [rangeD_length, show (((hands : Nat) : Int) - 0).toNat = hands by omega] at hl hperm
    walk_at "run"
    exact s_rt (q _ _ ⟨hl, hperm⟩ X1)

def C_law_look : Ct := fun ds G Q _ => ∃ (j : Job) (A : LwA) (f : FSt) (ord : List (List Nat)) (hands hand : Nat), ds = [.tup [.ref A.at_, .ref A.hold, .ref A.pil], encOrd ord, .int (hand : Nat)] ∧ LwAt G A f ∧ FOk j hands f ∧ OrdL hands ord ∧ hands ≤ 100 ∧ hand < hands ∧
  ∀ G', LwAt G' A (lookS f (ord.getD hand []) hand).1 → LeX A.own G G' → Q (.bl (decide ((lookS f (ord.getD hand []) hand).2 = 1))) G'
theorem len_law_look (ds G Q E) (h : C_law_look ds G Q E) : ds.length = 3 := by obtain ⟨_, _, _, _, _, _, rfl, _⟩ := h; rfl
abbrev N_law_look : List Str := ["state", "order", "hand", "at", "hold", "piles", "other"]
def T_law_look : DX → DS := fun E => (dSeq (dAsg (dVar 0) (dgTup 3 (dgCons (dgName 3) (dgCons (dgName 4) (dgCons (dgName 5) dgNil)))))
    (dSeq (dIf (dTest (dOp neD (dOp itemD (dVar 5) (dVar 2)) (dLst dNil))) (dSeq (dAsg (dMt popD (dOp itemD (dVar 5) (dVar 2)) dNil) (dgSub (dVar 4) (dVar 2)))
    (dRet (dC (.bl false)))) dNext)
    (dSeq (dFor (diSeq (dOp itemD (dVar 1) (dVar 2))) (dgName 6) (dIf (dTest (dOp neD (dOp itemD (dVar 5) (dVar 6)) (dLst dNil))) (dSeq (dAsg (dMt popAtD (dOp itemD (dVar 5) (dVar 6)) (dCons (dC (.int 0)) dNil)) (dgSub (dVar 4) (dVar 2)))
    (dRet (dC (.bl true)))) dNext))
    (dRet (dC (.bl false))))))
theorem run_law_look (ds G Q E) (h : C_law_look ds G Q E) : T_law_look E { nx := fun _ G' => DrK Q .non G', rt := DrK Q, bk := fun _ _ => False, ct := fun _ _ => False } (dstart N_law_look ds) G := by
  obtain ⟨j, A, f, ord, hands, hand, rfl, LW, ok, hord, hh100, hh, q⟩ := h
  show T_law_look E _ [some (.tup [.ref A.at_, .ref A.hold, .ref A.pil]), some (.tup (ord.map encRowN)), some (.int hand), none, none, none, none] G
  have B := ok.b
  have l1 := B.len.cur
  have l5 := B.len.piles
  have hho := LW.hold
  have hpi := LW.pil
  have hpln := LW.pln
  have xh : ixN (f.cur.map encO).length (hand : Int) = some hand := by rw [List.length_map]; exact ixN_lt (by omega)
  obtain ⟨c, hc⟩ : ∃ c, A.pc[hand]? = some c := ⟨A.pc[hand]'(by omega), List.getElem?_eq_getElem _⟩
  have hcD : (A.pc.map D.ref)[hand]? = some (.ref c) := by rw [List.getElem?_map, hc]; rfl
  have hGc : G c = some (.lst ((f.pl hand).map encN)) := LW.pc hand c _ hc (FSt.pl_get (by omega))
  unfold lookS at q
  unfold T_law_look
  walk_at "run"
  intro c1 hc1
  have le1 : Le G (up G c1 (.lst [])) := le_new hc1 (.refl _)
  refine s_neLE (ys := []) ok_N (by walk_at "look") up_same ?_
  cases hl : (f.pl hand).getLast? with
  | some w =>
    simp only [hl] at q
    have hne : f.pl hand ≠ [] := fun z => by rw [z] at hl; cases hl
    rw [decide_eq_false hne]
    have hspl : f.pl hand = (f.pl hand).dropLast ++ [w] := by
      obtain ⟨ys, e⟩ := List.getLast?_eq_some_iff.mp hl
      rw [e]
      simp
    have hGc' : up G c1 (.lst []) c = some (.lst ((f.pl hand).dropLast.map encN ++ [.int w])) := by
      have e := congrArg (List.map encN) hspl
      rw [List.map_append] at e
      rw [e] at hGc
      exact le1 _ _ hGc
    walk_at "run"
    refine s_pop hGc' ?_
    have L1 := (LW.le le1).setPil hc (f.pl hand).dropLast { f with piles := f.piles.set hand (f.pl hand).dropLast } rfl rfl rfl
    have X1 : LeX A.own G (up (up G c1 (.lst [])) c (.lst ((f.pl hand).dropLast.map encN))) := lex_mem (LwA.mem_pc hc) (lex_new' lex_refl hc1)
    generalize up (up G c1 (.lst [])) c (.lst ((f.pl hand).dropLast.map encN)) = G1 at L1 X1
    clear hho hpi hGc hGc' hc1 le1
    have hho : G1 A.hold = some (.lst (f.cur.map encO)) := L1.hold
    walk_at "run"
    have L2 := L1.setHold (ownS f hand w) rfl rfl
    have e2 : (ownS f hand w).cur.map encO = (f.cur.map encO).set hand (.int w) := (map_setD (e := encO) (x := some w)).symm
    rw [e2] at L2
    exact s_rt (q _ L2 (X1.step (by simp [LwA.own])))
  | none =>
    simp only [hl] at q
    have hne : f.pl hand = [] := List.getLast?_eq_none_iff.mp hl
    rw [decide_eq_true hne]
    have LW1 := LW.le le1
    have X1 : LeX A.own G (up G c1 (.lst [])) := lex_new' lex_refl hc1
    generalize up G c1 (.lst []) = G1 at LW1 X1 le1
    clear hho hpi hGc hc1
    have er := ord_get hord hh
    have rlt : ∀ o ∈ ord.getD hand [], o < hands := fun o ho => (hord.lt hh ho).1
    generalize hrow : ord.getD hand [] = row at er q rlt
    walk_at "run"
    refine loop_inv (fun i σ G2 => ∃ v6, (lookO f row = lookO f (row.drop i)) ∧ LwAt G2 A f ∧ LeX A.own G G2 ∧ σ = [some (.tup [.ref A.at_, .ref A.hold, .ref A.pil]), some (.tup (ord.map encRowN)), some (.int hand), some (.ref A.at_), some (.ref A.hold), some (.ref A.pil), v6]) ⟨_, rfl, LW1, X1, rfl⟩ (fun _ _ _ _ _ => trivial) (fun i d σ' G2 N hd hi hP hN => ?_) (fun σ' G2 hP => ?_)
    · obtain ⟨v6, hlo, L2, X2, rfl⟩ := hP
      rw [List.length_map] at hi
      rw [List.getElem?_map, List.getElem?_eq_getElem hi] at hd
      cases hd
      have hol := rlt _ (List.getElem_mem hi)
      rw [List.drop_eq_getElem_cons hi] at hlo
      generalize row[i] = o at hol hlo
      have hpi2 := L2.pil
      obtain ⟨co, hoc⟩ : ∃ c, A.pc[o]? = some c := ⟨A.pc[o]'(by omega), List.getElem?_eq_getElem _⟩
      have hocD : (A.pc.map D.ref)[o]? = some (.ref co) := by rw [List.getElem?_map, hoc]; rfl
      have hGo : G2 co = some (.lst ((f.pl o).map encN)) := L2.pc o co _ hoc (FSt.pl_get (by omega))
      walk_at "run"
      intro c3 hc3
      have le3 : Le G2 (up G2 c3 (.lst [])) := le_new hc3 (.refl _)
      refine s_neLE (xs := f.pl o) (ys := []) ok_N (by walk_at "look") up_same ?_
      rw [show lookO f (o :: row.drop (i + 1)) = (match (f.pl o).head? with | some w => some (o, w) | none => lookO f (row.drop (i + 1))) from rfl] at hlo
      cases hl2 : (f.pl o).head? with
      | some w =>
        simp only [hl2] at hlo
        have hne2 : f.pl o ≠ [] := fun z => by rw [z] at hl2; cases hl2
        rw [decide_eq_false hne2]
        rw [hlo] at q
        have hspl : f.pl o = w :: (f.pl o).tail := by
          cases e : f.pl o with
          | nil => rw [e] at hl2; cases hl2
          | cons y ys => rw [e] at hl2; cases hl2; rfl
        have hGd' : up G2 c3 (.lst []) co = some (.lst (.int w :: (f.pl o).tail.map encN)) := by
          rw [hspl] at hGo
          exact le3 _ _ hGo
        walk_at "run"
        refine s_popAt0 hGd' ?_
        have L3 := (L2.le le3).setPil hoc (f.pl o).tail { f with piles := f.piles.set o (f.pl o).tail } rfl rfl rfl
        have X3 : LeX A.own G (up (up G2 c3 (.lst [])) co (.lst ((f.pl o).tail.map encN))) := lex_mem (LwA.mem_pc hoc) (lex_new' X2 hc3)
        generalize up (up G2 c3 (.lst [])) co (.lst ((f.pl o).tail.map encN)) = G3 at L3 X3
        clear hpi2 hGo hGd' hc3 le3
        have hho : G3 A.hold = some (.lst (f.cur.map encO)) := L3.hold
        walk_at "run"
        have L4 := L3.setHold (robS f hand o w) rfl rfl
        have e2 : (robS f hand o w).cur.map encO = (f.cur.map encO).set hand (.int w) := (map_setD (e := encO) (x := some w)).symm
        rw [e2] at L4
        exact s_rt (q _ L4 (X3.step (by simp [LwA.own])))
      | none =>
        simp only [hl2] at hlo
        have hne2 : f.pl o = [] := by
          cases e : f.pl o with
          | nil => rfl
          | cons y ys => rw [e] at hl2; cases hl2
        rw [decide_eq_true hne2]
        walk_at "run"
        exact hN _ _ _ (.refl _) ⟨_, hlo, L2.le le3, X2.trans (lex_new' lex_refl hc3), rfl⟩
    · obtain ⟨v6, hlo, L2, X2, rfl⟩ := hP
      rw [List.length_map, List.drop_length] at hlo
      have hlo' : lookO f row = none := hlo
      rw [hlo'] at q
      walk_at "run"
      exact s_rt (q G2 L2 X2)

def C_law_beat : Ct := fun ds G Q _ => ∃ (j : Job) (u ct : Addr) (A : LwA) (ord : List (List Nat)) (b : BeatS) (hands : Nat), ds = [encJob j, .ref u, .tup [.ref A.at_, .ref A.hold, .ref A.pil], encOrd ord, .ref ct] ∧ JobOk j ∧ G u = some (.lst ((upsOf j).map encO)) ∧ u ∉ A.own ∧ LwAt G A b.f ∧ G ct = some (.lst [.int b.stolen, .int b.peak]) ∧ ct ∉ A.own ∧ u ≠ ct ∧ FOk j hands b.f ∧ OrdL hands ord ∧ hands ≤ 100 ∧
  ∀ G' p, LwAt G' A (beatS j hands ord b).1.f → G' ct = some (.lst [.int (beatS j hands ord b).1.stolen, .int (beatS j hands ord b).1.peak]) → LeX (ct :: A.own) G G' → G p = none → G' p = some (.lst ((beatS j hands ord b).2.map encStepO)) → Q (.ref p) G'
theorem len_law_beat (ds G Q E) (h : C_law_beat ds G Q E) : ds.length = 5 := by obtain ⟨_, _, _, _, _, _, _, rfl, _⟩ := h; rfl
abbrev N_law_beat : List Str := ["job", "up", "state", "order", "counts", "hold", "hand", "busy", "row", "work"]
def T_law_beat : DX → DS := fun E => (dSeq (dAsg (dOp itemD (dVar 2) (dC (.int 1))) (dgName 5))
    (dSeq (dFor (diRange (dCons (dCB lenD (dCons (dVar 3) dNil)) dNil)) (dgName 6) (dIf (dAnd (dTest (dOp (isD false) (dOp itemD (dVar 5) (dVar 6)) (dC .non))) (dTru (dCall C_law_look E (dCons (dVar 2) (dCons (dVar 3) (dCons (dVar 6) dNil)))))) (dAsg (dOp addD (dOp itemD (dVar 4) (dC (.int 0))) (dC (.int 1))) (dgSub (dVar 4) (dC (.int 0)))) dNext))
    (dSeq (dAsg (dLc (diRange (dCons (dCB lenD (dCons (dVar 3) dNil)) dNil)) (bdN 6) [6] (dTest (dOp (isD true) (dOp itemD (dVar 5) (dVar 6)) (dC .non))) (dVar 6)) (dgName 7))
    (dSeq (dAsg (dLc (diSeq (dVar 3)) (bdN 6) [6] dYes (dC .non)) (dgName 8))
    (dSeq (dFor (diSeq (dVar 7)) (dgName 6) (dSeq (dAsg (dSl (dCall C_law_go E (dCons (dVar 0) (dCons (dVar 1) (dCons (dVar 2) (dCons (dVar 6) (dCons (dVar 6) dNil)))))) (dPart (dC (.int 1))) dNoPart) (dgSub (dVar 8) (dVar 6)))
    (dAsg (dCB maxD (dCons (dOp itemD (dVar 4) (dC (.int 1))) (dCons (dCB sumD (dCons (dLc (diSeq (dCall C_law_lives E (dCons (dVar 0) (dCons (dOp itemD (dVar 2) (dC (.int 0))) dNil)))) (bdN 9) [9] dYes (dOp itemD (dOp itemD (dVar 0) (dVar 9)) (dC (.int 0)))) dNil)) dNil))) (dgSub (dVar 4) (dC (.int 1))))))
    (dRet (dVar 8)))))))
theorem look_01 (f : FSt) (row : List Nat) (h : Nat) : (lookS f row h).2 = 0 ∨ (lookS f row h).2 = 1 := by
  unfold lookS
  (repeat' split) <;> simp
theorem run_law_beat (ds G Q E) (h : C_law_beat ds G Q E) : T_law_beat E { nx := fun _ G' => DrK Q .non G', rt := DrK Q, bk := fun _ _ => False, ct := fun _ _ => False } (dstart N_law_beat ds) G := by
  obtain ⟨j, u, ct, A, ord, b, hands, rfl, hj, hu, huA, LW, hct, hctA, hut, ok, hord, hh100, q⟩ := h
  show T_law_beat E _ [some (.tup (j.map encWork)), some (.ref u), some (.tup [.ref A.at_, .ref A.hold, .ref A.pil]), some (.tup (ord.map encRowN)), some (.ref ct), none, none, none, none, none] G
  have hol := hord.len
  unfold T_law_beat
  walk_at "run"
  rw [List.length_map, hol]
  refine loop_inv (fun i σ G1 => ∃ v6, LwAt G1 A (looksN b.f ord i).1 ∧ G1 ct = some (.lst [.int (b.stolen + ((looksN b.f ord i).2 : Nat)), .int b.peak]) ∧ LeX (ct :: A.own) G G1 ∧ σ = [some (.tup (j.map encWork)), some (.ref u), some (.tup [.ref A.at_, .ref A.hold, .ref A.pil]), some (.tup (ord.map encRowN)), some (.ref ct), some (.ref A.hold), v6, none, none, none]) ⟨_, by simpa [looksN] using LW, by simpa [looksN] using hct, lex_refl, rfl⟩ (fun _ _ _ _ _ => trivial) (fun i d σ' G1 N hd hi hP hN => ?_) (fun σ' G1 hP => ?_)
  · obtain ⟨v6, L1, ct1, X1, rfl⟩ := hP
    obtain ⟨rfl, hi2⟩ := rangeD_get0 hd
    have hi3 : i < hands := by omega
    have ok1 := looksN_ok ok hord i (by omega)
    have hho := L1.hold
    have l1 := ok1.b.len.cur
    have ec : ((looksN b.f ord i).1.cur.map encO)[i]? = some (encO ((looksN b.f ord i).1.cu i)) := getD_map (e := encO) (d := none) (by omega)
    walk_at "run"
    cases hc : (looksN b.f ord i).1.cu i with
    | some w =>
      have e1 : encO (some w) = .int w := rfl
      rw [e1]
      walk_at "run"
      have e2 : looksN b.f ord (i + 1) = looksN b.f ord i := by
        show (match (looksN b.f ord i).1.cu i with | some _ => looksN b.f ord i | none => _) = _
        rw [hc]
      refine hN _ _ _ (.refl _) ⟨_, ?_, ?_, X1, rfl⟩
      · rw [e2]; exact L1
      · rw [e2]; exact ct1
    | none =>
      have e1 : encO none = .non := rfl
      rw [e1]
      walk_at "run"
      have e2 : looksN b.f ord (i + 1) = ((lookS (looksN b.f ord i).1 (ord.getD i []) i).1, (looksN b.f ord i).2 + (lookS (looksN b.f ord i).1 (ord.getD i []) i).2) := by
        show (match (looksN b.f ord i).1.cu i with | some _ => looksN b.f ord i | none => _) = _
        rw [hc]
      refine UpC.of ⟨j, A, _, ord, hands, i, rfl, L1, ok1, hord, hh100, hi3, fun G2 L2 X2 => ?_⟩
      have ct2 := X2 _ _ hctA ct1
      have X3 : LeX (ct :: A.own) G G2 := X1.trans (X2.weak fun a h => by simp [h])
      clear hho
      walk_at "run"
      rcases look_01 (looksN b.f ord i).1 (ord.getD i []) i with z | z
      · refine br_ff (by rw [z]; rfl) ?_
        walk_at "run"
        refine hN _ _ _ (.refl _) ⟨_, ?_, ?_, X3, rfl⟩
        · rw [e2]; exact L2
        · rw [e2, ct2, z]; rfl
      · refine br_tt (by rw [z]; rfl) ?_
        walk_at "run"
        refine hN _ _ _ (.refl _) ⟨_, ?_, ?_, lex_mem (by simp) X3, rfl⟩
        · rw [e2]; exact L2.other hctA
        · rw [e2, up_same, z]
          show some (O.lst [.int (b.stolen + ((looksN b.f ord i).2 : Nat) + 1), .int b.peak]) = some (.lst [.int (b.stolen + (((looksN b.f ord i).2 + 1 : Nat) : Int)), .int b.peak])
          rw [show b.stolen + (((looksN b.f ord i).2 + 1 : Nat) : Int) = b.stolen + ((looksN b.f ord i).2 : Nat) + 1 by omega]
  · obtain ⟨v6, L1, ct1, X1, rfl⟩ := hP
    rw [rangeD_length, show (((hands : Nat) : Int) - 0).toNat = hands by omega] at L1 ct1
    have okl := looksN_ok ok hord hands (Nat.le_refl _)
    have ebt : beatS j hands ord b = (⟨((busyS (looksN b.f ord hands).1 hands).foldl (actB j) ⟨(looksN b.f ord hands).1, List.replicate hands none, b.peak⟩).f, b.stolen + ((looksN b.f ord hands).2 : Nat), b.rest + hands - ((busyS (looksN b.f ord hands).1 hands).length : Nat), ((busyS (looksN b.f ord hands).1 hands).foldl (actB j) ⟨(looksN b.f ord hands).1, List.replicate hands none, b.peak⟩).peak⟩, ((busyS (looksN b.f ord hands).1 hands).foldl (actB j) ⟨(looksN b.f ord hands).1, List.replicate hands none, b.peak⟩).row) := rfl
    rw [ebt] at q
    obtain ⟨bnd, bmem⟩ := busy_nd (f := (looksN b.f ord hands).1) (hands := hands)
    generalize hst : b.stolen + ((looksN b.f ord hands).2 : Nat) = stol at ct1 q
    clear hst ebt
    generalize hF0 : (looksN b.f ord hands).1 = f0 at *
    have hho := L1.hold
    have l1 := okl.b.len.cur
    walk_at "run"
    intro c1 hc1
    rw [List.length_map, hol, rangeD0]
    refine comp_pure (List.range hands) (fun k : Nat => D.int k) (fun h => (f0.cu h).isSome) encN (by simp; omega) hc1 (fun _ => trivial) (fun x hx o => ⟨_, rfl, fun QB h => ?_, fun _ QD h => ?_⟩) ?_
    · have hx' : x < hands := by simpa using hx
      have ec : (f0.cur.map encO)[x]? = some (encO (f0.cu x)) := getD_map (e := encO) (d := none) (by omega)
      have hho2 : up G1 c1 o A.hold = _ := up_nx (gne hho hc1) hho
      walk_at "run"
      cases e : f0.cu x with
      | none =>
        rw [e] at h
        have e1 : encO none = .non := rfl
        rw [e1]
        walk_at "run"
        exact h
      | some w =>
        rw [e] at h
        have e1 : encO (some w) = .int w := rfl
        rw [e1]
        walk_at "run"
        exact h
    · walk_at "run"
      exact h
    have ebusy : ((List.range hands).filter fun h => (f0.cu h).isSome) = busyS f0 hands := rfl
    rw [ebusy]
    have c1A : c1 ∉ A.own := L1.notin hc1
    have c1t : ct ≠ c1 := gne ct1 hc1
    have gc1 : G c1 = none := lex_none X1 (by simp [c1A, Ne.symm c1t]) hc1
    have L2 := L1.other (o := .lst ((busyS f0 hands).map encN)) c1A
    have X2 : LeX (ct :: A.own) G (up G1 c1 (.lst ((busyS f0 hands).map encN))) := lex_new' X1 hc1
    have bc1 : up G1 c1 (.lst ((busyS f0 hands).map encN)) c1 = some (.lst ((busyS f0 hands).map encN)) := up_same
    have ct2 : up G1 c1 (.lst ((busyS f0 hands).map encN)) ct = _ := up_nx c1t ct1
    generalize up G1 c1 (.lst ((busyS f0 hands).map encN)) = G2 at L2 X2 bc1 ct2
    clear hho hc1 ct1 X1 L1
    walk_at "run"
    intro row hrow
    refine comp_map ord encRowN (fun _ => .non) (by omega) hrow (fun _ => trivial) (fun x hx o => ⟨_, rfl, fun QD h => ?_⟩) ?_
    · walk_at "run"
      exact h
    have rowA : row ∉ A.own := L2.notin hrow
    have rt : ct ≠ row := gne ct2 hrow
    have rc : c1 ≠ row := gne bc1 hrow
    have grow : G row = none := lex_none X2 (by simp [rowA, Ne.symm rt]) hrow
    have er : (ord.map fun _ => D.non) = (List.replicate hands (none : Option (Nat × Nat))).map encStepO := by rw [List.map_replicate, map_const, hol]
    rw [er]
    have L3 := L2.other (o := .lst ((List.replicate hands (none : Option (Nat × Nat))).map encStepO)) rowA
    have X3 := lex_new' (o := .lst ((List.replicate hands (none : Option (Nat × Nat))).map encStepO)) X2 hrow
    have b3 : up G2 row (.lst ((List.replicate hands (none : Option (Nat × Nat))).map encStepO)) c1 = _ := up_nx rc bc1
    have ct3 : up G2 row (.lst ((List.replicate hands (none : Option (Nat × Nat))).map encStepO)) ct = _ := up_nx rt ct2
    have r3 : up G2 row (.lst ((List.replicate hands (none : Option (Nat × Nat))).map encStepO)) row = some (.lst ((List.replicate hands (none : Option (Nat × Nat))).map encStepO)) := up_same
    generalize up G2 row (.lst ((List.replicate hands (none : Option (Nat × Nat))).map encStepO)) = G3 at L3 X3 b3 ct3 r3
    clear hrow bc1 ct2 X2 L2
    walk_at "run"
    refine loop_inv (fun i σ G4 => ∃ v6 v9, LwAt G4 A (((busyS f0 hands).take i).foldl (actB j) ⟨f0, List.replicate hands none, b.peak⟩).f ∧ G4 ct = some (.lst [.int stol, .int (((busyS f0 hands).take i).foldl (actB j) ⟨f0, List.replicate hands none, b.peak⟩).peak]) ∧ LeX (ct :: A.own) G G4 ∧ G4 c1 = some (.lst ((busyS f0 hands).map encN)) ∧ G4 row = some (.lst ((((busyS f0 hands).take i).foldl (actB j) ⟨f0, List.replicate hands none, b.peak⟩).row.map encStepO)) ∧ σ = [some (.tup (j.map encWork)), some (.ref u), some (.tup [.ref A.at_, .ref A.hold, .ref A.pil]), some (.tup (ord.map encRowN)), some (.ref ct), some (.ref A.hold), v6, some (.ref c1), some (.ref row), v9]) ⟨_, _, L3, ct3, X3, b3, r3, rfl⟩ (fun i σ' G4 _ hP => ?_) (fun i d σ' G4 N hd hi hP hN => ?_) (fun σ' G4 hP => ?_)
    · obtain ⟨v6, v9, _, _, _, b4, _⟩ := hP
      exact b4
    · obtain ⟨v6, v9, L4, ct4, X4, b4, r4, rfl⟩ := hP
      rw [List.length_map] at hi
      rw [List.getElem?_map, List.getElem?_eq_getElem hi] at hd
      cases hd
      have etk : (busyS f0 hands).take (i + 1) = (busyS f0 hands).take i ++ [(busyS f0 hands)[i]] := by rw [List.take_add_one, List.getElem?_eq_getElem hi]; rfl
      obtain ⟨hbl, hbs⟩ := bmem _ (List.getElem_mem hi)
      have nd1 : ((busyS f0 hands).take i).Nodup := (List.take_sublist _ _).nodup bnd
      obtain ⟨AO, hcu⟩ := act_ok hj (s0 := ⟨f0, List.replicate hands none, b.peak⟩) okl (by simp) _ nd1 fun h hh => (bmem h (List.mem_of_mem_take hh)).2
      have hnin : (busyS f0 hands)[i] ∉ (busyS f0 hands).take i := fun m => by
        rw [← List.take_append_drop (i + 1) (busyS f0 hands), etk] at bnd
        rw [List.nodup_append] at bnd
        have := bnd.1
        rw [List.nodup_append] at this
        exact this.2.2 _ m _ (by simp) rfl
      have hcx := hcu _ hnin
      generalize hsx : ((busyS f0 hands).take i).foldl (actB j) ⟨f0, List.replicate hands none, b.peak⟩ = sx at *
      generalize (busyS f0 hands)[i] = h at *
      have hrl := AO.len
      obtain ⟨w, ew⟩ : ∃ w, sx.f.cu h = some w := by
        rw [hcx]
        cases e : f0.cu h with
        | none =>
          rw [e] at hbs
          cases hbs
        | some w => exact ⟨w, rfl⟩
      have hact : actB j sx h = ⟨stepS j sx.f h w, sx.row.set h (some (w, sx.f.a w)), if spaceS j (stepS j sx.f h w) > sx.peak then spaceS j (stepS j sx.f h w) else sx.peak⟩ := by
        show (match sx.f.cu h with | some w => _ | none => _) = _
        rw [ew]
      have hgo : goS j sx.f h h = (stepS j sx.f h w, .step w (sx.f.a w)) := by
        unfold goS
        rw [ew]
      have u4 : G4 u = some (.lst ((upsOf j).map encO)) := X4 _ _ (by simp [huA, hut]) hu
      have okn := AO.ok.step hj ew
      walk_at "run"
      refine UpC.of ⟨j, u, A, sx.f, hands, h, h, rfl, hj, u4, huA, L4, AO.ok, hbl, hbl, hh100, fun G5 L5 X5 => ?_⟩
      rw [hgo] at *
      have b5 := X5 _ _ c1A b4
      have r5 := X5 _ _ rowA r4
      have ct5 := X5 _ _ hctA ct4
      have X6 : LeX (ct :: A.own) G G5 := X4.trans (X5.weak fun a h => by simp [h])
      have xr : ixN (sx.row.map encStepO).length (h : Int) = some h := by rw [List.length_map, hrl]; exact ixN_lt hbl
      have et : encTell (.step w (sx.f.a w)) = .tup [.str "step", .int w, .int (sx.f.a w)] := rfl
      rw [et]
      walk_at "run"
      have ecut : cutD [D.str "step", .int w, .int (sx.f.a w)] (some 1) none = [.int w, .int (sx.f.a w)] := rfl
      rw [ecut] at *
      have L6 := L5.other (o := .lst ((sx.row.map encStepO).set h (.tup [.int w, .int (sx.f.a w)]))) rowA
      have b6 : up G5 row (.lst ((sx.row.map encStepO).set h (.tup [.int w, .int (sx.f.a w)]))) c1 = some (.lst ((busyS f0 hands).map encN)) := up_nx rc b5
      have ct6 : up G5 row (.lst ((sx.row.map encStepO).set h (.tup [.int w, .int (sx.f.a w)]))) ct = _ := up_nx rt ct5
      have r6 : up G5 row (.lst ((sx.row.map encStepO).set h (.tup [.int w, .int (sx.f.a w)]))) row = some (.lst ((sx.row.set h (some (w, sx.f.a w))).map encStepO)) := by rw [up_same, ← map_setD]
      have X7 : LeX (ct :: A.own) G (up G5 row (.lst ((sx.row.map encStepO).set h (.tup [.int w, .int (sx.f.a w)])))) := fun b o hb e => up_nx (gne e grow) (X6 b o hb e)
      generalize up G5 row (.lst ((sx.row.map encStepO).set h (.tup [.int w, .int (sx.f.a w)]))) = G6 at *
      refine UpC.of ⟨j, A.at_, _, hands, rfl, hj, okn, L6.at_, fun p G7 le7 fp hp7 => ?_⟩
      have hlen : (livs j (stepS j sx.f h w)).length ≤ j.length := by
        have := List.length_filter_le (fun w1 => decide ((stepS j sx.f h w).s w1 = .liv)) (List.range j.length)
        rw [List.length_range] at this
        exact this
      have hl12 := hj.l12
      clear r5 b5 ct5 u4
      walk_at "run"
      intro p2 hp2
      refine comp_map (livs j (stepS j sx.f h w)) encN (fun w => .int (roomOf j w)) (by omega) hp2 (fun o => by walk_at "look") (fun w2 hw2 o => ⟨_, rfl, fun QD h => ?_⟩) ?_
      · have hw' : w2 < j.length := by
          have := (List.mem_filter.mp hw2).1
          simpa using this
        obtain ⟨x, _, _, _, eW, _⟩ := hj.work hw'
        walk_at "run"
        exact h
      rw [show (fun w => D.int (roomOf j w)) = D.int ∘ roomOf j from rfl, ← List.map_map]
      walk_at "run"
      refine s_sumL up_same ?_
      have le8 : Le G6 (up G7 p2 (.lst (((livs j (stepS j sx.f h w)).map (roomOf j)).map D.int))) := le7.trans (le_new hp2 (.refl _))
      generalize up G7 p2 (.lst (((livs j (stepS j sx.f h w)).map (roomOf j)).map D.int)) = G8 at *
      have L8 := L6.le le8
      have b8 := le8 _ _ b6
      have ct8 := le8 _ _ ct6
      have r8 := le8 _ _ r6
      have X8 : LeX (ct :: A.own) G G8 := fun b o hb e => le8 _ _ (X7 b o hb e)
      walk_at "run"
      refine hN _ _ _ (.refl _) ⟨_, _, ?_, ?_, lex_mem (by simp) X8, up_nx (Ne.symm c1t) b8, up_nx (Ne.symm rt) ?_, rfl⟩
      · rw [etk, List.foldl_append, hsx]
        show LwAt _ A (actB j sx h).f
        rw [hact]
        exact L8.other hctA
      · rw [etk, List.foldl_append, hsx]
        show _ = some (O.lst [.int stol, .int (actB j sx h).peak])
        rw [hact]
        exact up_same
      · rw [etk, List.foldl_append, hsx]
        show G8 row = some (.lst ((actB j sx h).row.map encStepO))
        rw [hact]
        exact r8
    · obtain ⟨v6, v9, L4, ct4, X4, b4, r4, rfl⟩ := hP
      rw [List.length_map, List.take_length] at L4 ct4 r4
      walk_at "run"
      exact s_rt (q _ row L4 ct4 X4 grow r4)

/-! ### what the rows are worth -/
theorem set_none_cnt {α : Type} {x : α} : ∀ {r : List (Option α)} {h : Nat}, r[h]? = some none → (r.set h (some x)).countP (·.isNone) + 1 = r.countP (·.isNone)
  | [], h, e => by simp at e
  | y :: r, 0, e => by
    simp at e
    subst e
    simp
  | y :: r, h + 1, e => by
    simp at e
    have := set_none_cnt (x := x) e
    rw [List.set_cons_succ, List.countP_cons, List.countP_cons]
    omega
def RowOk : Option (Nat × Nat) → Prop
  | none => True
  | some p => p.1 < 1000 ∧ p.2 < 1000
theorem act_row {j : Job} (hj : JobOk j) {hands : Nat} {f : FSt} {pk : Int} (ok0 : FOk j hands f) : ∀ (l : List Nat), l.Nodup → (∀ h ∈ l, h < hands ∧ (f.cu h).isSome = true) →
    ((l.foldl (actB j) ⟨f, List.replicate hands none, pk⟩).row.countP (·.isNone) + l.length = hands ∧ (∀ y, y < hands → y ∉ l → (l.foldl (actB j) ⟨f, List.replicate hands none, pk⟩).row[y]? = some none)) ∧ (∀ o ∈ (l.foldl (actB j) ⟨f, List.replicate hands none, pk⟩).row, RowOk o) := by
  intro l
  refine List.reverseRecOn' (P := fun l => l.Nodup → (∀ h ∈ l, h < hands ∧ (f.cu h).isSome = true) → ((l.foldl (actB j) ⟨f, List.replicate hands none, pk⟩).row.countP (·.isNone) + l.length = hands ∧ (∀ y, y < hands → y ∉ l → (l.foldl (actB j) ⟨f, List.replicate hands none, pk⟩).row[y]? = some none)) ∧ (∀ o ∈ (l.foldl (actB j) ⟨f, List.replicate hands none, pk⟩).row, RowOk o)) l (fun _ _ => ⟨⟨by simp [List.countP_replicate], fun y hy _ => by simp [hy]⟩, fun o ho => by simp at ho; rw [ho.2]; trivial⟩) fun l h ih => ?_
  intro nd hb
  obtain ⟨AO, hcu⟩ := act_ok hj (s0 := ⟨f, List.replicate hands none, pk⟩) ok0 (by simp) l (List.nodup_append.mp nd).1 fun x hx => (hb x (by simp [hx])).2
  rw [List.nodup_append] at nd
  have hnl : h ∉ l := fun m => nd.2.2 h m h (by simp) rfl
  obtain ⟨⟨i1, i2⟩, i3⟩ := ih nd.1 fun x hx => hb x (by simp [hx])
  obtain ⟨hh, hs⟩ := hb h (by simp)
  have hc := hcu h hnl
  rw [List.foldl_append]
  generalize l.foldl (actB j) ⟨f, List.replicate hands none, pk⟩ = s at *
  obtain ⟨w, ew⟩ : ∃ w, s.f.cu h = some w := by
    rw [hc]
    cases e : f.cu h with
    | none => rw [e] at hs; cases hs
    | some w => exact ⟨w, rfl⟩
  have er : (actB j s h).row = s.row.set h (some (w, s.f.a w)) := by
    unfold actB
    rw [ew]
  show ((actB j s h).row.countP _ + _ = _ ∧ ∀ y, y < hands → y ∉ l ++ [h] → (actB j s h).row[y]? = some none) ∧ ∀ o ∈ (actB j s h).row, RowOk o
  rw [er]
  have hcnt := set_none_cnt (x := (w, s.f.a w)) (i2 h hh hnl)
  refine ⟨⟨?_, fun y hy hn => ?_⟩, fun o ho => ?_⟩
  · rw [List.length_append]
    simp only [List.length_singleton]
    omega
  · simp at hn
    rw [List.getElem?_set_ne (fun z => hn.2 z.symm)]
    exact i2 y hy hn.1
  · rcases List.mem_or_eq_of_mem_set ho with z | z
    · exact i3 o z
    · subst z
      have hl := hj.l12
      have hw := AO.ok.b.inr (w := w) (by rw [(AO.ok.b.cl h w ew).1]; simp)
      have h1 := AO.ok.b.atl w
      have h2 := steps8 hj w
      exact ⟨by show w < 1000; omega, by show s.f.a w < 1000; omega⟩
def idleOf (rows : List (List (Option (Nat × Nat)))) : Nat := (rows.map fun r => r.countP (·.isNone)).sum
theorem looks_le {f : FSt} {ord : List (List Nat)} : ∀ i, (looksN f ord i).2 ≤ i
  | 0 => Nat.le_refl _
  | i + 1 => by
    have ih := looks_le (f := f) (ord := ord) i
    unfold looksN
    split
    · omega
    · have := look_01 (looksN f ord i).1 (ord.getD i []) i
      show (looksN f ord i).2 + (lookS (looksN f ord i).1 (ord.getD i []) i).2 ≤ _
      omega
structure WorthOk (j : Job) (hands n : Nat) (b : BeatS × List (List (Option (Nat × Nat)))) : Prop where
  rest : b.1.rest = (idleOf b.2 : Nat)
  rows : ∀ r ∈ b.2, ∀ o ∈ r, RowOk o
  stol : 0 ≤ b.1.stolen ∧ b.1.stolen ≤ (n * hands : Nat)
  idle : idleOf b.2 ≤ n * hands
theorem worth {j : Job} (hj : JobOk j) {hands : Nat} (hh : 1 ≤ hands) {ord : List (List Nat)} (hord : OrdL hands ord) : ∀ n, WorthOk j hands n (beatsN j hands ord n)
  | 0 => ⟨rfl, by simp [beatsN], ⟨Int.le_refl 0, by simp [beatsN]⟩, by simp [idleOf, beatsN]⟩
  | n + 1 => by
    have ih := worth hj hh hord n
    have B := beats_ok hj hh hord n
    have em : (n + 1) * hands = n * hands + hands := Nat.succ_mul n hands
    unfold beatsN
    split
    · exact ⟨ih.rest, ih.rows, ⟨ih.stol.1, by have := ih.stol.2; omega⟩, by have := ih.idle; omega⟩
    · obtain ⟨nd, hb⟩ := busy_nd (f := (looksN (beatsN j hands ord n).1.f ord hands).1) (hands := hands)
      have okl := looksN_ok B.ok hord hands (Nat.le_refl _)
      obtain ⟨⟨a1, _⟩, a3⟩ := act_row hj (pk := (beatsN j hands ord n).1.peak) okl _ nd hb
      have hl := looks_le (f := (beatsN j hands ord n).1.f) (ord := ord) hands
      have hst := ih.stol
      have hid := ih.idle
      have hre := ih.rest
      have e1 : idleOf ((beatsN j hands ord n).2 ++ [(beatS j hands ord (beatsN j hands ord n).1).2]) = idleOf (beatsN j hands ord n).2 + ((beatS j hands ord (beatsN j hands ord n).1).2).countP (·.isNone) := by
        unfold idleOf
        rw [List.map_append, List.sum_append]
        simp
      refine ⟨?_, ?_, ?_, ?_⟩
      · show (beatsN j hands ord n).1.rest + hands - ((busyS (looksN (beatsN j hands ord n).1.f ord hands).1 hands).length : Nat) = (idleOf ((beatsN j hands ord n).2 ++ [(beatS j hands ord (beatsN j hands ord n).1).2]) : Nat)
        rw [e1, hre]
        have : (beatS j hands ord (beatsN j hands ord n).1).2.countP (·.isNone) + (busyS (looksN (beatsN j hands ord n).1.f ord hands).1 hands).length = hands := a1
        omega
      · intro r hr
        rcases List.mem_append.mp hr with z | z
        · exact ih.rows r z
        · rw [List.mem_singleton.mp z]
          exact a3
      · show 0 ≤ (beatsN j hands ord n).1.stolen + ((looksN (beatsN j hands ord n).1.f ord hands).2 : Nat) ∧ (beatsN j hands ord n).1.stolen + ((looksN (beatsN j hands ord n).1.f ord hands).2 : Nat) ≤ _
        omega
      · show idleOf ((beatsN j hands ord n).2 ++ [(beatS j hands ord (beatsN j hands ord n).1).2]) ≤ _
        rw [e1]
        have : (beatS j hands ord (beatsN j hands ord n).1).2.countP (·.isNone) + (busyS (looksN (beatsN j hands ord n).1.f ord hands).1 hands).length = hands := a1
        omega
/-! ### room -/
theorem space0 {j : Job} (hj : JobOk j) {hands : Nat} : spaceS j (floor0 j hands) = roomOf j 0 := by
  have h1 := hj.l1
  have e : livs j (floor0 j hands) = [0] := by
    unfold livs
    obtain ⟨n, hn⟩ : ∃ n, j.length = n + 1 := ⟨j.length - 1, by omega⟩
    rw [hn, List.range_succ_eq_map, List.filter_cons]
    have e0 : (floor0 j hands).s 0 = .liv := rfl
    rw [if_pos (by simp [e0])]
    congr 1
    rw [List.filter_eq_nil_iff]
    intro a ha
    obtain ⟨k, hk, rfl⟩ := List.mem_map.mp ha
    have : (floor0 j hands).s (k + 1) = .unb := by
      show (WS.liv :: List.replicate (j.length - 1) WS.unb).getD (k + 1) .unb = .unb
      rw [List.getD_cons_succ, List.getD_eq_getElem?_getD, List.getElem?_replicate]
      split <;> rfl
    simp [this]
  unfold spaceS
  rw [e]
  simp
theorem sumI_le {α : Type} {g : α → Int} {m : Int} : ∀ (l : List α), (∀ x ∈ l, 0 ≤ g x ∧ g x ≤ m) → 0 ≤ (l.map g).sum ∧ (l.map g).sum ≤ m * l.length
  | [], _ => by simp
  | x :: l, h => by
    have ih := sumI_le l fun y hy => h y (by simp [hy])
    have hx := h x (by simp)
    rw [List.map_cons, List.sum_cons, List.length_cons, Int.natCast_succ, Int.mul_add]
    omega
theorem space_le {j : Job} (hj : JobOk j) (f : FSt) : 0 ≤ spaceS j f ∧ spaceS j f ≤ 108 := by
  have h12 := hj.l12
  have hlen : (livs j f).length ≤ j.length := by
    have := List.length_filter_le (fun w => decide (f.s w = .liv)) (List.range j.length)
    rw [List.length_range] at this
    exact this
  have := sumI_le (g := roomOf j) (m := 9) (livs j f) fun w hw => by
    have hw' : w < j.length := by
      have := (List.mem_filter.mp hw).1
      simpa using this
    obtain ⟨x, _, _, _, _, h1, h2, _⟩ := hj.work hw'
    omega
  unfold spaceS
  omega
theorem act_peak {j : Job} (hj : JobOk j) : ∀ (l : List Nat) (s : BSt), 0 ≤ s.peak ∧ s.peak ≤ 108 → 0 ≤ (l.foldl (actB j) s).peak ∧ (l.foldl (actB j) s).peak ≤ 108
  | [], s, h => h
  | x :: l, s, h => by
    refine act_peak hj l (actB j s x) ?_
    unfold actB
    split
    · rename_i w _
      have := space_le hj (stepS j s.f x w)
      show 0 ≤ (if spaceS j (stepS j s.f x w) > s.peak then spaceS j (stepS j s.f x w) else s.peak) ∧ (if spaceS j (stepS j s.f x w) > s.peak then spaceS j (stepS j s.f x w) else s.peak) ≤ 108
      split <;> omega
    · exact h
theorem peak_le {j : Job} (hj : JobOk j) {hands : Nat} {ord : List (List Nat)} : ∀ n, 0 ≤ (beatsN j hands ord n).1.peak ∧ (beatsN j hands ord n).1.peak ≤ 108
  | 0 => space_le hj _
  | n + 1 => by
    have ih := peak_le hj (hands := hands) (ord := ord) n
    unfold beatsN
    split
    · exact ih
    · exact act_peak hj _ _ ih
/-! ### rows shown -/
def shStepO : Option (Nat × Nat) → PyData
  | none => .none
  | some p => .tuple [.int p.1, .int p.2]
theorem py_stepO (n : Nat) (G : DG) (o : Option (Nat × Nat)) : pyD (n + 2) G (encStepO o) = some (shStepO o) := by
  cases o with
  | none => exact pyD_non
  | some p => exact pyD_tup (pyAll_c pyD_int (pyAll_c pyD_int pyAll_nil))
theorem okd_stepO {o : Option (Nat × Nat)} (h : RowOk o) : Okd 2 (shStepO o) := by
  cases o with
  | none => exact ⟨rfl, rfl, by simp [shStepO, PyData.bulk]⟩
  | some p =>
    refine (okd_tuple (b := 0) (n := 2) (fun d hd => ?_) (by simp)).mono (by decide)
    simp only [List.mem_cons, List.not_mem_nil, or_false] at hd
    rcases hd with rfl | rfl
    · exact okd_int (by have := h.1; omega)
    · exact okd_int (by have := h.2; omega)
theorem shown_row {G : DG} {c : Addr} {r : List (Option (Nat × Nat))} (n : Nat) (h : G c = some (.lst (r.map encStepO))) : pyD (n + 3) G (.ref c) = some (.list (r.map shStepO)) := pyD_ref h (pyAll_map fun o _ => py_stepO n G o)
theorem pyAll_get {f : D → Option PyData} : ∀ {xs : List D} {ps : List PyData}, xs.length = ps.length → (∀ (i : Nat) x p, xs[i]? = some x → ps[i]? = some p → f x = some p) → pyAll f xs = some ps
  | [], [], _, _ => pyAll_nil
  | x :: xs, p :: ps, hl, h => pyAll_c (h 0 x p rfl rfl) (pyAll_get (by simpa using hl) fun i x' p' e1 e2 => h (i + 1) x' p' (by simpa using e1) (by simpa using e2))
theorem shown_rows {G G' : DG} {p : Addr} {cs : List Addr} {rows : List (List (Option (Nat × Nat)))} (h : Lls G G' p cs (rows.map (·.map encStepO))) : pyD 9 G' (.ref p) = some (.list (rows.map fun r => .list (r.map shStepO))) := by
  refine pyD_ref h.ha (pyAll_get (by simp [h.len]) fun i x q e1 e2 => ?_)
  rw [List.getElem?_map] at e1 e2
  cases ec : cs[i]? with
  | none => rw [ec] at e1; cases e1
  | some c =>
    cases er : rows[i]? with
    | none => rw [er] at e2; cases e2
    | some r =>
      rw [ec] at e1
      rw [er] at e2
      cases e1
      cases e2
      exact shown_row 5 (h.at_ i c _ ec (by rw [List.getElem?_map, er]; rfl))
theorem rep_rows {rows : List (List (Option (Nat × Nat)))} (h : ∀ r ∈ rows, r.length ≤ 100 ∧ ∀ o ∈ r, RowOk o) (hl : rows.length ≤ 100) : RepOk (.list (rows.map fun r => .list (r.map shStepO))) := by
  refine Okd.rep (b := 100 * (100 * (2 + 1) + 1)) (okd_list (fun d hd => ?_) (by simpa using hl)) (by decide)
  obtain ⟨r, hr, rfl⟩ := List.mem_map.mp hd
  refine okd_list (fun d hd => ?_) (by simpa using (h r hr).1)
  obtain ⟨o, ho, rfl⟩ := List.mem_map.mp hd
  exact okd_stepO ((h r hr).2 o ho)
theorem cnt_none (r : List (Option (Nat × Nat))) : ((r.map shStepO).countP fun z => PyData.eqv z .none) = r.countP (·.isNone) := by
  rw [List.countP_map]
  congr 1
  funext o
  cases o with
  | none => rfl
  | some p => rfl
theorem shown_four {G : DG} {a b c d : Int} : pyD 9 G (.tup [.int a, .int b, .int c, .int d]) = some (.tuple [.int a, .int b, .int c, .int d]) := pyD_tup (pyAll_c pyD_int (pyAll_c pyD_int (pyAll_c pyD_int (pyAll_c pyD_int pyAll_nil))))
theorem rep_four {a b c d : Int} (ha : a.natAbs < 10 ^ 12) (hb : b.natAbs < 10 ^ 12) (hc : c.natAbs < 10 ^ 12) (hd : d.natAbs < 10 ^ 12) : RepOk (.tuple [.int a, .int b, .int c, .int d]) := by
  refine Okd.rep (b := 4 * (0 + 1)) (okd_tuple (fun x hx => ?_) (by simp)) (by decide)
  simp only [List.mem_cons, List.not_mem_nil, or_false] at hx
  rcases hx with rfl | rfl | rfl | rfl
  · exact okd_int ha
  · exact okd_int hb
  · exact okd_int hc
  · exact okd_int hd

theorem rows_ne {j : Job} {hands : Nat} {ord : List (List Nat)} : ∀ n, (beatsN j hands ord (n + 1)).2 ≠ []
  | 0 => by
    have h0 : ¬ ((beatsN j hands ord 0).1.f.s 0 = .ovr) := by
      show ¬ (WS.liv = .ovr)
      simp
    unfold beatsN
    rw [if_neg h0]
    simp
  | n + 1 => by
    unfold beatsN
    split
    · exact rows_ne n
    · simp
theorem sum_cast (rows : List (List (Option (Nat × Nat)))) : (rows.map fun r => ((r.countP (·.isNone) : Nat) : Int)).sum = (idleOf rows : Nat) := by
  unfold idleOf
  induction rows with
  | nil => rfl
  | cons r rows ih =>
    rw [List.map_cons, List.sum_cons, ih, List.map_cons, List.sum_cons]
    omega
theorem atI_last {α : Type} {xs : List α} {y : α} : atI (xs ++ [y]) (-1) = some y := by
  unfold atI ixN
  simp only [List.length_append, List.length_singleton]
  rw [if_neg (by omega), if_pos (by omega)]
  show (xs ++ [y])[(-1 + ((xs.length + 1 : Nat) : Int)).toNat]? = some y
  rw [show (-1 + ((xs.length + 1 : Nat) : Int)).toNat = xs.length from by omega]
  simp
structure Is97 (j : Job) (hands : Nat) (ord : List (List Nat)) (bb : BeatS × List (List (Option (Nat × Nat)))) : Prop where
  e : beatsN j hands ord 97 = bb
def C_law : Ct := spLaw 63
theorem len_law (ds G Q E) (h : C_law ds G Q E) : ds.length = 1 := by obtain ⟨_, rfl, _⟩ := h; rfl
abbrev N_law : List Str := ["script", "k", "feed", "job", "hands", "order", "up", "state", "counts", "rows", "turn", "idle", "row", "due", "found"]
def T_law : DX → DS := fun E => (dSeq (dFor (diRange3 (dCons (dC (.int 0)) (dCons (dCB maxD (dCons (dC (.int 2)) (dCons (dCB minD (dCons (dC (.int 4)) (dCons (dCB lenD (dCons (dVar 0) dNil)) dNil))) dNil))) (dCons (dC (.int 2)) dNil)))) (dgName 1) (dSeq (dAsg (dCall C_law_feed E (dCons (dVar 0) (dCons (dVar 1) dNil))) (dgName 2))
    (dSeq (dAsg (dCall C_law_job E (dCons (dVar 2) (dCons (dC (.int 12)) dNil))) (dgName 3))
    (dSeq (dAsg (dOp addD (dC (.int 1)) (dCall C_law_take E (dCons (dVar 2) (dCons (dC (.int 6)) dNil)))) (dgName 4))
    (dSeq (dAsg (dCall C_law_order E (dCons (dCall C_law_feed E (dCons (dVar 0) (dCons (dOp addD (dVar 1) (dC (.int 1))) dNil))) (dCons (dVar 4) dNil))) (dgName 5))
    (dSeq (dAsg (dCall C_law_parents E (dCons (dVar 3) dNil)) (dgName 6))
    (dSeq (dAsg (dCall C_law_floor E (dCons (dVar 3) (dCons (dVar 4) dNil))) (dgName 7))
    (dSeq (dAsg (dLst (dCons (dC (.int 0)) (dCons (dOp itemD (dOp itemD (dVar 3) (dC (.int 0))) (dC (.int 0))) dNil))) (dgName 8))
    (dSeq (dAsg (dLst dNil) (dgName 9))
    (dSeq (dFor (diRange (dCons (dC (.int 100)) dNil)) (dgName 10) (dIf (dNot (dTru (dOp itemD (dCall C_law_overs E (dCons (dVar 3) (dCons (dOp itemD (dVar 7) (dC (.int 0))) dNil))) (dC (.int 0))))) (dDrop (dMt appendD (dVar 9) (dCons (dCall C_law_beat E (dCons (dVar 3) (dCons (dVar 6) (dCons (dVar 7) (dCons (dVar 5) (dCons (dVar 8) dNil)))))) dNil))) dNext))
    (dSeq (dAsg (dCB sumD (dCons (dLc (diSeq (dVar 9)) (bdN 12) [12] dYes (dMt countD (dVar 12) (dCons (dC .non) dNil))) dNil)) (dgName 11))
    (dSeq (dAsg (dTup (dCons (dCB lenD (dCons (dVar 9) dNil)) (dCons (dOp itemD (dVar 8) (dC (.int 0))) (dCons (dVar 11) (dCons (dOp itemD (dVar 8) (dC (.int 1))) dNil))))) (dgName 13))
    (dFor (diRange (dCons (dC (.int 2)) dNil)) (dgName 10) (dSeq (dAsg (dCall C_beaten E (dCons (dVar 3) (dCons (dVar 4) (dCons (dVar 5) dNil)))) (dgName 14))
    (dSeq (dIf (dOr (dNot (dTru (dCB isinstD (dCons (dVar 14) (dCons (dC (.ty "list")) dNil))))) (dTest (dOp neD (dCB reprD (dCons (dVar 14) dNil)) (dCB reprD (dCons (dVar 9) dNil))))) (dRet (dC (.bl false))) dNext)
    (dSeq (dIf (dTest (dOp neD (dCB reprD (dCons (dCall C_measured E (dCons (dVar 3) (dCons (dVar 4) (dCons (dVar 5) dNil)))) dNil)) (dCB reprD (dCons (dVar 13) dNil)))) (dRet (dC (.bl false))) dNext)
    (dSeq (dDrop (dMt appendD (dOp itemD (dVar 14) (dUn negD (dC (.int 1)))) (dCons (dC .non) dNil)))
    (dDrop (dMt appendD (dVar 14) (dCons (dLst dNil) dNil))))))))))))))))))))
    (dRet (dC (.bl true))))
theorem run_law (ds G Q E) (h : C_law ds G Q E) : T_law E { nx := fun _ G' => DrK Q .non G', rt := DrK Q, bk := fun _ _ => False, ct := fun _ _ => False } (dstart N_law ds) G := by
  obtain ⟨ns, rfl, hl, q⟩ := h
  show T_law E _ [some (.lis (ns.map .int)), none, none, none, none, none, none, none, none, none, none, none, none, none, none] G
  unfold T_law
  walk_at "run"
  obtain ⟨m, em, rg⟩ : ∃ m : Nat, m ≤ 2 ∧ RgC 0 (if (if ((ns.map D.int).length : Int) < 4 then ((ns.map D.int).length : Int) else 4) > 2 then (if ((ns.map D.int).length : Int) < 4 then ((ns.map D.int).length : Int) else 4) else 2) 2 m := by
    generalize hz : (if (if ((ns.map D.int).length : Int) < 4 then ((ns.map D.int).length : Int) else 4) > 2 then (if ((ns.map D.int).length : Int) < 4 then ((ns.map D.int).length : Int) else 4) else 2) = z
    have hz2 : z = 2 ∨ z = 3 ∨ z = 4 := by
      rw [← hz]
      split <;> split <;> omega
    rcases hz2 with rfl | rfl | rfl
    · exact ⟨1, by decide, by decide, by decide, by decide, by decide⟩
    · exact ⟨2, by decide, by decide, by decide, by decide, by decide⟩
    · exact ⟨2, by decide, by decide, by decide, by decide, by decide⟩
  refine s_rng3C rg ?_
  refine loop_inv (fun i σ G' => ∃ v1 v2 v3 v4 v5 v6 v7 v8 v9 v10 v11 v12 v13 v14, σ = [some (.lis (ns.map .int)), v1, v2, v3, v4, v5, v6, v7, v8, v9, v10, v11, v12, v13, v14]) ⟨none, none, none, none, none, none, none, none, none, none, none, none, none, none, rfl⟩ (fun _ _ _ _ _ => trivial) (fun i d σ' G' N hd hi hP hN => ?_) (fun σ' G' hP => ?_)
  · obtain ⟨v1, v2, v3, v4, v5, v6, v7, v8, v9, v10, v11, v12, v13, v14, rfl⟩ := hP
    obtain ⟨k, hk, rfl⟩ : ∃ k : Int, (0 ≤ k ∧ k < 10) ∧ d = .int k := by
      have hi' : i < m := by simpa [stepD] using hi
      unfold stepD at hd
      rw [List.getElem?_map, List.getElem?_range hi'] at hd
      cases hd
      exact ⟨_, ⟨by omega, by omega⟩, rfl⟩
    clear hd hi
    walk_at "run"
    refine UpC.of ⟨ns, k, rfl, by omega, by omega, fun x y a hf ha => ?_⟩
    walk_at "run"
    refine UpC.of ⟨a, x, y, 12, rfl, up_same, hf, by decide, by decide, fun j x1 y1 hj hjl hf1 => ?_⟩
    rw [up_up]
    have ej : encJob j = .tup (j.map encWork) := rfl
    rw [ej]
    walk_at "run"
    refine u_take up_same hf1 (by decide) (by decide) fun r x2 y2 r0 r1 hf2 => ?_
    rw [up_up]
    obtain ⟨hands, eh, hh1, hh6⟩ : ∃ hands : Nat, 1 + r = (hands : Int) ∧ 1 ≤ hands ∧ hands ≤ 6 := ⟨(1 + r).toNat, by omega, by omega, by omega⟩
    walk_at "run"
    rw [eh]
    refine UpC.of ⟨ns, k + 1, rfl, by omega, by omega, fun x y b hf hb => ?_⟩
    generalize up G' a (feed x2 y2) = G1 at hb
    walk_at "run"
    refine UpC.of ⟨b, x, y, hands, rfl, up_same, hf, by omega, fun ord G2 hord X2 => ?_⟩
    have hl1 := hj.l1
    have eo : encOrd ord = .tup (ord.map encRowN) := rfl
    rw [eo]
    walk_at "run"
    refine UpC.of ⟨j, rfl, hj, fun u hu => ?_⟩
    walk_at "run"
    refine UpC.of ⟨j, hands, rfl, hj, hh1, by omega, fun G3 A LW le3 frA => ?_⟩
    have hu3 : G3 u = some (.lst ((upsOf j).map encO)) := le3 _ _ up_same
    have uA : u ∉ A.own := fun m => by have := frA u m; rw [up_same] at this; cases this
    clear hu hb
    obtain ⟨x0, _, _, _, eW, _⟩ := hj.work (w := 0) (by omega)
    have eW0 : atI (j.map encWork) 0 = some (.tup [.int (roomOf j 0), .tup ((stepsOf j 0).map encStep)]) := by rw [atI_0]; exact eW
    walk_at "run"
    clear eW0 eW
    intro ct hct
    have ctA : ct ∉ A.own := LW.notin hct
    have hut : u ≠ ct := gne hu3 hct
    walk_at "run"
    intro p hp
    have pt : ct ≠ p := by walk_at "ne"
    have pA : p ∉ A.own := LW.notin (up_free hp)
    have frB : ∀ a ∈ ct :: A.own, up G2 u (.lst ((upsOf j).map encO)) a = none := fun a ha => by
      rcases List.mem_cons.mp ha with rfl | z
      · exact le_none le3 hct
      · exact frA a z
    have gu : up G2 u (.lst ((upsOf j).map encO)) u = some (.lst ((upsOf j).map encO)) := up_same
    have fp : up G2 u (.lst ((upsOf j).map encO)) p = none := le_none le3 (up_free hp)
    have L4 := (LW.other (o := .lst [.int 0, .int (roomOf j 0)]) ctA).other (o := .lst []) pA
    have ct4 : up (up G3 ct (.lst [.int 0, .int (roomOf j 0)])) p (.lst []) ct = some (.lst [.int (beatsN j hands ord 0).1.stolen, .int (beatsN j hands ord 0).1.peak]) := by
      rw [up_nx pt up_same, ← space0 hj (hands := hands)]
      rfl
    have LS4 : Lls (up G2 u (.lst ((upsOf j).map encO))) (up (up G3 ct (.lst [.int 0, .int (roomOf j 0)])) p (.lst [])) p [] ((beatsN j hands ord 0).2.map (·.map encStepO)) := ⟨le3.trans (le_new (up_free hp) (le_new hct (.refl _))) , up_same, rfl, by simp, by simp, by simp, fp, by simp⟩
    generalize up (up G3 ct (.lst [.int 0, .int (roomOf j 0)])) p (.lst []) = G4 at *
    generalize up G2 u (.lst ((upsOf j).map encO)) = GB at *
    clear hp hct
    have pC : p ∉ ct :: A.own := by simp [pA, Ne.symm pt]
    walk_at "run"
    refine loop_inv (fun i' σ G5 => ∃ cs v10, LwAt G5 A (beatsN j hands ord i').1.f ∧ G5 ct = some (.lst [.int (beatsN j hands ord i').1.stolen, .int (beatsN j hands ord i').1.peak]) ∧ Lls GB G5 p cs ((beatsN j hands ord i').2.map (·.map encStepO)) ∧ (∀ c ∈ cs, c ∉ ct :: A.own) ∧ σ = [some (.lis (ns.map .int)), some (.int k), some (.ref a), some (.tup (j.map encWork)), some (.int hands), some (.tup (ord.map encRowN)), some (.ref u), some (.tup [.ref A.at_, .ref A.hold, .ref A.pil]), some (.ref ct), some (.ref p), v10, v11, v12, v13, v14]) ⟨[], _, L4, ct4, LS4, by simp, rfl⟩ (fun _ _ _ _ _ => trivial) (fun i' d σ' G5 N2 hd2 hi' hP hN2 => ?_) (fun σ' G5 hP => ?_)
    · obtain ⟨cs, v10, L5, ct5, LS5, hcs, rfl⟩ := hP
      have BO := beats_ok hj hh1 hord i'
      have hat5 := L5.at_
      walk_at "run"
      refine UpC.of ⟨j, A.at_, _, rfl, hj, BO.ok.b.len.at_, hat5, fun c1 hc1 => ?_⟩
      have eo2 : atI (((List.range j.length).map (over j (beatsN j hands ord i').1.f.a)).map D.bl) 0 = some (.bl (decide ((beatsN j hands ord i').1.f.s 0 = .ovr))) := by
        rw [atI_0, List.getElem?_map, List.getElem?_map, List.getElem?_range (by omega)]
        show some (D.bl (over j (beatsN j hands ord i').1.f.a 0)) = _
        rw [BO.ok.over hj (by omega)]
      walk_at "run"
      have le6 : Le G5 (up G5 c1 (.lst (((List.range j.length).map (over j (beatsN j hands ord i').1.f.a)).map D.bl))) := le_new hc1 (.refl _)
      have LS6 := LS5.new (o := .lst (((List.range j.length).map (over j (beatsN j hands ord i').1.f.a)).map D.bl)) hc1
      have L6 := L5.le le6
      have ct6 := le6 _ _ ct5
      generalize up G5 c1 (.lst (((List.range j.length).map (over j (beatsN j hands ord i').1.f.a)).map D.bl)) = G6 at *
      clear hc1 hat5
      by_cases h0 : (beatsN j hands ord i').1.f.s 0 = .ovr
      · have en : beatsN j hands ord (i' + 1) = beatsN j hands ord i' := beats_stay h0 1
        refine br_ff (by simp [h0]) ?_
        walk_at "run"
        refine hN2 _ _ _ (.refl _) ⟨cs, _, ?_, ?_, ?_, hcs, rfl⟩
        · rw [en]; exact L6
        · rw [en]; exact ct6
        · rw [en]; exact LS6
      · have en : beatsN j hands ord (i' + 1) = ((beatS j hands ord (beatsN j hands ord i').1).1, (beatsN j hands ord i').2 ++ [(beatS j hands ord (beatsN j hands ord i').1).2]) := by
          show (if (beatsN j hands ord i').1.f.s 0 = .ovr then beatsN j hands ord i' else _) = _
          rw [if_neg h0]
        refine br_tt (by simp [h0]) ?_
        have u6 := LS6.le _ _ gu
        have hp6 := LS6.ha
        walk_at "run"
        refine UpC.of ⟨j, u, ct, A, ord, _, hands, rfl, hj, u6, uA, L6, ct6, ctA, hut, BO.ok, hord, by omega, fun G7 r L7 ct7 X7 fr r7 => ?_⟩
        have LS7 := LS6.lex X7 frB pC hcs
        have hp7 := LS7.ha
        have rp : r ≠ p := fun z => by rw [z, hp6] at fr; cases fr
        have rc : r ∉ cs := fun m => by
          obtain ⟨ws, e⟩ := LS6.mem m
          rw [e] at fr
          cases fr
        have rC : r ∉ ct :: A.own := fun m => by
          rcases List.mem_cons.mp m with z | z
          · rw [z, ct6] at fr; cases fr
          · exact L6.notin fr z
        have gr : GB r = none := le_none LS6.le fr
        have hlen : cs.length = (beatsN j hands ord i').2.length := by rw [LS6.len, List.length_map]
        have hb1 := BO.len
        have hb2 := BO.ok.b.gl96 hj
        clear hp6
        walk_at "run"
        have em2 : cs.map D.ref ++ [D.ref r] = (cs ++ [r]).map D.ref := by rw [List.map_append]; rfl
        rw [em2]
        refine hN2 _ _ _ (.refl _) ⟨cs ++ [r], _, ?_, ?_, ?_, fun c hc => ?_, rfl⟩
        · rw [en]
          exact L7.other pA
        · rw [en]
          exact up_nx pt ct7
        · rw [en]
          have := LS7.app r7 gr rp rc
          rw [show (((beatS j hands ord (beatsN j hands ord i').1).1, (beatsN j hands ord i').2 ++ [(beatS j hands ord (beatsN j hands ord i').1).2]).2.map fun x => x.map encStepO) = ((beatsN j hands ord i').2.map fun x => x.map encStepO) ++ [(beatS j hands ord (beatsN j hands ord i').1).2.map encStepO] from List.map_append]
          exact this
        · rcases List.mem_append.mp hc with z | z
          · exact hcs c z
          · rw [List.mem_singleton.mp z]
            exact rC
    · obtain ⟨cs, v10, L5, ct5, LS5, hcs, rfl⟩ := hP
      have e97 : beatsN j hands ord (rangeD 0 100).length = beatsN j hands ord 97 := by
        rw [rangeD_length]
        exact beats_stay (beats_end hj hh1 hord (Nat.le_refl 97)) 3
      rw [e97] at L5 ct5 LS5
      have BO := beats_ok hj hh1 hord 97
      have WO := worth hj hh1 hord 97
      have PO := peak_le hj (hands := hands) (ord := ord) 97
      have hne := (rows_ne (j := j) (hands := hands) (ord := ord) 96 : (beatsN j hands ord 97).2 ≠ [])
      have hb1 := BO.len
      have hb2 := BO.ok.b.gl96 hj
      clear L5 e97
      have ebb : Is97 j hands ord (beatsN j hands ord 97) := ⟨rfl⟩
      generalize beatsN j hands ord 97 = bb at *
      have hp5 := LS5.ha
      have hlen : cs.length = (bb).2.length := by rw [LS5.len, List.length_map]
      walk_at "run"
      intro c2 hc2
      have ez : cs.map D.ref = (cs.zip (bb).2).map (fun z => D.ref z.1) := by
        rw [show (fun z : Addr × List (Option (Nat × Nat)) => D.ref z.1) = D.ref ∘ Prod.fst from rfl, ← List.map_map, List.map_fst_zip (by omega)]
      rw [ez]
      refine comp_map (cs.zip (bb).2) (fun z => D.ref z.1) (fun z => .int (z.2.countP (·.isNone) : Nat)) (by rw [List.length_zip]; omega) hc2 (fun o => by rw [← ez]; exact up_nx (gne hp5 hc2) hp5) (fun z hz o => ⟨_, rfl, fun QD h => ?_⟩) ?_
      · obtain ⟨i2, hi2, e2⟩ := List.mem_iff_getElem.mp hz
        rw [List.length_zip] at hi2
        have e3 : cs[i2]? = some z.1 := by
          rw [List.getElem?_eq_getElem (by omega), ← e2]
          simp
        have e4 : (bb).2[i2]? = some z.2 := by
          rw [List.getElem?_eq_getElem (by omega), ← e2]
          simp
        have g1 := LS5.at_ i2 z.1 _ e3 (by rw [List.getElem?_map, e4]; rfl)
        have g2 : up G5 c2 o z.1 = some (.lst (z.2.map encStepO)) := up_nx (gne g1 hc2) g1
        walk_at "run"
        refine s_count (shown_row 6 g2) pyD_non ?_
        rw [cnt_none]
        exact h
      have e5 : ((cs.zip (bb).2).map fun z => D.int (z.2.countP (·.isNone) : Nat)) = (((bb).2.map fun r => ((r.countP (·.isNone) : Nat) : Int))).map D.int := by
        rw [List.map_map, ← List.map_snd_zip (l₁ := cs) (l₂ := (bb).2) (by omega), List.map_map, List.map_snd_zip (by omega)]
        rfl
      rw [e5]
      walk_at "run"
      refine s_sumL up_same ?_
      have e6 : ((bb).2.map fun r => ((r.countP (·.isNone) : Nat) : Int)).sum = (bb).1.rest := by
        rw [WO.rest]
        exact sum_cast _
      rw [e6]
      have le7 : Le G5 (up G5 c2 (.lst ((((bb).2.map fun r => ((r.countP (·.isNone) : Nat) : Int))).map D.int))) := le_new hc2 (.refl _)
      have LS7 := LS5.new (o := .lst ((((bb).2.map fun r => ((r.countP (·.isNone) : Nat) : Int))).map D.int)) hc2
      have ct7 := le7 _ _ ct5
      have hp7 := LS7.ha
      generalize up G5 c2 (.lst ((((bb).2.map fun r => ((r.countP (·.isNone) : Nat) : Int))).map D.int)) = G7 at *
      clear hc2 hp5 ct5
      walk_at "run"
      rw [List.length_map, hlen]
      refine loop_inv (fun i' σ G8 => ∃ v10 v14, Le G7 G8 ∧ σ = [some (.lis (ns.map .int)), some (.int k), some (.ref a), some (.tup (j.map encWork)), some (.int hands), some (.tup (ord.map encRowN)), some (.ref u), some (.tup [.ref A.at_, .ref A.hold, .ref A.pil]), some (.ref ct), some (.ref p), v10, some (.int (bb).1.rest), v12, some (.tup [.int ((bb).2.length : Nat), .int (bb).1.stolen, .int (bb).1.rest, .int (bb).1.peak]), v14]) ⟨_, _, .refl _, rfl⟩ (fun _ _ _ _ _ => trivial) (fun i' d σ' G8 N2 hd2 hi' hP hN2 => ?_) (fun σ' G8 hP => ?_)
      · obtain ⟨v10, v14, le8, rfl⟩ := hP
        clear hp7 ct7
        walk_at "run"
        refine UpC.of ⟨j, hands, ord, rfl, hj, hh1, by omega, hord, fun G9 p9 cs9 LS9 => ?_⟩
        rw [ebb.e] at LS9
        have hp9 := LS9.ha
        have LSr : Lls GB G9 p cs ((bb).2.map (·.map encStepO)) := { LS7 with le := LS7.le.trans (le8.trans LS9.le), ha := LS9.le _ _ (le8 _ _ LS7.ha), at_ := fun i c ws e1 e2 => LS9.le _ _ (le8 _ _ (LS7.at_ i c ws e1 e2)) }
        have rok : ∀ r ∈ (bb).2, r.length ≤ 100 ∧ ∀ o ∈ r, RowOk o := fun r hr => ⟨by rw [BO.rows r hr]; omega, WO.rows r hr⟩
        walk_at "run"
        refine s_repr (shown_rows LS9) rfl (rep_rows rok (by omega)) ?_
        walk_at "run"
        refine s_repr (shown_rows LSr) rfl (rep_rows rok (by omega)) ?_
        walk_at "run"
        refine br_eq (k' := false) (by simp) ?_
        walk_at "run"
        refine UpC.of ⟨j, hands, ord, rfl, hj, hh1, by omega, hord, fun G10 le10 => ?_⟩
        rw [ebb.e]
        have r4 : RepOk (.tuple [.int ((bb).2.length : Nat), .int (bb).1.stolen, .int (bb).1.rest, .int (bb).1.peak]) := by
          have w1 := WO.stol
          have w2 := WO.idle
          have w3 := WO.rest
          exact rep_four (by omega) (by omega) (by omega) (by omega)
        walk_at "run"
        refine s_repr shown_four rfl r4 ?_
        walk_at "run"
        refine s_repr shown_four rfl r4 ?_
        walk_at "run"
        refine br_eq (k' := false) (by simp) ?_
        have hp10 := le10 _ _ hp9
        obtain ⟨cs0, cl, ecs⟩ : ∃ cs0 cl, cs9 = cs0 ++ [cl] := by
          have h9 : cs9 ≠ [] := fun z => hne (by
            have := LS9.len
            rw [z, List.length_map] at this
            exact List.length_eq_zero_iff.mp this.symm)
          exact ⟨cs9.dropLast, cs9.getLast h9, (List.dropLast_concat_getLast h9).symm⟩
        obtain ⟨ws, ecl, hws⟩ : ∃ ws, G9 cl = some (.lst ws) ∧ ws.length ≤ 6 := by
          have hl9 := LS9.len
          rw [ecs, List.length_append, List.length_map] at hl9
          simp only [List.length_singleton] at hl9
          have e1 : cs9[cs0.length]? = some cl := by rw [ecs]; simp
          have e2 : bb.2[cs0.length]? = some (bb.2[cs0.length]'(by omega)) := List.getElem?_eq_getElem _
          refine ⟨_, LS9.at_ cs0.length cl _ e1 (by rw [List.getElem?_map, e2]; rfl), ?_⟩
          rw [List.length_map, BO.rows _ (List.getElem_mem _)]
          exact hh6
        have gcl := LS9.fc cl (by rw [ecs]; simp)
        have gp9 := LS9.fa
        have LS9le := LS9.le
        have ncl : cl ≠ p9 := fun z => LS9.ac (by rw [ecs, ← z]; simp)
        have ecl10 := le10 _ _ ecl
        have hz9 : cs9.length ≤ 96 := by
          have := LS9.len
          rw [List.length_map] at this
          omega
        subst ecs
        have em : (cs0 ++ [cl]).map D.ref = cs0.map D.ref ++ [D.ref cl] := by simp
        rw [em] at hp10
        clear LS9 LSr hp9 ecl LS7 LS5 rok
        walk_at "run"
        refine s_itL hp10 atI_last ?_
        walk_at "run"
        refine s_app ecl10 (szLt (by omega)) ?_
        walk_at "run"
        intro q hq
        have hp11 : up G10 cl (.lst (ws ++ [.non])) p9 = some (.lst (cs0.map D.ref ++ [D.ref cl])) := up_nx (Ne.symm ncl) hp10
        have hql : G8 q = none := le_none LS9le (le_none le10 (up_free hq))
        refine s_nil ?_
        refine s_app (up_nx (gne hp11 hq) hp11) (szLt (by simp only [List.length_append, List.length_map, List.length_singleton] at hz9 ⊢; omega)) ?_
        walk_at "run"
        refine hN2 _ _ _ (.refl _) ⟨_, _, le8.trans (le_new gp9 (le_new hql (le_new gcl (LS9le.trans le10)))), rfl⟩
      · obtain ⟨v10, v14, le8, rfl⟩ := hP
        exact hN _ _ _ (.refl _) ⟨_, _, _, _, _, _, _, _, _, _, _, _, _, _, rfl⟩
  · obtain ⟨v1, v2, v3, v4, v5, v6, v7, v8, v9, v10, v11, v12, v13, v14, rfl⟩ := hP
    walk_at "run"
    exact s_rt (q _)

def top (i : Nat) : Stmt := PySem.Challenge.pw_farend_k31_beats.main.body.getD i (.Pass ⟨0, 0, 0, 0⟩)
structure Nb (mg : Str → Option Value) : Prop where
  n_all : mg "all" = none
  n_bool : mg "bool" = none
  n_int : mg "int" = none
  n_isinstance : mg "isinstance" = none
  n_len : mg "len" = none
  n_list : mg "list" = none
  n_max : mg "max" = none
  n_min : mg "min" = none
  n_range : mg "range" = none
  n_repr : mg "repr" = none
  n_sorted : mg "sorted" = none
  n_sum : mg "sum" = none
  n_tuple : mg "tuple" = none
structure Nc (mg : Str → Option Value) : Prop where
  c_LIVES : ∃ t, mg "LIVES" = some (.str "lives" t)
  c_OVER : ∃ t, mg "OVER" = some (.str "over" t)
  c_UNBEGUN : ∃ t, mg "UNBEGUN" = some (.str "unbegun" t)
structure Fd (K : PySem.W.Frag) : Prop where
  f_Beaten_ground : FldOk K "Beaten" "ground"
  f_Beaten_peak : FldOk K "Beaten" "peak"
  f_Beaten_rest : FldOk K "Beaten" "rest"
  f_Beaten_sight : FldOk K "Beaten" "sight"
  f_Beaten_stolen : FldOk K "Beaten" "stolen"
  f_Floor_aside : FldOk K "Floor" "aside"
  f_Floor_at : FldOk K "Floor" "at"
  f_Floor_current : FldOk K "Floor" "current"
  f_Floor_gone : FldOk K "Floor" "gone"
  f_Floor_job : FldOk K "Floor" "job"
  f_Floor_kids : FldOk K "Floor" "kids"
  f_Floor_piles : FldOk K "Floor" "piles"
  f_Floor_state : FldOk K "Floor" "state"
  f_Floor_up : FldOk K "Floor" "up"
abbrev s_sent_by : Stmt := top 5
theorem sc_sent_by : FnScope N_sent_by ["work"] (defScope s_sent_by) := ⟨rfl, rfl, rfl, by decide +kernel, rfl, by decide +kernel, by decide +kernel⟩
theorem ok_sent_by {P : Program} {w : World} {K : PySem.W.Frag} {mg : Str → Option Value} {base : Heap} (nb : Nb mg) (nc : Nc mg) (fd : Fd K)  (D0 : DefAt K mg "sent_by" s_sent_by ["work"]) : CallOk P w K mg base 1 "sent_by" C_sent_by := by
  have nd : N_sent_by.Nodup := sc_sent_by.nd
  refine call_ok (T := T_sent_by) D0 sc_sent_by len_sent_by (fun f cdv A outer s H EL E hr hgd hp hE => ?_) run_sent_by
  exact (dss_one (ds_ret (de_lcN [("step", 1)] (bd_name 1) rfl nd (di_seq (de_ix (de_var 0) de_int)) (blkOk_by (by show blkC N_sent_by (defScope s_sent_by) _ _ = true; decide +kernel)) (fun _ _ _ _ _ => pgN 1 nd) (fun _ _ _ _ _ => (dts_one (dt_eq (u64 hr) (de_ix (de_var 1) de_int) de_str))) (fun _ _ _ _ _ => (de_ix (de_var 1) de_int)))))
abbrev s_parents : Stmt := top 6
theorem sc_parents : FnScope N_parents ["job"] (defScope s_parents) := ⟨rfl, rfl, rfl, by decide +kernel, rfl, by decide +kernel, by decide +kernel⟩
theorem ok_parents {P : Program} {w : World} {K : PySem.W.Frag} {mg : Str → Option Value} {base : Heap} (nb : Nb mg) (nc : Nc mg) (fd : Fd K) (h_sent_by : CallOk P w K mg base 1 "sent_by" C_sent_by) (D0 : DefAt K mg "parents" s_parents ["job"]) : CallOk P w K mg base 2 "parents" C_parents := by
  have nd : N_parents.Nodup := sc_parents.nd
  refine call_ok (T := T_parents) D0 sc_parents len_parents (fun f cdv A outer s H EL E hr hgd hp hE => ?_) run_parents
  exact (dss_cons (ds_set 1 nd (de_mul (de_lst (da_cons de_non da_nil)) (de_len rfl nb.n_len (da_cons (de_var 0) da_nil))))
    (dss_cons (ds_for hp rfl (di_range1 rfl nb.n_range (de_len rfl nb.n_len (da_cons (de_var 0) da_nil))) (dg_name 2 nd) (dss_one (ds_for hp rfl (di_seq (de_fn h_sent_by (hr.mono (by first | decide | omega)) hgd hE (da_cons (de_ix (de_var 0) (de_var 2)) da_nil))) (dg_name 3 nd) (dss_one (ds_asg (de_var 2) (dg_sub (de_var 1) (de_var 3)))))))
    (dss_one (ds_ret (de_var 1)))))
abbrev s_Floor___init__ : Stmt := inClass (top 11) 0
theorem sc_Floor___init__ : FnScope N_Floor___init__ ["self", "job", "hands"] (defScope s_Floor___init__) := ⟨rfl, rfl, rfl, by decide +kernel, rfl, by decide +kernel, by decide +kernel⟩
theorem ok_Floor___init__ {P : Program} {w : World} {K : PySem.W.Frag} {mg : Str → Option Value} {base : Heap} (nb : Nb mg) (nc : Nc mg) (fd : Fd K) (h_parents : CallOk P w K mg base 2 "parents" C_parents) (D0 : MakeAt K mg "Floor" "Floor.__init__" s_Floor___init__ ["self", "job", "hands"]) : MakeOk P w K mg base 3 "Floor" C_Floor___init__ := by
  have nd : N_Floor___init__.Nodup := sc_Floor___init__.nd
  refine make_ok (T := T_Floor___init__) D0 sc_Floor___init__ len_Floor___init__ (fun f cdv A outer s H EL E hr hgd hp hE => ?_) run_Floor___init__
  exact (dss_cons (ds_fld fd.f_Floor_job (de_var 0) (de_var 1))
    (dss_cons (ds_fld fd.f_Floor_up (de_var 0) (de_fn h_parents (hr.mono (by first | decide | omega)) hgd hE (da_cons (de_var 1) da_nil)))
    (dss_cons (ds_fld fd.f_Floor_current (de_var 0) (de_add (de_lst (da_cons de_int da_nil)) (de_mul (de_lst (da_cons de_non da_nil)) (de_sub (de_var 2) de_int))))
    (dss_cons (ds_fld fd.f_Floor_piles (de_var 0) (de_lcN [("hand", 3)] (bd_name 3) rfl nd (di_range1 rfl nb.n_range (de_var 2)) (blkOk_by (by show blkC N_Floor___init__ (defScope s_Floor___init__) _ _ = true; decide +kernel)) (fun _ _ _ _ _ => pgN 3 nd) (fun _ _ _ _ _ => dts_nil) (fun _ _ _ _ _ => (de_lst da_nil))))
    (dss_cons (ds_fld fd.f_Floor_at (de_var 0) (de_mul (de_lst (da_cons de_int da_nil)) (de_len rfl nb.n_len (da_cons (de_var 1) da_nil))))
    (dss_cons (ds_fld fd.f_Floor_kids (de_var 0) (de_mul (de_lst (da_cons de_int da_nil)) (de_len rfl nb.n_len (da_cons (de_var 1) da_nil))))
    (dss_cons (ds_fld fd.f_Floor_state (de_var 0) (de_add (de_lst (da_cons (de_globS nc.c_LIVES) da_nil)) (de_mul (de_lst (da_cons (de_globS nc.c_UNBEGUN) da_nil)) (de_sub (de_len rfl nb.n_len (da_cons (de_var 1) da_nil)) de_int))))
    (dss_cons (ds_fld fd.f_Floor_aside (de_var 0) (de_mul (de_lst (da_cons de_bl da_nil)) (de_len rfl nb.n_len (da_cons (de_var 1) da_nil))))
    (dss_one (ds_fld fd.f_Floor_gone (de_var 0) (de_lst da_nil)))))))))))
abbrev s_Floor_next_step : Stmt := inClass (top 11) 2
theorem sc_Floor_next_step : FnScope N_Floor_next_step ["self", "work"] (defScope s_Floor_next_step) := ⟨rfl, rfl, rfl, by decide +kernel, rfl, by decide +kernel, by decide +kernel⟩
theorem ok_Floor_next_step {P : Program} {w : World} {K : PySem.W.Frag} {mg : Str → Option Value} {base : Heap} (nb : Nb mg) (nc : Nc mg) (fd : Fd K)  (D0 : MethAt K "Floor" "next_step" "Floor.next_step" s_Floor_next_step ["self", "work"]) : MethOk P w K mg base 1 "Floor" "next_step" C_Floor_next_step := by
  have nd : N_Floor_next_step.Nodup := sc_Floor_next_step.nd
  refine meth_ok (T := T_Floor_next_step) D0 sc_Floor_next_step len_Floor_next_step (fun f cdv A outer s H EL E hr hgd hp hE => ?_) run_Floor_next_step
  exact (dss_cons (ds_set 2 nd (de_ix (de_ix (de_fld fd.f_Floor_job (de_var 0)) (de_var 1)) de_int))
    (dss_one (ds_ret (de_if (dt_lt (de_ix (de_fld fd.f_Floor_at (de_var 0)) (de_var 1)) (de_len rfl nb.n_len (da_cons (de_var 2) da_nil))) (de_ix (de_var 2) (de_ix (de_fld fd.f_Floor_at (de_var 0)) (de_var 1))) de_non))))
abbrev s_Floor_is_held : Stmt := inClass (top 11) 3
theorem sc_Floor_is_held : FnScope N_Floor_is_held ["self", "work"] (defScope s_Floor_is_held) := ⟨rfl, rfl, rfl, by decide +kernel, rfl, by decide +kernel, by decide +kernel⟩
theorem ok_Floor_is_held {P : Program} {w : World} {K : PySem.W.Frag} {mg : Str → Option Value} {base : Heap} (nb : Nb mg) (nc : Nc mg) (fd : Fd K) (h_Floor_next_step : MethOk P w K mg base 1 "Floor" "next_step" C_Floor_next_step) (D0 : MethAt K "Floor" "is_held" "Floor.is_held" s_Floor_is_held ["self", "work"]) : MethOk P w K mg base 2 "Floor" "is_held" C_Floor_is_held := by
  have nd : N_Floor_is_held.Nodup := sc_Floor_is_held.nd
  refine meth_ok (T := T_Floor_is_held) D0 sc_Floor_is_held len_Floor_is_held (fun f cdv A outer s H EL E hr hgd hp hE => ?_) run_Floor_is_held
  exact (dss_one (ds_ret (de_in (u65 hr) (de_meth h_Floor_next_step (hr.mono (by first | decide | omega)) hgd hE (de_var 0) (da_cons (de_var 1) da_nil)) (de_tup (da_cons de_non (da_cons (de_tup (da_cons de_str da_nil)) da_nil))))))
abbrev s_Floor_is_all_over : Stmt := inClass (top 11) 4
theorem sc_Floor_is_all_over : FnScope N_Floor_is_all_over ["self"] (defScope s_Floor_is_all_over) := ⟨rfl, rfl, rfl, by decide +kernel, rfl, by decide +kernel, by decide +kernel⟩
theorem ok_Floor_is_all_over {P : Program} {w : World} {K : PySem.W.Frag} {mg : Str → Option Value} {base : Heap} (nb : Nb mg) (nc : Nc mg) (fd : Fd K)  (D0 : MethAt K "Floor" "is_all_over" "Floor.is_all_over" s_Floor_is_all_over ["self"]) : MethOk P w K mg base 1 "Floor" "is_all_over" C_Floor_is_all_over := by
  have nd : N_Floor_is_all_over.Nodup := sc_Floor_is_all_over.nd
  refine meth_ok (T := T_Floor_is_all_over) D0 sc_Floor_is_all_over len_Floor_is_all_over (fun f cdv A outer s H EL E hr hgd hp hE => ?_) run_Floor_is_all_over
  exact (dss_one (ds_ret (de_eq (u64 hr) (de_ix (de_fld fd.f_Floor_state (de_var 0)) de_int) (de_globS nc.c_OVER))))
abbrev s_Floor_begin : Stmt := inClass (top 11) 5
theorem sc_Floor_begin : FnScope N_Floor_begin ["self", "hand", "work", "child"] (defScope s_Floor_begin) := ⟨rfl, rfl, rfl, by decide +kernel, rfl, by decide +kernel, by decide +kernel⟩
theorem ok_Floor_begin {P : Program} {w : World} {K : PySem.W.Frag} {mg : Str → Option Value} {base : Heap} (nb : Nb mg) (nc : Nc mg) (fd : Fd K) (h_Floor_is_held : MethOk P w K mg base 2 "Floor" "is_held" C_Floor_is_held) (D0 : MethAt K "Floor" "begin" "Floor.begin" s_Floor_begin ["self", "hand", "work", "child"]) : MethOk P w K mg base 3 "Floor" "begin" C_Floor_begin := by
  have nd : N_Floor_begin.Nodup := sc_Floor_begin.nd
  refine meth_ok (T := T_Floor_begin) D0 sc_Floor_begin len_Floor_begin (fun f cdv A outer s H EL E hr hgd hp hE => ?_) run_Floor_begin
  exact (dss_cons (ds_asg (de_globS nc.c_LIVES) (dg_sub (de_fld fd.f_Floor_state (de_var 0)) (de_var 3)))
    (dss_cons (ds_asg (de_add (de_ix (de_fld fd.f_Floor_kids (de_var 0)) (de_var 2)) de_int) (dg_sub (de_fld fd.f_Floor_kids (de_var 0)) (de_var 2)))
    (dss_cons (ds_asg (de_var 3) (dg_sub (de_fld fd.f_Floor_current (de_var 0)) (de_var 1)))
    (dss_one (ds_if (dt_tru (de_meth h_Floor_is_held (hr.mono (by first | decide | omega)) hgd hE (de_var 0) (da_cons (de_var 2) da_nil))) (dss_one (ds_asg de_bl (dg_sub (de_fld fd.f_Floor_aside (de_var 0)) (de_var 2)))) (dss_one (ds_expr (de_append (de_ix (de_fld fd.f_Floor_piles (de_var 0)) (de_var 1)) (da_cons (de_var 2) da_nil)))))))))
abbrev s_Floor_end : Stmt := inClass (top 11) 6
theorem sc_Floor_end : FnScope N_Floor_end ["self", "work"] (defScope s_Floor_end) := ⟨rfl, rfl, rfl, by decide +kernel, rfl, by decide +kernel, by decide +kernel⟩
theorem ok_Floor_end {P : Program} {w : World} {K : PySem.W.Frag} {mg : Str → Option Value} {base : Heap} (nb : Nb mg) (nc : Nc mg) (fd : Fd K)  (D0 : MethAt K "Floor" "end" "Floor.end" s_Floor_end ["self", "work"]) : MethOk P w K mg base 1 "Floor" "end" C_Floor_end := by
  have nd : N_Floor_end.Nodup := sc_Floor_end.nd
  refine meth_ok (T := T_Floor_end) D0 sc_Floor_end len_Floor_end (fun f cdv A outer s H EL E hr hgd hp hE => ?_) run_Floor_end
  exact (dss_cons (ds_asg (de_globS nc.c_OVER) (dg_sub (de_fld fd.f_Floor_state (de_var 0)) (de_var 1)))
    (dss_cons (ds_set 2 nd (de_ix (de_fld fd.f_Floor_up (de_var 0)) (de_var 1)))
    (dss_cons (ds_if (dt_is (de_var 2) de_non) (dss_one (ds_ret de_non)) dss_nil)
    (dss_cons (ds_asg (de_sub (de_ix (de_fld fd.f_Floor_kids (de_var 0)) (de_var 2)) de_int) (dg_sub (de_fld fd.f_Floor_kids (de_var 0)) (de_var 2)))
    (dss_cons (ds_if (DPW.dt (dw_or (dt_not (dt_tru (de_ix (de_fld fd.f_Floor_aside (de_var 0)) (de_var 2)))) (dw_or1 (dt_gt (de_ix (de_fld fd.f_Floor_kids (de_var 0)) (de_var 2)) de_int)))) (dss_one (ds_ret de_non)) dss_nil)
    (dss_cons (ds_asg de_bl (dg_sub (de_fld fd.f_Floor_aside (de_var 0)) (de_var 2)))
    (dss_one (ds_ret (de_var 2)))))))))
abbrev s_Floor_settle : Stmt := inClass (top 11) 7
theorem sc_Floor_settle : FnScope N_Floor_settle ["self", "hand"] (defScope s_Floor_settle) := ⟨rfl, rfl, rfl, by decide +kernel, rfl, by decide +kernel, by decide +kernel⟩
theorem ok_Floor_settle {P : Program} {w : World} {K : PySem.W.Frag} {mg : Str → Option Value} {base : Heap} (nb : Nb mg) (nc : Nc mg) (fd : Fd K) (h_Floor_is_held : MethOk P w K mg base 2 "Floor" "is_held" C_Floor_is_held) (h_Floor_next_step : MethOk P w K mg base 1 "Floor" "next_step" C_Floor_next_step) (h_Floor_end : MethOk P w K mg base 1 "Floor" "end" C_Floor_end) (D0 : MethAt K "Floor" "settle" "Floor.settle" s_Floor_settle ["self", "hand"]) : MethOk P w K mg base 3 "Floor" "settle" C_Floor_settle := by
  have nd : N_Floor_settle.Nodup := sc_Floor_settle.nd
  refine meth_ok (T := T_Floor_settle) D0 sc_Floor_settle len_Floor_settle (fun f cdv A outer s H EL E hr hgd hp hE => ?_) run_Floor_settle
  exact (dss_cons (ds_set 2 nd (de_ix (de_fld fd.f_Floor_current (de_var 0)) (de_var 1)))
    (dss_cons (ds_while hp (DPW.dt (dw_and (dt_isnot (de_var 2) de_non) (dw_and1 (dt_tru (de_meth h_Floor_is_held (hr.mono (by first | decide | omega)) hgd hE (de_var 0) (da_cons (de_var 2) da_nil)))))) (dss_cons (ds_if (dt_gt (de_ix (de_fld fd.f_Floor_kids (de_var 0)) (de_var 2)) de_int) (dss_cons (ds_asg de_bl (dg_sub (de_fld fd.f_Floor_aside (de_var 0)) (de_var 2)))
    (dss_cons (ds_asg de_non (dg_sub (de_fld fd.f_Floor_current (de_var 0)) (de_var 1)))
    (dss_one (ds_ret de_non)))) dss_nil)
    (dss_cons (ds_if (dt_isnot (de_meth h_Floor_next_step (hr.mono (by first | decide | omega)) hgd hE (de_var 0) (da_cons (de_var 2) da_nil)) de_non) (dss_one (ds_ret de_non)) dss_nil)
    (dss_cons (ds_set 2 nd (de_meth h_Floor_end (hr.mono (by first | decide | omega)) hgd hE (de_var 0) (da_cons (de_var 2) da_nil)))
    (dss_one (ds_asg (de_var 2) (dg_sub (de_fld fd.f_Floor_current (de_var 0)) (de_var 1))))))))
    (dss_one (ds_ret de_non))))
abbrev s_Floor_do_step : Stmt := inClass (top 11) 8
theorem sc_Floor_do_step : FnScope N_Floor_do_step ["self", "hand"] (defScope s_Floor_do_step) := ⟨rfl, rfl, rfl, by decide +kernel, rfl, by decide +kernel, by decide +kernel⟩
theorem ok_Floor_do_step {P : Program} {w : World} {K : PySem.W.Frag} {mg : Str → Option Value} {base : Heap} (nb : Nb mg) (nc : Nc mg) (fd : Fd K) (h_Floor_begin : MethOk P w K mg base 3 "Floor" "begin" C_Floor_begin) (h_Floor_settle : MethOk P w K mg base 3 "Floor" "settle" C_Floor_settle) (D0 : MethAt K "Floor" "do_step" "Floor.do_step" s_Floor_do_step ["self", "hand"]) : MethOk P w K mg base 4 "Floor" "do_step" C_Floor_do_step := by
  have nd : N_Floor_do_step.Nodup := sc_Floor_do_step.nd
  refine meth_ok (T := T_Floor_do_step) D0 sc_Floor_do_step len_Floor_do_step (fun f cdv A outer s H EL E hr hgd hp hE => ?_) run_Floor_do_step
  exact (dss_cons (ds_set 2 nd (de_ix (de_fld fd.f_Floor_current (de_var 0)) (de_var 1)))
    (dss_cons (ds_set 3 nd (de_ix (de_fld fd.f_Floor_at (de_var 0)) (de_var 2)))
    (dss_cons (ds_set 4 nd (de_ix (de_ix (de_ix (de_fld fd.f_Floor_job (de_var 0)) (de_var 2)) de_int) (de_var 3)))
    (dss_cons (ds_asg (de_add (de_var 3) de_int) (dg_sub (de_fld fd.f_Floor_at (de_var 0)) (de_var 2)))
    (dss_cons (ds_expr (de_append (de_fld fd.f_Floor_gone (de_var 0)) (da_cons (de_tup (da_cons (de_var 2) (da_cons (de_var 3) da_nil))) da_nil)))
    (dss_cons (ds_if (dt_eq (u64 hr) (de_ix (de_var 4) de_int) de_str) (dss_one (ds_expr (de_meth h_Floor_begin (hr.mono (by first | decide | omega)) hgd hE (de_var 0) (da_cons (de_var 1) (da_cons (de_var 2) (da_cons (de_ix (de_var 4) de_int) da_nil)))))) dss_nil)
    (dss_cons (ds_expr (de_meth h_Floor_settle (hr.mono (by first | decide | omega)) hgd hE (de_var 0) (da_cons (de_var 1) da_nil)))
    (dss_one (ds_ret (de_tup (da_cons (de_var 2) (da_cons (de_var 3) da_nil))))))))))))
abbrev s_Floor_take_own : Stmt := inClass (top 11) 9
theorem sc_Floor_take_own : FnScope N_Floor_take_own ["self", "hand"] (defScope s_Floor_take_own) := ⟨rfl, rfl, rfl, by decide +kernel, rfl, by decide +kernel, by decide +kernel⟩
theorem ok_Floor_take_own {P : Program} {w : World} {K : PySem.W.Frag} {mg : Str → Option Value} {base : Heap} (nb : Nb mg) (nc : Nc mg) (fd : Fd K)  (D0 : MethAt K "Floor" "take_own" "Floor.take_own" s_Floor_take_own ["self", "hand"]) : MethOk P w K mg base 1 "Floor" "take_own" C_Floor_take_own := by
  have nd : N_Floor_take_own.Nodup := sc_Floor_take_own.nd
  refine meth_ok (T := T_Floor_take_own) D0 sc_Floor_take_own len_Floor_take_own (fun f cdv A outer s H EL E hr hgd hp hE => ?_) run_Floor_take_own
  exact (dss_cons (ds_asg (de_pop (de_ix (de_fld fd.f_Floor_piles (de_var 0)) (de_var 1))) (dg_sub (de_fld fd.f_Floor_current (de_var 0)) (de_var 1)))
    (dss_one (ds_ret (de_ix (de_fld fd.f_Floor_current (de_var 0)) (de_var 1)))))
abbrev s_Floor_rob : Stmt := inClass (top 11) 10
theorem sc_Floor_rob : FnScope N_Floor_rob ["self", "hand", "other"] (defScope s_Floor_rob) := ⟨rfl, rfl, rfl, by decide +kernel, rfl, by decide +kernel, by decide +kernel⟩
theorem ok_Floor_rob {P : Program} {w : World} {K : PySem.W.Frag} {mg : Str → Option Value} {base : Heap} (nb : Nb mg) (nc : Nc mg) (fd : Fd K)  (D0 : MethAt K "Floor" "rob" "Floor.rob" s_Floor_rob ["self", "hand", "other"]) : MethOk P w K mg base 1 "Floor" "rob" C_Floor_rob := by
  have nd : N_Floor_rob.Nodup := sc_Floor_rob.nd
  refine meth_ok (T := T_Floor_rob) D0 sc_Floor_rob len_Floor_rob (fun f cdv A outer s H EL E hr hgd hp hE => ?_) run_Floor_rob
  exact (dss_cons (ds_asg (de_popAt (de_ix (de_fld fd.f_Floor_piles (de_var 0)) (de_var 2)) (da_cons de_int da_nil)) (dg_sub (de_fld fd.f_Floor_current (de_var 0)) (de_var 1)))
    (dss_one (ds_ret (de_ix (de_fld fd.f_Floor_current (de_var 0)) (de_var 1)))))
abbrev s_Floor_of_state : Stmt := inClass (top 11) 12
theorem sc_Floor_of_state : FnScope N_Floor_of_state ["self", "state"] (defScope s_Floor_of_state) := ⟨rfl, rfl, rfl, by decide +kernel, rfl, by decide +kernel, by decide +kernel⟩
theorem ok_Floor_of_state {P : Program} {w : World} {K : PySem.W.Frag} {mg : Str → Option Value} {base : Heap} (nb : Nb mg) (nc : Nc mg) (fd : Fd K)  (D0 : MethAt K "Floor" "of_state" "Floor.of_state" s_Floor_of_state ["self", "state"]) : MethOk P w K mg base 1 "Floor" "of_state" C_Floor_of_state := by
  have nd : N_Floor_of_state.Nodup := sc_Floor_of_state.nd
  refine meth_ok (T := T_Floor_of_state) D0 sc_Floor_of_state len_Floor_of_state (fun f cdv A outer s H EL E hr hgd hp hE => ?_) run_Floor_of_state
  exact (dss_one (ds_ret (de_lcN [("work", 2)] (bd_name 2) rfl nd (di_range1 rfl nb.n_range (de_len rfl nb.n_len (da_cons (de_fld fd.f_Floor_job (de_var 0)) da_nil))) (blkOk_by (by show blkC N_Floor_of_state (defScope s_Floor_of_state) _ _ = true; decide +kernel)) (fun _ _ _ _ _ => pgN 2 nd) (fun _ _ _ _ _ => (dts_one (dt_eq (u64 hr) (de_ix (de_fld fd.f_Floor_state (de_var 0)) (de_var 2)) (de_var 1)))) (fun _ _ _ _ _ => (de_var 2)))))
abbrev s_Floor_space : Stmt := inClass (top 11) 13
theorem sc_Floor_space : FnScope N_Floor_space ["self"] (defScope s_Floor_space) := ⟨rfl, rfl, rfl, by decide +kernel, rfl, by decide +kernel, by decide +kernel⟩
theorem ok_Floor_space {P : Program} {w : World} {K : PySem.W.Frag} {mg : Str → Option Value} {base : Heap} (nb : Nb mg) (nc : Nc mg) (fd : Fd K) (h_Floor_of_state : MethOk P w K mg base 1 "Floor" "of_state" C_Floor_of_state) (D0 : MethAt K "Floor" "space" "Floor.space" s_Floor_space ["self"]) : MethOk P w K mg base 2 "Floor" "space" C_Floor_space := by
  have nd : N_Floor_space.Nodup := sc_Floor_space.nd
  refine meth_ok (T := T_Floor_space) D0 sc_Floor_space len_Floor_space (fun f cdv A outer s H EL E hr hgd hp hE => ?_) run_Floor_space
  exact (dss_one (ds_ret (de_sum rfl rfl nb.n_sum (da_cons (de_lcN [("work", 1)] (bd_name 1) rfl nd (di_seq (de_meth h_Floor_of_state (hr.mono (by first | decide | omega)) hgd hE (de_var 0) (da_cons (de_globS nc.c_LIVES) da_nil))) (blkOk_by (by show blkC N_Floor_space (defScope s_Floor_space) _ _ = true; decide +kernel)) (fun _ _ _ _ _ => pgN 1 nd) (fun _ _ _ _ _ => dts_nil) (fun _ _ _ _ _ => (de_ix (de_ix (de_fld fd.f_Floor_job (de_var 0)) (de_var 1)) de_int))) da_nil))))
abbrev s_is_order : Stmt := top 13
theorem sc_is_order : FnScope N_is_order ["thing", "hands"] (defScope s_is_order) := ⟨rfl, rfl, rfl, by decide +kernel, rfl, by decide +kernel, by decide +kernel⟩
theorem ok_is_order {P : Program} {w : World} {K : PySem.W.Frag} {mg : Str → Option Value} {base : Heap} (nb : Nb mg) (nc : Nc mg) (fd : Fd K)  (D0 : DefAt K mg "is_order" s_is_order ["thing", "hands"]) : CallOk P w K mg base 1 "is_order" C_is_order := by
  have nd : N_is_order.Nodup := sc_is_order.nd
  refine call_ok (T := T_is_order) D0 sc_is_order len_is_order (fun f cdv A outer s H EL E hr hgd hp hE => ?_) run_is_order
  exact (dss_cons (ds_if (DPW.dt (dw_or (dt_not (dt_tru (de_isinst rfl nb.n_isinstance (da_cons (de_var 0) (da_cons (de_bltn (by rfl) nb.n_tuple (by decide +kernel)) da_nil))))) (dw_or1 (dt_ne (u64 hr) (de_len rfl nb.n_len (da_cons (de_var 0) da_nil)) (de_var 1))))) (dss_one (ds_ret de_bl)) dss_nil)
    (dss_cons (ds_for hp rfl (di_range1 rfl nb.n_range (de_var 1)) (dg_name 2 nd) (dss_cons (ds_set 3 nd (de_ix (de_var 0) (de_var 2)))
    (dss_cons (ds_if (DPW.dt (dw_or (dt_not (dt_tru (de_isinst rfl nb.n_isinstance (da_cons (de_var 3) (da_cons (de_bltn (by rfl) nb.n_tuple (by decide +kernel)) da_nil))))) (dw_or1 (dt_not (dt_tru (de_all rfl rfl nb.n_all (da_cons (de_lcN [("one", 4)] (bd_name 4) rfl nd (di_seq (de_var 3)) (blkOk_by (by show blkC N_is_order (defScope s_is_order) _ _ = true; decide +kernel)) (fun _ _ _ _ _ => pgN 4 nd) (fun _ _ _ _ _ => dts_nil) (fun _ _ _ _ _ => (de_and (de_isinst rfl nb.n_isinstance (da_cons (de_var 4) (da_cons (de_bltn (by rfl) nb.n_int (by decide +kernel)) da_nil))) (de_one (de_not (de_isinst rfl nb.n_isinstance (da_cons (de_var 4) (da_cons (de_bltn (by rfl) nb.n_bool (by decide +kernel)) da_nil)))))))) da_nil))))))) (dss_one (ds_ret de_bl)) dss_nil)
    (dss_one (ds_if (dt_ne (u64 hr) (de_sortedT rfl nb.n_sorted (da_cons (de_var 3) da_nil)) (de_lcN [("other", 5)] (bd_name 5) rfl nd (di_range1 rfl nb.n_range (de_var 1)) (blkOk_by (by show blkC N_is_order (defScope s_is_order) _ _ = true; decide +kernel)) (fun _ _ _ _ _ => pgN 5 nd) (fun _ _ _ _ _ => (dts_one (dt_ne (u64 hr) (de_var 5) (de_var 2)))) (fun _ _ _ _ _ => (de_var 5)))) (dss_one (ds_ret de_bl)) dss_nil)))))
    (dss_one (ds_ret de_bl))))
abbrev s_Beaten___init__ : Stmt := inClass (top 14) 0
theorem sc_Beaten___init__ : FnScope N_Beaten___init__ ["self", "job", "hands", "order"] (defScope s_Beaten___init__) := ⟨rfl, rfl, rfl, by decide +kernel, rfl, by decide +kernel, by decide +kernel⟩
theorem ok_Beaten___init__ {P : Program} {w : World} {K : PySem.W.Frag} {mg : Str → Option Value} {base : Heap} (nb : Nb mg) (nc : Nc mg) (fd : Fd K) (h_Floor___init__ : MakeOk P w K mg base 3 "Floor" C_Floor___init__) (h_Floor_space : MethOk P w K mg base 2 "Floor" "space" C_Floor_space) (D0 : MakeAt K mg "Beaten" "Beaten.__init__" s_Beaten___init__ ["self", "job", "hands", "order"]) : MakeOk P w K mg base 5 "Beaten" C_Beaten___init__ := by
  have nd : N_Beaten___init__.Nodup := sc_Beaten___init__.nd
  refine make_ok (T := T_Beaten___init__) D0 sc_Beaten___init__ len_Beaten___init__ (fun f cdv A outer s H EL E hr hgd hp hE => ?_) run_Beaten___init__
  exact (dss_cons (ds_fld fd.f_Beaten_ground (de_var 0) (de_make h_Floor___init__ (hr.mono (by first | decide | omega)) hgd hE (da_cons (de_var 1) (da_cons (de_var 2) da_nil))))
    (dss_cons (ds_fld fd.f_Beaten_sight (de_var 0) (de_var 3))
    (dss_cons (ds_fld fd.f_Beaten_stolen (de_var 0) de_int)
    (dss_cons (ds_fld fd.f_Beaten_rest (de_var 0) de_int)
    (dss_one (ds_fld fd.f_Beaten_peak (de_var 0) (de_meth0 h_Floor_space (hr.mono (by first | decide | omega)) hgd hE (de_fld fd.f_Beaten_ground (de_var 0)))))))))
abbrev s_Beaten_look : Stmt := inClass (top 14) 1
theorem sc_Beaten_look : FnScope N_Beaten_look ["self", "hand"] (defScope s_Beaten_look) := ⟨rfl, rfl, rfl, by decide +kernel, rfl, by decide +kernel, by decide +kernel⟩
theorem ok_Beaten_look {P : Program} {w : World} {K : PySem.W.Frag} {mg : Str → Option Value} {base : Heap} (nb : Nb mg) (nc : Nc mg) (fd : Fd K) (h_Floor_take_own : MethOk P w K mg base 1 "Floor" "take_own" C_Floor_take_own) (h_Floor_rob : MethOk P w K mg base 1 "Floor" "rob" C_Floor_rob) (D0 : MethAt K "Beaten" "look" "Beaten.look" s_Beaten_look ["self", "hand"]) : MethOk P w K mg base 2 "Beaten" "look" C_Beaten_look := by
  have nd : N_Beaten_look.Nodup := sc_Beaten_look.nd
  refine meth_ok (T := T_Beaten_look) D0 sc_Beaten_look len_Beaten_look (fun f cdv A outer s H EL E hr hgd hp hE => ?_) run_Beaten_look
  exact (dss_cons (ds_if (dt_ne (u64 hr) (de_ix (de_fld fd.f_Floor_piles (de_fld fd.f_Beaten_ground (de_var 0))) (de_var 1)) (de_lst da_nil)) (dss_cons (ds_expr (de_meth h_Floor_take_own (hr.mono (by first | decide | omega)) hgd hE (de_fld fd.f_Beaten_ground (de_var 0)) (da_cons (de_var 1) da_nil)))
    (dss_one (ds_ret de_non))) dss_nil)
    (dss_cons (ds_for hp rfl (di_seq (de_ix (de_fld fd.f_Beaten_sight (de_var 0)) (de_var 1))) (dg_name 2 nd) (dss_one (ds_if (dt_ne (u64 hr) (de_ix (de_fld fd.f_Floor_piles (de_fld fd.f_Beaten_ground (de_var 0))) (de_var 2)) (de_lst da_nil)) (dss_cons (ds_expr (de_meth h_Floor_rob (hr.mono (by first | decide | omega)) hgd hE (de_fld fd.f_Beaten_ground (de_var 0)) (da_cons (de_var 1) (da_cons (de_var 2) da_nil))))
    (dss_cons (ds_fld fd.f_Beaten_stolen (de_var 0) (de_add (de_fld fd.f_Beaten_stolen (de_var 0)) de_int))
    (dss_one (ds_ret de_non)))) dss_nil)))
    (dss_one (ds_ret de_non))))
abbrev s_Beaten_beat : Stmt := inClass (top 14) 2
theorem sc_Beaten_beat : FnScope N_Beaten_beat ["self"] (defScope s_Beaten_beat) := ⟨rfl, rfl, rfl, by decide +kernel, rfl, by decide +kernel, by decide +kernel⟩
theorem ok_Beaten_beat {P : Program} {w : World} {K : PySem.W.Frag} {mg : Str → Option Value} {base : Heap} (nb : Nb mg) (nc : Nc mg) (fd : Fd K) (h_Beaten_look : MethOk P w K mg base 2 "Beaten" "look" C_Beaten_look) (h_Floor_do_step : MethOk P w K mg base 4 "Floor" "do_step" C_Floor_do_step) (h_Floor_space : MethOk P w K mg base 2 "Floor" "space" C_Floor_space) (D0 : MethAt K "Beaten" "beat" "Beaten.beat" s_Beaten_beat ["self"]) : MethOk P w K mg base 5 "Beaten" "beat" C_Beaten_beat := by
  have nd : N_Beaten_beat.Nodup := sc_Beaten_beat.nd
  refine meth_ok (T := T_Beaten_beat) D0 sc_Beaten_beat len_Beaten_beat (fun f cdv A outer s H EL E hr hgd hp hE => ?_) run_Beaten_beat
  exact (dss_cons (ds_for hp rfl (di_range1 rfl nb.n_range (de_len rfl nb.n_len (da_cons (de_fld fd.f_Beaten_sight (de_var 0)) da_nil))) (dg_name 1 nd) (dss_one (ds_if (dt_is (de_ix (de_fld fd.f_Floor_current (de_fld fd.f_Beaten_ground (de_var 0))) (de_var 1)) de_non) (dss_one (ds_expr (de_meth h_Beaten_look (hr.mono (by first | decide | omega)) hgd hE (de_var 0) (da_cons (de_var 1) da_nil)))) dss_nil)))
    (dss_cons (ds_setLcN 2 [("hand", 1)] (bd_name 1) rfl nd (sw_true rfl rfl rfl (by decide +kernel)) (di_range1 rfl nb.n_range (de_len rfl nb.n_len (da_cons (de_fld fd.f_Beaten_sight (de_var 0)) da_nil))) (blkOk_by (by show blkC N_Beaten_beat (defScope s_Beaten_beat) _ _ = true; decide +kernel)) (fun _ _ _ _ _ => pgN 1 nd) (fun _ _ _ _ _ => (dts_one (dt_isnot (de_ix (de_fld fd.f_Floor_current (de_fld fd.f_Beaten_ground (de_var 0))) (de_var 1)) de_non))) (fun _ _ _ _ _ => (de_var 1)))
    (dss_cons (ds_set 3 nd (de_mul (de_lst (da_cons de_non da_nil)) (de_len rfl nb.n_len (da_cons (de_fld fd.f_Beaten_sight (de_var 0)) da_nil))))
    (dss_cons (ds_for hp rfl (di_seq (de_var 2)) (dg_name 1 nd) (dss_cons (ds_asg (de_meth h_Floor_do_step (hr.mono (by first | decide | omega)) hgd hE (de_fld fd.f_Beaten_ground (de_var 0)) (da_cons (de_var 1) da_nil)) (dg_sub (de_var 3) (de_var 1)))
    (dss_one (ds_fld fd.f_Beaten_peak (de_var 0) (de_max rfl rfl nb.n_max (da_cons (de_fld fd.f_Beaten_peak (de_var 0)) (da_cons (de_meth0 h_Floor_space (hr.mono (by first | decide | omega)) hgd hE (de_fld fd.f_Beaten_ground (de_var 0))) da_nil)))))))
    (dss_cons (ds_fld fd.f_Beaten_rest (de_var 0) (de_sub (de_add (de_fld fd.f_Beaten_rest (de_var 0)) (de_len rfl nb.n_len (da_cons (de_fld fd.f_Beaten_sight (de_var 0)) da_nil))) (de_len rfl nb.n_len (da_cons (de_var 2) da_nil))))
    (dss_one (ds_ret (de_var 3))))))))
abbrev s_all_beats : Stmt := top 15
theorem sc_all_beats : FnScope N_all_beats ["job", "hands", "order"] (defScope s_all_beats) := ⟨rfl, rfl, rfl, by decide +kernel, rfl, by decide +kernel, by decide +kernel⟩
theorem ok_all_beats {P : Program} {w : World} {K : PySem.W.Frag} {mg : Str → Option Value} {base : Heap} (nb : Nb mg) (nc : Nc mg) (fd : Fd K) (h_is_order : CallOk P w K mg base 1 "is_order" C_is_order) (h_Beaten___init__ : MakeOk P w K mg base 5 "Beaten" C_Beaten___init__) (h_Floor_is_all_over : MethOk P w K mg base 1 "Floor" "is_all_over" C_Floor_is_all_over) (h_Beaten_beat : MethOk P w K mg base 5 "Beaten" "beat" C_Beaten_beat) (D0 : DefAt K mg "all_beats" s_all_beats ["job", "hands", "order"]) : CallOk P w K mg base 7 "all_beats" C_all_beats := by
  have nd : N_all_beats.Nodup := sc_all_beats.nd
  refine call_ok (T := T_all_beats) D0 sc_all_beats len_all_beats (fun f cdv A outer s H EL E hr hgd hp hE => ?_) run_all_beats
  exact (dss_cons (ds_if (dt_not (dt_tru (de_fn h_is_order (hr.mono (by first | decide | omega)) hgd hE (da_cons (de_var 2) (da_cons (de_var 1) da_nil))))) (dss_one ds_never) dss_nil)
    (dss_cons (ds_set 3 nd (de_make h_Beaten___init__ (hr.mono (by first | decide | omega)) hgd hE (da_cons (de_var 0) (da_cons (de_var 1) (da_cons (de_var 2) da_nil)))))
    (dss_cons (ds_set 4 nd (de_lst da_nil))
    (dss_cons (ds_while hp (dt_not (dt_tru (de_meth0 h_Floor_is_all_over (hr.mono (by first | decide | omega)) hgd hE (de_fld fd.f_Beaten_ground (de_var 3))))) (dss_one (ds_expr (de_append (de_var 4) (da_cons (de_meth0 h_Beaten_beat (hr.mono (by first | decide | omega)) hgd hE (de_var 3)) da_nil)))))
    (dss_one (ds_ret (de_tup (da_cons (de_var 3) (da_cons (de_var 4) da_nil)))))))))
abbrev s_beaten : Stmt := top 16
theorem sc_beaten : FnScope N_beaten ["job", "hands", "order"] (defScope s_beaten) := ⟨rfl, rfl, rfl, by decide +kernel, rfl, by decide +kernel, by decide +kernel⟩
theorem ok_beaten {P : Program} {w : World} {K : PySem.W.Frag} {mg : Str → Option Value} {base : Heap} (nb : Nb mg) (nc : Nc mg) (fd : Fd K) (h_all_beats : CallOk P w K mg base 7 "all_beats" C_all_beats) (D0 : DefAt K mg "beaten" s_beaten ["job", "hands", "order"]) : CallOk P w K mg base 8 "beaten" C_beaten := by
  have nd : N_beaten.Nodup := sc_beaten.nd
  refine call_ok (T := T_beaten) D0 sc_beaten len_beaten (fun f cdv A outer s H EL E hr hgd hp hE => ?_) run_beaten
  exact (dss_one (ds_ret (de_ix (de_fn h_all_beats (hr.mono (by first | decide | omega)) hgd hE (da_cons (de_var 0) (da_cons (de_var 1) (da_cons (de_var 2) da_nil)))) de_int)))
abbrev s_measured : Stmt := top 17
theorem sc_measured : FnScope N_measured ["job", "hands", "order"] (defScope s_measured) := ⟨rfl, rfl, rfl, by decide +kernel, rfl, by decide +kernel, by decide +kernel⟩
theorem ok_measured {P : Program} {w : World} {K : PySem.W.Frag} {mg : Str → Option Value} {base : Heap} (nb : Nb mg) (nc : Nc mg) (fd : Fd K) (h_all_beats : CallOk P w K mg base 7 "all_beats" C_all_beats) (D0 : DefAt K mg "measured" s_measured ["job", "hands", "order"]) : CallOk P w K mg base 8 "measured" C_measured := by
  have nd : N_measured.Nodup := sc_measured.nd
  refine call_ok (T := T_measured) D0 sc_measured len_measured (fun f cdv A outer s H EL E hr hgd hp hE => ?_) run_measured
  exact (dss_cons (ds_asg (de_fn h_all_beats (hr.mono (by first | decide | omega)) hgd hE (da_cons (de_var 0) (da_cons (de_var 1) (da_cons (de_var 2) da_nil)))) (dg_tup rfl (dgs_cons (dg_name 3 nd) (dgs_cons (dg_name 4 nd) dgs_nil))))
    (dss_one (ds_ret (de_tup (da_cons (de_len rfl nb.n_len (da_cons (de_var 4) da_nil)) (da_cons (de_fld fd.f_Beaten_stolen (de_var 3)) (da_cons (de_fld fd.f_Beaten_rest (de_var 3)) (da_cons (de_fld fd.f_Beaten_peak (de_var 3)) da_nil))))))))
abbrev s_law_feed : Stmt := top 19
theorem sc_law_feed : FnScope N_law_feed ["script", "k"] (defScope s_law_feed) := ⟨rfl, rfl, rfl, by decide +kernel, rfl, by decide +kernel, by decide +kernel⟩
theorem ok_law_feed {P : Program} {w : World} {K : PySem.W.Frag} {mg : Str → Option Value} {base : Heap} (nb : Nb mg) (nc : Nc mg) (fd : Fd K)  (D0 : DefAt K mg "_law_feed" s_law_feed ["script", "k"]) : CallOk P w K mg base 1 "_law_feed" C_law_feed := by
  have nd : N_law_feed.Nodup := sc_law_feed.nd
  refine call_ok (T := T_law_feed) D0 sc_law_feed len_law_feed (fun f cdv A outer s H EL E hr hgd hp hE => ?_) run_law_feed
  exact (dss_cons (ds_set 2 nd de_int)
    (dss_cons (ds_if (dt_lt (de_var 1) (de_len rfl nb.n_len (da_cons (de_var 0) da_nil))) (dss_one (ds_set 2 nd (de_ix (de_var 0) (de_var 1)))) dss_nil)
    (dss_cons (ds_set 3 nd de_int)
    (dss_cons (ds_if (dt_ge (de_var 2) (de_pow de_int de_int)) (dss_one (ds_set 3 nd (de_sub (de_var 2) (de_pow de_int de_int)))) dss_nil)
    (dss_cons (ds_set 4 nd (de_mod (de_add (de_add (de_mul (de_mod (de_var 2) de_int) de_int) (de_mul de_int (de_var 1))) de_int) de_int))
    (dss_one (ds_ret (de_lst (da_cons (de_var 3) (da_cons (de_add (de_mod (de_pow (de_var 4) de_int) de_int) de_int) da_nil))))))))))
abbrev s_law_take : Stmt := top 20
theorem sc_law_take : FnScope N_law_take ["feed", "many"] (defScope s_law_take) := ⟨rfl, rfl, rfl, by decide +kernel, rfl, by decide +kernel, by decide +kernel⟩
theorem ok_law_take {P : Program} {w : World} {K : PySem.W.Frag} {mg : Str → Option Value} {base : Heap} (nb : Nb mg) (nc : Nc mg) (fd : Fd K)  (D0 : DefAt K mg "_law_take" s_law_take ["feed", "many"]) : CallOk P w K mg base 1 "_law_take" C_law_take := by
  have nd : N_law_take.Nodup := sc_law_take.nd
  refine call_ok (T := T_law_take) D0 sc_law_take len_law_take (fun f cdv A outer s H EL E hr hgd hp hE => ?_) run_law_take
  exact (dss_cons (ds_if (dt_gt (de_ix (de_var 0) de_int) de_int) (dss_cons (ds_set 2 nd (de_mod (de_ix (de_var 0) de_int) (de_var 1)))
    (dss_cons (ds_asg (de_div (de_ix (de_var 0) de_int) (de_var 1)) (dg_sub (de_var 0) de_int))
    (dss_one (ds_ret (de_var 2))))) dss_nil)
    (dss_cons (ds_asg (de_mod (de_add (de_mul (de_ix (de_var 0) de_int) de_int) de_int) de_int) (dg_sub (de_var 0) de_int))
    (dss_one (ds_ret (de_mod (de_div (de_ix (de_var 0) de_int) de_int) (de_var 1))))))
abbrev s_law_pick : Stmt := top 21
theorem sc_law_pick : FnScope N_law_pick ["feed", "some"] (defScope s_law_pick) := ⟨rfl, rfl, rfl, by decide +kernel, rfl, by decide +kernel, by decide +kernel⟩
theorem ok_law_pick {P : Program} {w : World} {K : PySem.W.Frag} {mg : Str → Option Value} {base : Heap} (nb : Nb mg) (nc : Nc mg) (fd : Fd K) (h_law_take : CallOk P w K mg base 1 "_law_take" C_law_take) (D0 : DefAt K mg "_law_pick" s_law_pick ["feed", "some"]) : CallOk P w K mg base 2 "_law_pick" C_law_pick := by
  have nd : N_law_pick.Nodup := sc_law_pick.nd
  refine call_ok (T := T_law_pick) D0 sc_law_pick len_law_pick (fun f cdv A outer s H EL E hr hgd hp hE => ?_) run_law_pick
  exact (dss_one (ds_ret (de_ix (de_var 1) (de_fn h_law_take (hr.mono (by first | decide | omega)) hgd hE (da_cons (de_var 0) (da_cons (de_len rfl nb.n_len (da_cons (de_var 1) da_nil)) da_nil))))))
abbrev s_law_steps : Stmt := top 23
theorem sc_law_steps : FnScope N_law_steps ["feed", "children"] (defScope s_law_steps) := ⟨rfl, rfl, rfl, by decide +kernel, rfl, by decide +kernel, by decide +kernel⟩
theorem ok_law_steps {P : Program} {w : World} {K : PySem.W.Frag} {mg : Str → Option Value} {base : Heap} (nb : Nb mg) (nc : Nc mg) (fd : Fd K) (h_law_take : CallOk P w K mg base 1 "_law_take" C_law_take) (h_law_pick : CallOk P w K mg base 2 "_law_pick" C_law_pick) (D0 : DefAt K mg "_law_steps" s_law_steps ["feed", "children"]) : CallOk P w K mg base 3 "_law_steps" C_law_steps := by
  have nd : N_law_steps.Nodup := sc_law_steps.nd
  refine call_ok (T := T_law_steps) D0 sc_law_steps len_law_steps (fun f cdv A outer s H EL E hr hgd hp hE => ?_) run_law_steps
  exact (dss_cons (ds_setLcN 2 [("child", 3)] (bd_name 3) rfl nd (sw_true rfl rfl rfl (by decide +kernel)) (di_seq (de_var 1)) (blkOk_by (by show blkC N_law_steps (defScope s_law_steps) _ _ = true; decide +kernel)) (fun _ _ _ _ _ => pgN 3 nd) (fun _ _ _ _ _ => dts_nil) (fun _ _ _ _ _ => (de_tup (da_cons de_str (da_cons (de_var 3) da_nil)))))
    (dss_cons (ds_for hp rfl (di_range1 rfl nb.n_range (de_len rfl nb.n_len (da_cons (de_var 2) da_nil))) (dg_name 4 nd) (dss_cons (ds_set 5 nd (de_fn h_law_take (hr.mono (by first | decide | omega)) hgd hE (da_cons (de_var 0) (da_cons (de_len rfl nb.n_len (da_cons (de_var 2) da_nil)) da_nil))))
    (dss_one (ds_asg (de_tup (da_cons (de_ix (de_var 2) (de_var 5)) (da_cons (de_ix (de_var 2) (de_var 4)) da_nil))) (dg_tup rfl (dgs_cons (dg_sub (de_var 2) (de_var 4)) (dgs_cons (dg_sub (de_var 2) (de_var 5)) dgs_nil)))))))
    (dss_cons (ds_set 6 nd (de_fn h_law_pick (hr.mono (by first | decide | omega)) hgd hE (da_cons (de_var 0) (da_cons (de_lst (da_cons (de_len rfl nb.n_len (da_cons (de_var 2) da_nil)) (da_cons (de_add (de_len rfl nb.n_len (da_cons (de_var 2) da_nil)) de_int) (da_cons (de_add (de_len rfl nb.n_len (da_cons (de_var 2) da_nil)) de_int) (da_cons (de_add de_int (de_fn h_law_take (hr.mono (by first | decide | omega)) hgd hE (da_cons (de_var 0) (da_cons de_int da_nil)))) da_nil))))) da_nil))))
    (dss_cons (ds_for hp rfl (di_range1 rfl nb.n_range (de_sub (de_min rfl rfl nb.n_min (da_cons de_int (da_cons (de_max rfl rfl nb.n_max (da_cons de_int (da_cons (de_var 6) da_nil))) da_nil))) (de_len rfl nb.n_len (da_cons (de_var 2) da_nil)))) (dg_name 7 nd) (dss_cons (ds_set 8 nd (de_fn h_law_pick (hr.mono (by first | decide | omega)) hgd hE (da_cons (de_var 0) (da_cons (de_lst (da_cons (de_tup (da_cons de_str da_nil)) (da_cons (de_tup (da_cons de_str da_nil)) (da_cons (de_tup (da_cons de_str da_nil)) da_nil)))) da_nil))))
    (dss_one (ds_expr (de_insert (de_var 2) (da_cons (de_fn h_law_take (hr.mono (by first | decide | omega)) hgd hE (da_cons (de_var 0) (da_cons (de_add (de_len rfl nb.n_len (da_cons (de_var 2) da_nil)) de_int) da_nil))) (da_cons (de_var 8) da_nil)))))))
    (dss_one (ds_ret (de_tuple rfl nb.n_tuple (da_cons (de_slice (de_var 2) do_none (do_some de_int)) da_nil))))))))
abbrev s_law_job : Stmt := top 24
theorem sc_law_job : FnScope N_law_job ["feed", "most"] (defScope s_law_job) := ⟨rfl, rfl, rfl, by decide +kernel, rfl, by decide +kernel, by decide +kernel⟩
theorem ok_law_job {P : Program} {w : World} {K : PySem.W.Frag} {mg : Str → Option Value} {base : Heap} (nb : Nb mg) (nc : Nc mg) (fd : Fd K) (h_law_pick : CallOk P w K mg base 2 "_law_pick" C_law_pick) (h_law_take : CallOk P w K mg base 1 "_law_take" C_law_take) (h_law_steps : CallOk P w K mg base 3 "_law_steps" C_law_steps) (D0 : DefAt K mg "_law_job" s_law_job ["feed", "most"]) : CallOk P w K mg base 4 "_law_job" C_law_job := by
  have nd : N_law_job.Nodup := sc_law_job.nd
  refine call_ok (T := T_law_job) D0 sc_law_job len_law_job (fun f cdv A outer s H EL E hr hgd hp hE => ?_) run_law_job
  exact (dss_cons (ds_set 2 nd (de_fn h_law_pick (hr.mono (by first | decide | omega)) hgd hE (da_cons (de_var 0) (da_cons (de_lst (da_cons (de_var 1) (da_cons (de_var 1) (da_cons (de_sub (de_var 1) de_int) (da_cons (de_add de_int (de_fn h_law_take (hr.mono (by first | decide | omega)) hgd hE (da_cons (de_var 0) (da_cons (de_var 1) da_nil)))) da_nil))))) da_nil))))
    (dss_cons (ds_set 2 nd (de_max rfl rfl nb.n_max (da_cons de_int (da_cons (de_var 2) da_nil))))
    (dss_cons (ds_set 3 nd (de_fn h_law_take (hr.mono (by first | decide | omega)) hgd hE (da_cons (de_var 0) (da_cons de_int da_nil))))
    (dss_cons (ds_set 4 nd (de_lcN [("work", 5)] (bd_name 5) rfl nd (di_range1 rfl nb.n_range (de_var 2)) (blkOk_by (by show blkC N_law_job (defScope s_law_job) _ _ = true; decide +kernel)) (fun _ _ _ _ _ => pgN 5 nd) (fun _ _ _ _ _ => dts_nil) (fun _ _ _ _ _ => (de_lst da_nil))))
    (dss_cons (ds_for hp rfl (di_range2 rfl nb.n_range de_int (de_var 2)) (dg_name 5 nd) (dss_cons (ds_set 6 nd (de_lst (da_cons (de_fn h_law_take (hr.mono (by first | decide | omega)) hgd hE (da_cons (de_var 0) (da_cons (de_var 5) da_nil))) (da_cons (de_sub (de_var 5) de_int) (da_cons (de_fn h_law_take (hr.mono (by first | decide | omega)) hgd hE (da_cons (de_var 0) (da_cons (de_var 5) da_nil))) (da_cons (de_max rfl rfl nb.n_max (da_cons de_int (da_cons (de_sub (de_sub (de_var 5) de_int) (de_fn h_law_take (hr.mono (by first | decide | omega)) hgd hE (da_cons (de_var 0) (da_cons de_int da_nil)))) da_nil))) da_nil))))))
    (dss_cons (ds_set 7 nd (de_ix (de_add (de_var 6) (de_lst (da_cons de_int da_nil))) (de_var 3)))
    (dss_cons (ds_if (dt_eq (u64 hr) (de_len rfl nb.n_len (da_cons (de_ix (de_var 4) (de_var 7)) da_nil)) de_int) (dss_one (ds_set 7 nd (de_ix (de_lcN [("one", 8)] (bd_name 8) rfl nd (di_range1 rfl nb.n_range (de_var 5)) (blkOk_by (by show blkC N_law_job (defScope s_law_job) _ _ = true; decide +kernel)) (fun _ _ _ _ _ => pgN 8 nd) (fun _ _ _ _ _ => (dts_one (dt_lt (de_len rfl nb.n_len (da_cons (de_ix (de_var 4) (de_var 8)) da_nil)) de_int))) (fun _ _ _ _ _ => (de_var 8))) de_int))) dss_nil)
    (dss_one (ds_expr (de_append (de_ix (de_var 4) (de_var 7)) (da_cons (de_var 5) da_nil))))))))
    (dss_cons (ds_set 9 nd (de_lcN [("work", 5)] (bd_name 5) rfl nd (di_range1 rfl nb.n_range (de_var 2)) (blkOk_by (by show blkC N_law_job (defScope s_law_job) _ _ = true; decide +kernel)) (fun _ _ _ _ _ => pgN 5 nd) (fun _ _ _ _ _ => dts_nil) (fun _ _ _ _ _ => (de_fn h_law_pick (hr.mono (by first | decide | omega)) hgd passD_no (da_cons (de_var 0) (da_cons (de_lst (da_cons de_int (da_cons de_int (da_cons (de_add de_int (de_fn h_law_take (hr.mono (by first | decide | omega)) hgd passD_no (da_cons (de_var 0) (da_cons de_int da_nil)))) da_nil)))) da_nil))))))
    (dss_one (ds_ret (de_tuple rfl nb.n_tuple (da_cons (de_lcN [("work", 5)] (bd_name 5) rfl nd (di_range1 rfl nb.n_range (de_var 2)) (blkOk_by (by show blkC N_law_job (defScope s_law_job) _ _ = true; decide +kernel)) (fun _ _ _ _ _ => pgN 5 nd) (fun _ _ _ _ _ => dts_nil) (fun _ _ _ _ _ => (de_tup (da_cons (de_ix (de_var 9) (de_var 5)) (da_cons (de_fn h_law_steps (hr.mono (by first | decide | omega)) hgd passD_no (da_cons (de_var 0) (da_cons (de_ix (de_var 4) (de_var 5)) da_nil))) da_nil))))) da_nil))))))))))
abbrev s_law_parents : Stmt := top 25
theorem sc_law_parents : FnScope N_law_parents ["job"] (defScope s_law_parents) := ⟨rfl, rfl, rfl, by decide +kernel, rfl, by decide +kernel, by decide +kernel⟩
theorem ok_law_parents {P : Program} {w : World} {K : PySem.W.Frag} {mg : Str → Option Value} {base : Heap} (nb : Nb mg) (nc : Nc mg) (fd : Fd K)  (D0 : DefAt K mg "_law_parents" s_law_parents ["job"]) : CallOk P w K mg base 1 "_law_parents" C_law_parents := by
  have nd : N_law_parents.Nodup := sc_law_parents.nd
  refine call_ok (T := T_law_parents) D0 sc_law_parents len_law_parents (fun f cdv A outer s H EL E hr hgd hp hE => ?_) run_law_parents
  exact (dss_cons (ds_setLcN 1 [("work", 2)] (bd_name 2) rfl nd (sw_true rfl rfl rfl (by decide +kernel)) (di_seq (de_var 0)) (blkOk_by (by show blkC N_law_parents (defScope s_law_parents) _ _ = true; decide +kernel)) (fun _ _ _ _ _ => pgN 2 nd) (fun _ _ _ _ _ => dts_nil) (fun _ _ _ _ _ => de_non))
    (dss_cons (ds_for hp rfl (di_range1 rfl nb.n_range (de_len rfl nb.n_len (da_cons (de_var 0) da_nil))) (dg_name 2 nd) (dss_one (ds_for hp rfl (di_seq (de_ix (de_ix (de_var 0) (de_var 2)) de_int)) (dg_name 3 nd) (dss_one (ds_if (dt_eq (u64 hr) (de_ix (de_var 3) de_int) de_str) (dss_one (ds_asg (de_var 2) (dg_sub (de_var 1) (de_ix (de_var 3) de_int)))) dss_nil)))))
    (dss_one (ds_ret (de_var 1)))))
abbrev s_law_overs : Stmt := top 26
theorem sc_law_overs : FnScope N_law_overs ["job", "at"] (defScope s_law_overs) := ⟨rfl, rfl, rfl, by decide +kernel, rfl, by decide +kernel, by decide +kernel⟩
theorem ok_law_overs {P : Program} {w : World} {K : PySem.W.Frag} {mg : Str → Option Value} {base : Heap} (nb : Nb mg) (nc : Nc mg) (fd : Fd K)  (D0 : DefAt K mg "_law_overs" s_law_overs ["job", "at"]) : CallOk P w K mg base 1 "_law_overs" C_law_overs := by
  have nd : N_law_overs.Nodup := sc_law_overs.nd
  refine call_ok (T := T_law_overs) D0 sc_law_overs len_law_overs (fun f cdv A outer s H EL E hr hgd hp hE => ?_) run_law_overs
  exact (dss_cons (ds_set 2 nd (de_lcN [("work", 3)] (bd_name 3) rfl nd (di_seq (de_var 0)) (blkOk_by (by show blkC N_law_overs (defScope s_law_overs) _ _ = true; decide +kernel)) (fun _ _ _ _ _ => pgN 3 nd) (fun _ _ _ _ _ => dts_nil) (fun _ _ _ _ _ => de_bl)))
    (dss_cons (ds_for hp rfl (di_range3 rfl nb.n_range (de_sub (de_len rfl nb.n_len (da_cons (de_var 0) da_nil)) de_int) (de_neg de_int) (de_neg de_int)) (dg_name 3 nd) (dss_cons (ds_setLcN 4 [("step", 5)] (bd_name 5) rfl nd (sw_true rfl rfl rfl (by decide +kernel)) (di_seq (de_ix (de_ix (de_var 0) (de_var 3)) de_int)) (blkOk_by (by show blkC N_law_overs (defScope s_law_overs) _ _ = true; decide +kernel)) (fun _ _ _ _ _ => pgN 5 nd) (fun _ _ _ _ _ => (dts_one (dt_eq (u64 hr) (de_ix (de_var 5) de_int) de_str))) (fun _ _ _ _ _ => (de_ix (de_var 5) de_int)))
    (dss_one (ds_asg (de_and (de_eq (u64 hr) (de_ix (de_var 1) (de_var 3)) (de_len rfl nb.n_len (da_cons (de_ix (de_ix (de_var 0) (de_var 3)) de_int) da_nil))) (de_one (de_notin (u65 hr) de_bl (de_lcN [("kid", 6)] (bd_name 6) rfl nd (di_seq (de_var 4)) (blkOk_by (by show blkC N_law_overs (defScope s_law_overs) _ _ = true; decide +kernel)) (fun _ _ _ _ _ => pgN 6 nd) (fun _ _ _ _ _ => dts_nil) (fun _ _ _ _ _ => (de_ix (de_var 2) (de_var 6))))))) (dg_sub (de_var 2) (de_var 3))))))
    (dss_one (ds_ret (de_var 2)))))
abbrev s_law_sent : Stmt := top 27
theorem sc_law_sent : FnScope N_law_sent ["job", "at", "work"] (defScope s_law_sent) := ⟨rfl, rfl, rfl, by decide +kernel, rfl, by decide +kernel, by decide +kernel⟩
theorem ok_law_sent {P : Program} {w : World} {K : PySem.W.Frag} {mg : Str → Option Value} {base : Heap} (nb : Nb mg) (nc : Nc mg) (fd : Fd K)  (D0 : DefAt K mg "_law_sent" s_law_sent ["job", "at", "work"]) : CallOk P w K mg base 1 "_law_sent" C_law_sent := by
  have nd : N_law_sent.Nodup := sc_law_sent.nd
  refine call_ok (T := T_law_sent) D0 sc_law_sent len_law_sent (fun f cdv A outer s H EL E hr hgd hp hE => ?_) run_law_sent
  exact (dss_one (ds_ret (de_lcN [("step", 3)] (bd_name 3) rfl nd (di_seq (de_slice (de_ix (de_ix (de_var 0) (de_var 2)) de_int) do_none (do_some (de_ix (de_var 1) (de_var 2))))) (blkOk_by (by show blkC N_law_sent (defScope s_law_sent) _ _ = true; decide +kernel)) (fun _ _ _ _ _ => pgN 3 nd) (fun _ _ _ _ _ => (dts_one (dt_eq (u64 hr) (de_ix (de_var 3) de_int) de_str))) (fun _ _ _ _ _ => (de_ix (de_var 3) de_int)))))
abbrev s_law_lives : Stmt := top 28
theorem sc_law_lives : FnScope N_law_lives ["job", "at"] (defScope s_law_lives) := ⟨rfl, rfl, rfl, by decide +kernel, rfl, by decide +kernel, by decide +kernel⟩
theorem ok_law_lives {P : Program} {w : World} {K : PySem.W.Frag} {mg : Str → Option Value} {base : Heap} (nb : Nb mg) (nc : Nc mg) (fd : Fd K) (h_law_overs : CallOk P w K mg base 1 "_law_overs" C_law_overs) (h_law_sent : CallOk P w K mg base 1 "_law_sent" C_law_sent) (D0 : DefAt K mg "_law_lives" s_law_lives ["job", "at"]) : CallOk P w K mg base 2 "_law_lives" C_law_lives := by
  have nd : N_law_lives.Nodup := sc_law_lives.nd
  refine call_ok (T := T_law_lives) D0 sc_law_lives len_law_lives (fun f cdv A outer s H EL E hr hgd hp hE => ?_) run_law_lives
  exact (dss_cons (ds_set 2 nd (de_fn h_law_overs (hr.mono (by first | decide | omega)) hgd hE (da_cons (de_var 0) (da_cons (de_var 1) da_nil))))
    (dss_cons (ds_set 3 nd (de_lst (da_cons de_int da_nil)))
    (dss_cons (ds_for hp rfl (di_range1 rfl nb.n_range (de_len rfl nb.n_len (da_cons (de_var 0) da_nil))) (dg_name 4 nd) (dss_one (ds_set 3 nd (de_add (de_var 3) (de_fn h_law_sent (hr.mono (by first | decide | omega)) hgd hE (da_cons (de_var 0) (da_cons (de_var 1) (da_cons (de_var 4) da_nil))))))))
    (dss_one (ds_ret (de_lcN [("work", 4)] (bd_name 4) rfl nd (di_range1 rfl nb.n_range (de_len rfl nb.n_len (da_cons (de_var 0) da_nil))) (blkOk_by (by show blkC N_law_lives (defScope s_law_lives) _ _ = true; decide +kernel)) (fun _ _ _ _ _ => pgN 4 nd) (fun _ _ _ _ _ => (dts_one (DPW.dt (dw_and (dt_in (u65 hr) (de_var 4) (de_var 3)) (dw_and1 (dt_not (dt_tru (de_ix (de_var 2) (de_var 4))))))))) (fun _ _ _ _ _ => (de_var 4))))))))
abbrev s_law_is_held : Stmt := top 29
theorem sc_law_is_held : FnScope N_law_is_held ["job", "at", "work"] (defScope s_law_is_held) := ⟨rfl, rfl, rfl, by decide +kernel, rfl, by decide +kernel, by decide +kernel⟩
theorem ok_law_is_held {P : Program} {w : World} {K : PySem.W.Frag} {mg : Str → Option Value} {base : Heap} (nb : Nb mg) (nc : Nc mg) (fd : Fd K)  (D0 : DefAt K mg "_law_is_held" s_law_is_held ["job", "at", "work"]) : CallOk P w K mg base 1 "_law_is_held" C_law_is_held := by
  have nd : N_law_is_held.Nodup := sc_law_is_held.nd
  refine call_ok (T := T_law_is_held) D0 sc_law_is_held len_law_is_held (fun f cdv A outer s H EL E hr hgd hp hE => ?_) run_law_is_held
  exact (dss_one (ds_ret (de_in (u65 hr) (de_slice (de_ix (de_ix (de_var 0) (de_var 2)) de_int) (do_some (de_ix (de_var 1) (de_var 2))) (do_some (de_add (de_ix (de_var 1) (de_var 2)) de_int))) (de_lst (da_cons (de_tup (da_cons (de_tup (da_cons de_str da_nil)) da_nil)) (da_cons (de_tup da_nil) da_nil))))))
abbrev s_law_is_kept_off : Stmt := top 30
theorem sc_law_is_kept_off : FnScope N_law_is_kept_off ["job", "at", "work"] (defScope s_law_is_kept_off) := ⟨rfl, rfl, rfl, by decide +kernel, rfl, by decide +kernel, by decide +kernel⟩
theorem ok_law_is_kept_off {P : Program} {w : World} {K : PySem.W.Frag} {mg : Str → Option Value} {base : Heap} (nb : Nb mg) (nc : Nc mg) (fd : Fd K) (h_law_overs : CallOk P w K mg base 1 "_law_overs" C_law_overs) (h_law_is_held : CallOk P w K mg base 1 "_law_is_held" C_law_is_held) (h_law_sent : CallOk P w K mg base 1 "_law_sent" C_law_sent) (D0 : DefAt K mg "_law_is_kept_off" s_law_is_kept_off ["job", "at", "work"]) : CallOk P w K mg base 2 "_law_is_kept_off" C_law_is_kept_off := by
  have nd : N_law_is_kept_off.Nodup := sc_law_is_kept_off.nd
  refine call_ok (T := T_law_is_kept_off) D0 sc_law_is_kept_off len_law_is_kept_off (fun f cdv A outer s H EL E hr hgd hp hE => ?_) run_law_is_kept_off
  exact (dss_cons (ds_set 3 nd (de_fn h_law_overs (hr.mono (by first | decide | omega)) hgd hE (da_cons (de_var 0) (da_cons (de_var 1) da_nil))))
    (dss_one (ds_ret (de_and (de_fn h_law_is_held (hr.mono (by first | decide | omega)) hgd hE (da_cons (de_var 0) (da_cons (de_var 1) (da_cons (de_var 2) da_nil)))) (de_one (de_in (u65 hr) de_bl (de_lcN [("kid", 4)] (bd_name 4) rfl nd (di_seq (de_fn h_law_sent (hr.mono (by first | decide | omega)) hgd hE (da_cons (de_var 0) (da_cons (de_var 1) (da_cons (de_var 2) da_nil))))) (blkOk_by (by show blkC N_law_is_kept_off (defScope s_law_is_kept_off) _ _ = true; decide +kernel)) (fun _ _ _ _ _ => pgN 4 nd) (fun _ _ _ _ _ => dts_nil) (fun _ _ _ _ _ => (de_ix (de_var 3) (de_var 4))))))))))
abbrev s_law_settle : Stmt := top 31
theorem sc_law_settle : FnScope N_law_settle ["job", "up", "state", "hand"] (defScope s_law_settle) := ⟨rfl, rfl, rfl, by decide +kernel, rfl, by decide +kernel, by decide +kernel⟩
theorem ok_law_settle {P : Program} {w : World} {K : PySem.W.Frag} {mg : Str → Option Value} {base : Heap} (nb : Nb mg) (nc : Nc mg) (fd : Fd K) (h_law_overs : CallOk P w K mg base 1 "_law_overs" C_law_overs) (h_law_is_kept_off : CallOk P w K mg base 2 "_law_is_kept_off" C_law_is_kept_off) (D0 : DefAt K mg "_law_settle" s_law_settle ["job", "up", "state", "hand"]) : CallOk P w K mg base 3 "_law_settle" C_law_settle := by
  have nd : N_law_settle.Nodup := sc_law_settle.nd
  refine call_ok (T := T_law_settle) D0 sc_law_settle len_law_settle (fun f cdv A outer s H EL E hr hgd hp hE => ?_) run_law_settle
  exact (dss_cons (ds_asg (de_var 2) (dg_tup rfl (dgs_cons (dg_name 4 nd) (dgs_cons (dg_name 5 nd) (dgs_cons (dg_name 6 nd) dgs_nil)))))
    (dss_one (ds_for hp rfl (di_range1 rfl nb.n_range (de_add (de_len rfl nb.n_len (da_cons (de_var 0) da_nil)) de_int)) (dg_name 7 nd) (dss_cons (ds_set 8 nd (de_ix (de_var 5) (de_var 3)))
    (dss_cons (ds_if (dt_is (de_var 8) de_non) (dss_one ds_retN) dss_nil)
    (dss_one (ds_if (dt_tru (de_ix (de_fn h_law_overs (hr.mono (by first | decide | omega)) hgd hE (da_cons (de_var 0) (da_cons (de_var 4) da_nil))) (de_var 8))) (dss_cons (ds_set 9 nd (de_ix (de_var 1) (de_var 8)))
    (dss_cons (ds_asg de_non (dg_sub (de_var 5) (de_var 3)))
    (dss_cons (ds_set 10 nd (de_list rfl nb.n_list (da_cons (de_var 5) da_nil)))
    (dss_cons (ds_for hp rfl (di_seq (de_var 6)) (dg_name 11 nd) (dss_one (ds_set 10 nd (de_add (de_var 10) (de_var 11)))))
    (dss_one (ds_if (DPW.dt (dw_and (dt_isnot (de_var 9) de_non) (dw_and (dt_notin (u65 hr) (de_var 9) (de_var 10)) (dw_and1 (dt_not (dt_tru (de_fn h_law_is_kept_off (hr.mono (by first | decide | omega)) hgd hE (da_cons (de_var 0) (da_cons (de_var 4) (da_cons (de_var 9) da_nil)))))))))) (dss_one (ds_asg (de_var 9) (dg_sub (de_var 5) (de_var 3)))) dss_nil)))))) (dss_one (ds_if (dt_tru (de_fn h_law_is_kept_off (hr.mono (by first | decide | omega)) hgd hE (da_cons (de_var 0) (da_cons (de_var 4) (da_cons (de_var 8) da_nil))))) (dss_one (ds_asg de_non (dg_sub (de_var 5) (de_var 3)))) (dss_one ds_retN))))))))))
abbrev s_law_go : Stmt := top 32
theorem sc_law_go : FnScope N_law_go ["job", "up", "state", "hand", "other"] (defScope s_law_go) := ⟨rfl, rfl, rfl, by decide +kernel, rfl, by decide +kernel, by decide +kernel⟩
theorem ok_law_go {P : Program} {w : World} {K : PySem.W.Frag} {mg : Str → Option Value} {base : Heap} (nb : Nb mg) (nc : Nc mg) (fd : Fd K) (h_law_is_held : CallOk P w K mg base 1 "_law_is_held" C_law_is_held) (h_law_settle : CallOk P w K mg base 3 "_law_settle" C_law_settle) (D0 : DefAt K mg "_law_go" s_law_go ["job", "up", "state", "hand", "other"]) : CallOk P w K mg base 4 "_law_go" C_law_go := by
  have nd : N_law_go.Nodup := sc_law_go.nd
  refine call_ok (T := T_law_go) D0 sc_law_go len_law_go (fun f cdv A outer s H EL E hr hgd hp hE => ?_) run_law_go
  exact (dss_cons (ds_asg (de_var 2) (dg_tup rfl (dgs_cons (dg_name 5 nd) (dgs_cons (dg_name 6 nd) (dgs_cons (dg_name 7 nd) dgs_nil)))))
    (dss_cons (ds_set 8 nd (de_ix (de_var 6) (de_var 3)))
    (dss_cons (ds_if (DPW.dt (dw_and (dt_is (de_var 8) de_non) (dw_and1 (dt_ne (u64 hr) (de_ix (de_var 7) (de_var 3)) (de_lst da_nil))))) (dss_cons (ds_asg (de_pop (de_ix (de_var 7) (de_var 3))) (dg_sub (de_var 6) (de_var 3)))
    (dss_one (ds_ret (de_tup (da_cons de_str (da_cons (de_ix (de_var 6) (de_var 3)) da_nil)))))) dss_nil)
    (dss_cons (ds_if (DPW.dt (dw_and (dt_is (de_var 8) de_non) (dw_and1 (dt_ne (u64 hr) (de_ix (de_var 7) (de_var 4)) (de_lst da_nil))))) (dss_cons (ds_asg (de_popAt (de_ix (de_var 7) (de_var 4)) (da_cons de_int da_nil)) (dg_sub (de_var 6) (de_var 3)))
    (dss_one (ds_ret (de_tup (da_cons de_str (da_cons (de_ix (de_var 6) (de_var 3)) (da_cons (de_var 4) da_nil))))))) dss_nil)
    (dss_cons (ds_if (dt_is (de_var 8) de_non) (dss_one (ds_ret (de_tup (da_cons de_str (da_cons (de_var 4) da_nil))))) dss_nil)
    (dss_cons (ds_set 9 nd (de_ix (de_var 5) (de_var 8)))
    (dss_cons (ds_asg (de_add (de_var 9) de_int) (dg_sub (de_var 5) (de_var 8)))
    (dss_cons (ds_if (dt_eq (u64 hr) (de_ix (de_ix (de_ix (de_ix (de_var 0) (de_var 8)) de_int) (de_var 9)) de_int) de_str) (dss_cons (ds_asg (de_ix (de_ix (de_ix (de_ix (de_var 0) (de_var 8)) de_int) (de_var 9)) de_int) (dg_sub (de_var 6) (de_var 3)))
    (dss_one (ds_if (dt_not (dt_tru (de_fn h_law_is_held (hr.mono (by first | decide | omega)) hgd hE (da_cons (de_var 0) (da_cons (de_var 5) (da_cons (de_var 8) da_nil)))))) (dss_one (ds_expr (de_append (de_ix (de_var 7) (de_var 3)) (da_cons (de_var 8) da_nil)))) dss_nil))) dss_nil)
    (dss_cons (ds_expr (de_fn h_law_settle (hr.mono (by first | decide | omega)) hgd hE (da_cons (de_var 0) (da_cons (de_var 1) (da_cons (de_var 2) (da_cons (de_var 3) da_nil))))))
    (dss_one (ds_ret (de_tup (da_cons de_str (da_cons (de_var 8) (da_cons (de_var 9) da_nil)))))))))))))))
abbrev s_law_floor : Stmt := top 33
theorem sc_law_floor : FnScope N_law_floor ["job", "hands"] (defScope s_law_floor) := ⟨rfl, rfl, rfl, by decide +kernel, rfl, by decide +kernel, by decide +kernel⟩
theorem ok_law_floor {P : Program} {w : World} {K : PySem.W.Frag} {mg : Str → Option Value} {base : Heap} (nb : Nb mg) (nc : Nc mg) (fd : Fd K)  (D0 : DefAt K mg "_law_floor" s_law_floor ["job", "hands"]) : CallOk P w K mg base 1 "_law_floor" C_law_floor := by
  have nd : N_law_floor.Nodup := sc_law_floor.nd
  refine call_ok (T := T_law_floor) D0 sc_law_floor len_law_floor (fun f cdv A outer s H EL E hr hgd hp hE => ?_) run_law_floor
  exact (dss_one (ds_ret (de_tup (da_cons (de_lcN [("work", 2)] (bd_name 2) rfl nd (di_seq (de_var 0)) (blkOk_by (by show blkC N_law_floor (defScope s_law_floor) _ _ = true; decide +kernel)) (fun _ _ _ _ _ => pgN 2 nd) (fun _ _ _ _ _ => dts_nil) (fun _ _ _ _ _ => de_int)) (da_cons (de_add (de_lst (da_cons de_int da_nil)) (de_lcN [("hand", 3)] (bd_name 3) rfl nd (di_range2 rfl nb.n_range de_int (de_var 1)) (blkOk_by (by show blkC N_law_floor (defScope s_law_floor) _ _ = true; decide +kernel)) (fun _ _ _ _ _ => pgN 3 nd) (fun _ _ _ _ _ => dts_nil) (fun _ _ _ _ _ => de_non))) (da_cons (de_lcN [("hand", 3)] (bd_name 3) rfl nd (di_range1 rfl nb.n_range (de_var 1)) (blkOk_by (by show blkC N_law_floor (defScope s_law_floor) _ _ = true; decide +kernel)) (fun _ _ _ _ _ => pgN 3 nd) (fun _ _ _ _ _ => dts_nil) (fun _ _ _ _ _ => (de_lst da_nil))) da_nil))))))
abbrev s_law_order : Stmt := top 34
theorem sc_law_order : FnScope N_law_order ["feed", "hands"] (defScope s_law_order) := ⟨rfl, rfl, rfl, by decide +kernel, rfl, by decide +kernel, by decide +kernel⟩
theorem ok_law_order {P : Program} {w : World} {K : PySem.W.Frag} {mg : Str → Option Value} {base : Heap} (nb : Nb mg) (nc : Nc mg) (fd : Fd K) (h_law_take : CallOk P w K mg base 1 "_law_take" C_law_take) (D0 : DefAt K mg "_law_order" s_law_order ["feed", "hands"]) : CallOk P w K mg base 2 "_law_order" C_law_order := by
  have nd : N_law_order.Nodup := sc_law_order.nd
  refine call_ok (T := T_law_order) D0 sc_law_order len_law_order (fun f cdv A outer s H EL E hr hgd hp hE => ?_) run_law_order
  exact (dss_cons (ds_set 2 nd (de_lst da_nil))
    (dss_cons (ds_for hp rfl (di_range1 rfl nb.n_range (de_var 1)) (dg_name 3 nd) (dss_cons (ds_setLcN 4 [("other", 5)] (bd_name 5) rfl nd (sw_true rfl rfl rfl (by decide +kernel)) (di_range1 rfl nb.n_range (de_var 1)) (blkOk_by (by show blkC N_law_order (defScope s_law_order) _ _ = true; decide +kernel)) (fun _ _ _ _ _ => pgN 5 nd) (fun _ _ _ _ _ => (dts_one (dt_ne (u64 hr) (de_var 5) (de_var 3)))) (fun _ _ _ _ _ => (de_var 5)))
    (dss_cons (ds_set 6 nd (de_lst da_nil))
    (dss_cons (ds_while hp (dt_ne (u64 hr) (de_var 4) (de_lst da_nil)) (dss_one (ds_expr (de_append (de_var 6) (da_cons (de_popAt (de_var 4) (da_cons (de_fn h_law_take (hr.mono (by first | decide | omega)) hgd hE (da_cons (de_var 0) (da_cons (de_len rfl nb.n_len (da_cons (de_var 4) da_nil)) da_nil))) da_nil)) da_nil)))))
    (dss_one (ds_expr (de_append (de_var 2) (da_cons (de_tuple rfl nb.n_tuple (da_cons (de_var 6) da_nil)) da_nil))))))))
    (dss_one (ds_ret (de_tuple rfl nb.n_tuple (da_cons (de_var 2) da_nil))))))
abbrev s_law_look : Stmt := top 35
theorem sc_law_look : FnScope N_law_look ["state", "order", "hand"] (defScope s_law_look) := ⟨rfl, rfl, rfl, by decide +kernel, rfl, by decide +kernel, by decide +kernel⟩
theorem ok_law_look {P : Program} {w : World} {K : PySem.W.Frag} {mg : Str → Option Value} {base : Heap} (nb : Nb mg) (nc : Nc mg) (fd : Fd K)  (D0 : DefAt K mg "_law_look" s_law_look ["state", "order", "hand"]) : CallOk P w K mg base 1 "_law_look" C_law_look := by
  have nd : N_law_look.Nodup := sc_law_look.nd
  refine call_ok (T := T_law_look) D0 sc_law_look len_law_look (fun f cdv A outer s H EL E hr hgd hp hE => ?_) run_law_look
  exact (dss_cons (ds_asg (de_var 0) (dg_tup rfl (dgs_cons (dg_name 3 nd) (dgs_cons (dg_name 4 nd) (dgs_cons (dg_name 5 nd) dgs_nil)))))
    (dss_cons (ds_if (dt_ne (u64 hr) (de_ix (de_var 5) (de_var 2)) (de_lst da_nil)) (dss_cons (ds_asg (de_pop (de_ix (de_var 5) (de_var 2))) (dg_sub (de_var 4) (de_var 2)))
    (dss_one (ds_ret de_bl))) dss_nil)
    (dss_cons (ds_for hp rfl (di_seq (de_ix (de_var 1) (de_var 2))) (dg_name 6 nd) (dss_one (ds_if (dt_ne (u64 hr) (de_ix (de_var 5) (de_var 6)) (de_lst da_nil)) (dss_cons (ds_asg (de_popAt (de_ix (de_var 5) (de_var 6)) (da_cons de_int da_nil)) (dg_sub (de_var 4) (de_var 2)))
    (dss_one (ds_ret de_bl))) dss_nil)))
    (dss_one (ds_ret de_bl)))))
abbrev s_law_beat : Stmt := top 36
theorem sc_law_beat : FnScope N_law_beat ["job", "up", "state", "order", "counts"] (defScope s_law_beat) := ⟨rfl, rfl, rfl, by decide +kernel, rfl, by decide +kernel, by decide +kernel⟩
theorem ok_law_beat {P : Program} {w : World} {K : PySem.W.Frag} {mg : Str → Option Value} {base : Heap} (nb : Nb mg) (nc : Nc mg) (fd : Fd K) (h_law_look : CallOk P w K mg base 1 "_law_look" C_law_look) (h_law_go : CallOk P w K mg base 4 "_law_go" C_law_go) (h_law_lives : CallOk P w K mg base 2 "_law_lives" C_law_lives) (D0 : DefAt K mg "_law_beat" s_law_beat ["job", "up", "state", "order", "counts"]) : CallOk P w K mg base 5 "_law_beat" C_law_beat := by
  have nd : N_law_beat.Nodup := sc_law_beat.nd
  refine call_ok (T := T_law_beat) D0 sc_law_beat len_law_beat (fun f cdv A outer s H EL E hr hgd hp hE => ?_) run_law_beat
  exact (dss_cons (ds_set 5 nd (de_ix (de_var 2) de_int))
    (dss_cons (ds_for hp rfl (di_range1 rfl nb.n_range (de_len rfl nb.n_len (da_cons (de_var 3) da_nil))) (dg_name 6 nd) (dss_one (ds_if (DPW.dt (dw_and (dt_is (de_ix (de_var 5) (de_var 6)) de_non) (dw_and1 (dt_tru (de_fn h_law_look (hr.mono (by first | decide | omega)) hgd hE (da_cons (de_var 2) (da_cons (de_var 3) (da_cons (de_var 6) da_nil)))))))) (dss_one (ds_asg (de_add (de_ix (de_var 4) de_int) de_int) (dg_sub (de_var 4) de_int))) dss_nil)))
    (dss_cons (ds_setLcN 7 [("hand", 6)] (bd_name 6) rfl nd (sw_true rfl rfl rfl (by decide +kernel)) (di_range1 rfl nb.n_range (de_len rfl nb.n_len (da_cons (de_var 3) da_nil))) (blkOk_by (by show blkC N_law_beat (defScope s_law_beat) _ _ = true; decide +kernel)) (fun _ _ _ _ _ => pgN 6 nd) (fun _ _ _ _ _ => (dts_one (dt_isnot (de_ix (de_var 5) (de_var 6)) de_non))) (fun _ _ _ _ _ => (de_var 6)))
    (dss_cons (ds_setLcN 8 [("hand", 6)] (bd_name 6) rfl nd (sw_true rfl rfl rfl (by decide +kernel)) (di_seq (de_var 3)) (blkOk_by (by show blkC N_law_beat (defScope s_law_beat) _ _ = true; decide +kernel)) (fun _ _ _ _ _ => pgN 6 nd) (fun _ _ _ _ _ => dts_nil) (fun _ _ _ _ _ => de_non))
    (dss_cons (ds_for hp rfl (di_seq (de_var 7)) (dg_name 6 nd) (dss_cons (ds_asg (de_slice (de_fn h_law_go (hr.mono (by first | decide | omega)) hgd hE (da_cons (de_var 0) (da_cons (de_var 1) (da_cons (de_var 2) (da_cons (de_var 6) (da_cons (de_var 6) da_nil)))))) (do_some de_int) do_none) (dg_sub (de_var 8) (de_var 6)))
    (dss_one (ds_asg (de_max rfl rfl nb.n_max (da_cons (de_ix (de_var 4) de_int) (da_cons (de_sum rfl rfl nb.n_sum (da_cons (de_lcN [("work", 9)] (bd_name 9) rfl nd (di_seq (de_fn h_law_lives (hr.mono (by first | decide | omega)) hgd hE (da_cons (de_var 0) (da_cons (de_ix (de_var 2) de_int) da_nil)))) (blkOk_by (by show blkC N_law_beat (defScope s_law_beat) _ _ = true; decide +kernel)) (fun _ _ _ _ _ => pgN 9 nd) (fun _ _ _ _ _ => dts_nil) (fun _ _ _ _ _ => (de_ix (de_ix (de_var 0) (de_var 9)) de_int))) da_nil)) da_nil))) (dg_sub (de_var 4) de_int)))))
    (dss_one (ds_ret (de_var 8))))))))
abbrev s_law : Stmt := top 37
theorem sc_law : FnScope N_law ["script"] (defScope s_law) := ⟨rfl, rfl, rfl, by decide +kernel, rfl, by decide +kernel, by decide +kernel⟩
theorem all_mk {l : PySem.W.OpenLaw} {w : World} {K : PySem.W.Frag} {h : Heap} {mg : Str → Option Value} {fa : Addr} {f1 f2 f3 f4 f5 f6 f7 f8 f9 f10 f11 f12 f13 f14 f15 f16 f17 f18 f19 f20 f21 f22 f23 f24 f25 f26 f27 f28 f29 f30 f31 f32 f33 f34 f35 f36 f37 f38 f39 C_Beaten C_Floor : Addr} (X : K.In h) (G : h.Ns mainGlobals mg) (hfa : mg "law" = some (.ref fa))
    (A_Beaten : PySem.W.nsIn K mainGlobals "Beaten" = some (some (.ref C_Beaten))) (pg_Beaten : PySem.W.plainGet K C_Beaten Str.empty = true) (hd_Beaten : PySem.W.hasDictIn K C_Beaten = true) (po_Beaten : PySem.W.plainOver K C_Beaten = true) (sa_Beaten : PySem.W.findIn K (.ref C_Beaten) "__setattr__" = some (some (.builtin "object.__setattr__"))) (mk_Beaten : PySem.W.makesIn K C_Beaten = true) (kc_Beaten : PySem.W.keepIn K (.ref C_Beaten) = true)
    (A_Floor : PySem.W.nsIn K mainGlobals "Floor" = some (some (.ref C_Floor))) (pg_Floor : PySem.W.plainGet K C_Floor Str.empty = true) (hd_Floor : PySem.W.hasDictIn K C_Floor = true) (po_Floor : PySem.W.plainOver K C_Floor = true) (sa_Floor : PySem.W.findIn K (.ref C_Floor) "__setattr__" = some (some (.builtin "object.__setattr__"))) (mk_Floor : PySem.W.makesIn K C_Floor = true) (kc_Floor : PySem.W.keepIn K (.ref C_Floor) = true)
    (nF_Beaten_ground : PySem.W.findIn K (.ref C_Beaten) "ground" = some none)
    (nF_Beaten_peak : PySem.W.findIn K (.ref C_Beaten) "peak" = some none)
    (nF_Beaten_rest : PySem.W.findIn K (.ref C_Beaten) "rest" = some none)
    (nF_Beaten_sight : PySem.W.findIn K (.ref C_Beaten) "sight" = some none)
    (nF_Beaten_stolen : PySem.W.findIn K (.ref C_Beaten) "stolen" = some none)
    (nF_Floor_aside : PySem.W.findIn K (.ref C_Floor) "aside" = some none)
    (nF_Floor_at : PySem.W.findIn K (.ref C_Floor) "at" = some none)
    (nF_Floor_current : PySem.W.findIn K (.ref C_Floor) "current" = some none)
    (nF_Floor_gone : PySem.W.findIn K (.ref C_Floor) "gone" = some none)
    (nF_Floor_job : PySem.W.findIn K (.ref C_Floor) "job" = some none)
    (nF_Floor_kids : PySem.W.findIn K (.ref C_Floor) "kids" = some none)
    (nF_Floor_piles : PySem.W.findIn K (.ref C_Floor) "piles" = some none)
    (nF_Floor_state : PySem.W.findIn K (.ref C_Floor) "state" = some none)
    (nF_Floor_up : PySem.W.findIn K (.ref C_Floor) "up" = some none)
    {od1 an1 : Option Addr} {sl1 : Array (Option Value)} {oc1 kV1 dc1 pm1 cd1 ct1 : Value}
    (a1 : PySem.W.nsIn K mainGlobals "sent_by" = some (some (.ref f1)))
    (l1 : K.lookup f1 = some ⟨oc1, od1, .func (PySem.W.fnOf "sent_by" "sent_by" (defArgs s_sent_by) (defBody s_sent_by) (defScope s_sent_by) .none kV1 dc1 pm1 an1 cd1 ct1), sl1⟩) (c1 : PySem.W.codeIn K cd1 "sent_by" = true) (k1 : PySem.W.keepIn K (.ref f1) = true)
    {od2 an2 : Option Addr} {sl2 : Array (Option Value)} {oc2 kV2 dc2 pm2 cd2 ct2 : Value}
    (a2 : PySem.W.nsIn K mainGlobals "parents" = some (some (.ref f2)))
    (l2 : K.lookup f2 = some ⟨oc2, od2, .func (PySem.W.fnOf "parents" "parents" (defArgs s_parents) (defBody s_parents) (defScope s_parents) .none kV2 dc2 pm2 an2 cd2 ct2), sl2⟩) (c2 : PySem.W.codeIn K cd2 "parents" = true) (k2 : PySem.W.keepIn K (.ref f2) = true)
    {od3 an3 : Option Addr} {sl3 : Array (Option Value)} {oc3 kV3 dc3 pm3 cd3 ct3 : Value}
    (a3 : PySem.W.findIn K (.ref C_Floor) "__init__" = some (some (.ref f3))) (i3 : PySem.W.isFn K (.ref f3) = true)
    (l3 : K.lookup f3 = some ⟨oc3, od3, .func (PySem.W.fnOf "__init__" "Floor.__init__" (defArgs s_Floor___init__) (defBody s_Floor___init__) (defScope s_Floor___init__) .none kV3 dc3 pm3 an3 cd3 ct3), sl3⟩) (c3 : PySem.W.codeIn K cd3 "Floor.__init__" = true) (k3 : PySem.W.keepIn K (.ref f3) = true)
    {od4 an4 : Option Addr} {sl4 : Array (Option Value)} {oc4 kV4 dc4 pm4 cd4 ct4 : Value}
    (a4 : PySem.W.findIn K (.ref C_Floor) "next_step" = some (some (.ref f4))) (i4 : PySem.W.isFn K (.ref f4) = true)
    (l4 : K.lookup f4 = some ⟨oc4, od4, .func (PySem.W.fnOf "next_step" "Floor.next_step" (defArgs s_Floor_next_step) (defBody s_Floor_next_step) (defScope s_Floor_next_step) .none kV4 dc4 pm4 an4 cd4 ct4), sl4⟩) (c4 : PySem.W.codeIn K cd4 "Floor.next_step" = true) (k4 : PySem.W.keepIn K (.ref f4) = true)
    {od5 an5 : Option Addr} {sl5 : Array (Option Value)} {oc5 kV5 dc5 pm5 cd5 ct5 : Value}
    (a5 : PySem.W.findIn K (.ref C_Floor) "is_held" = some (some (.ref f5))) (i5 : PySem.W.isFn K (.ref f5) = true)
    (l5 : K.lookup f5 = some ⟨oc5, od5, .func (PySem.W.fnOf "is_held" "Floor.is_held" (defArgs s_Floor_is_held) (defBody s_Floor_is_held) (defScope s_Floor_is_held) .none kV5 dc5 pm5 an5 cd5 ct5), sl5⟩) (c5 : PySem.W.codeIn K cd5 "Floor.is_held" = true) (k5 : PySem.W.keepIn K (.ref f5) = true)
    {od6 an6 : Option Addr} {sl6 : Array (Option Value)} {oc6 kV6 dc6 pm6 cd6 ct6 : Value}
    (a6 : PySem.W.findIn K (.ref C_Floor) "is_all_over" = some (some (.ref f6))) (i6 : PySem.W.isFn K (.ref f6) = true)
    (l6 : K.lookup f6 = some ⟨oc6, od6, .func (PySem.W.fnOf "is_all_over" "Floor.is_all_over" (defArgs s_Floor_is_all_over) (defBody s_Floor_is_all_over) (defScope s_Floor_is_all_over) .none kV6 dc6 pm6 an6 cd6 ct6), sl6⟩) (c6 : PySem.W.codeIn K cd6 "Floor.is_all_over" = true) (k6 : PySem.W.keepIn K (.ref f6) = true)
    {od7 an7 : Option Addr} {sl7 : Array (Option Value)} {oc7 kV7 dc7 pm7 cd7 ct7 : Value}
    (a7 : PySem.W.findIn K (.ref C_Floor) "begin" = some (some (.ref f7))) (i7 : PySem.W.isFn K (.ref f7) = true)
    (l7 : K.lookup f7 = some ⟨oc7, od7, .func (PySem.W.fnOf "begin" "Floor.begin" (defArgs s_Floor_begin) (defBody s_Floor_begin) (defScope s_Floor_begin) .none kV7 dc7 pm7 an7 cd7 ct7), sl7⟩) (c7 : PySem.W.codeIn K cd7 "Floor.begin" = true) (k7 : PySem.W.keepIn K (.ref f7) = true)
    {od8 an8 : Option Addr} {sl8 : Array (Option Value)} {oc8 kV8 dc8 pm8 cd8 ct8 : Value}
    (a8 : PySem.W.findIn K (.ref C_Floor) "end" = some (some (.ref f8))) (i8 : PySem.W.isFn K (.ref f8) = true)
    (l8 : K.lookup f8 = some ⟨oc8, od8, .func (PySem.W.fnOf "end" "Floor.end" (defArgs s_Floor_end) (defBody s_Floor_end) (defScope s_Floor_end) .none kV8 dc8 pm8 an8 cd8 ct8), sl8⟩) (c8 : PySem.W.codeIn K cd8 "Floor.end" = true) (k8 : PySem.W.keepIn K (.ref f8) = true)
    {od9 an9 : Option Addr} {sl9 : Array (Option Value)} {oc9 kV9 dc9 pm9 cd9 ct9 : Value}
    (a9 : PySem.W.findIn K (.ref C_Floor) "settle" = some (some (.ref f9))) (i9 : PySem.W.isFn K (.ref f9) = true)
    (l9 : K.lookup f9 = some ⟨oc9, od9, .func (PySem.W.fnOf "settle" "Floor.settle" (defArgs s_Floor_settle) (defBody s_Floor_settle) (defScope s_Floor_settle) .none kV9 dc9 pm9 an9 cd9 ct9), sl9⟩) (c9 : PySem.W.codeIn K cd9 "Floor.settle" = true) (k9 : PySem.W.keepIn K (.ref f9) = true)
    {od10 an10 : Option Addr} {sl10 : Array (Option Value)} {oc10 kV10 dc10 pm10 cd10 ct10 : Value}
    (a10 : PySem.W.findIn K (.ref C_Floor) "do_step" = some (some (.ref f10))) (i10 : PySem.W.isFn K (.ref f10) = true)
    (l10 : K.lookup f10 = some ⟨oc10, od10, .func (PySem.W.fnOf "do_step" "Floor.do_step" (defArgs s_Floor_do_step) (defBody s_Floor_do_step) (defScope s_Floor_do_step) .none kV10 dc10 pm10 an10 cd10 ct10), sl10⟩) (c10 : PySem.W.codeIn K cd10 "Floor.do_step" = true) (k10 : PySem.W.keepIn K (.ref f10) = true)
    {od11 an11 : Option Addr} {sl11 : Array (Option Value)} {oc11 kV11 dc11 pm11 cd11 ct11 : Value}
    (a11 : PySem.W.findIn K (.ref C_Floor) "take_own" = some (some (.ref f11))) (i11 : PySem.W.isFn K (.ref f11) = true)
    (l11 : K.lookup f11 = some ⟨oc11, od11, .func (PySem.W.fnOf "take_own" "Floor.take_own" (defArgs s_Floor_take_own) (defBody s_Floor_take_own) (defScope s_Floor_take_own) .none kV11 dc11 pm11 an11 cd11 ct11), sl11⟩) (c11 : PySem.W.codeIn K cd11 "Floor.take_own" = true) (k11 : PySem.W.keepIn K (.ref f11) = true)
    {od12 an12 : Option Addr} {sl12 : Array (Option Value)} {oc12 kV12 dc12 pm12 cd12 ct12 : Value}
    (a12 : PySem.W.findIn K (.ref C_Floor) "rob" = some (some (.ref f12))) (i12 : PySem.W.isFn K (.ref f12) = true)
    (l12 : K.lookup f12 = some ⟨oc12, od12, .func (PySem.W.fnOf "rob" "Floor.rob" (defArgs s_Floor_rob) (defBody s_Floor_rob) (defScope s_Floor_rob) .none kV12 dc12 pm12 an12 cd12 ct12), sl12⟩) (c12 : PySem.W.codeIn K cd12 "Floor.rob" = true) (k12 : PySem.W.keepIn K (.ref f12) = true)
    {od13 an13 : Option Addr} {sl13 : Array (Option Value)} {oc13 kV13 dc13 pm13 cd13 ct13 : Value}
    (a13 : PySem.W.findIn K (.ref C_Floor) "of_state" = some (some (.ref f13))) (i13 : PySem.W.isFn K (.ref f13) = true)
    (l13 : K.lookup f13 = some ⟨oc13, od13, .func (PySem.W.fnOf "of_state" "Floor.of_state" (defArgs s_Floor_of_state) (defBody s_Floor_of_state) (defScope s_Floor_of_state) .none kV13 dc13 pm13 an13 cd13 ct13), sl13⟩) (c13 : PySem.W.codeIn K cd13 "Floor.of_state" = true) (k13 : PySem.W.keepIn K (.ref f13) = true)
    {od14 an14 : Option Addr} {sl14 : Array (Option Value)} {oc14 kV14 dc14 pm14 cd14 ct14 : Value}
    (a14 : PySem.W.findIn K (.ref C_Floor) "space" = some (some (.ref f14))) (i14 : PySem.W.isFn K (.ref f14) = true)
    (l14 : K.lookup f14 = some ⟨oc14, od14, .func (PySem.W.fnOf "space" "Floor.space" (defArgs s_Floor_space) (defBody s_Floor_space) (defScope s_Floor_space) .none kV14 dc14 pm14 an14 cd14 ct14), sl14⟩) (c14 : PySem.W.codeIn K cd14 "Floor.space" = true) (k14 : PySem.W.keepIn K (.ref f14) = true)
    {od15 an15 : Option Addr} {sl15 : Array (Option Value)} {oc15 kV15 dc15 pm15 cd15 ct15 : Value}
    (a15 : PySem.W.nsIn K mainGlobals "is_order" = some (some (.ref f15)))
    (l15 : K.lookup f15 = some ⟨oc15, od15, .func (PySem.W.fnOf "is_order" "is_order" (defArgs s_is_order) (defBody s_is_order) (defScope s_is_order) .none kV15 dc15 pm15 an15 cd15 ct15), sl15⟩) (c15 : PySem.W.codeIn K cd15 "is_order" = true) (k15 : PySem.W.keepIn K (.ref f15) = true)
    {od16 an16 : Option Addr} {sl16 : Array (Option Value)} {oc16 kV16 dc16 pm16 cd16 ct16 : Value}
    (a16 : PySem.W.findIn K (.ref C_Beaten) "__init__" = some (some (.ref f16))) (i16 : PySem.W.isFn K (.ref f16) = true)
    (l16 : K.lookup f16 = some ⟨oc16, od16, .func (PySem.W.fnOf "__init__" "Beaten.__init__" (defArgs s_Beaten___init__) (defBody s_Beaten___init__) (defScope s_Beaten___init__) .none kV16 dc16 pm16 an16 cd16 ct16), sl16⟩) (c16 : PySem.W.codeIn K cd16 "Beaten.__init__" = true) (k16 : PySem.W.keepIn K (.ref f16) = true)
    {od17 an17 : Option Addr} {sl17 : Array (Option Value)} {oc17 kV17 dc17 pm17 cd17 ct17 : Value}
    (a17 : PySem.W.findIn K (.ref C_Beaten) "look" = some (some (.ref f17))) (i17 : PySem.W.isFn K (.ref f17) = true)
    (l17 : K.lookup f17 = some ⟨oc17, od17, .func (PySem.W.fnOf "look" "Beaten.look" (defArgs s_Beaten_look) (defBody s_Beaten_look) (defScope s_Beaten_look) .none kV17 dc17 pm17 an17 cd17 ct17), sl17⟩) (c17 : PySem.W.codeIn K cd17 "Beaten.look" = true) (k17 : PySem.W.keepIn K (.ref f17) = true)
    {od18 an18 : Option Addr} {sl18 : Array (Option Value)} {oc18 kV18 dc18 pm18 cd18 ct18 : Value}
    (a18 : PySem.W.findIn K (.ref C_Beaten) "beat" = some (some (.ref f18))) (i18 : PySem.W.isFn K (.ref f18) = true)
    (l18 : K.lookup f18 = some ⟨oc18, od18, .func (PySem.W.fnOf "beat" "Beaten.beat" (defArgs s_Beaten_beat) (defBody s_Beaten_beat) (defScope s_Beaten_beat) .none kV18 dc18 pm18 an18 cd18 ct18), sl18⟩) (c18 : PySem.W.codeIn K cd18 "Beaten.beat" = true) (k18 : PySem.W.keepIn K (.ref f18) = true)
    {od19 an19 : Option Addr} {sl19 : Array (Option Value)} {oc19 kV19 dc19 pm19 cd19 ct19 : Value}
    (a19 : PySem.W.nsIn K mainGlobals "all_beats" = some (some (.ref f19)))
    (l19 : K.lookup f19 = some ⟨oc19, od19, .func (PySem.W.fnOf "all_beats" "all_beats" (defArgs s_all_beats) (defBody s_all_beats) (defScope s_all_beats) .none kV19 dc19 pm19 an19 cd19 ct19), sl19⟩) (c19 : PySem.W.codeIn K cd19 "all_beats" = true) (k19 : PySem.W.keepIn K (.ref f19) = true)
    {od20 an20 : Option Addr} {sl20 : Array (Option Value)} {oc20 kV20 dc20 pm20 cd20 ct20 : Value}
    (a20 : PySem.W.nsIn K mainGlobals "beaten" = some (some (.ref f20)))
    (l20 : K.lookup f20 = some ⟨oc20, od20, .func (PySem.W.fnOf "beaten" "beaten" (defArgs s_beaten) (defBody s_beaten) (defScope s_beaten) .none kV20 dc20 pm20 an20 cd20 ct20), sl20⟩) (c20 : PySem.W.codeIn K cd20 "beaten" = true) (k20 : PySem.W.keepIn K (.ref f20) = true)
    {od21 an21 : Option Addr} {sl21 : Array (Option Value)} {oc21 kV21 dc21 pm21 cd21 ct21 : Value}
    (a21 : PySem.W.nsIn K mainGlobals "measured" = some (some (.ref f21)))
    (l21 : K.lookup f21 = some ⟨oc21, od21, .func (PySem.W.fnOf "measured" "measured" (defArgs s_measured) (defBody s_measured) (defScope s_measured) .none kV21 dc21 pm21 an21 cd21 ct21), sl21⟩) (c21 : PySem.W.codeIn K cd21 "measured" = true) (k21 : PySem.W.keepIn K (.ref f21) = true)
    {od22 an22 : Option Addr} {sl22 : Array (Option Value)} {oc22 kV22 dc22 pm22 cd22 ct22 : Value}
    (a22 : PySem.W.nsIn K mainGlobals "_law_feed" = some (some (.ref f22)))
    (l22 : K.lookup f22 = some ⟨oc22, od22, .func (PySem.W.fnOf "_law_feed" "_law_feed" (defArgs s_law_feed) (defBody s_law_feed) (defScope s_law_feed) .none kV22 dc22 pm22 an22 cd22 ct22), sl22⟩) (c22 : PySem.W.codeIn K cd22 "_law_feed" = true) (k22 : PySem.W.keepIn K (.ref f22) = true)
    {od23 an23 : Option Addr} {sl23 : Array (Option Value)} {oc23 kV23 dc23 pm23 cd23 ct23 : Value}
    (a23 : PySem.W.nsIn K mainGlobals "_law_take" = some (some (.ref f23)))
    (l23 : K.lookup f23 = some ⟨oc23, od23, .func (PySem.W.fnOf "_law_take" "_law_take" (defArgs s_law_take) (defBody s_law_take) (defScope s_law_take) .none kV23 dc23 pm23 an23 cd23 ct23), sl23⟩) (c23 : PySem.W.codeIn K cd23 "_law_take" = true) (k23 : PySem.W.keepIn K (.ref f23) = true)
    {od24 an24 : Option Addr} {sl24 : Array (Option Value)} {oc24 kV24 dc24 pm24 cd24 ct24 : Value}
    (a24 : PySem.W.nsIn K mainGlobals "_law_pick" = some (some (.ref f24)))
    (l24 : K.lookup f24 = some ⟨oc24, od24, .func (PySem.W.fnOf "_law_pick" "_law_pick" (defArgs s_law_pick) (defBody s_law_pick) (defScope s_law_pick) .none kV24 dc24 pm24 an24 cd24 ct24), sl24⟩) (c24 : PySem.W.codeIn K cd24 "_law_pick" = true) (k24 : PySem.W.keepIn K (.ref f24) = true)
    {od25 an25 : Option Addr} {sl25 : Array (Option Value)} {oc25 kV25 dc25 pm25 cd25 ct25 : Value}
    (a25 : PySem.W.nsIn K mainGlobals "_law_steps" = some (some (.ref f25)))
    (l25 : K.lookup f25 = some ⟨oc25, od25, .func (PySem.W.fnOf "_law_steps" "_law_steps" (defArgs s_law_steps) (defBody s_law_steps) (defScope s_law_steps) .none kV25 dc25 pm25 an25 cd25 ct25), sl25⟩) (c25 : PySem.W.codeIn K cd25 "_law_steps" = true) (k25 : PySem.W.keepIn K (.ref f25) = true)
    {od26 an26 : Option Addr} {sl26 : Array (Option Value)} {oc26 kV26 dc26 pm26 cd26 ct26 : Value}
    (a26 : PySem.W.nsIn K mainGlobals "_law_job" = some (some (.ref f26)))
    (l26 : K.lookup f26 = some ⟨oc26, od26, .func (PySem.W.fnOf "_law_job" "_law_job" (defArgs s_law_job) (defBody s_law_job) (defScope s_law_job) .none kV26 dc26 pm26 an26 cd26 ct26), sl26⟩) (c26 : PySem.W.codeIn K cd26 "_law_job" = true) (k26 : PySem.W.keepIn K (.ref f26) = true)
    {od27 an27 : Option Addr} {sl27 : Array (Option Value)} {oc27 kV27 dc27 pm27 cd27 ct27 : Value}
    (a27 : PySem.W.nsIn K mainGlobals "_law_parents" = some (some (.ref f27)))
    (l27 : K.lookup f27 = some ⟨oc27, od27, .func (PySem.W.fnOf "_law_parents" "_law_parents" (defArgs s_law_parents) (defBody s_law_parents) (defScope s_law_parents) .none kV27 dc27 pm27 an27 cd27 ct27), sl27⟩) (c27 : PySem.W.codeIn K cd27 "_law_parents" = true) (k27 : PySem.W.keepIn K (.ref f27) = true)
    {od28 an28 : Option Addr} {sl28 : Array (Option Value)} {oc28 kV28 dc28 pm28 cd28 ct28 : Value}
    (a28 : PySem.W.nsIn K mainGlobals "_law_overs" = some (some (.ref f28)))
    (l28 : K.lookup f28 = some ⟨oc28, od28, .func (PySem.W.fnOf "_law_overs" "_law_overs" (defArgs s_law_overs) (defBody s_law_overs) (defScope s_law_overs) .none kV28 dc28 pm28 an28 cd28 ct28), sl28⟩) (c28 : PySem.W.codeIn K cd28 "_law_overs" = true) (k28 : PySem.W.keepIn K (.ref f28) = true)
    {od29 an29 : Option Addr} {sl29 : Array (Option Value)} {oc29 kV29 dc29 pm29 cd29 ct29 : Value}
    (a29 : PySem.W.nsIn K mainGlobals "_law_sent" = some (some (.ref f29)))
    (l29 : K.lookup f29 = some ⟨oc29, od29, .func (PySem.W.fnOf "_law_sent" "_law_sent" (defArgs s_law_sent) (defBody s_law_sent) (defScope s_law_sent) .none kV29 dc29 pm29 an29 cd29 ct29), sl29⟩) (c29 : PySem.W.codeIn K cd29 "_law_sent" = true) (k29 : PySem.W.keepIn K (.ref f29) = true)
    {od30 an30 : Option Addr} {sl30 : Array (Option Value)} {oc30 kV30 dc30 pm30 cd30 ct30 : Value}
    (a30 : PySem.W.nsIn K mainGlobals "_law_lives" = some (some (.ref f30)))
    (l30 : K.lookup f30 = some ⟨oc30, od30, .func (PySem.W.fnOf "_law_lives" "_law_lives" (defArgs s_law_lives) (defBody s_law_lives) (defScope s_law_lives) .none kV30 dc30 pm30 an30 cd30 ct30), sl30⟩) (c30 : PySem.W.codeIn K cd30 "_law_lives" = true) (k30 : PySem.W.keepIn K (.ref f30) = true)
    {od31 an31 : Option Addr} {sl31 : Array (Option Value)} {oc31 kV31 dc31 pm31 cd31 ct31 : Value}
    (a31 : PySem.W.nsIn K mainGlobals "_law_is_held" = some (some (.ref f31)))
    (l31 : K.lookup f31 = some ⟨oc31, od31, .func (PySem.W.fnOf "_law_is_held" "_law_is_held" (defArgs s_law_is_held) (defBody s_law_is_held) (defScope s_law_is_held) .none kV31 dc31 pm31 an31 cd31 ct31), sl31⟩) (c31 : PySem.W.codeIn K cd31 "_law_is_held" = true) (k31 : PySem.W.keepIn K (.ref f31) = true)
    {od32 an32 : Option Addr} {sl32 : Array (Option Value)} {oc32 kV32 dc32 pm32 cd32 ct32 : Value}
    (a32 : PySem.W.nsIn K mainGlobals "_law_is_kept_off" = some (some (.ref f32)))
    (l32 : K.lookup f32 = some ⟨oc32, od32, .func (PySem.W.fnOf "_law_is_kept_off" "_law_is_kept_off" (defArgs s_law_is_kept_off) (defBody s_law_is_kept_off) (defScope s_law_is_kept_off) .none kV32 dc32 pm32 an32 cd32 ct32), sl32⟩) (c32 : PySem.W.codeIn K cd32 "_law_is_kept_off" = true) (k32 : PySem.W.keepIn K (.ref f32) = true)
    {od33 an33 : Option Addr} {sl33 : Array (Option Value)} {oc33 kV33 dc33 pm33 cd33 ct33 : Value}
    (a33 : PySem.W.nsIn K mainGlobals "_law_settle" = some (some (.ref f33)))
    (l33 : K.lookup f33 = some ⟨oc33, od33, .func (PySem.W.fnOf "_law_settle" "_law_settle" (defArgs s_law_settle) (defBody s_law_settle) (defScope s_law_settle) .none kV33 dc33 pm33 an33 cd33 ct33), sl33⟩) (c33 : PySem.W.codeIn K cd33 "_law_settle" = true) (k33 : PySem.W.keepIn K (.ref f33) = true)
    {od34 an34 : Option Addr} {sl34 : Array (Option Value)} {oc34 kV34 dc34 pm34 cd34 ct34 : Value}
    (a34 : PySem.W.nsIn K mainGlobals "_law_go" = some (some (.ref f34)))
    (l34 : K.lookup f34 = some ⟨oc34, od34, .func (PySem.W.fnOf "_law_go" "_law_go" (defArgs s_law_go) (defBody s_law_go) (defScope s_law_go) .none kV34 dc34 pm34 an34 cd34 ct34), sl34⟩) (c34 : PySem.W.codeIn K cd34 "_law_go" = true) (k34 : PySem.W.keepIn K (.ref f34) = true)
    {od35 an35 : Option Addr} {sl35 : Array (Option Value)} {oc35 kV35 dc35 pm35 cd35 ct35 : Value}
    (a35 : PySem.W.nsIn K mainGlobals "_law_floor" = some (some (.ref f35)))
    (l35 : K.lookup f35 = some ⟨oc35, od35, .func (PySem.W.fnOf "_law_floor" "_law_floor" (defArgs s_law_floor) (defBody s_law_floor) (defScope s_law_floor) .none kV35 dc35 pm35 an35 cd35 ct35), sl35⟩) (c35 : PySem.W.codeIn K cd35 "_law_floor" = true) (k35 : PySem.W.keepIn K (.ref f35) = true)
    {od36 an36 : Option Addr} {sl36 : Array (Option Value)} {oc36 kV36 dc36 pm36 cd36 ct36 : Value}
    (a36 : PySem.W.nsIn K mainGlobals "_law_order" = some (some (.ref f36)))
    (l36 : K.lookup f36 = some ⟨oc36, od36, .func (PySem.W.fnOf "_law_order" "_law_order" (defArgs s_law_order) (defBody s_law_order) (defScope s_law_order) .none kV36 dc36 pm36 an36 cd36 ct36), sl36⟩) (c36 : PySem.W.codeIn K cd36 "_law_order" = true) (k36 : PySem.W.keepIn K (.ref f36) = true)
    {od37 an37 : Option Addr} {sl37 : Array (Option Value)} {oc37 kV37 dc37 pm37 cd37 ct37 : Value}
    (a37 : PySem.W.nsIn K mainGlobals "_law_look" = some (some (.ref f37)))
    (l37 : K.lookup f37 = some ⟨oc37, od37, .func (PySem.W.fnOf "_law_look" "_law_look" (defArgs s_law_look) (defBody s_law_look) (defScope s_law_look) .none kV37 dc37 pm37 an37 cd37 ct37), sl37⟩) (c37 : PySem.W.codeIn K cd37 "_law_look" = true) (k37 : PySem.W.keepIn K (.ref f37) = true)
    {od38 an38 : Option Addr} {sl38 : Array (Option Value)} {oc38 kV38 dc38 pm38 cd38 ct38 : Value}
    (a38 : PySem.W.nsIn K mainGlobals "_law_beat" = some (some (.ref f38)))
    (l38 : K.lookup f38 = some ⟨oc38, od38, .func (PySem.W.fnOf "_law_beat" "_law_beat" (defArgs s_law_beat) (defBody s_law_beat) (defScope s_law_beat) .none kV38 dc38 pm38 an38 cd38 ct38), sl38⟩) (c38 : PySem.W.codeIn K cd38 "_law_beat" = true) (k38 : PySem.W.keepIn K (.ref f38) = true)
    {od39 an39 : Option Addr} {sl39 : Array (Option Value)} {oc39 kV39 dc39 pm39 cd39 ct39 : Value}
    (a39 : PySem.W.nsIn K mainGlobals "law" = some (some (.ref f39)))
    (l39 : K.lookup f39 = some ⟨oc39, od39, .func (PySem.W.fnOf "law" "law" (defArgs s_law) (defBody s_law) (defScope s_law) .none kV39 dc39 pm39 an39 cd39 ct39), sl39⟩) (c39 : PySem.W.codeIn K cd39 "law" = true) (k39 : PySem.W.keepIn K (.ref f39) = true)
    (z_all : PySem.W.nsIn K mainGlobals "all" = some none)
    (z_bool : PySem.W.nsIn K mainGlobals "bool" = some none)
    (z_int : PySem.W.nsIn K mainGlobals "int" = some none)
    (z_isinstance : PySem.W.nsIn K mainGlobals "isinstance" = some none)
    (z_len : PySem.W.nsIn K mainGlobals "len" = some none)
    (z_list : PySem.W.nsIn K mainGlobals "list" = some none)
    (z_max : PySem.W.nsIn K mainGlobals "max" = some none)
    (z_min : PySem.W.nsIn K mainGlobals "min" = some none)
    (z_range : PySem.W.nsIn K mainGlobals "range" = some none)
    (z_repr : PySem.W.nsIn K mainGlobals "repr" = some none)
    (z_sorted : PySem.W.nsIn K mainGlobals "sorted" = some none)
    (z_sum : PySem.W.nsIn K mainGlobals "sum" = some none)
    (z_tuple : PySem.W.nsIn K mainGlobals "tuple" = some none)
    {t_LIVES : Tok} (zc_LIVES : PySem.W.nsIn K mainGlobals "LIVES" = some (some (.str "lives" t_LIVES)))
    {t_OVER : Tok} (zc_OVER : PySem.W.nsIn K mainGlobals "OVER" = some (some (.str "over" t_OVER)))
    {t_UNBEGUN : Tok} (zc_UNBEGUN : PySem.W.nsIn K mainGlobals "UNBEGUN" = some (some (.str "unbegun" t_UNBEGUN))) :
    ∃ fd : FuncData, (∀ (s : Shared) (v : Value), BindsTo s fd ⟨[v], []⟩ [("script", v)]) ∧ ∀ base : Heap, K.In base → base.Ns mainGlobals mg → FK l.prog w K mg base 9 fa fd ["script"] (spOf K (spLaw 63)) := by
  have nb : Nb mg := ⟨PySem.W.mg_none_of X G z_all, PySem.W.mg_none_of X G z_bool, PySem.W.mg_none_of X G z_int, PySem.W.mg_none_of X G z_isinstance, PySem.W.mg_none_of X G z_len, PySem.W.mg_none_of X G z_list, PySem.W.mg_none_of X G z_max, PySem.W.mg_none_of X G z_min, PySem.W.mg_none_of X G z_range, PySem.W.mg_none_of X G z_repr, PySem.W.mg_none_of X G z_sorted, PySem.W.mg_none_of X G z_sum, PySem.W.mg_none_of X G z_tuple⟩
  have nc : Nc mg := ⟨⟨_, PySem.W.mg_of X G zc_LIVES⟩, ⟨_, PySem.W.mg_of X G zc_OVER⟩, ⟨_, PySem.W.mg_of X G zc_UNBEGUN⟩⟩
  have T_Beaten : Cls K C_Beaten := ⟨pg_Beaten, hd_Beaten, po_Beaten, sa_Beaten⟩
  have T_Floor : Cls K C_Floor := ⟨pg_Floor, hd_Floor, po_Floor, sa_Floor⟩
  have fd : Fd K := ⟨⟨_, A_Beaten, T_Beaten, nF_Beaten_ground⟩, ⟨_, A_Beaten, T_Beaten, nF_Beaten_peak⟩, ⟨_, A_Beaten, T_Beaten, nF_Beaten_rest⟩, ⟨_, A_Beaten, T_Beaten, nF_Beaten_sight⟩, ⟨_, A_Beaten, T_Beaten, nF_Beaten_stolen⟩, ⟨_, A_Floor, T_Floor, nF_Floor_aside⟩, ⟨_, A_Floor, T_Floor, nF_Floor_at⟩, ⟨_, A_Floor, T_Floor, nF_Floor_current⟩, ⟨_, A_Floor, T_Floor, nF_Floor_gone⟩, ⟨_, A_Floor, T_Floor, nF_Floor_job⟩, ⟨_, A_Floor, T_Floor, nF_Floor_kids⟩, ⟨_, A_Floor, T_Floor, nF_Floor_piles⟩, ⟨_, A_Floor, T_Floor, nF_Floor_state⟩, ⟨_, A_Floor, T_Floor, nF_Floor_up⟩⟩
  have F1 : Fun K "sent_by" "sent_by" s_sent_by f1 _ := fun_mk (st := s_sent_by) l1 c1 k1
  have b1 := F1.binds (ps := ["work"]) fun _ _ _ _ _ _ us hl => match us, hl with | [_], _ => rfl
  have D1 : DefAt K mg "sent_by" s_sent_by ["work"] := ⟨_, _, F1, PySem.W.mg_of X G a1, b1⟩
  have F2 : Fun K "parents" "parents" s_parents f2 _ := fun_mk (st := s_parents) l2 c2 k2
  have b2 := F2.binds (ps := ["job"]) fun _ _ _ _ _ _ us hl => match us, hl with | [_], _ => rfl
  have D2 : DefAt K mg "parents" s_parents ["job"] := ⟨_, _, F2, PySem.W.mg_of X G a2, b2⟩
  have F3 : Fun K "__init__" "Floor.__init__" s_Floor___init__ f3 _ := fun_mk (st := s_Floor___init__) l3 c3 k3
  have b3 := F3.binds (ps := ["self", "job", "hands"]) fun _ _ _ _ _ _ us hl => match us, hl with | [_, _, _], _ => rfl
  have D3 : MakeAt K mg "Floor" "Floor.__init__" s_Floor___init__ ["self", "job", "hands"] := ⟨_, _, _, A_Floor, PySem.W.mg_of X G A_Floor, ⟨mk_Floor, a3, i3, kc_Floor⟩, F3, b3⟩
  have F4 : Fun K "next_step" "Floor.next_step" s_Floor_next_step f4 _ := fun_mk (st := s_Floor_next_step) l4 c4 k4
  have b4 := F4.binds (ps := ["self", "work"]) fun _ _ _ _ _ _ us hl => match us, hl with | [_, _], _ => rfl
  have D4 : MethAt K "Floor" "next_step" "Floor.next_step" s_Floor_next_step ["self", "work"] := ⟨_, _, _, A_Floor, T_Floor, ⟨a4, i4, k4⟩, F4, b4⟩
  have F5 : Fun K "is_held" "Floor.is_held" s_Floor_is_held f5 _ := fun_mk (st := s_Floor_is_held) l5 c5 k5
  have b5 := F5.binds (ps := ["self", "work"]) fun _ _ _ _ _ _ us hl => match us, hl with | [_, _], _ => rfl
  have D5 : MethAt K "Floor" "is_held" "Floor.is_held" s_Floor_is_held ["self", "work"] := ⟨_, _, _, A_Floor, T_Floor, ⟨a5, i5, k5⟩, F5, b5⟩
  have F6 : Fun K "is_all_over" "Floor.is_all_over" s_Floor_is_all_over f6 _ := fun_mk (st := s_Floor_is_all_over) l6 c6 k6
  have b6 := F6.binds (ps := ["self"]) fun _ _ _ _ _ _ us hl => match us, hl with | [_], _ => rfl
  have D6 : MethAt K "Floor" "is_all_over" "Floor.is_all_over" s_Floor_is_all_over ["self"] := ⟨_, _, _, A_Floor, T_Floor, ⟨a6, i6, k6⟩, F6, b6⟩
  have F7 : Fun K "begin" "Floor.begin" s_Floor_begin f7 _ := fun_mk (st := s_Floor_begin) l7 c7 k7
  have b7 := F7.binds (ps := ["self", "hand", "work", "child"]) fun _ _ _ _ _ _ us hl => match us, hl with | [_, _, _, _], _ => rfl
  have D7 : MethAt K "Floor" "begin" "Floor.begin" s_Floor_begin ["self", "hand", "work", "child"] := ⟨_, _, _, A_Floor, T_Floor, ⟨a7, i7, k7⟩, F7, b7⟩
  have F8 : Fun K "end" "Floor.end" s_Floor_end f8 _ := fun_mk (st := s_Floor_end) l8 c8 k8
  have b8 := F8.binds (ps := ["self", "work"]) fun _ _ _ _ _ _ us hl => match us, hl with | [_, _], _ => rfl
  have D8 : MethAt K "Floor" "end" "Floor.end" s_Floor_end ["self", "work"] := ⟨_, _, _, A_Floor, T_Floor, ⟨a8, i8, k8⟩, F8, b8⟩
  have F9 : Fun K "settle" "Floor.settle" s_Floor_settle f9 _ := fun_mk (st := s_Floor_settle) l9 c9 k9
  have b9 := F9.binds (ps := ["self", "hand"]) fun _ _ _ _ _ _ us hl => match us, hl with | [_, _], _ => rfl
  have D9 : MethAt K "Floor" "settle" "Floor.settle" s_Floor_settle ["self", "hand"] := ⟨_, _, _, A_Floor, T_Floor, ⟨a9, i9, k9⟩, F9, b9⟩
  have F10 : Fun K "do_step" "Floor.do_step" s_Floor_do_step f10 _ := fun_mk (st := s_Floor_do_step) l10 c10 k10
  have b10 := F10.binds (ps := ["self", "hand"]) fun _ _ _ _ _ _ us hl => match us, hl with | [_, _], _ => rfl
  have D10 : MethAt K "Floor" "do_step" "Floor.do_step" s_Floor_do_step ["self", "hand"] := ⟨_, _, _, A_Floor, T_Floor, ⟨a10, i10, k10⟩, F10, b10⟩
  have F11 : Fun K "take_own" "Floor.take_own" s_Floor_take_own f11 _ := fun_mk (st := s_Floor_take_own) l11 c11 k11
  have b11 := F11.binds (ps := ["self", "hand"]) fun _ _ _ _ _ _ us hl => match us, hl with | [_, _], _ => rfl
  have D11 : MethAt K "Floor" "take_own" "Floor.take_own" s_Floor_take_own ["self", "hand"] := ⟨_, _, _, A_Floor, T_Floor, ⟨a11, i11, k11⟩, F11, b11⟩
  have F12 : Fun K "rob" "Floor.rob" s_Floor_rob f12 _ := fun_mk (st := s_Floor_rob) l12 c12 k12
  have b12 := F12.binds (ps := ["self", "hand", "other"]) fun _ _ _ _ _ _ us hl => match us, hl with | [_, _, _], _ => rfl
  have D12 : MethAt K "Floor" "rob" "Floor.rob" s_Floor_rob ["self", "hand", "other"] := ⟨_, _, _, A_Floor, T_Floor, ⟨a12, i12, k12⟩, F12, b12⟩
  have F13 : Fun K "of_state" "Floor.of_state" s_Floor_of_state f13 _ := fun_mk (st := s_Floor_of_state) l13 c13 k13
  have b13 := F13.binds (ps := ["self", "state"]) fun _ _ _ _ _ _ us hl => match us, hl with | [_, _], _ => rfl
  have D13 : MethAt K "Floor" "of_state" "Floor.of_state" s_Floor_of_state ["self", "state"] := ⟨_, _, _, A_Floor, T_Floor, ⟨a13, i13, k13⟩, F13, b13⟩
  have F14 : Fun K "space" "Floor.space" s_Floor_space f14 _ := fun_mk (st := s_Floor_space) l14 c14 k14
  have b14 := F14.binds (ps := ["self"]) fun _ _ _ _ _ _ us hl => match us, hl with | [_], _ => rfl
  have D14 : MethAt K "Floor" "space" "Floor.space" s_Floor_space ["self"] := ⟨_, _, _, A_Floor, T_Floor, ⟨a14, i14, k14⟩, F14, b14⟩
  have F15 : Fun K "is_order" "is_order" s_is_order f15 _ := fun_mk (st := s_is_order) l15 c15 k15
  have b15 := F15.binds (ps := ["thing", "hands"]) fun _ _ _ _ _ _ us hl => match us, hl with | [_, _], _ => rfl
  have D15 : DefAt K mg "is_order" s_is_order ["thing", "hands"] := ⟨_, _, F15, PySem.W.mg_of X G a15, b15⟩
  have F16 : Fun K "__init__" "Beaten.__init__" s_Beaten___init__ f16 _ := fun_mk (st := s_Beaten___init__) l16 c16 k16
  have b16 := F16.binds (ps := ["self", "job", "hands", "order"]) fun _ _ _ _ _ _ us hl => match us, hl with | [_, _, _, _], _ => rfl
  have D16 : MakeAt K mg "Beaten" "Beaten.__init__" s_Beaten___init__ ["self", "job", "hands", "order"] := ⟨_, _, _, A_Beaten, PySem.W.mg_of X G A_Beaten, ⟨mk_Beaten, a16, i16, kc_Beaten⟩, F16, b16⟩
  have F17 : Fun K "look" "Beaten.look" s_Beaten_look f17 _ := fun_mk (st := s_Beaten_look) l17 c17 k17
  have b17 := F17.binds (ps := ["self", "hand"]) fun _ _ _ _ _ _ us hl => match us, hl with | [_, _], _ => rfl
  have D17 : MethAt K "Beaten" "look" "Beaten.look" s_Beaten_look ["self", "hand"] := ⟨_, _, _, A_Beaten, T_Beaten, ⟨a17, i17, k17⟩, F17, b17⟩
  have F18 : Fun K "beat" "Beaten.beat" s_Beaten_beat f18 _ := fun_mk (st := s_Beaten_beat) l18 c18 k18
  have b18 := F18.binds (ps := ["self"]) fun _ _ _ _ _ _ us hl => match us, hl with | [_], _ => rfl
  have D18 : MethAt K "Beaten" "beat" "Beaten.beat" s_Beaten_beat ["self"] := ⟨_, _, _, A_Beaten, T_Beaten, ⟨a18, i18, k18⟩, F18, b18⟩
  have F19 : Fun K "all_beats" "all_beats" s_all_beats f19 _ := fun_mk (st := s_all_beats) l19 c19 k19
  have b19 := F19.binds (ps := ["job", "hands", "order"]) fun _ _ _ _ _ _ us hl => match us, hl with | [_, _, _], _ => rfl
  have D19 : DefAt K mg "all_beats" s_all_beats ["job", "hands", "order"] := ⟨_, _, F19, PySem.W.mg_of X G a19, b19⟩
  have F20 : Fun K "beaten" "beaten" s_beaten f20 _ := fun_mk (st := s_beaten) l20 c20 k20
  have b20 := F20.binds (ps := ["job", "hands", "order"]) fun _ _ _ _ _ _ us hl => match us, hl with | [_, _, _], _ => rfl
  have D20 : DefAt K mg "beaten" s_beaten ["job", "hands", "order"] := ⟨_, _, F20, PySem.W.mg_of X G a20, b20⟩
  have F21 : Fun K "measured" "measured" s_measured f21 _ := fun_mk (st := s_measured) l21 c21 k21
  have b21 := F21.binds (ps := ["job", "hands", "order"]) fun _ _ _ _ _ _ us hl => match us, hl with | [_, _, _], _ => rfl
  have D21 : DefAt K mg "measured" s_measured ["job", "hands", "order"] := ⟨_, _, F21, PySem.W.mg_of X G a21, b21⟩
  have F22 : Fun K "_law_feed" "_law_feed" s_law_feed f22 _ := fun_mk (st := s_law_feed) l22 c22 k22
  have b22 := F22.binds (ps := ["script", "k"]) fun _ _ _ _ _ _ us hl => match us, hl with | [_, _], _ => rfl
  have D22 : DefAt K mg "_law_feed" s_law_feed ["script", "k"] := ⟨_, _, F22, PySem.W.mg_of X G a22, b22⟩
  have F23 : Fun K "_law_take" "_law_take" s_law_take f23 _ := fun_mk (st := s_law_take) l23 c23 k23
  have b23 := F23.binds (ps := ["feed", "many"]) fun _ _ _ _ _ _ us hl => match us, hl with | [_, _], _ => rfl
  have D23 : DefAt K mg "_law_take" s_law_take ["feed", "many"] := ⟨_, _, F23, PySem.W.mg_of X G a23, b23⟩
  have F24 : Fun K "_law_pick" "_law_pick" s_law_pick f24 _ := fun_mk (st := s_law_pick) l24 c24 k24
  have b24 := F24.binds (ps := ["feed", "some"]) fun _ _ _ _ _ _ us hl => match us, hl with | [_, _], _ => rfl
  have D24 : DefAt K mg "_law_pick" s_law_pick ["feed", "some"] := ⟨_, _, F24, PySem.W.mg_of X G a24, b24⟩
  have F25 : Fun K "_law_steps" "_law_steps" s_law_steps f25 _ := fun_mk (st := s_law_steps) l25 c25 k25
  have b25 := F25.binds (ps := ["feed", "children"]) fun _ _ _ _ _ _ us hl => match us, hl with | [_, _], _ => rfl
  have D25 : DefAt K mg "_law_steps" s_law_steps ["feed", "children"] := ⟨_, _, F25, PySem.W.mg_of X G a25, b25⟩
  have F26 : Fun K "_law_job" "_law_job" s_law_job f26 _ := fun_mk (st := s_law_job) l26 c26 k26
  have b26 := F26.binds (ps := ["feed", "most"]) fun _ _ _ _ _ _ us hl => match us, hl with | [_, _], _ => rfl
  have D26 : DefAt K mg "_law_job" s_law_job ["feed", "most"] := ⟨_, _, F26, PySem.W.mg_of X G a26, b26⟩
  have F27 : Fun K "_law_parents" "_law_parents" s_law_parents f27 _ := fun_mk (st := s_law_parents) l27 c27 k27
  have b27 := F27.binds (ps := ["job"]) fun _ _ _ _ _ _ us hl => match us, hl with | [_], _ => rfl
  have D27 : DefAt K mg "_law_parents" s_law_parents ["job"] := ⟨_, _, F27, PySem.W.mg_of X G a27, b27⟩
  have F28 : Fun K "_law_overs" "_law_overs" s_law_overs f28 _ := fun_mk (st := s_law_overs) l28 c28 k28
  have b28 := F28.binds (ps := ["job", "at"]) fun _ _ _ _ _ _ us hl => match us, hl with | [_, _], _ => rfl
  have D28 : DefAt K mg "_law_overs" s_law_overs ["job", "at"] := ⟨_, _, F28, PySem.W.mg_of X G a28, b28⟩
  have F29 : Fun K "_law_sent" "_law_sent" s_law_sent f29 _ := fun_mk (st := s_law_sent) l29 c29 k29
  have b29 := F29.binds (ps := ["job", "at", "work"]) fun _ _ _ _ _ _ us hl => match us, hl with | [_, _, _], _ => rfl
  have D29 : DefAt K mg "_law_sent" s_law_sent ["job", "at", "work"] := ⟨_, _, F29, PySem.W.mg_of X G a29, b29⟩
  have F30 : Fun K "_law_lives" "_law_lives" s_law_lives f30 _ := fun_mk (st := s_law_lives) l30 c30 k30
  have b30 := F30.binds (ps := ["job", "at"]) fun _ _ _ _ _ _ us hl => match us, hl with | [_, _], _ => rfl
  have D30 : DefAt K mg "_law_lives" s_law_lives ["job", "at"] := ⟨_, _, F30, PySem.W.mg_of X G a30, b30⟩
  have F31 : Fun K "_law_is_held" "_law_is_held" s_law_is_held f31 _ := fun_mk (st := s_law_is_held) l31 c31 k31
  have b31 := F31.binds (ps := ["job", "at", "work"]) fun _ _ _ _ _ _ us hl => match us, hl with | [_, _, _], _ => rfl
  have D31 : DefAt K mg "_law_is_held" s_law_is_held ["job", "at", "work"] := ⟨_, _, F31, PySem.W.mg_of X G a31, b31⟩
  have F32 : Fun K "_law_is_kept_off" "_law_is_kept_off" s_law_is_kept_off f32 _ := fun_mk (st := s_law_is_kept_off) l32 c32 k32
  have b32 := F32.binds (ps := ["job", "at", "work"]) fun _ _ _ _ _ _ us hl => match us, hl with | [_, _, _], _ => rfl
  have D32 : DefAt K mg "_law_is_kept_off" s_law_is_kept_off ["job", "at", "work"] := ⟨_, _, F32, PySem.W.mg_of X G a32, b32⟩
  have F33 : Fun K "_law_settle" "_law_settle" s_law_settle f33 _ := fun_mk (st := s_law_settle) l33 c33 k33
  have b33 := F33.binds (ps := ["job", "up", "state", "hand"]) fun _ _ _ _ _ _ us hl => match us, hl with | [_, _, _, _], _ => rfl
  have D33 : DefAt K mg "_law_settle" s_law_settle ["job", "up", "state", "hand"] := ⟨_, _, F33, PySem.W.mg_of X G a33, b33⟩
  have F34 : Fun K "_law_go" "_law_go" s_law_go f34 _ := fun_mk (st := s_law_go) l34 c34 k34
  have b34 := F34.binds (ps := ["job", "up", "state", "hand", "other"]) fun _ _ _ _ _ _ us hl => match us, hl with | [_, _, _, _, _], _ => rfl
  have D34 : DefAt K mg "_law_go" s_law_go ["job", "up", "state", "hand", "other"] := ⟨_, _, F34, PySem.W.mg_of X G a34, b34⟩
  have F35 : Fun K "_law_floor" "_law_floor" s_law_floor f35 _ := fun_mk (st := s_law_floor) l35 c35 k35
  have b35 := F35.binds (ps := ["job", "hands"]) fun _ _ _ _ _ _ us hl => match us, hl with | [_, _], _ => rfl
  have D35 : DefAt K mg "_law_floor" s_law_floor ["job", "hands"] := ⟨_, _, F35, PySem.W.mg_of X G a35, b35⟩
  have F36 : Fun K "_law_order" "_law_order" s_law_order f36 _ := fun_mk (st := s_law_order) l36 c36 k36
  have b36 := F36.binds (ps := ["feed", "hands"]) fun _ _ _ _ _ _ us hl => match us, hl with | [_, _], _ => rfl
  have D36 : DefAt K mg "_law_order" s_law_order ["feed", "hands"] := ⟨_, _, F36, PySem.W.mg_of X G a36, b36⟩
  have F37 : Fun K "_law_look" "_law_look" s_law_look f37 _ := fun_mk (st := s_law_look) l37 c37 k37
  have b37 := F37.binds (ps := ["state", "order", "hand"]) fun _ _ _ _ _ _ us hl => match us, hl with | [_, _, _], _ => rfl
  have D37 : DefAt K mg "_law_look" s_law_look ["state", "order", "hand"] := ⟨_, _, F37, PySem.W.mg_of X G a37, b37⟩
  have F38 : Fun K "_law_beat" "_law_beat" s_law_beat f38 _ := fun_mk (st := s_law_beat) l38 c38 k38
  have b38 := F38.binds (ps := ["job", "up", "state", "order", "counts"]) fun _ _ _ _ _ _ us hl => match us, hl with | [_, _, _, _, _], _ => rfl
  have D38 : DefAt K mg "_law_beat" s_law_beat ["job", "up", "state", "order", "counts"] := ⟨_, _, F38, PySem.W.mg_of X G a38, b38⟩
  have F39 : Fun K "law" "law" s_law f39 _ := fun_mk (st := s_law) l39 c39 k39
  have b39 := F39.binds (ps := ["script"]) fun _ _ _ _ _ _ us hl => match us, hl with | [_], _ => rfl
  have D39 : DefAt K mg "law" s_law ["script"] := ⟨_, _, F39, PySem.W.mg_of X G a39, b39⟩
  have e := hfa.symm.trans (PySem.W.mg_of X G a39)
  cases e
  refine ⟨PySem.W.fnOf "law" "law" (defArgs s_law) (defBody s_law) (defScope s_law) .none kV39 dc39 pm39 an39 cd39 ct39, fun s v => .of_eq rfl, fun base _ _ => ?_⟩
  have h_sent_by : CallOk l.prog w K mg base 1 "sent_by" C_sent_by := ok_sent_by nb nc fd  D1
  have h_parents : CallOk l.prog w K mg base 2 "parents" C_parents := ok_parents nb nc fd h_sent_by D2
  have h_Floor___init__ : MakeOk l.prog w K mg base 3 "Floor" C_Floor___init__ := ok_Floor___init__ nb nc fd h_parents D3
  have h_Floor_next_step : MethOk l.prog w K mg base 1 "Floor" "next_step" C_Floor_next_step := ok_Floor_next_step nb nc fd  D4
  have h_Floor_is_held : MethOk l.prog w K mg base 2 "Floor" "is_held" C_Floor_is_held := ok_Floor_is_held nb nc fd h_Floor_next_step D5
  have h_Floor_is_all_over : MethOk l.prog w K mg base 1 "Floor" "is_all_over" C_Floor_is_all_over := ok_Floor_is_all_over nb nc fd  D6
  have h_Floor_begin : MethOk l.prog w K mg base 3 "Floor" "begin" C_Floor_begin := ok_Floor_begin nb nc fd h_Floor_is_held D7
  have h_Floor_end : MethOk l.prog w K mg base 1 "Floor" "end" C_Floor_end := ok_Floor_end nb nc fd  D8
  have h_Floor_settle : MethOk l.prog w K mg base 3 "Floor" "settle" C_Floor_settle := ok_Floor_settle nb nc fd h_Floor_is_held h_Floor_next_step h_Floor_end D9
  have h_Floor_do_step : MethOk l.prog w K mg base 4 "Floor" "do_step" C_Floor_do_step := ok_Floor_do_step nb nc fd h_Floor_begin h_Floor_settle D10
  have h_Floor_take_own : MethOk l.prog w K mg base 1 "Floor" "take_own" C_Floor_take_own := ok_Floor_take_own nb nc fd  D11
  have h_Floor_rob : MethOk l.prog w K mg base 1 "Floor" "rob" C_Floor_rob := ok_Floor_rob nb nc fd  D12
  have h_Floor_of_state : MethOk l.prog w K mg base 1 "Floor" "of_state" C_Floor_of_state := ok_Floor_of_state nb nc fd  D13
  have h_Floor_space : MethOk l.prog w K mg base 2 "Floor" "space" C_Floor_space := ok_Floor_space nb nc fd h_Floor_of_state D14
  have h_is_order : CallOk l.prog w K mg base 1 "is_order" C_is_order := ok_is_order nb nc fd  D15
  have h_Beaten___init__ : MakeOk l.prog w K mg base 5 "Beaten" C_Beaten___init__ := ok_Beaten___init__ nb nc fd h_Floor___init__ h_Floor_space D16
  have h_Beaten_look : MethOk l.prog w K mg base 2 "Beaten" "look" C_Beaten_look := ok_Beaten_look nb nc fd h_Floor_take_own h_Floor_rob D17
  have h_Beaten_beat : MethOk l.prog w K mg base 5 "Beaten" "beat" C_Beaten_beat := ok_Beaten_beat nb nc fd h_Beaten_look h_Floor_do_step h_Floor_space D18
  have h_all_beats : CallOk l.prog w K mg base 7 "all_beats" C_all_beats := ok_all_beats nb nc fd h_is_order h_Beaten___init__ h_Floor_is_all_over h_Beaten_beat D19
  have h_beaten : CallOk l.prog w K mg base 8 "beaten" C_beaten := ok_beaten nb nc fd h_all_beats D20
  have h_measured : CallOk l.prog w K mg base 8 "measured" C_measured := ok_measured nb nc fd h_all_beats D21
  have h_law_feed : CallOk l.prog w K mg base 1 "_law_feed" C_law_feed := ok_law_feed nb nc fd  D22
  have h_law_take : CallOk l.prog w K mg base 1 "_law_take" C_law_take := ok_law_take nb nc fd  D23
  have h_law_pick : CallOk l.prog w K mg base 2 "_law_pick" C_law_pick := ok_law_pick nb nc fd h_law_take D24
  have h_law_steps : CallOk l.prog w K mg base 3 "_law_steps" C_law_steps := ok_law_steps nb nc fd h_law_take h_law_pick D25
  have h_law_job : CallOk l.prog w K mg base 4 "_law_job" C_law_job := ok_law_job nb nc fd h_law_pick h_law_take h_law_steps D26
  have h_law_parents : CallOk l.prog w K mg base 1 "_law_parents" C_law_parents := ok_law_parents nb nc fd  D27
  have h_law_overs : CallOk l.prog w K mg base 1 "_law_overs" C_law_overs := ok_law_overs nb nc fd  D28
  have h_law_sent : CallOk l.prog w K mg base 1 "_law_sent" C_law_sent := ok_law_sent nb nc fd  D29
  have h_law_lives : CallOk l.prog w K mg base 2 "_law_lives" C_law_lives := ok_law_lives nb nc fd h_law_overs h_law_sent D30
  have h_law_is_held : CallOk l.prog w K mg base 1 "_law_is_held" C_law_is_held := ok_law_is_held nb nc fd  D31
  have h_law_is_kept_off : CallOk l.prog w K mg base 2 "_law_is_kept_off" C_law_is_kept_off := ok_law_is_kept_off nb nc fd h_law_overs h_law_is_held h_law_sent D32
  have h_law_settle : CallOk l.prog w K mg base 3 "_law_settle" C_law_settle := ok_law_settle nb nc fd h_law_overs h_law_is_kept_off D33
  have h_law_go : CallOk l.prog w K mg base 4 "_law_go" C_law_go := ok_law_go nb nc fd h_law_is_held h_law_settle D34
  have h_law_floor : CallOk l.prog w K mg base 1 "_law_floor" C_law_floor := ok_law_floor nb nc fd  D35
  have h_law_order : CallOk l.prog w K mg base 2 "_law_order" C_law_order := ok_law_order nb nc fd h_law_take D36
  have h_law_look : CallOk l.prog w K mg base 1 "_law_look" C_law_look := ok_law_look nb nc fd  D37
  have h_law_beat : CallOk l.prog w K mg base 5 "_law_beat" C_law_beat := ok_law_beat nb nc fd h_law_look h_law_go h_law_lives D38
  have nd : N_law.Nodup := sc_law.nd
  exact fk_ok (T := T_law) F39 sc_law len_law (fun cdv A outer s H EL E hr hgd hp hE => (dss_cons (ds_for hp rfl (di_range3 rfl nb.n_range de_int (de_max rfl rfl nb.n_max (da_cons de_int (da_cons (de_min rfl rfl nb.n_min (da_cons de_int (da_cons (de_len rfl nb.n_len (da_cons (de_var 0) da_nil)) da_nil))) da_nil))) de_int) (dg_name 1 nd) (dss_cons (ds_set 2 nd (de_fn h_law_feed (hr.mono (by first | decide | omega)) hgd hE (da_cons (de_var 0) (da_cons (de_var 1) da_nil))))
    (dss_cons (ds_set 3 nd (de_fn h_law_job (hr.mono (by first | decide | omega)) hgd hE (da_cons (de_var 2) (da_cons de_int da_nil))))
    (dss_cons (ds_set 4 nd (de_add de_int (de_fn h_law_take (hr.mono (by first | decide | omega)) hgd hE (da_cons (de_var 2) (da_cons de_int da_nil)))))
    (dss_cons (ds_set 5 nd (de_fn h_law_order (hr.mono (by first | decide | omega)) hgd hE (da_cons (de_fn h_law_feed (hr.mono (by first | decide | omega)) hgd hE (da_cons (de_var 0) (da_cons (de_add (de_var 1) de_int) da_nil))) (da_cons (de_var 4) da_nil))))
    (dss_cons (ds_set 6 nd (de_fn h_law_parents (hr.mono (by first | decide | omega)) hgd hE (da_cons (de_var 3) da_nil)))
    (dss_cons (ds_set 7 nd (de_fn h_law_floor (hr.mono (by first | decide | omega)) hgd hE (da_cons (de_var 3) (da_cons (de_var 4) da_nil))))
    (dss_cons (ds_set 8 nd (de_lst (da_cons de_int (da_cons (de_ix (de_ix (de_var 3) de_int) de_int) da_nil))))
    (dss_cons (ds_set 9 nd (de_lst da_nil))
    (dss_cons (ds_for hp rfl (di_range1 rfl nb.n_range de_int) (dg_name 10 nd) (dss_one (ds_if (dt_not (dt_tru (de_ix (de_fn h_law_overs (hr.mono (by first | decide | omega)) hgd hE (da_cons (de_var 3) (da_cons (de_ix (de_var 7) de_int) da_nil))) de_int))) (dss_one (ds_expr (de_append (de_var 9) (da_cons (de_fn h_law_beat (hr.mono (by first | decide | omega)) hgd hE (da_cons (de_var 3) (da_cons (de_var 6) (da_cons (de_var 7) (da_cons (de_var 5) (da_cons (de_var 8) da_nil)))))) da_nil)))) dss_nil)))
    (dss_cons (ds_set 11 nd (de_sum rfl rfl nb.n_sum (da_cons (de_lcN [("row", 12)] (bd_name 12) rfl nd (di_seq (de_var 9)) (blkOk_by (by show blkC N_law (defScope s_law) _ _ = true; decide +kernel)) (fun _ _ _ _ _ => pgN 12 nd) (fun _ _ _ _ _ => dts_nil) (fun _ _ _ _ _ => (de_count (u65 hr) (de_var 12) (da_cons de_non da_nil)))) da_nil)))
    (dss_cons (ds_set 13 nd (de_tup (da_cons (de_len rfl nb.n_len (da_cons (de_var 9) da_nil)) (da_cons (de_ix (de_var 8) de_int) (da_cons (de_var 11) (da_cons (de_ix (de_var 8) de_int) da_nil))))))
    (dss_one (ds_for hp rfl (di_range1 rfl nb.n_range de_int) (dg_name 10 nd) (dss_cons (ds_set 14 nd (de_fn h_beaten (hr.mono (by first | decide | omega)) hgd hE (da_cons (de_var 3) (da_cons (de_var 4) (da_cons (de_var 5) da_nil)))))
    (dss_cons (ds_if (DPW.dt (dw_or (dt_not (dt_tru (de_isinst rfl nb.n_isinstance (da_cons (de_var 14) (da_cons (de_bltn (by rfl) nb.n_list (by decide +kernel)) da_nil))))) (dw_or1 (dt_ne (u64 hr) (de_repr hgd (u65 hr) rfl nb.n_repr (da_cons (de_var 14) da_nil)) (de_repr hgd (u65 hr) rfl nb.n_repr (da_cons (de_var 9) da_nil)))))) (dss_one (ds_ret de_bl)) dss_nil)
    (dss_cons (ds_if (dt_ne (u64 hr) (de_repr hgd (u65 hr) rfl nb.n_repr (da_cons (de_fn h_measured (hr.mono (by first | decide | omega)) hgd hE (da_cons (de_var 3) (da_cons (de_var 4) (da_cons (de_var 5) da_nil)))) da_nil)) (de_repr hgd (u65 hr) rfl nb.n_repr (da_cons (de_var 13) da_nil))) (dss_one (ds_ret de_bl)) dss_nil)
    (dss_cons (ds_expr (de_append (de_ix (de_var 14) (de_neg de_int)) (da_cons de_non da_nil)))
    (dss_one (ds_expr (de_append (de_var 14) (da_cons (de_lst da_nil) da_nil))))))))))))))))))))))
    (dss_one (ds_ret de_bl)))) run_law
end FD
open PySem PySem.W PyProof.Rows
set_option maxRecDepth 100000 in
set_option maxHeartbeats 0 in
theorem PySem.Challenge.cw_farend_k31_beats_holds : PySem.Challenge.rw_farend_k31_beats.Holds := by
  w_on; o_law; k_head; (case hw => w_witness2)
  k_fill
  refine FD.walk_fk (n := 63) (k := 9) (x := "script") rfl (by decide) rfl ⟨rfl, by decide, by decide⟩ (fun w h Y => PySem.W.kIn_of Y) ?F
  case F =>
    intro w mg fa h KX G hmg
    refine' FD.all_mk (l := PySem.Challenge.rw_farend_k31_beats) KX G hmg ?A_Beaten ?pg_Beaten ?hd_Beaten ?po_Beaten ?sa_Beaten ?mk_Beaten ?kc_Beaten ?A_Floor ?pg_Floor ?hd_Floor ?po_Floor ?sa_Floor ?mk_Floor ?kc_Floor ?nF_Beaten_ground ?nF_Beaten_peak ?nF_Beaten_rest ?nF_Beaten_sight ?nF_Beaten_stolen ?nF_Floor_aside ?nF_Floor_at ?nF_Floor_current ?nF_Floor_gone ?nF_Floor_job ?nF_Floor_kids ?nF_Floor_piles ?nF_Floor_state ?nF_Floor_up ?a1 ?l1 ?c1 ?k1 ?a2 ?l2 ?c2 ?k2 ?a3 ?i3 ?l3 ?c3 ?k3 ?a4 ?i4 ?l4 ?c4 ?k4 ?a5 ?i5 ?l5 ?c5 ?k5 ?a6 ?i6 ?l6 ?c6 ?k6 ?a7 ?i7 ?l7 ?c7 ?k7 ?a8 ?i8 ?l8 ?c8 ?k8 ?a9 ?i9 ?l9 ?c9 ?k9 ?a10 ?i10 ?l10 ?c10 ?k10 ?a11 ?i11 ?l11 ?c11 ?k11 ?a12 ?i12 ?l12 ?c12 ?k12 ?a13 ?i13 ?l13 ?c13 ?k13 ?a14 ?i14 ?l14 ?c14 ?k14 ?a15 ?l15 ?c15 ?k15 ?a16 ?i16 ?l16 ?c16 ?k16 ?a17 ?i17 ?l17 ?c17 ?k17 ?a18 ?i18 ?l18 ?c18 ?k18 ?a19 ?l19 ?c19 ?k19 ?a20 ?l20 ?c20 ?k20 ?a21 ?l21 ?c21 ?k21 ?a22 ?l22 ?c22 ?k22 ?a23 ?l23 ?c23 ?k23 ?a24 ?l24 ?c24 ?k24 ?a25 ?l25 ?c25 ?k25 ?a26 ?l26 ?c26 ?k26 ?a27 ?l27 ?c27 ?k27 ?a28 ?l28 ?c28 ?k28 ?a29 ?l29 ?c29 ?k29 ?a30 ?l30 ?c30 ?k30 ?a31 ?l31 ?c31 ?k31 ?a32 ?l32 ?c32 ?k32 ?a33 ?l33 ?c33 ?k33 ?a34 ?l34 ?c34 ?k34 ?a35 ?l35 ?c35 ?k35 ?a36 ?l36 ?c36 ?k36 ?a37 ?l37 ?c37 ?k37 ?a38 ?l38 ?c38 ?k38 ?a39 ?l39 ?c39 ?k39 ?z_all ?z_bool ?z_int ?z_isinstance ?z_len ?z_list ?z_max ?z_min ?z_range ?z_repr ?z_sorted ?z_sum ?z_tuple ?zc_LIVES ?zc_OVER ?zc_UNBEGUN
    (case A_Beaten => k_is)
    (case pg_Beaten => k_is)
    (case hd_Beaten => k_is)
    (case po_Beaten => k_is)
    (case sa_Beaten => k_is)
    (case mk_Beaten => k_is)
    (case kc_Beaten => k_is)
    (case A_Floor => k_is)
    (case pg_Floor => k_is)
    (case hd_Floor => k_is)
    (case po_Floor => k_is)
    (case sa_Floor => k_is)
    (case mk_Floor => k_is)
    (case kc_Floor => k_is)
    (case nF_Beaten_ground => k_is)
    (case nF_Beaten_peak => k_is)
    (case nF_Beaten_rest => k_is)
    (case nF_Beaten_sight => k_is)
    (case nF_Beaten_stolen => k_is)
    (case nF_Floor_aside => k_is)
    (case nF_Floor_at => k_is)
    (case nF_Floor_current => k_is)
    (case nF_Floor_gone => k_is)
    (case nF_Floor_job => k_is)
    (case nF_Floor_kids => k_is)
    (case nF_Floor_piles => k_is)
    (case nF_Floor_state => k_is)
    (case nF_Floor_up => k_is)
    (case a1 => k_is)
    (case l1 => k_is)
    (case c1 => k_is)
    (case k1 => k_is)
    (case a2 => k_is)
    (case l2 => k_is)
    (case c2 => k_is)
    (case k2 => k_is)
    (case a3 => k_is)
    (case i3 => k_is)
    (case l3 => k_is)
    (case c3 => k_is)
    (case k3 => k_is)
    (case a4 => k_is)
    (case i4 => k_is)
    (case l4 => k_is)
    (case c4 => k_is)
    (case k4 => k_is)
    (case a5 => k_is)
    (case i5 => k_is)
    (case l5 => k_is)
    (case c5 => k_is)
    (case k5 => k_is)
    (case a6 => k_is)
    (case i6 => k_is)
    (case l6 => k_is)
    (case c6 => k_is)
    (case k6 => k_is)
    (case a7 => k_is)
    (case i7 => k_is)
    (case l7 => k_is)
    (case c7 => k_is)
    (case k7 => k_is)
    (case a8 => k_is)
    (case i8 => k_is)
    (case l8 => k_is)
    (case c8 => k_is)
    (case k8 => k_is)
    (case a9 => k_is)
    (case i9 => k_is)
    (case l9 => k_is)
    (case c9 => k_is)
    (case k9 => k_is)
    (case a10 => k_is)
    (case i10 => k_is)
    (case l10 => k_is)
    (case c10 => k_is)
    (case k10 => k_is)
    (case a11 => k_is)
    (case i11 => k_is)
    (case l11 => k_is)
    (case c11 => k_is)
    (case k11 => k_is)
    (case a12 => k_is)
    (case i12 => k_is)
    (case l12 => k_is)
    (case c12 => k_is)
    (case k12 => k_is)
    (case a13 => k_is)
    (case i13 => k_is)
    (case l13 => k_is)
    (case c13 => k_is)
    (case k13 => k_is)
    (case a14 => k_is)
    (case i14 => k_is)
    (case l14 => k_is)
    (case c14 => k_is)
    (case k14 => k_is)
    (case a15 => k_is)
    (case l15 => k_is)
    (case c15 => k_is)
    (case k15 => k_is)
    (case a16 => k_is)
    (case i16 => k_is)
    (case l16 => k_is)
    (case c16 => k_is)
    (case k16 => k_is)
    (case a17 => k_is)
    (case i17 => k_is)
    (case l17 => k_is)
    (case c17 => k_is)
    (case k17 => k_is)
    (case a18 => k_is)
    (case i18 => k_is)
    (case l18 => k_is)
    (case c18 => k_is)
    (case k18 => k_is)
    (case a19 => k_is)
    (case l19 => k_is)
    (case c19 => k_is)
    (case k19 => k_is)
    (case a20 => k_is)
    (case l20 => k_is)
    (case c20 => k_is)
    (case k20 => k_is)
    (case a21 => k_is)
    (case l21 => k_is)
    (case c21 => k_is)
    (case k21 => k_is)
    (case a22 => k_is)
    (case l22 => k_is)
    (case c22 => k_is)
    (case k22 => k_is)
    (case a23 => k_is)
    (case l23 => k_is)
    (case c23 => k_is)
    (case k23 => k_is)
    (case a24 => k_is)
    (case l24 => k_is)
    (case c24 => k_is)
    (case k24 => k_is)
    (case a25 => k_is)
    (case l25 => k_is)
    (case c25 => k_is)
    (case k25 => k_is)
    (case a26 => k_is)
    (case l26 => k_is)
    (case c26 => k_is)
    (case k26 => k_is)
    (case a27 => k_is)
    (case l27 => k_is)
    (case c27 => k_is)
    (case k27 => k_is)
    (case a28 => k_is)
    (case l28 => k_is)
    (case c28 => k_is)
    (case k28 => k_is)
    (case a29 => k_is)
    (case l29 => k_is)
    (case c29 => k_is)
    (case k29 => k_is)
    (case a30 => k_is)
    (case l30 => k_is)
    (case c30 => k_is)
    (case k30 => k_is)
    (case a31 => k_is)
    (case l31 => k_is)
    (case c31 => k_is)
    (case k31 => k_is)
    (case a32 => k_is)
    (case l32 => k_is)
    (case c32 => k_is)
    (case k32 => k_is)
    (case a33 => k_is)
    (case l33 => k_is)
    (case c33 => k_is)
    (case k33 => k_is)
    (case a34 => k_is)
    (case l34 => k_is)
    (case c34 => k_is)
    (case k34 => k_is)
    (case a35 => k_is)
    (case l35 => k_is)
    (case c35 => k_is)
    (case k35 => k_is)
    (case a36 => k_is)
    (case l36 => k_is)
    (case c36 => k_is)
    (case k36 => k_is)
    (case a37 => k_is)
    (case l37 => k_is)
    (case c37 => k_is)
    (case k37 => k_is)
    (case a38 => k_is)
    (case l38 => k_is)
    (case c38 => k_is)
    (case k38 => k_is)
    (case a39 => k_is)
    (case l39 => k_is)
    (case c39 => k_is)
    (case k39 => k_is)
    (case z_all => k_is)
    (case z_bool => k_is)
    (case z_int => k_is)
    (case z_isinstance => k_is)
    (case z_len => k_is)
    (case z_list => k_is)
    (case z_max => k_is)
    (case z_min => k_is)
    (case z_range => k_is)
    (case z_repr => k_is)
    (case z_sorted => k_is)
    (case z_sum => k_is)
    (case z_tuple => k_is)
    (case zc_LIVES => k_is)
    (case zc_OVER => k_is)
    (case zc_UNBEGUN => k_is)
#print axioms PySem.Challenge.cw_farend_k31_beats_holds
