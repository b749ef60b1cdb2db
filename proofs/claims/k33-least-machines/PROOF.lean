import PyProof.Rows.All
import HandS.ForMost
import HandS.TupAny
import HandS.Zip
import HandS.Walk
import HandS.SetKeys
import HandS.DictComp
import HandS.Flow
import HandS.NoneIn
import HandS.ForExc
import HandS.ExcOwn
import HandS.ExcBuiltin
import HandS.TryOnly
import KE.KDictKeyed
import KE.KeyNested
import KE.SortData
import HandS.Style
import HandS.IsInst
import HandS.Conv
import HandS.TupLen
import KE.KDictDisplayH
import KE.GoesEnum
import HandS.Zip0
import HandS.Star
import HandS.EndBits
import HandS.WordsExc
import PyProof.ReprRoads
import PySem.Challenge.RW_hearwright_k33_least_machines
set_option Elab.async false
set_option linter.all false
set_option maxRecDepth 100000
set_option maxHeartbeats 4000000
/-! The data layer: Python values as trees, a store of the objects that change, and what a piece of the text does as a plain function of them. -/
namespace Dl
open PySem PySem.Spec PyProof.Rows L2

/-- a value: a tree; ref n is the n-th object of the store -/
inductive D where
  | non | bl (b : Bool) | int (i : Int) | str (s : List Nat) | tup (xs : List D) | ref (n : Nat)
/-- an object of the store -/
inductive DO where
  | lst (xs : List D) | ro (xs : List D) | dk (kvs : List (D × D)) | dn (kvs : List (D × D)) | ins (c : Nat) (fs : List (Option D)) | fk (kvs : List (D × D))
abbrev Store := List DO
def DO.kind : DO → Nat
  | .lst _ => 1 | .ro _ => 0 | .dk _ => 2 | .dn _ => 3 | .ins _ _ => 4 | .fk _ => 5
/-- 0: it does not change -/
def DO.mk : DO → Nat
  | .lst _ => 1 | .ro _ => 0 | .dk _ => 2 | .dn _ => 3 | .ins _ _ => 4 | .fk _ => 0
theorem DO.mk_of {o u : DO} (h : o.kind = u.kind) : o.mk = u.mk := by cases o <;> cases u <;> first | rfl | exact absurd h (by simp [DO.kind])
/-- what comes of a piece -/
inductive Rs (α : Type) where
  | ok (a : α) (S : Store) | exc (x : Nat) (S : Store) | stuck
def Rs.bind {α β : Type} (r : Rs α) (k : α → Store → Rs β) : Rs β := match r with
  | .ok a S => k a S
  | .exc x S => .exc x S
  | .stuck => .stuck

mutual
def D.nk : D → NestedKey
  | .non => .none
  | .bl b => .num (if b = true then 1 else 0)
  | .int i => .num i
  | .str s => .text ⟨s.toArray⟩
  | .tup xs => .tup (D.nkL xs)
  | .ref _ => .none
def D.nkL : List D → List NestedKey
  | [] => []
  | x :: xs => x.nk :: D.nkL xs
end
mutual
/-- no object stands in it -/
def D.pure : D → Bool
  | .ref _ => false
  | .tup xs => D.pureL xs
  | _ => true
def D.pureL : List D → Bool
  | [] => true
  | x :: xs => x.pure && D.pureL xs
end
mutual
def D.deep : D → Nat
  | .tup xs => D.deepL xs + 1
  | _ => 0
def D.deepL : List D → Nat
  | [] => 0
  | x :: xs => max x.deep (D.deepL xs)
end

structure Ct where
  P : Program
  w : World
  K : PySem.W.Frag
  cls : Nat → Addr
  fld : Nat → List Str
  exc : Nat → Addr

section
variable (K : PySem.W.Frag) (m : Nat → Addr) (k : Nat) (H : Hp)
mutual
def Rep : D → V → Prop
  | .non, v => v = .non
  | .bl b, v => v = .bl b
  | .int i, v => v = .int i
  | .str s, v => v = .str ⟨s.toArray⟩
  | .tup xs, v => ∃ a vs, v = .ref a ∧ SqT K H a vs ∧ RepL xs vs
  | .ref n, v => n < k ∧ v = .ref (m n)
def RepL : List D → List V → Prop
  | [], vs => vs = []
  | x :: xs, vs => ∃ v r, vs = v :: r ∧ Rep x v ∧ RepL xs r
end
end

/-! ### trees that stand in a heap -/
structure Ext (K : PySem.W.Frag) (m : Nat → Addr) (k : Nat) (H : Hp) (m' : Nat → Addr) (k' : Nat) (H' : Hp) : Prop where
  eq : ∀ i, i < k → m' i = m i
  le : k ≤ k'
  sq : ∀ a vs, SqT K H a vs → SqT K H' a vs
section
variable {K : PySem.W.Frag} {m m' : Nat → Addr} {k k' : Nat} {H H' : Hp}
mutual
theorem Rep.mono (e : Ext K m k H m' k' H') : ∀ (d : D) (v : V), Rep K m k H d v → Rep K m' k' H' d v
  | .non, _, h => h
  | .bl _, _, h => h
  | .int _, _, h => h
  | .str _, _, h => h
  | .tup xs, v, h => by
    unfold Rep at h ⊢
    obtain ⟨a, vs, e1, h1, h2⟩ := h
    exact ⟨a, vs, e1, e.sq _ _ h1, RepL.mono e xs vs h2⟩
  | .ref n, v, h => by
    unfold Rep at h ⊢
    exact ⟨Nat.lt_of_lt_of_le h.1 e.le, by rw [e.eq n h.1]; exact h.2⟩
theorem RepL.mono (e : Ext K m k H m' k' H') : ∀ (xs : List D) (vs : List V), RepL K m k H xs vs → RepL K m' k' H' xs vs
  | [], _, h => h
  | x :: xs, vs, h => by
    unfold RepL at h ⊢
    obtain ⟨v, r, e1, h1, h2⟩ := h
    exact ⟨v, r, e1, Rep.mono e x v h1, RepL.mono e xs r h2⟩
end
theorem RepL.nil_iff {vs : List V} : RepL K m k H [] vs ↔ vs = [] := by unfold RepL; exact Iff.rfl
theorem RepL.cons_iff {x : D} {xs : List D} {vs : List V} : RepL K m k H (x :: xs) vs ↔ ∃ v r, vs = v :: r ∧ Rep K m k H x v ∧ RepL K m k H xs r := by
  constructor
  · intro h; unfold RepL at h; exact h
  · intro h; unfold RepL; exact h
theorem RepL.nil : RepL K m k H [] [] := RepL.nil_iff.mpr rfl
theorem RepL.cons {x : D} {v : V} {xs : List D} {vs : List V} (h : Rep K m k H x v) (t : RepL K m k H xs vs) : RepL K m k H (x :: xs) (v :: vs) := RepL.cons_iff.mpr ⟨v, vs, rfl, h, t⟩
theorem RepL.len : ∀ {xs : List D} {vs : List V}, RepL K m k H xs vs → vs.length = xs.length
  | [], _, h => by rw [RepL.nil_iff.mp h]; rfl
  | x :: xs, vs, h => by
    obtain ⟨v, r, rfl, _, t⟩ := RepL.cons_iff.mp h
    rw [List.length_cons, List.length_cons, RepL.len t]
theorem RepL.get : ∀ {xs : List D} {vs : List V} {i : Nat} {d : D}, RepL K m k H xs vs → xs[i]? = some d → ∃ v, vs[i]? = some v ∧ Rep K m k H d v
  | [], _, _, _, _, e => by simp at e
  | x :: xs, vs, i, d, h, e => by
    obtain ⟨v, r, rfl, h1, t⟩ := RepL.cons_iff.mp h
    cases i with
    | zero => simp at e; subst e; exact ⟨v, rfl, h1⟩
    | succ i =>
      obtain ⟨u, e1, e2⟩ := RepL.get (i := i) t (by simpa using e)
      exact ⟨u, by simpa using e1, e2⟩
theorem RepL.app : ∀ {xs ys : List D} {vs ws : List V}, RepL K m k H xs vs → RepL K m k H ys ws → RepL K m k H (xs ++ ys) (vs ++ ws)
  | [], _, _, _, h, g => by rw [RepL.nil_iff.mp h]; exact g
  | x :: xs, ys, vs, ws, h, g => by
    obtain ⟨v, r, rfl, h1, t⟩ := RepL.cons_iff.mp h
    exact RepL.cons h1 (RepL.app t g)
theorem RepL.take : ∀ {xs : List D} {vs : List V} (n : Nat), RepL K m k H xs vs → RepL K m k H (xs.take n) (vs.take n)
  | _, _, 0, _ => by simp; exact RepL.nil
  | [], _, n + 1, h => by rw [RepL.nil_iff.mp h]; simp; exact RepL.nil
  | x :: xs, vs, n + 1, h => by
    obtain ⟨v, r, rfl, h1, t⟩ := RepL.cons_iff.mp h
    exact RepL.cons h1 (RepL.take n t)
theorem RepL.drop : ∀ {xs : List D} {vs : List V} (n : Nat), RepL K m k H xs vs → RepL K m k H (xs.drop n) (vs.drop n)
  | _, _, 0, h => h
  | [], _, n + 1, h => by rw [RepL.nil_iff.mp h]; simp; exact RepL.nil
  | x :: xs, vs, n + 1, h => by
    obtain ⟨v, r, rfl, h1, t⟩ := RepL.cons_iff.mp h
    exact RepL.drop n t
theorem RepL.set : ∀ {xs : List D} {vs : List V} (i : Nat) {d : D} {v : V}, RepL K m k H xs vs → Rep K m k H d v → RepL K m k H (xs.set i d) (vs.set i v)
  | [], _, _, _, _, h, _ => by rw [RepL.nil_iff.mp h]; exact RepL.nil
  | x :: xs, vs, i, d, v, h, g => by
    obtain ⟨u, r, rfl, h1, t⟩ := RepL.cons_iff.mp h
    cases i with
    | zero => exact RepL.cons g t
    | succ i => exact RepL.cons h1 (RepL.set i t g)
theorem RepL.of_get : ∀ {xs : List D} {vs : List V}, vs.length = xs.length → (∀ (i : Nat) (d : D), xs[i]? = some d → ∃ v, vs[i]? = some v ∧ Rep K m k H d v) → RepL K m k H xs vs
  | [], vs, hl, _ => by
    have e : vs = [] := List.eq_nil_of_length_eq_zero (by simpa using hl)
    rw [e]; exact RepL.nil
  | x :: xs, [], hl, _ => by simp at hl
  | x :: xs, v :: vs, hl, h => by
    obtain ⟨u, e1, e2⟩ := h 0 x rfl
    simp at e1; subst e1
    exact RepL.cons e2 (RepL.of_get (by simpa using hl) fun i d e => by
      obtain ⟨w, a, b⟩ := h (i + 1) d (by simpa using e)
      exact ⟨w, by simpa using a, b⟩)
end

/-! ### the store in the heap -/
def dkey : D → Option Key
  | .int i => some (.inl i)
  | .str s => some (.inr ⟨s.toArray⟩)
  | _ => none
section
variable (K : PySem.W.Frag) (m : Nat → Addr) (k : Nat) (H : Hp)
def RepKV : List (D × D) → List (Key × V) → Prop
  | [], ws => ws = []
  | p :: r, ws => ∃ q v t, ws = (q, v) :: t ∧ dkey p.1 = some q ∧ Rep K m k H p.2 v ∧ RepKV r t
def RepNV : List (D × D) → List (NestedKey × Addr × V) → Prop
  | [], ws => ws = []
  | p :: r, ws => ∃ q v t, ws = (p.1.nk, q, v) :: t ∧ (∃ ys, p.1 = .tup ys) ∧ p.1.pure = true ∧ p.1.deep ≤ 8 ∧ Rep K m k H p.1 (.ref q) ∧ Rep K m k H p.2 v ∧ RepNV r t
end
section
variable {K : PySem.W.Frag} {m m' : Nat → Addr} {k k' : Nat} {H H' : Hp}
theorem RepKV.mono (e : Ext K m k H m' k' H') : ∀ {kvs : List (D × D)} {ws : List (Key × V)}, RepKV K m k H kvs ws → RepKV K m' k' H' kvs ws
  | [], _, h => h
  | p :: r, ws, h => by
    unfold RepKV at h ⊢
    obtain ⟨q, v, t, e1, e2, e3, e4⟩ := h
    exact ⟨q, v, t, e1, e2, Rep.mono e _ _ e3, RepKV.mono e e4⟩
theorem RepNV.mono (e : Ext K m k H m' k' H') : ∀ {kvs : List (D × D)} {ws : List (NestedKey × Addr × V)}, RepNV K m k H kvs ws → RepNV K m' k' H' kvs ws
  | [], _, h => h
  | p :: r, ws, h => by
    unfold RepNV at h ⊢
    obtain ⟨q, v, t, e1, e2, e3, e4, e5, e6, e7⟩ := h
    exact ⟨q, v, t, e1, e2, e3, e4, Rep.mono e _ _ e5, Rep.mono e _ _ e6, RepNV.mono e e7⟩
end
/-- a dict whose keys are tuples, by its own object alone -/
def DN (P : Program) (w : World) (a : Addr) (es : List (NestedKey × Addr × V)) (h : Heap) : Prop :=
  ∃ us : List (NestedKey × Addr × Value), Paired (fun p q => p.1 = q.1 ∧ p.2.1 = q.2.1 ∧ RelV p.2.2 q.2.2) es us ∧
    ∃ o fs ep, h.get? a = some o ∧ o.ExactDict ∧ o.data = .dict fs ep ∧ fs.toList = us.map (entryOfKey (nestedKind P w))
/-- a list that is read alone -/
def Ro (K : PySem.W.Frag) (H : Hp) (a : Addr) (vs : List V) : Prop := (∃ o, H a = some (.frz o (.lst vs))) ∨
  ∃ (o : Obj) (its : Array Value) (n : Nat), K.lookup a = some o ∧ o.cls = .type "list" ∧ o.dict = none ∧ o.data = .seq its n ∧ its.size ≤ sizeLine ∧ Vals vs its.toList
theorem Ro.sq {K : PySem.W.Frag} {H : Hp} {a : Addr} {vs : List V} (h : Ro K H a vs) : SqL K H a vs := by
  rcases h with ⟨o, h⟩ | h
  · exact .inl (.inr ⟨o, h⟩)
  · exact .inr h
def ORep (c : Ct) (m : Nat → Addr) (k : Nat) (H : Hp) : DO → Addr → Prop
  | .lst xs, a => ∃ vs, H a = some (.lst vs) ∧ RepL c.K m k H xs vs
  | .ro xs, a => ∃ vs, Ro c.K H a vs ∧ RepL c.K m k H xs vs
  | .dk kvs, a => ∃ ws, H a = some (.dK ws) ∧ RepKV c.K m k H kvs ws
  | .fk kvs, a => ∃ ws od, H a = some (.frz od (.dK ws)) ∧ RepKV c.K m k H kvs ws
  | .dn kvs, a => (a == sysModules) = false ∧ kvs.length ≤ sizeLine ∧ ∃ es, RepNV c.K m k H kvs es ∧ (es.map (·.1)).Nodup ∧ H a = some (.ext (DN c.P c.w a es))
  | .ins q fs, a => ∃ dx fvs, H a = some (.ins (c.cls q) dx fvs) ∧ fvs.length ≤ (c.fld q).length ∧ (∀ f, f ∉ c.fld q → fvs.lookup f = none) ∧
      ∀ (j : Nat) (f : Str), (c.fld q)[j]? = some f → (∀ d : D, fs[j]? = some (some d) → ∃ v, fvs.lookup f = some v ∧ Rep c.K m k H d v) ∧ (fs[j]? = some none → fvs.lookup f = none)
structure SRel (c : Ct) (m : Nat → Addr) (S : Store) (H : Hp) : Prop where
  obj : ∀ n o, S[n]? = some o → ORep c m S.length H o (m n)
  inj : ∀ (i j : Nat) (o u : DO), S[i]? = some o → S[j]? = some u → o.mk ≠ 0 → u.mk ≠ 0 → m i = m j → i = j
structure Grow (m : Nat → Addr) (S : Store) (H : Hp) (m' : Nat → Addr) (S' : Store) (H' : Hp) : Prop where
  len : S.length ≤ S'.length
  eq : ∀ i, i < S.length → m' i = m i
  kind : ∀ (i : Nat) (o : DO), S[i]? = some o → ∃ o', S'[i]? = some o' ∧ o'.kind = o.kind
  frame : ∀ a u, H a = some u → (∀ (i : Nat) (o : DO), S[i]? = some o → o.mk ≠ 0 → m i ≠ a) → H' a = some u
  fresh : ∀ i, S.length ≤ i → i < S'.length → H (m' i) = none
  keep : ∀ a u, H a = some u → ∃ u', H' a = some u'
section
variable {c : Ct} {m m' m1 m2 : Nat → Addr} {S S' S1 S2 : Store} {H H' H1 H2 : Hp}
theorem lt_of_get {α : Type} {l : List α} {i : Nat} {x : α} (h : l[i]? = some x) : i < l.length := (List.getElem?_eq_some_iff.mp h).1
theorem Grow.refl : Grow m S H m S H := ⟨Nat.le_refl _, fun _ _ => rfl, fun _ o e => ⟨o, e, rfl⟩, fun _ _ e _ => e, fun _ h1 h2 => absurd h2 (Nat.not_lt.mpr h1), fun _ u e => ⟨u, e⟩⟩
theorem Grow.trans (a : Grow m S H m1 S1 H1) (b : Grow m1 S1 H1 m2 S2 H2) : Grow m S H m2 S2 H2 where
  len := Nat.le_trans a.len b.len
  eq := fun i hi => (b.eq i (Nat.lt_of_lt_of_le hi a.len)).trans (a.eq i hi)
  kind := fun i o e => by
    obtain ⟨o1, e1, k1⟩ := a.kind i o e
    obtain ⟨o2, e2, k2⟩ := b.kind i o1 e1
    exact ⟨o2, e2, k2.trans k1⟩
  frame := fun x u e h => by
    refine b.frame x u (a.frame x u e h) fun i o e1 k1 z => ?_
    by_cases hi : i < S.length
    · obtain ⟨o1, e2, k2⟩ := a.kind i _ (List.getElem?_eq_getElem hi)
      rw [e1] at e2; cases e2
      exact h i _ (List.getElem?_eq_getElem hi) (by rw [← DO.mk_of k2]; exact k1) (by rw [← a.eq i hi]; exact z)
    · have := a.fresh i (Nat.le_of_not_lt hi) (lt_of_get e1)
      rw [z, e] at this; cases this
  fresh := fun i h1 h2 => by
    by_cases hi : i < S1.length
    · rw [b.eq i hi]; exact a.fresh i h1 hi
    · have n := b.fresh i (Nat.le_of_not_lt hi) h2
      cases q : H (m2 i) with
      | none => rfl
      | some u =>
        obtain ⟨u1, q1⟩ := a.keep _ u q
        rw [q1] at n; cases n
  keep := fun x u e => by
    obtain ⟨u1, e1⟩ := a.keep x u e
    exact b.keep x u1 e1
def tupH : Option HO → Bool
  | some (.tup _) => true
  | some (.frz _ (.tup _)) => true
  | _ => false
theorem SRel.no_tup (r : SRel c m S H) {i : Nat} {o : DO} (e : S[i]? = some o) (hk : o.mk ≠ 0) : tupH (H (m i)) = false := by
  have h := r.obj i o e
  cases o with
  | lst xs => obtain ⟨_, h1, _⟩ := h; rw [h1]; rfl
  | ro xs => exact absurd rfl hk
  | fk xs => exact absurd rfl hk
  | dk kvs => obtain ⟨_, h1, _⟩ := h; rw [h1]; rfl
  | dn kvs => obtain ⟨_, _, _, _, _, h1⟩ := h; rw [h1]; rfl
  | ins q fs => obtain ⟨_, _, h1, _⟩ := h; rw [h1]; rfl
theorem Grow.ext (g : Grow m S H m' S' H') (r : SRel c m S H) : Ext c.K m S.length H m' S'.length H' := by
  refine ⟨g.eq, g.len, fun a vs h => ?_⟩
  rcases h with (h | ⟨o, h⟩) | h
  · refine .inl (.inl (g.frame a _ h fun i ob e hk z => ?_))
    subst z
    have z := r.no_tup e hk
    rw [h] at z
    exact Bool.noConfusion z
  · refine .inl (.inr ⟨o, g.frame a _ h fun i ob e hk z => ?_⟩)
    subst z
    have z := r.no_tup e hk
    rw [h] at z
    exact Bool.noConfusion z
  · exact .inr h
/-- the heap grew, the store did not -/
theorem Grow.same (s : Same H H') : Grow m S H m S H' := ⟨Nat.le_refl _, fun _ _ => rfl, fun _ o e => ⟨o, e, rfl⟩, fun a u e _ => s a u e, fun _ h1 h2 => absurd h2 (Nat.not_lt.mpr h1), fun a u e => ⟨u, s a u e⟩⟩
theorem Same.sqL {K : PySem.W.Frag} (s : Same H H') {a : Addr} {vs : List V} (h : SqL K H a vs) : SqL K H' a vs := s.seq h
theorem Same.sqT {K : PySem.W.Frag} (s : Same H H') {a : Addr} {vs : List V} (h : SqT K H a vs) : SqT K H' a vs := by
  rcases h with (h | ⟨o, h⟩) | h
  · exact .inl (.inl (s _ _ h))
  · exact .inl (.inr ⟨o, s _ _ h⟩)
  · exact .inr h
theorem Ext.same {K : PySem.W.Frag} {k : Nat} (s : Same H H') : Ext K m k H m k H' := ⟨fun _ _ => rfl, Nat.le_refl _, fun _ _ h => Same.sqT s h⟩
/-- an object of the store stays as it is where its place in the heap stays -/
theorem ORep.stay {k k' : Nat} {a : Addr} (e : Ext c.K m k H m' k' H') : ∀ {o : DO}, ORep c m k H o a → (∀ u, H a = some u → H' a = some u) → ORep c m' k' H' o a
  | .lst xs, h, s => by
    obtain ⟨vs, h1, h2⟩ := h
    exact ⟨vs, s _ h1, RepL.mono e _ _ h2⟩
  | .ro xs, h, s => by
    obtain ⟨vs, h1, h2⟩ := h
    refine ⟨vs, ?_, RepL.mono e _ _ h2⟩
    rcases h1 with ⟨o, h1⟩ | h1
    · exact .inl ⟨o, s _ h1⟩
    · exact .inr h1
  | .dk kvs, h, s => by
    obtain ⟨vs, h1, h2⟩ := h
    exact ⟨vs, s _ h1, RepKV.mono e h2⟩
  | .fk kvs, h, s => by
    obtain ⟨vs, od, h1, h2⟩ := h
    exact ⟨vs, od, s _ h1, RepKV.mono e h2⟩
  | .dn kvs, h, s => by
    obtain ⟨z, z2, es, h2, h3, h4⟩ := h
    exact ⟨z, z2, es, RepNV.mono e h2, h3, s _ h4⟩
  | .ins q fs, h, s => by
    obtain ⟨dx, fvs, h1, h2, h3, h4⟩ := h
    refine ⟨dx, fvs, s _ h1, h2, h3, fun j f hj => ⟨fun d hd => ?_, (h4 j f hj).2⟩⟩
    obtain ⟨v, e1, e2⟩ := (h4 j f hj).1 d hd
    exact ⟨v, e1, Rep.mono e _ _ e2⟩
/-- what stands where an object that changes stands -/
def mutH : Option HO → Bool
  | some (.lst _) => true
  | some (.dK _) => true
  | some (.ext _) => true
  | some (.ins _ _ _) => true
  | _ => false
theorem ORep.mut {k : Nat} {a : Addr} : ∀ {o : DO}, ORep c m k H o a → o.mk ≠ 0 → mutH (H a) = true
  | .lst xs, h, _ => by obtain ⟨_, h1, _⟩ := h; rw [h1]; rfl
  | .ro xs, _, h => absurd rfl h
  | .fk xs, _, h => absurd rfl h
  | .dk kvs, h, _ => by obtain ⟨_, h1, _⟩ := h; rw [h1]; rfl
  | .dn kvs, h, _ => by obtain ⟨_, _, _, _, _, h1⟩ := h; rw [h1]; rfl
  | .ins q fs, h, _ => by obtain ⟨_, _, h1, _⟩ := h; rw [h1]; rfl
theorem Mut_of {u : Option HO} (h : mutH u = true) : Mut u := by
  unfold mutH at h
  split at h <;> first | trivial | exact Bool.noConfusion h
/-- an object that is read alone does not hang on what changes -/
theorem ORep.ro {k k' : Nat} {a : Addr} {xs : List D} (e : Ext c.K m k H m' k' H') (h : ORep c m k H (.ro xs) a) (s : ∀ u, H a = some u → mutH (some u) = false → H' a = some u) : ORep c m' k' H' (.ro xs) a := by
  obtain ⟨vs, h1, h2⟩ := h
  refine ⟨vs, ?_, RepL.mono e _ _ h2⟩
  rcases h1 with ⟨o, h1⟩ | h1
  · exact .inl ⟨o, s _ h1 rfl⟩
  · exact .inr h1
theorem ORep.fk {k k' : Nat} {a : Addr} {xs : List (D × D)} (e : Ext c.K m k H m' k' H') (h : ORep c m k H (.fk xs) a) (s : ∀ u, H a = some u → mutH (some u) = false → H' a = some u) : ORep c m' k' H' (.fk xs) a := by
  obtain ⟨vs, od, h1, h2⟩ := h
  exact ⟨vs, od, s _ h1 rfl, RepKV.mono e h2⟩
theorem SRel.same (r : SRel c m S H) (s : Same H H') : SRel c m S H' := ⟨fun n o e => (r.obj n o e).stay (Ext.same s) fun u h => s _ u h, r.inj⟩
end
end Dl

set_option Elab.async false
set_option linter.all false
set_option maxRecDepth 100000
set_option maxHeartbeats 4000000
namespace Dl
open PySem PySem.Spec L2

/-! ### readings by plain functions -/
abbrev Env := List (Option D)
structure ERel (c : Ct) (m : Nat → Addr) (k : Nat) (H : Hp) (e : Env) (σ : St) : Prop where
  len : e.length = σ.length
  get : ∀ (i : Nat) (d : D), e[i]? = some (some d) → ∃ v, σ[i]? = some (some v) ∧ Rep c.K m k H d v
abbrev RelT (α β : Type) := (Nat → Addr) → Nat → Hp → α → β → Prop
def PostG {α β : Type} (c : Ct) (rel : RelT α β) (m : Nat → Addr) (S : Store) (H : Hp) (r : Rs α) (Q : β → Hp → Prop) (Z : Nat → Hp → Prop) : Prop := match r with
  | .ok a S' => ∀ b m' H', SRel c m' S' H' → Grow m S H m' S' H' → rel m' S'.length H' a b → Q b H'
  | .exc x S' => ∀ m' H', SRel c m' S' H' → Grow m S H m' S' H' → Z x H'
  | .stuck => False
abbrev relD (c : Ct) : RelT D V := fun m k H d v => Rep c.K m k H d v
abbrev relL (c : Ct) : RelT (List D) (List V) := fun m k H d v => RepL c.K m k H d v
abbrev relB : RelT Bool Bool := fun _ _ _ a b => a = b
abbrev Pz (c : Ct) (W : WX) (σ : St) : Nat → Hp → Prop := fun x H' => W (.ref (c.exc x)) none σ H'
/-- the state at a piece -/
structure At (c : Ct) (m : Nat → Addr) (S : Store) (H : Hp) (e : Env) (σ : St) : Prop where
  s : SRel c m S H
  e : ERel c m S.length H e σ
def tG {α β : Type} (c : Ct) (rel : RelT α β) (W : WX) (f : Env → Store → Rs α) : St → Hp → (β → Hp → Prop) → Prop := fun σ H Q =>
  ∃ m S e, At c m S H e σ ∧ PostG c rel m S H (f e S) Q (Pz c W σ)
abbrev DE := Env → Store → Rs D
abbrev DA := Env → Store → Rs (List D)
abbrev DT := Env → Store → Rs Bool
abbrev tD (c : Ct) (W : WX) (f : DE) : TE := tG c (relD c) W f
abbrev tL (c : Ct) (W : WX) (f : DA) : TA := tG c (relL c) W f
abbrev tT (c : Ct) (W : WX) (f : DT) : TT := tG c relB W f

section
variable {c : Ct} {m m' m1 m2 : Nat → Addr} {S S' S1 S2 : Store} {H H' H1 H2 : Hp} {e : Env} {σ : St} {W : WX} {α β γ δ : Type} {rel : RelT α β} {rel2 : RelT γ δ}
theorem ERel.grow (x : ERel c m S.length H e σ) (g : Grow m S H m' S' H') (r : SRel c m S H) : ERel c m' S'.length H' e σ :=
  ⟨x.len, fun i d h => by
    obtain ⟨v, e1, e2⟩ := x.get i d h
    exact ⟨v, e1, Rep.mono (g.ext r) _ _ e2⟩⟩
theorem At.grow (x : At c m S H e σ) (g : Grow m S H m' S' H') (r : SRel c m' S' H') : At c m' S' H' e σ := ⟨r, x.e.grow g x.s⟩
theorem ERel.set (x : ERel c m S.length H e σ) {d : D} {v : V} (h : Rep c.K m S.length H d v) (i : Nat) : ERel c m S.length H (e.set i (some d)) (σ.set i (some v)) := by
  refine ⟨by rw [List.length_set, List.length_set, x.len], fun j d' q => ?_⟩
  by_cases hj : i = j
  · subst hj
    have hl : i < e.length := by have := lt_of_get q; rwa [List.length_set] at this
    rw [List.getElem?_set_self hl] at q
    cases q
    exact ⟨v, by rw [List.getElem?_set_self (by rw [← x.len]; exact hl)], h⟩
  · rw [List.getElem?_set_ne hj] at q
    obtain ⟨u, e1, e2⟩ := x.get j d' q
    exact ⟨u, by rw [List.getElem?_set_ne hj]; exact e1, e2⟩
theorem PostG.grow {r : Rs α} {Q : β → Hp → Prop} {Z : Nat → Hp → Prop} (g : Grow m S H m1 S1 H1) (h : PostG c rel m S H r Q Z) : PostG c rel m1 S1 H1 r Q Z := by
  cases r with
  | ok a S' => exact fun b m' H' s' g' q => h b m' H' s' (g.trans g') q
  | exc x S' => exact fun m' H' s' g' => h m' H' s' (g.trans g')
  | stuck => exact h
theorem PostG.imp {r : Rs α} {Q Q' : β → Hp → Prop} {Z Z' : Nat → Hp → Prop} (h : PostG c rel m S H r Q Z) (hQ : ∀ b H', Q b H' → Q' b H') (hZ : ∀ x H', Z x H' → Z' x H') : PostG c rel m S H r Q' Z' := by
  cases r with
  | ok a S' => exact fun b m' H' s' g' q => hQ _ _ (h b m' H' s' g' q)
  | exc x S' => exact fun m' H' s' g' => hZ _ _ (h m' H' s' g')
  | stuck => exact h
/-- one piece behind another -/
theorem PostG.bind {r : Rs α} {k : α → Store → Rs γ} {Q : δ → Hp → Prop} {Z : Nat → Hp → Prop} (h : PostG c rel2 m S H (r.bind k) Q Z) :
    PostG c rel m S H r (fun b H1 => ∃ m1 S1 a, SRel c m1 S1 H1 ∧ Grow m S H m1 S1 H1 ∧ rel m1 S1.length H1 a b ∧ PostG c rel2 m1 S1 H1 (k a S1) Q Z) Z := by
  cases r with
  | ok a S1 => exact fun b m1 H1 s1 g1 q => ⟨m1, S1, a, s1, g1, q, PostG.grow g1 h⟩
  | exc x S1 => exact h
  | stuck => exact h
/-- a result that stands already -/
theorem PostG.here {a : α} {b : β} {Q : β → Hp → Prop} {Z : Nat → Hp → Prop} (h : PostG c rel m S H (.ok a S) Q Z) (r : SRel c m S H) (q : rel m S.length H a b) : Q b H := h b m H r Grow.refl q
/-- .. behind new things that the store does not hold -/
theorem PostG.same {a : α} {b : β} {Q : β → Hp → Prop} {Z : Nat → Hp → Prop} (h : PostG c rel m S H (.ok a S) Q Z) (r : SRel c m S H) (s : Same H H') (q : rel m S.length H' a b) : Q b H' :=
  h b m H' (r.same s) (Grow.same s) q
end

section
variable {X : Cx}
theorem PE.mono {e : Expr} {t t' : TE} (h : PE X e t) (w : ∀ σ H Q, t' σ H Q → t σ H Q) : PE X e t' := ⟨fun pins s σ H Q I q => h.run pins s σ H Q I (w _ _ _ q)⟩
theorem PT.mono {e : Expr} {t t' : TT} (h : PT X e t) (w : ∀ σ H Q, t' σ H Q → t σ H Q) : PT X e t' := ⟨fun pins s σ H Q I q => h.run pins s σ H Q I (w _ _ _ q)⟩
theorem PW.mono {e : Expr} {t t' : TT} (h : PW X e t) (w : ∀ σ H Q, t' σ H Q → t σ H Q) : PW X e t' := ⟨fun wh pins s σ H Q I q => h.run wh pins s σ H Q I (w _ _ _ q)⟩
theorem PA.mono {e : List Expr} {t t' : TA} (h : PA X e t) (w : ∀ σ H Q, t' σ H Q → t σ H Q) : PA X e t' := ⟨fun pos pins s σ H Q I q => h.run pos pins s σ H Q I (w _ _ _ q)⟩
theorem PS.mono {e : Stmt} {t t' : TS} (h : PS X e t) (w : ∀ σ H D, t' D σ H → t D σ H) : PS X e t' := ⟨fun pins s σ H D I q => h.run pins s σ H D I (w _ _ _ q)⟩
theorem PSs.mono {e : List Stmt} {t t' : TS} (h : PSs X e t) (w : ∀ σ H D, t' D σ H → t D σ H) : PSs X e t' := ⟨fun pins s σ H D I q => h.run pins s σ H D I (w _ _ _ q)⟩
end

/-! ### the functions -/
def cV (i : Nat) : DE := fun e S => match e[i]? with
  | some (some d) => .ok d S
  | _ => .stuck
def cC (d : D) : DE := fun _ S => .ok d S
def aN : DA := fun _ S => .ok [] S
def aC (f : DE) (g : DA) : DA := fun e S => (f e S).bind fun x S1 => (g e S1).bind fun xs S2 => .ok (x :: xs) S2
def cTup (g : DA) : DE := fun e S => (g e S).bind fun xs S1 => if xs.length ≤ 100000 then .ok (.tup xs) S1 else .stuck
def cLst (g : DA) : DE := fun e S => (g e S).bind fun xs S1 => if xs.length ≤ 100000 then .ok (.ref S1.length) (S1 ++ [.lst xs]) else .stuck
def cOp2 (g : Store → D → D → Rs D) (f1 f2 : DE) : DE := fun e S => (f1 e S).bind fun x S1 => (f2 e S1).bind fun y S2 => g S2 x y
def cOp1 (g : Store → D → Rs D) (f1 : DE) : DE := fun e S => (f1 e S).bind fun x S1 => g S1 x
def cIfE (t : DT) (f g : DE) : DE := fun e S => (t e S).bind fun b S1 => if b = true then f e S1 else g e S1
def cAnd (f g : DE) : DE := fun e S => (f e S).bind fun x S1 => match x with
  | .bl true => g e S1
  | .bl false => .ok (.bl false) S1
  | _ => .stuck
def cOr (f g : DE) : DE := fun e S => (f e S).bind fun x S1 => match x with
  | .bl true => .ok (.bl true) S1
  | .bl false => g e S1
  | _ => .stuck
def cNot (f : DE) : DE := fun e S => (f e S).bind fun x S1 => match x with
  | .bl b => .ok (.bl (!b)) S1
  | _ => .stuck
/-- tests -/
def kB (f : DE) : DT := fun e S => (f e S).bind fun x S1 => match x with
  | .bl b => .ok b S1
  | _ => .stuck
def kAnd (f g : DT) : DT := fun e S => (f e S).bind fun b S1 => if b = true then g e S1 else .ok false S1
def kOr (f g : DT) : DT := fun e S => (f e S).bind fun b S1 => if b = true then .ok true S1 else g e S1
def kNot (f : DT) : DT := fun e S => (f e S).bind fun b S1 => .ok (!b) S1

section
variable {X : Cx} {c : Ct} {W : WX} {a b : Expr} {pos : Pos}
theorem bind_at {α β γ δ : Type} {rel : RelT α β} {rel2 : RelT γ δ} {f : Env → Store → Rs α} {k : α → Store → Rs γ} {m : Nat → Addr} {S : Store} {e : Env} {σ : St} {H : Hp} {Q : δ → Hp → Prop} {R : β → Hp → Prop}
    (A : At c m S H e σ) (p : PostG c rel2 m S H ((f e S).bind k) Q (Pz c W σ))
    (hk : ∀ m1 S1 a b H1, At c m1 S1 H1 e σ → Grow m S H m1 S1 H1 → rel m1 S1.length H1 a b → PostG c rel2 m1 S1 H1 (k a S1) Q (Pz c W σ) → R b H1) : tG c rel W f σ H R :=
  ⟨m, S, e, A, (PostG.bind (rel := rel) p).imp (fun b H1 ⟨m1, S1, a, s1, g1, q, p1⟩ => hk m1 S1 a b H1 (A.grow g1 s1) g1 q p1) fun _ _ z => z⟩
theorem dv (i : Nat) {x : Str} {p : Pos} (hN : X.N[i]? = some x := by rfl) (hv : Vis X.env.scope x := by first | exact Or.inl rfl | exact Or.inr (Or.inl rfl) | exact Or.inr (Or.inr rfl)) (hd : (x == ("__debug__" : Str)) = false := by decide)
    (hcd : (x == ("__classdict__" : Str)) = false := by decide) : PE X (.Name x p) (tD c W (cV i)) := by
  refine PE.mono (pe_var (i := i) hN hv hd hcd) fun σ H Q h => ?_
  obtain ⟨m, S, e, A, p⟩ := h
  unfold cV at p
  cases q : e[i]? with
  | none => rw [q] at p; exact p.elim
  | some o =>
    cases o with
    | none => rw [q] at p; exact p.elim
    | some d =>
      rw [q] at p
      obtain ⟨v, e1, e2⟩ := A.e.get i d q
      exact ⟨v, e1, p.here A.s e2⟩
theorem d_const {e : Expr} {d : D} {v : V} (h : PE X e (tC v)) (r : ∀ m k H, Rep c.K m k H d v) : PE X e (tD c W (cC d)) := by
  refine PE.mono h fun σ H Q q => ?_
  obtain ⟨m, S, e, A, p⟩ := q
  exact p.here A.s (r _ _ _)
theorem d_int {i : Int} {j p} : PE X (.Constant (.int i) j p) (tD c W (cC (.int i))) := d_const pe_int fun _ _ _ => rfl
theorem d_bl {i : Bool} {j p} : PE X (.Constant (.bool i) j p) (tD c W (cC (.bl i))) := d_const pe_bl fun _ _ _ => rfl
theorem d_non {j p} : PE X (.Constant .none j p) (tD c W (cC .non)) := d_const pe_non fun _ _ _ => rfl
theorem d_str {x : Str} {z : List Nat} {j p} (h : x = ⟨z.toArray⟩) : PE X (.Constant (.str x) j p) (tD c W (cC (.str z))) := d_const pe_str fun _ _ _ => by subst h; rfl
theorem da_nil : PA X [] (tL c W aN) := by
  refine PA.mono pa_nil fun σ H Q h => ?_
  obtain ⟨m, S, e, A, p⟩ := h
  exact p.here A.s RepL.nil
theorem da_cons {e : Expr} {es : List Expr} {f : DE} {g : DA} (ha : PE X e (tD c W f)) (hr : PA X es (tL c W g)) (hs : starEach (e :: es) X.env = (false, eval e X.env) :: starEach es X.env := by rfl) : PA X (e :: es) (tL c W (aC f g)) := by
  refine PA.mono (pa_cons ha hr hs) fun σ H Q ⟨m, S, e, A, p⟩ => ?_
  refine bind_at A p fun m1 S1 x v H1 A1 g1 q1 p1 => ?_
  refine bind_at A1 p1 fun m2 S2 xs vs H2 A2 g2 q2 p2 => ?_
  exact p2.here A2.s (RepL.cons (Rep.mono (g2.ext A1.s) _ _ q1) q2)
/-- a new tuple -/
theorem new_tup {m : Nat → Addr} {S : Store} {H : Hp} {xs : List D} {vs : List V} {Q : VK} {Z : Nat → Hp → Prop} (r : SRel c m S H) (q : RepL c.K m S.length H xs vs) (p : PostG c (relD c) m S H (.ok (.tup xs) S) Q Z) (t : Addr) (ht : H t = none) : Q (.ref t) (upd H t (.tup vs)) := by
  have s : Same H (upd H t (.tup vs)) := fun a o h => by rw [upd_ne (ne_of_none h ht)]; exact h
  refine p.same r s ?_
  show Rep c.K m S.length _ (.tup xs) (.ref t)
  unfold Rep
  exact ⟨t, vs, rfl, .of upd_same, RepL.mono (Ext.same s) _ _ q⟩
/-- a new object -/
theorem SRel.push {m : Nat → Addr} {S : Store} {H : Hp} {o : DO} {u : HO} {t : Addr} (r : SRel c m S H) (ht : H t = none) (ho : o.mk ≠ 0) (q : ORep c (fun i => if i = S.length then t else m i) (S.length + 1) (upd H t u) o t) :
    SRel c (fun i => if i = S.length then t else m i) (S ++ [o]) (upd H t u) ∧ Grow m S H (fun i => if i = S.length then t else m i) (S ++ [o]) (upd H t u) := by
  have s : Same H (upd H t u) := fun a o h => by rw [upd_ne (ne_of_none h ht)]; exact h
  have ex : Ext c.K m S.length H (fun i => if i = S.length then t else m i) (S.length + 1) (upd H t u) := ⟨fun i hi => if_neg (Nat.ne_of_lt hi), Nat.le_succ _, fun a vs h => Same.sqT s h⟩
  have ln : (S ++ [o]).length = S.length + 1 := by simp
  refine ⟨⟨fun n ob e => ?_, fun i j o1 o2 e1 e2 k1 k2 e => ?_⟩, ⟨by rw [ln]; exact Nat.le_succ _, fun i hi => if_neg (Nat.ne_of_lt hi), fun i ob e => ⟨ob, ?_, rfl⟩, fun a v e _ => s a v e, fun i h1 h2 => ?_, fun a v e => ⟨v, s a v e⟩⟩⟩
  · rw [ln]
    by_cases hn : n < S.length
    · rw [List.getElem?_append_left hn] at e
      show ORep c _ _ _ ob (if n = S.length then t else m n)
      rw [if_neg (Nat.ne_of_lt hn)]
      exact (r.obj n ob e).stay ex fun v h => s _ v h
    · have hl := lt_of_get e
      rw [ln] at hl
      have : n = S.length := by omega
      subst this
      rw [List.getElem?_append_right (Nat.le_refl _)] at e
      simp at e
      subst e
      show ORep c _ _ _ o (if S.length = S.length then t else m S.length)
      rw [if_pos rfl]
      exact q
  · have old : ∀ (i : Nat) (x : DO), S[i]? = some x → x.mk ≠ 0 → m i ≠ t := fun i x e1 k1 z => by
      have h := (r.obj i x e1).mut k1
      rw [z, ht] at h
      exact Bool.noConfusion h
    have cs : ∀ (i : Nat) (x : DO), (S ++ [o])[i]? = some x → (i < S.length ∧ S[i]? = some x ∧ (if i = S.length then t else m i) = m i) ∨ (i = S.length ∧ (if i = S.length then t else m i) = t) := fun i x e1 => by
      have hl := lt_of_get e1
      rw [ln] at hl
      by_cases hn : i < S.length
      · rw [List.getElem?_append_left hn] at e1
        exact .inl ⟨hn, e1, if_neg (Nat.ne_of_lt hn)⟩
      · have : i = S.length := by omega
        exact .inr ⟨this, if_pos this⟩
    rcases cs i _ e1 with ⟨a1, a2, a3⟩ | ⟨a1, a3⟩
    · rcases cs j _ e2 with ⟨b1, b2, b3⟩ | ⟨b1, b3⟩
      · exact r.inj i j _ _ a2 b2 k1 k2 (by rw [← a3, ← b3]; exact e)
      · exact absurd (a3.symm.trans (e.trans b3)) (old i _ a2 k1)
    · rcases cs j _ e2 with ⟨b1, b2, b3⟩ | ⟨b1, b3⟩
      · exact absurd (b3.symm.trans (e.symm.trans a3)) (old j _ b2 k2)
      · exact a1.trans b1.symm
  · have hl := lt_of_get e
    rw [List.getElem?_append_left hl]; exact e
  · rw [ln] at h2
    have : i = S.length := by omega
    subst this
    show H (if S.length = S.length then t else m S.length) = none
    rw [if_pos rfl]; exact ht
end
end Dl

set_option Elab.async false
set_option linter.all false
set_option maxRecDepth 100000
set_option maxHeartbeats 4000000
namespace Dl
open PySem PySem.Spec L2

/-! ### expressions -/
/-- an operator by values -/
def OpD (c : Ct) (r : R2) (g : Store → D → D → Rs D) : Prop := ∀ (m : Nat → Addr) (S : Store) (H : Hp) (x y : D) (vx vy : V) (Q : VK) (Z : Nat → Hp → Prop),
  SRel c m S H → Rep c.K m S.length H x vx → Rep c.K m S.length H y vy → PostG c (relD c) m S H (g S x y) Q Z → r vx vy H Q
def OpD1 (c : Ct) (r : V → Hp → VK → Prop) (g : Store → D → Rs D) : Prop := ∀ (m : Nat → Addr) (S : Store) (H : Hp) (x : D) (vx : V) (Q : VK) (Z : Nat → Hp → Prop),
  SRel c m S H → Rep c.K m S.length H x vx → PostG c (relD c) m S H (g S x) Q Z → r vx H Q
def OpDL (c : Ct) (r : List V → Hp → VK → Prop) (g : Store → List D → Rs D) : Prop := ∀ (m : Nat → Addr) (S : Store) (H : Hp) (x : List D) (vx : List V) (Q : VK) (Z : Nat → Hp → Prop),
  SRel c m S H → RepL c.K m S.length H x vx → PostG c (relD c) m S H (g S x) Q Z → r vx H Q
def cCall (g : Store → List D → Rs D) (f : DA) : DE := fun e S => (f e S).bind fun xs S1 => g S1 xs

section
variable {X : Cx} {c : Ct} {W : WX} {a b : Expr} {pos : Pos} {f f1 f2 : DE} {g g' : DA} {t t1 t2 : DT}
theorem two_tD {r : R2} {gg : Store → D → D → Rs D} (hg : OpD c r gg) {σ : St} {H : Hp} {Q : VK} (h : tD c W (cOp2 gg f1 f2) σ H Q) : tD c W f1 σ H fun x H1 => tD c W f2 σ H1 fun y H2 => r x y H2 Q := by
  obtain ⟨m, S, e, A, p⟩ := h
  refine bind_at A p fun m1 S1 x v H1 A1 g1 q1 p1 => ?_
  refine bind_at A1 p1 fun m2 S2 y u H2 A2 g2 q2 p2 => ?_
  exact hg m2 S2 H2 x y v u Q _ A2.s (Rep.mono (g2.ext A1.s) _ _ q1) q2 p2
theorem d_op {op : Operator} {r : R2} {gg : Store → D → D → Rs D} (ho : OpR X (binaryOp op) r) (hg : OpD c r gg) (ha : PE X a (tD c W f1)) (hb : PE X b (tD c W f2)) : PE X (.BinOp a op b pos) (tD c W (cOp2 gg f1 f2)) :=
  PE.mono (pe_op ho ha hb) fun _ _ _ h => two_tD hg h
theorem d_cmp {op : CmpOp} {r : R2} {gg : Store → D → D → Rs D} (ho : OpR X (compareOp op) r) (hg : OpD c r gg) (ha : PE X a (tD c W f1)) (hb : PE X b (tD c W f2)) (hm : behindInMarks op b = false) : PE X (.Compare a [op] [b] pos) (tD c W (cOp2 gg f1 f2)) :=
  PE.mono (pe_cmpR ho ha hb hm) fun _ _ _ h => two_tD hg h
theorem k_cmp {op : CmpOp} {r : R2} {gg : Store → D → D → Rs D} (ho : OpR X (compareOp op) r) (hg : OpD c r gg) (ha : PE X a (tD c W f1)) (hb : PE X b (tD c W f2)) (hm : behindInMarks op b = false) : PT X (.Compare a [op] [b] pos) (tT c W (kB (cOp2 gg f1 f2))) := by
  refine PT.mono (pt_cmpR ho ha hb hm) fun σ H Q h => ?_
  obtain ⟨m, S, e, A, p⟩ := h
  have z : tD c W (cOp2 gg f1 f2) σ H fun x H1 => ∃ k, x = .bl k ∧ Q k H1 := by
    refine bind_at (k := fun x S1 => match x with | .bl b => .ok b S1 | _ => .stuck) A p fun m1 S1 x v H1 A1 g1 q1 p1 => ?_
    cases x with
    | bl k => exact ⟨k, q1, p1.here A1.s rfl⟩
    | non => exact p1.elim
    | int _ => exact p1.elim
    | str _ => exact p1.elim
    | tup _ => exact p1.elim
    | ref _ => exact p1.elim
  exact two_tD hg z
/-- an expression that gives a truth, as a test -/
theorem k_val {e : Expr} (h : PE X e (tD c W f)) (he : ∀ whole, isTrue e X.env whole = (do let v ← whole; standAt e.pos; holding [v] (truthy v)) := by intro _; rfl) : PT X e (tT c W (kB f)) := by
  refine PT.mono (pt_val h he) fun σ H Q h => ?_
  obtain ⟨m, S, e, A, p⟩ := h
  refine bind_at (k := fun x S1 => match x with | .bl b => .ok b S1 | _ => .stuck) A p fun m1 S1 x v H1 A1 g1 q1 p1 => ?_
  cases x with
  | bl k => exact ⟨k, q1, p1.here A1.s rfl⟩
  | non => exact p1.elim
  | int _ => exact p1.elim
  | str _ => exact p1.elim
  | tup _ => exact p1.elim
  | ref _ => exact p1.elim
theorem d_ifE {e : Expr} (ht : PT X e (tT c W t)) (ha : PE X a (tD c W f1)) (hb : PE X b (tD c W f2)) : PE X (.IfExp e a b pos) (tD c W (cIfE t f1 f2)) := by
  refine PE.mono (pe_ifExp ht ha hb) fun σ H Q ⟨m, S, e, A, p⟩ => ?_
  refine bind_at A p fun m1 S1 x v H1 A1 g1 q1 p1 => ?_
  cases q1
  cases x with
  | true => exact ⟨m1, S1, e, A1, p1⟩
  | false => exact ⟨m1, S1, e, A1, p1⟩
theorem k_one_and (ha : PT X a (tT c W t)) : PW X (.BoolOp .And [a] pos) (tT c W t) := pw_and1 ha
theorem k_one_or (ha : PT X a (tT c W t)) : PW X (.BoolOp .Or [a] pos) (tT c W t) := pw_or1 ha
theorem k_and {rest : List Expr} (ha : PT X a (tT c W t1)) (hb : PW X (.BoolOp .And (b :: rest) pos) (tT c W t2)) : PW X (.BoolOp .And (a :: b :: rest) pos) (tT c W (kAnd t1 t2)) := by
  refine PW.mono (pw_and ha hb) fun σ H Q ⟨m, S, e, A, p⟩ => ?_
  refine bind_at A p fun m1 S1 x v H1 A1 g1 q1 p1 => ?_
  cases q1
  cases x with
  | true => exact ⟨m1, S1, e, A1, p1⟩
  | false => exact p1.here A1.s rfl
theorem k_or {rest : List Expr} (ha : PT X a (tT c W t1)) (hb : PW X (.BoolOp .Or (b :: rest) pos) (tT c W t2)) : PW X (.BoolOp .Or (a :: b :: rest) pos) (tT c W (kOr t1 t2)) := by
  refine PW.mono (pw_or ha hb) fun σ H Q ⟨m, S, e, A, p⟩ => ?_
  refine bind_at A p fun m1 S1 x v H1 A1 g1 q1 p1 => ?_
  cases q1
  cases x with
  | true => exact p1.here A1.s rfl
  | false => exact ⟨m1, S1, e, A1, p1⟩
theorem k_not (ha : PT X a (tT c W t)) : PT X (.UnaryOp .Not a pos) (tT c W (kNot t)) := by
  refine PT.mono (pt_not ha) fun σ H Q ⟨m, S, e, A, p⟩ => ?_
  refine bind_at A p fun m1 S1 x v H1 A1 g1 q1 p1 => ?_
  cases q1
  exact p1.here A1.s rfl
theorem d_one {op : BoolOp} (h : PE X a (tD c W f)) : PE X (.BoolOp op [a] pos) (tD c W f) := pe_one h
theorem d_and {rest : List Expr} (ha : PE X a (tD c W f1)) (hb : PE X (.BoolOp .And (b :: rest) pos) (tD c W f2)) : PE X (.BoolOp .And (a :: b :: rest) pos) (tD c W (cAnd f1 f2)) := by
  refine PE.mono (pe_and ha hb) fun σ H Q ⟨m, S, e, A, p⟩ => ?_
  refine bind_at A p fun m1 S1 x v H1 A1 g1 q1 p1 => ?_
  cases x with
  | bl k =>
    refine ⟨k, q1, ?_⟩
    cases k with
    | true => exact ⟨m1, S1, e, A1, p1⟩
    | false => exact p1.here A1.s rfl
  | non => exact p1.elim
  | int _ => exact p1.elim
  | str _ => exact p1.elim
  | tup _ => exact p1.elim
  | ref _ => exact p1.elim
theorem d_or {rest : List Expr} (ha : PE X a (tD c W f1)) (hb : PE X (.BoolOp .Or (b :: rest) pos) (tD c W f2)) : PE X (.BoolOp .Or (a :: b :: rest) pos) (tD c W (cOr f1 f2)) := by
  refine PE.mono (pe_or ha hb) fun σ H Q ⟨m, S, e, A, p⟩ => ?_
  refine bind_at A p fun m1 S1 x v H1 A1 g1 q1 p1 => ?_
  cases x with
  | bl k =>
    refine ⟨k, q1, ?_⟩
    cases k with
    | true => exact p1.here A1.s rfl
    | false => exact ⟨m1, S1, e, A1, p1⟩
  | non => exact p1.elim
  | int _ => exact p1.elim
  | str _ => exact p1.elim
  | tup _ => exact p1.elim
  | ref _ => exact p1.elim
theorem d_not (ha : PE X a (tD c W f)) : PE X (.UnaryOp .Not a pos) (tD c W (cNot f)) := by
  refine PE.mono (pe_not ha) fun σ H Q ⟨m, S, e, A, p⟩ => ?_
  refine bind_at A p fun m1 S1 x v H1 A1 g1 q1 p1 => ?_
  cases x with
  | bl k => exact ⟨k, q1, p1.here A1.s rfl⟩
  | non => exact p1.elim
  | int _ => exact p1.elim
  | str _ => exact p1.elim
  | tup _ => exact p1.elim
  | ref _ => exact p1.elim
theorem small5 {n : Nat} (h : n ≤ 100000) : n < sizeLine := Nat.lt_of_le_of_lt h (by decide)
theorem d_tup {es : List Expr} {x1} (h : PA X es (tL c W g)) : PE X (.Tuple es x1 pos) (tD c W (cTup g)) := by
  refine PE.mono (pe_tup h) fun σ H Q ⟨m, S, e, A, p⟩ => ?_
  refine bind_at (k := fun xs S1 => if xs.length ≤ 100000 then Rs.ok (D.tup xs) S1 else .stuck) A p fun m1 S1 xs vs H1 A1 g1 q1 p1 => ?_
  by_cases hz : xs.length ≤ 100000
  · rw [if_pos hz] at p1
    exact ⟨by rw [RepL.len q1]; exact Nat.le_of_lt (small5 hz), fun t ht => new_tup A1.s q1 p1 t ht⟩
  · rw [if_neg hz] at p1; exact p1.elim
theorem new_lst {m : Nat → Addr} {S : Store} {H : Hp} {xs : List D} {vs : List V} {Q : VK} {Z : Nat → Hp → Prop} (r : SRel c m S H) (q : RepL c.K m S.length H xs vs) (p : PostG c (relD c) m S H (.ok (.ref S.length) (S ++ [.lst xs])) Q Z) (t : Addr) (ht : H t = none) : Q (.ref t) (upd H t (.lst vs)) := by
  have s : Same H (upd H t (.lst vs)) := fun a o h => by rw [upd_ne (ne_of_none h ht)]; exact h
  obtain ⟨r', g'⟩ := r.push (o := .lst xs) (u := .lst vs) ht (fun z => nomatch z) ⟨vs, upd_same, RepL.mono ⟨fun i hi => if_neg (Nat.ne_of_lt hi), Nat.le_succ _, fun a vs h => Same.sqT s h⟩ _ _ q⟩
  refine p (.ref t) _ _ r' g' ?_
  show Rep c.K _ _ _ (.ref S.length) (.ref t)
  unfold Rep
  exact ⟨by simp, by rw [if_pos rfl]⟩
theorem d_lst {es : List Expr} (h : PA X es (tL c W g)) : PE X (.List es pos) (tD c W (cLst g)) := by
  refine PE.mono (pe_lst h) fun σ H Q ⟨m, S, e, A, p⟩ => ?_
  refine bind_at (k := fun xs S1 => if xs.length ≤ 100000 then Rs.ok (D.ref S1.length) (S1 ++ [.lst xs]) else .stuck) A p fun m1 S1 xs vs H1 A1 g1 q1 p1 => ?_
  by_cases hz : xs.length ≤ 100000
  · rw [if_pos hz] at p1
    exact ⟨by rw [RepL.len q1]; exact Nat.le_of_lt (small5 hz), fun t ht => new_lst A1.s q1 p1 t ht⟩
  · rw [if_neg hz] at p1; exact p1.elim
theorem list_tD {r : List V → Hp → VK → Prop} {gg : Store → List D → Rs D} (hg : OpDL c r gg) {σ : St} {H : Hp} {Q : VK} (h : tD c W (cCall gg g) σ H Q) : tL c W g σ H fun xs H1 => r xs H1 Q := by
  obtain ⟨m, S, e, A, p⟩ := h
  refine bind_at A p fun m1 S1 x v H1 A1 g1 q1 p1 => ?_
  exact hg m1 S1 H1 x v Q _ A1.s q1 p1
variable {x : Str} {p : Pos} {e : Expr} {es : List Expr} {id T : String} {r : List V → Hp → VK → Prop} {gg : Store → List D → Rs D}
theorem d_callB (hc : CallR X (.builtin id) r) (hd : OpDL c r gg) (hg : Gl X x) (hm : X.mg x = none) (hv : bootBuiltins x = some (.builtin id)) (ha : PA X (e :: es) (tL c W g)) (hn : x ≠ "__name__" := by decide) (hdb : (x == ("__debug__" : Str)) = false := by decide)
    (he : starEach (e :: es) X.env = (false, eval e X.env) :: starEach es X.env := by rfl) (hpl : (backTo pos (starEach es X.env)).any (·.1) = false := by rfl) : PE X (.Call (.Name x p) (e :: es) [] pos) (tD c W (cCall gg g)) :=
  PE.mono (pe_callB hc hg hm hv ha hn hdb he hpl) fun _ _ _ h => list_tD hd h
theorem d_callTy (hc : CallR X (.type T) r) (hd : OpDL c r gg) (hg : Gl X x) (hm : X.mg x = none) (hv : bootBuiltins x = some (.type T)) (ha : PA X (e :: es) (tL c W g)) (hn : x ≠ "__name__" := by decide) (hdb : (x == ("__debug__" : Str)) = false := by decide)
    (he : starEach (e :: es) X.env = (false, eval e X.env) :: starEach es X.env := by rfl) (hpl : (backTo pos (starEach es X.env)).any (·.1) = false := by rfl) : PE X (.Call (.Name x p) (e :: es) [] pos) (tD c W (cCall gg g)) :=
  PE.mono (pe_callTy hc hg hm hv ha hn hdb he hpl) fun _ _ _ h => list_tD hd h
theorem d_ix {r : R2} {gg : Store → D → D → Rs D} (hr : IxR X r) (hg : OpD c r gg) (ha : PE X a (tD c W f1)) (hb : PE X b (tD c W f2)) (hs : PlainIx b := by intro _ _; rfl) : PE X (.Subscript a b pos) (tD c W (cOp2 gg f1 f2)) :=
  PE.mono (pe_ix hr ha hb hs) fun _ _ _ h => two_tD hg h
end
end Dl

set_option Elab.async false
set_option linter.all false
set_option maxRecDepth 100000
set_option maxHeartbeats 4000000
namespace Dl
open PySem PySem.Spec L2

/-! ### a def of the text, called -/
mutual
def D.sh (n : Nat) : D → D
  | .ref i => .ref (i + n)
  | .tup xs => .tup (D.shL n xs)
  | .non => .non
  | .bl b => .bl b
  | .int i => .int i
  | .str s => .str s
def D.shL (n : Nat) : List D → List D
  | [] => []
  | x :: xs => x.sh n :: D.shL n xs
end
def shKV (n : Nat) : List (D × D) → List (D × D)
  | [] => []
  | p :: r => (p.1, p.2.sh n) :: shKV n r
def shO (n : Nat) : List (Option D) → List (Option D)
  | [] => []
  | none :: r => none :: shO n r
  | some d :: r => some (d.sh n) :: shO n r
def DO.sh (n : Nat) : DO → DO
  | .lst xs => .lst (D.shL n xs)
  | .ro xs => .ro (D.shL n xs)
  | .dk kvs => .dk (shKV n kvs)
  | .dn kvs => .dn (shKV n kvs)
  | .ins q fs => .ins q (shO n fs)
  | .fk kvs => .fk (shKV n kvs)
abbrev Fn := List D → Store → Rs D
/-- a call: where no object is handed in, the callee begins with a store of its own -/
def runF (F : Fn) (S : Store) (ds : List D) : Rs D :=
  if D.pureL ds = true then
    match F ds [] with
    | .ok d T => if d.pure = true then .ok d S else .ok (d.sh S.length) (S ++ T.map (DO.sh S.length))
    | .exc x _ => .exc x S
    | .stuck => .stuck
  else F ds S
def spD (c : Ct) (n : Nat) (F : Fn) : Sp := fun vs H Q E => ∃ m S ds, ds.length = n ∧ SRel c m S H ∧ RepL c.K m S.length H ds vs ∧
  PostG c (relD c) m S H (F ds S) Q fun x H' => E (.ref (c.exc x)) none H'

section
variable {K : PySem.W.Frag} {m m' : Nat → Addr} {k k' n : Nat} {H H' : Hp}
mutual
theorem Rep.pure : ∀ (d : D) (v : V), d.pure = true → Rep K m k H d v → Rep K m' k' H d v
  | .non, _, _, h => h
  | .bl _, _, _, h => h
  | .int _, _, _, h => h
  | .str _, _, _, h => h
  | .tup xs, v, q, h => by
    unfold Rep at h ⊢
    obtain ⟨a, vs, e1, h1, h2⟩ := h
    exact ⟨a, vs, e1, h1, RepL.pure xs vs (by unfold D.pure at q; exact q) h2⟩
  | .ref n, v, q, _ => by unfold D.pure at q; exact Bool.noConfusion q
theorem RepL.pure : ∀ (xs : List D) (vs : List V), D.pureL xs = true → RepL K m k H xs vs → RepL K m' k' H xs vs
  | [], _, _, h => h
  | x :: xs, vs, q, h => by
    unfold D.pureL at q
    obtain ⟨q1, q2⟩ := (Bool.and_eq_true_iff).mp q
    obtain ⟨v, r, rfl, h1, h2⟩ := RepL.cons_iff.mp h
    exact RepL.cons (Rep.pure x v q1 h1) (RepL.pure xs r q2 h2)
end
mutual
theorem Rep.shift (hm : ∀ i, i < k → m' (i + n) = m i) (hk : k + n ≤ k') : ∀ (d : D) (v : V), Rep K m k H d v → Rep K m' k' H (d.sh n) v
  | .non, _, h => by unfold D.sh; exact h
  | .bl _, _, h => by unfold D.sh; exact h
  | .int _, _, h => by unfold D.sh; exact h
  | .str _, _, h => by unfold D.sh; exact h
  | .tup xs, v, h => by
    unfold Rep at h
    obtain ⟨a, vs, e1, h1, h2⟩ := h
    unfold D.sh Rep
    exact ⟨a, vs, e1, h1, RepL.shift hm hk xs vs h2⟩
  | .ref i, v, h => by
    unfold Rep at h
    unfold D.sh Rep
    exact ⟨Nat.lt_of_lt_of_le (Nat.add_lt_add_right h.1 n) hk, by rw [hm i h.1]; exact h.2⟩
theorem RepL.shift (hm : ∀ i, i < k → m' (i + n) = m i) (hk : k + n ≤ k') : ∀ (xs : List D) (vs : List V), RepL K m k H xs vs → RepL K m' k' H (D.shL n xs) vs
  | [], _, h => by unfold D.shL; exact h
  | x :: xs, vs, h => by
    obtain ⟨v, r, rfl, h1, h2⟩ := RepL.cons_iff.mp h
    unfold D.shL
    exact RepL.cons (Rep.shift hm hk x v h1) (RepL.shift hm hk xs r h2)
end
theorem RepKV.shift (hm : ∀ i, i < k → m' (i + n) = m i) (hk : k + n ≤ k') : ∀ {kvs : List (D × D)} {ws : List (Key × V)}, RepKV K m k H kvs ws → RepKV K m' k' H (shKV n kvs) ws
  | [], _, h => h
  | p :: r, ws, h => by
    unfold RepKV at h
    obtain ⟨q, v, t, e1, e2, e3, e4⟩ := h
    unfold shKV RepKV
    exact ⟨q, v, t, e1, e2, Rep.shift hm hk _ _ e3, RepKV.shift hm hk e4⟩
theorem RepNV.shift (hm : ∀ i, i < k → m' (i + n) = m i) (hk : k + n ≤ k') : ∀ {kvs : List (D × D)} {ws : List (NestedKey × Addr × V)}, RepNV K m k H kvs ws → RepNV K m' k' H (shKV n kvs) ws
  | [], _, h => h
  | p :: r, ws, h => by
    unfold RepNV at h
    obtain ⟨q, v, t, e1, e2, e3, e4, e5, e6, e7⟩ := h
    unfold shKV RepNV
    exact ⟨q, v, t, e1, e2, e3, e4, Rep.pure _ _ e3 e5, Rep.shift hm hk _ _ e6, RepNV.shift hm hk e7⟩
theorem shO_get : ∀ (fs : List (Option D)) (j : Nat), (shO n fs)[j]? = (fs[j]?).map fun o => o.map (D.sh n)
  | [], j => by unfold shO; simp
  | none :: r, 0 => by unfold shO; simp
  | some d :: r, 0 => by unfold shO; simp
  | none :: r, j + 1 => by unfold shO; simpa using shO_get r j
  | some d :: r, j + 1 => by unfold shO; simpa using shO_get r j
theorem shKV_len : ∀ (kvs : List (D × D)), (shKV n kvs).length = kvs.length
  | [] => rfl
  | p :: r => by unfold shKV; rw [List.length_cons, List.length_cons, shKV_len r]
theorem DO.sh_kind : ∀ o : DO, (o.sh n).kind = o.kind := by intro o; cases o <;> rfl
theorem DO.sh_mk : ∀ o : DO, (o.sh n).mk = o.mk := by intro o; cases o <;> rfl
theorem ORep.shift {c : Ct} {a : Addr} (hm : ∀ i, i < k → m' (i + n) = m i) (hk : k + n ≤ k') : ∀ {o : DO}, ORep c m k H o a → ORep c m' k' H (o.sh n) a
  | .lst xs, h => by
    obtain ⟨vs, h1, h2⟩ := h
    exact ⟨vs, h1, RepL.shift hm hk _ _ h2⟩
  | .ro xs, h => by
    obtain ⟨vs, h1, h2⟩ := h
    exact ⟨vs, h1, RepL.shift hm hk _ _ h2⟩
  | .dk kvs, h => by
    obtain ⟨vs, h1, h2⟩ := h
    exact ⟨vs, h1, RepKV.shift hm hk h2⟩
  | .fk kvs, h => by
    obtain ⟨vs, od, h1, h2⟩ := h
    exact ⟨vs, od, h1, RepKV.shift hm hk h2⟩
  | .dn kvs, h => by
    obtain ⟨z, z2, es, h2, h3, h4⟩ := h
    exact ⟨z, by rw [shKV_len]; exact z2, es, RepNV.shift hm hk h2, h3, h4⟩
  | .ins q fs, h => by
    obtain ⟨dx, fvs, h1, h2, h3, h4⟩ := h
    refine ⟨dx, fvs, h1, h2, h3, fun j f hj => ⟨fun d hd => ?_, fun hd => (h4 j f hj).2 ?_⟩⟩
    · rw [shO_get] at hd
      cases e : fs[j]? with
      | none => rw [e] at hd; cases hd
      | some o =>
        cases o with
        | none => rw [e] at hd; cases hd
        | some d0 =>
          rw [e] at hd
          cases hd
          obtain ⟨v, e1, e2⟩ := (h4 j f hj).1 d0 e
          exact ⟨v, e1, Rep.shift hm hk _ _ e2⟩
    · rw [shO_get] at hd
      cases e : fs[j]? with
      | none => rw [e] at hd; cases hd
      | some o =>
        cases o with
        | none => rfl
        | some d0 => rw [e] at hd; cases hd
end

section
variable {c : Ct}
theorem SRel.nil (c : Ct) (m : Nat → Addr) (H : Hp) : SRel c m [] H := ⟨fun n o e => by simp at e, fun i j o u e => by simp at e⟩
/-- the callee's own store behind the caller's -/
theorem SRel.glue {m m' : Nat → Addr} {S T : Store} {H H' : Hp} (r : SRel c m S H) (s : SRel c m' T H') (g : Grow m [] H m' T H') :
    SRel c (fun i => if i < S.length then m i else m' (i - S.length)) (S ++ T.map (DO.sh S.length)) H' ∧ Grow m S H (fun i => if i < S.length then m i else m' (i - S.length)) (S ++ T.map (DO.sh S.length)) H' := by
  have sm : Same H H' := fun a u h => g.frame a u h fun i o e => by simp at e
  have ln : (S ++ T.map (DO.sh S.length)).length = S.length + T.length := by simp
  have ex : Ext c.K m S.length H (fun i => if i < S.length then m i else m' (i - S.length)) (S.length + T.length) H' := ⟨fun i hi => if_pos hi, Nat.le_add_right _ _, fun a vs h => Same.sqT sm h⟩
  have cs : ∀ (i : Nat) (x : DO), (S ++ T.map (DO.sh S.length))[i]? = some x → (i < S.length ∧ S[i]? = some x) ∨ (S.length ≤ i ∧ ∃ y, T[i - S.length]? = some y ∧ x = y.sh S.length) := fun i x e => by
    by_cases hn : i < S.length
    · rw [List.getElem?_append_left hn] at e
      exact .inl ⟨hn, e⟩
    · have hle := Nat.le_of_not_lt hn
      rw [List.getElem?_append_right hle, List.getElem?_map] at e
      cases q : T[i - S.length]? with
      | none => rw [q] at e; cases e
      | some y => rw [q] at e; cases e; exact .inr ⟨hle, y, rfl, rfl⟩
  have new : ∀ (i : Nat), i < T.length → H (m' i) = none := fun i hi => g.fresh i (Nat.zero_le _) hi
  refine ⟨⟨fun i x e => ?_, fun i j o1 o2 e1 e2 k1 k2 e => ?_⟩, ⟨by rw [ln]; exact Nat.le_add_right _ _, fun i hi => if_pos hi, fun i o e => ⟨o, by rw [List.getElem?_append_left (lt_of_get e)]; exact e, rfl⟩, fun a u e _ => sm a u e, fun i h1 h2 => ?_, fun a u e => ⟨u, sm a u e⟩⟩⟩
  · rw [ln]
    rcases cs i x e with ⟨h1, h2⟩ | ⟨h1, y, h2, rfl⟩
    · show ORep c _ _ _ x (if i < S.length then m i else m' (i - S.length))
      rw [if_pos h1]
      exact (r.obj i x h2).stay ex fun u h => sm _ u h
    · show ORep c _ _ _ _ (if i < S.length then m i else m' (i - S.length))
      rw [if_neg (Nat.not_lt.mpr h1)]
      exact (s.obj _ y h2).shift (fun j hj => by rw [if_neg (Nat.not_lt.mpr (Nat.le_add_left _ _)), Nat.add_sub_cancel]) (Nat.le_of_eq (Nat.add_comm _ _))
  · have e : (if i < S.length then m i else m' (i - S.length)) = (if j < S.length then m j else m' (j - S.length)) := e
    have cross : ∀ (i j : Nat) (x y : DO), S[i]? = some x → x.mk ≠ 0 → T[j]? = some y → m i ≠ m' j := fun i j x y e1 k1 e2 z => by
      have h := (r.obj i x e1).mut k1
      rw [z, new j (lt_of_get e2)] at h
      exact Bool.noConfusion h
    rcases cs i o1 e1 with ⟨h1, h2⟩ | ⟨h1, y1, h2, z1⟩
    · rcases cs j o2 e2 with ⟨b1, b2⟩ | ⟨b1, y2, b2, z2⟩
      · rw [if_pos h1, if_pos b1] at e
        exact r.inj i j _ _ h2 b2 k1 k2 e
      · rw [if_pos h1, if_neg (Nat.not_lt.mpr b1)] at e
        exact absurd e (cross _ _ _ _ h2 k1 b2)
    · rcases cs j o2 e2 with ⟨b1, b2⟩ | ⟨b1, y2, b2, z2⟩
      · rw [if_neg (Nat.not_lt.mpr h1), if_pos b1] at e
        exact absurd e.symm (cross _ _ _ _ b2 k2 h2)
      · rw [if_neg (Nat.not_lt.mpr h1), if_neg (Nat.not_lt.mpr b1)] at e
        have z := s.inj _ _ y1 y2 h2 b2 (by rw [z1, DO.sh_mk] at k1; exact k1) (by rw [z2, DO.sh_mk] at k2; exact k2) e
        omega
  · show H (if i < S.length then m i else m' (i - S.length)) = none
    rw [ln] at h2
    rw [if_neg (Nat.not_lt.mpr h1)]
    exact new _ (by omega)
end
end Dl

set_option Elab.async false
set_option linter.all false
set_option maxRecDepth 100000
set_option maxHeartbeats 4000000
namespace Dl
open PySem PySem.Spec L2
section
variable {c : Ct}
theorem runF_ok {F : Fn} {n : Nat} {m : Nat → Addr} {S : Store} {H : Hp} {ds : List D} {vs : List V} {Q : VK} {E : XK} (r : SRel c m S H) (q : RepL c.K m S.length H ds vs) (hn : ds.length = n)
    (p : PostG c (relD c) m S H (runF F S ds) Q fun x H' => E (.ref (c.exc x)) none H') : spD c n F vs H Q E := by
  unfold runF at p
  by_cases hp : D.pureL ds = true
  · rw [if_pos hp] at p
    refine ⟨m, [], ds, hn, SRel.nil c m H, RepL.pure _ _ hp q, ?_⟩
    cases e : F ds [] with
    | stuck => rw [e] at p; exact p
    | exc x T =>
      rw [e] at p
      intro m' H' s' g'
      have sm : Same H H' := fun a u h => g'.frame a u h fun i o e => by simp at e
      exact p m H' (r.same sm) (Grow.same sm)
    | ok d T =>
      rw [e] at p
      intro v m' H' s' g' hv
      have sm : Same H H' := fun a u h => g'.frame a u h fun i o e => by simp at e
      dsimp only at p
      by_cases hd : d.pure = true
      · rw [if_pos hd] at p
        exact p v m H' (r.same sm) (Grow.same sm) (Rep.pure _ _ hd hv)
      · rw [if_neg hd] at p
        obtain ⟨r2, g2⟩ := r.glue s' g'
        refine p v _ H' r2 g2 (Rep.shift (m := m') (k := T.length) (fun j hj => ?_) (by simp; omega) d v hv)
        rw [if_neg (Nat.not_lt.mpr (Nat.le_add_left _ _)), Nat.add_sub_cancel]
  · rw [if_neg hp] at p
    exact ⟨m, S, ds, hn, r, q, p⟩
end
def cFn (n : Nat) (F : Fn) (f : DA) : DE := fun e S => (f e S).bind fun xs S1 => if xs.length = n then runF F S1 xs else .stuck
section
variable {X : Cx} {c : Ct} {W : WX} {CX : CXT} {k n : Nat} {f : Addr} {fd : FuncData} {ps : List Str} {F : Fn} {x : Str} {p pos : Pos} {e : Expr} {es : List Expr} {g : DA}
theorem d_call (G : FnOk X.prog X.w X.K X.mg X.base CX k f fd ps (spD c n F)) (hr : Room k X.A) (hg : Gl X x) (hm : X.mg x = some (.ref f)) (hk : PySem.W.keepIn X.K (.ref f) = true) (hb : Binds X.K fd ps []) (hx : ∀ σ, PassesAt CX X σ (WE W σ))
    (ha : PA X (e :: es) (tL c W g)) (hdb : (x == ("__debug__" : Str)) = false := by decide) (he : starEach (e :: es) X.env = (false, eval e X.env) :: starEach es X.env := by rfl) (hpl : (backTo pos (starEach es X.env)).any (·.1) = false := by rfl) :
    PE X (.Call (.Name x p) (e :: es) [] pos) (tD c W (cFn n F g)) := by
  refine PE.mono (pe_callS (E := WE W) G hr hg hm hk hb hx ha hdb he hpl) fun σ H Q ⟨m, S, e, A, p⟩ => ?_
  refine bind_at (k := fun xs S1 => if xs.length = n then runF F S1 xs else .stuck) A p fun m1 S1 xs vs H1 A1 g1 q1 p1 => ?_
  by_cases hz : xs.length = n
  · rw [if_pos hz] at p1
    exact runF_ok A1.s q1 hz p1
  · rw [if_neg hz] at p1; exact p1.elim
theorem px0 {W : WX} (σ : St) : PassesAt CX0 X σ (WE W σ) := fun _ _ _ _ _ _ h => h.elim
end

/-! ### statements -/
inductive Re where
  | nx (e : Env) (S : Store) | rt (d : D) (S : Store) | bk (e : Env) (S : Store) | ct (e : Env) (S : Store) | exc (x : Nat) (e : Env) (S : Store) | stuck
abbrev DS := Env → Store → Re
def PostS (c : Ct) (W : WX) (m : Nat → Addr) (S : Store) (H : Hp) (r : Re) (B : Ends) : Prop := match r with
  | .nx e' S' => ∀ σ' m' H', At c m' S' H' e' σ' → Grow m S H m' S' H' → B.nx σ' H'
  | .rt d S' => ∀ v m' H', SRel c m' S' H' → Grow m S H m' S' H' → Rep c.K m' S'.length H' d v → B.rt v H'
  | .bk e' S' => ∀ σ' m' H', At c m' S' H' e' σ' → Grow m S H m' S' H' → B.bk σ' H'
  | .ct e' S' => ∀ σ' m' H', At c m' S' H' e' σ' → Grow m S H m' S' H' → B.ct σ' H'
  | .exc x e' S' => ∀ σ' m' H', At c m' S' H' e' σ' → Grow m S H m' S' H' → W (.ref (c.exc x)) none σ' H'
  | .stuck => False
def tS (c : Ct) (W : WX) (f : DS) : TS := fun B σ H => ∃ m S e, At c m S H e σ ∧ PostS c W m S H (f e S) B
def Rs.to {α : Type} (r : Rs α) (e : Env) (k : α → Store → Re) : Re := match r with
  | .ok a S => k a S
  | .exc x S => .exc x e S
  | .stuck => .stuck
section
variable {c : Ct} {W : WX} {m m1 : Nat → Addr} {S S1 : Store} {H H1 : Hp} {e : Env} {σ : St} {B B' : Ends}
theorem PostS.grow {r : Re} (g : Grow m S H m1 S1 H1) (h : PostS c W m S H r B) : PostS c W m1 S1 H1 r B := by
  cases r with
  | nx e' S' => exact fun σ' m' H' a g' => h σ' m' H' a (g.trans g')
  | rt d S' => exact fun v m' H' a g' => h v m' H' a (g.trans g')
  | bk e' S' => exact fun σ' m' H' a g' => h σ' m' H' a (g.trans g')
  | ct e' S' => exact fun σ' m' H' a g' => h σ' m' H' a (g.trans g')
  | exc x e' S' => exact fun σ' m' H' a g' => h σ' m' H' a (g.trans g')
  | stuck => exact h
/-- a piece, then a statement's rest -/
theorem to_at {α β : Type} {rel : RelT α β} {f : Env → Store → Rs α} {k : α → Store → Re} {R : β → Hp → Prop} (A : At c m S H e σ) (p : PostS c W m S H ((f e S).to e k) B)
    (hk : ∀ m1 S1 a b H1, At c m1 S1 H1 e σ → Grow m S H m1 S1 H1 → rel m1 S1.length H1 a b → PostS c W m1 S1 H1 (k a S1) B → R b H1) : tG c rel W f σ H R := by
  refine ⟨m, S, e, A, ?_⟩
  cases q : f e S with
  | ok a S1 =>
    rw [q] at p
    intro b m1 H1 s1 g1 rb
    exact hk m1 S1 a b H1 (A.grow g1 s1) g1 rb (PostS.grow g1 p)
  | exc x S1 =>
    rw [q] at p
    intro m1 H1 s1 g1
    exact p σ m1 H1 (A.grow g1 s1) g1
  | stuck => rw [q] at p; exact p
end

def sNext : DS := fun e S => .nx e S
def sSeq (f g : DS) : DS := fun e S => match f e S with
  | .nx e' S' => g e' S'
  | r => r
def sRet (f : DE) : DS := fun e S => (f e S).to e fun d S1 => .rt d S1
def sRetN : DS := fun e S => .rt .non S
def sDrop (f : DE) : DS := fun e S => (f e S).to e fun _ S1 => .nx e S1
def sIf (t : DT) (f g : DS) : DS := fun e S => (t e S).to e fun b S1 => if b = true then f e S1 else g e S1
def sBreak : DS := fun e S => .bk e S
def sCont : DS := fun e S => .ct e S
def sNever : DS := fun _ _ => .stuck
abbrev DG := D → Env → Store → Rs Env
abbrev DGs := List D → Env → Store → Rs Env
def gN (i : Nat) : DG := fun d e S => .ok (e.set i (some d)) S
def gsN : DGs := fun xs e S => match xs with
  | [] => .ok e S
  | _ => .stuck
def gsC (g : DG) (gs : DGs) : DGs := fun xs e S => match xs with
  | [] => .stuck
  | x :: r => (g x e S).bind fun e1 S1 => gs r e1 S1
def gT (n : Nat) (gs : DGs) : DG := fun d e S => match d with
  | .tup xs => if xs.length = n then gs xs e S else .stuck
  | _ => .stuck
def gL (n : Nat) (gs : DGs) : DG := fun d e S => match d with
  | .ref i => (match S[i]? with
    | some (.lst xs) => if xs.length = n then gs xs e S else .stuck
    | _ => .stuck)
  | _ => .stuck
/-- a, b = x, y with names -/
def par2 (i j : Nat) (e : Env) : List D → Store → Re := fun xs S1 => match xs with
  | [x, y] => .nx ((e.set i (some x)).set j (some y)) S1
  | _ => .stuck
def sPar (i j : Nat) (g : DA) : DS := fun e S => (g e S).to e (par2 i j e)
def FUEL : Nat := 10000000
def whileD : Nat → DT → DS → DS
  | 0, _, _ => fun _ _ => .stuck
  | n + 1, t, b => fun e S => (t e S).to e fun k S1 => if k = true then
      (match b e S1 with
      | .nx e2 S2 => whileD n t b e2 S2
      | .ct e2 S2 => whileD n t b e2 S2
      | .bk e2 S2 => .nx e2 S2
      | r => r)
    else .nx e S1
def sWhile (t : DT) (b : DS) : DS := whileD FUEL t b
/-- a def by its body -/
def fnD (n : Nat) (b : DS) : Fn := fun ds S => match b (ds.map some ++ List.replicate (n - ds.length) none) S with
  | .nx _ S' => .ok .non S'
  | .rt d S' => .ok d S'
  | .exc x _ S' => .exc x S'
  | _ => .stuck

section
variable {X : Cx} {c : Ct} {W : WX} {st : Stmt} {rest : List Stmt} {e : Expr} {pos : Pos} {f : DE} {fs gs : DS} {t : DT}
theorem s_nil : PSs X [] (tS c W sNext) := PSs.mono pss_nil fun σ H B ⟨m, S, e, A, p⟩ => p σ m H A Grow.refl
theorem s_pass : PS X (.Pass pos) (tS c W sNext) := PS.mono ps_pass fun σ H B ⟨m, S, e, A, p⟩ => p σ m H A Grow.refl
theorem s_break : PS X (.Break pos) (tS c W sBreak) := PS.mono ps_break fun σ H B ⟨m, S, e, A, p⟩ => p σ m H A Grow.refl
theorem s_cont : PS X (.Continue pos) (tS c W sCont) := PS.mono ps_continue fun σ H B ⟨m, S, e, A, p⟩ => p σ m H A Grow.refl
theorem s_never : PS X st (tS c W sNever) := PS.mono ps_never fun _ _ _ ⟨_, _, _, _, p⟩ => p
theorem s_cons (h1 : PS X st (tS c W fs)) (h2 : PSs X rest (tS c W gs)) : PSs X (st :: rest) (tS c W (sSeq fs gs)) := by
  refine PSs.mono (pss_cons h1 h2) fun σ H B ⟨m, S, e, A, p⟩ => ⟨m, S, e, A, ?_⟩
  unfold sSeq at p
  cases q : fs e S with
  | nx e' S' =>
    rw [q] at p
    exact fun σ' m' H' a g => ⟨m', S', e', a, PostS.grow g p⟩
  | rt d S' => rw [q] at p; exact p
  | bk e' S' => rw [q] at p; exact p
  | ct e' S' => rw [q] at p; exact p
  | exc x e' S' => rw [q] at p; exact p
  | stuck => rw [q] at p; exact p
theorem s_one (h1 : PS X st (tS c W fs)) : PSs X [st] (tS c W fs) := pss_one h1
theorem s_ret (h : PE X e (tD c W f)) : PS X (.Return (some e) pos) (tS c W (sRet f)) := by
  refine PS.mono (ps_ret h) fun σ H B ⟨m, S, e, A, p⟩ => ?_
  exact to_at A p fun m1 S1 x v H1 A1 g1 q1 p1 => p1 v m1 H1 A1.s Grow.refl q1
theorem s_retN : PS X (.Return none pos) (tS c W sRetN) := PS.mono ps_retN fun σ H B ⟨m, S, e, A, p⟩ => p .non m H A.s Grow.refl rfl
theorem s_expr (h : PE X e (tD c W f)) (hs : swapsWith e none pos.line X.env = pure false := by rfl) : PS X (.Expr e pos) (tS c W (sDrop f)) := by
  refine PS.mono (ps_expr h hs) fun σ H B ⟨m, S, e, A, p⟩ => ?_
  exact to_at A p fun m1 S1 x v H1 A1 g1 q1 p1 => p1 σ m1 H1 A1 Grow.refl
theorem s_if {a b : List Stmt} (ht : PT X e (tT c W t)) (ha : PSs X a (tS c W fs)) (hb : PSs X b (tS c W gs)) : PS X (.If e a b pos) (tS c W (sIf t fs gs)) := by
  refine PS.mono (ps_if ht ha hb) fun σ H B ⟨m, S, e, A, p⟩ => ?_
  refine to_at A p fun m1 S1 x v H1 A1 g1 q1 p1 => ?_
  cases q1
  cases x with
  | true => exact ⟨m1, S1, e, A1, p1⟩
  | false => exact ⟨m1, S1, e, A1, p1⟩
theorem s_while {body : List Stmt} (hp : PassesOwn (model X.prog X.w) X.A X.env X.xe) (ht : PT X e (tT c W t)) (hb : PSs X body (tS c W fs)) : PS X (.While e body [] pos) (tS c W (sWhile t fs)) := by
  refine PS.mono (ps_while hp ht hb) fun σ H B ⟨m, S, e, A, p⟩ => ?_
  refine ⟨fun n σ H => ∃ m S e, At c m S H e σ ∧ PostS c W m S H (whileD n t fs e S) B, ⟨FUEL, m, S, e, A, p⟩, ?_⟩
  rintro n σ H ⟨m, S, e, A, p⟩
  cases n with
  | zero => exact p.elim
  | succ n =>
    refine to_at A p fun m1 S1 x v H1 A1 g1 q1 p1 => ?_
    cases q1
    cases x with
    | false => exact p1 σ m1 H1 A1 Grow.refl
    | true =>
      refine ⟨fun σ' H' => ∃ m S e, At c m S H' e σ' ∧ PostS c W m S H' (whileD n t fs e S) B, fun σ' H' h => ⟨n, Nat.lt_succ_self n, h⟩, ⟨m1, S1, e, A1, ?_⟩⟩
      rw [if_pos rfl] at p1
      cases q : fs e S1 with
      | nx e' S' => rw [q] at p1; exact fun σ' m' H' a g => ⟨m', S', e', a, PostS.grow g p1⟩
      | ct e' S' => rw [q] at p1; exact fun σ' m' H' a g => ⟨m', S', e', a, PostS.grow g p1⟩
      | bk e' S' => rw [q] at p1; exact p1
      | rt d S' => rw [q] at p1; exact p1
      | exc x e' S' => rw [q] at p1; exact p1
      | stuck => rw [q] at p1; exact p1
end
end Dl

set_option Elab.async false
set_option linter.all false
set_option maxRecDepth 100000
set_option maxHeartbeats 4000000
namespace Dl
open PySem PySem.Spec L2

/-! ### an object of the store is changed -/
section
variable {c : Ct} {m : Nat → Addr} {S : Store} {H : Hp}
theorem Ext.upd {K : PySem.W.Frag} {k : Nat} {t : Addr} {u : HO} (h : mutH (H t) = true) : Ext K m k H m k (upd H t u) := by
  refine ⟨fun _ _ => rfl, Nat.le_refl _, fun a vs h1 => ?_⟩
  have ne : ∀ x, H a = some x → mutH (some x) = false → a ≠ t := fun x e q z => by
    subst z
    rw [e, q] at h
    exact Bool.noConfusion h
  rcases h1 with (h1 | ⟨o, h1⟩) | h1
  · exact .inl (.inl (by rw [upd_ne (ne _ h1 rfl)]; exact h1))
  · exact .inl (.inr ⟨o, by rw [upd_ne (ne _ h1 rfl)]; exact h1⟩)
  · exact .inr h1
theorem SRel.write {n : Nat} {o o' : DO} {u : HO} (r : SRel c m S H) (e : S[n]? = some o) (hk : o.mk ≠ 0) (hk' : o'.kind = o.kind) (q : ORep c m S.length (upd H (m n) u) o' (m n)) :
    SRel c m (S.set n o') (upd H (m n) u) ∧ Grow m S H m (S.set n o') (upd H (m n) u) := by
  have hm : mutH (H (m n)) = true := (r.obj n o e).mut hk
  have ex : Ext c.K m S.length H m S.length (upd H (m n) u) := Ext.upd hm
  have ln : (S.set n o').length = S.length := List.length_set
  have hn : n < S.length := lt_of_get e
  have cs : ∀ (i : Nat) (x : DO), (S.set n o')[i]? = some x → (i = n ∧ x = o') ∨ (i ≠ n ∧ S[i]? = some x) := fun i x h => by
    by_cases hi : n = i
    · subst hi
      rw [List.getElem?_set_self hn] at h
      exact .inl ⟨rfl, (Option.some.inj h).symm⟩
    · rw [List.getElem?_set_ne hi] at h
      exact .inr ⟨fun z => hi z.symm, h⟩
  refine ⟨⟨fun i x h => ?_, fun i j o1 o2 e1 e2 k1 k2 z => ?_⟩, ⟨by rw [ln]; exact Nat.le_refl _, fun _ _ => rfl, fun i x h => ?_, fun a v h h2 => ?_, fun i h1 h2 => ?_, fun a v h => ?_⟩⟩
  · rw [ln]
    rcases cs i x h with ⟨rfl, rfl⟩ | ⟨hi, h⟩
    · exact q
    · have hx := r.obj i x h
      by_cases hx0 : x.mk = 0
      · cases x with
        | ro xs =>
          refine ORep.ro ex hx fun v h1 h2 => ?_
          have : m i ≠ m n := fun z => by
            rw [← z, h1, h2] at hm
            exact Bool.noConfusion hm
          rw [upd_ne this]; exact h1
        | fk xs =>
          refine ORep.fk ex hx fun v h1 h2 => ?_
          have : m i ≠ m n := fun z => by
            rw [← z, h1, h2] at hm
            exact Bool.noConfusion hm
          rw [upd_ne this]; exact h1
        | lst xs => exact absurd hx0 (fun z => nomatch z)
        | dk xs => exact absurd hx0 (fun z => nomatch z)
        | dn xs => exact absurd hx0 (fun z => nomatch z)
        | ins a b => exact absurd hx0 (fun z => nomatch z)
      · refine hx.stay ex fun v h1 => ?_
        rw [upd_ne fun z => hi (r.inj i n _ _ h e hx0 hk z)]; exact h1
  · have old : ∀ (i : Nat) (x : DO), (S.set n o')[i]? = some x → x.mk ≠ 0 → ∃ y, S[i]? = some y ∧ y.mk ≠ 0 := fun i x h k => by
      rcases cs i x h with ⟨rfl, rfl⟩ | ⟨hi, h⟩
      · exact ⟨o, e, hk⟩
      · exact ⟨x, h, k⟩
    obtain ⟨y1, a1, b1⟩ := old i o1 e1 k1
    obtain ⟨y2, a2, b2⟩ := old j o2 e2 k2
    exact r.inj i j _ _ a1 a2 b1 b2 z
  · by_cases hi : n = i
    · subst hi
      rw [e] at h; cases h
      exact ⟨o', by rw [List.getElem?_set_self hn], hk'⟩
    · exact ⟨x, by rw [List.getElem?_set_ne hi]; exact h, rfl⟩
  · rw [upd_ne fun z => h2 n o e hk z.symm]; exact h
  · rw [ln] at h2
    exact absurd h2 (Nat.not_lt.mpr h1)
  · by_cases ha : a = m n
    · rw [ha]; exact ⟨u, upd_same⟩
    · exact ⟨v, by rw [upd_ne ha]; exact h⟩
end

/-! ### targets -/
def Rs.noX {α : Type} : Rs α → Rs α
  | .ok a S => .ok a S
  | .exc _ _ => .stuck
  | .stuck => .stuck
abbrev relE (c : Ct) : RelT Env L2.St := fun m k H e σ => ERel c m k H e σ
/-- a target that stores into the slots us alone -/
def tGt (c : Ct) (us : List Nat) (g : DG) : TG := fun v σ H Q => ∃ m S e d, At c m S H e σ ∧ Rep c.K m S.length H d v ∧ PostG c (relE c) m S H (g d e S) (fun σ' H' => wipe σ' us = wipe σ us → Q σ' H') fun _ _ => False
def tGs (c : Ct) (us : List Nat) (g : DGs) : TGs := fun vs σ H Q => ∃ m S e xs, At c m S H e σ ∧ RepL c.K m S.length H xs vs ∧ PostG c (relE c) m S H (g xs e S) (fun σ' H' => wipe σ' us = wipe σ us → Q σ' H') fun _ _ => False
theorem wipe_set {σ : L2.St} {i : Nat} {x : Option V} : ∀ {us : List Nat}, i ∈ us → wipe (σ.set i x) us = wipe σ us
  | [], h => by cases h
  | u :: us, h => by
    unfold wipe
    by_cases hu : i = u
    · subst hu
      have z : ∀ ws : List Nat, (wipe (σ.set i x) ws).set i none = (wipe σ ws).set i none := by
        intro ws
        induction ws with
        | nil => unfold wipe; rw [List.set_set]
        | cons w ws ih =>
          unfold wipe
          by_cases hw : i = w
          · subst hw; rw [List.set_set, List.set_set, ih]
          · rw [List.set_comm _ _ (fun z => hw z.symm), ih, List.set_comm _ _ hw]
      exact z us
    · rcases List.mem_cons.mp h with h | h
      · exact absurd h hu
      · rw [wipe_set h]
section
variable {X : Cx} {c : Ct} {W : WX} {pos : Pos} {g : DG} {gs : DGs} {us : List Nat}
theorem PG.mono {e : Expr} {t t' : TG} (h : PG X e t) (w : ∀ v σ H Q, t' v σ H Q → t v σ H Q) : PG X e t' := ⟨fun pins s σ H v u Q I r q => h.run pins s σ H v u Q I r (w _ _ _ _ q)⟩
theorem PGs.mono {e : List Expr} {t t' : TGs} (h : PGs X e t) (w : ∀ v σ H Q, t' v σ H Q → t v σ H Q) : PGs X e t' := ⟨fun pins s σ H v u Q I r q => h.run pins s σ H v u Q I r (w _ _ _ _ q)⟩
theorem g_name {i : Nat} {x : Str} (hN : X.N.Nodup) (hi : X.N[i]? = some x) (hx : Loc X.env.scope x) (hf : X.fn x = true ∨ X.env.scope.names.lookup x = some .local := by first | exact .inl rfl | exact .inr rfl | assumption)  (hu : i ∈ us := by decide) : PG X (.Name x pos) (tGt c us (gN i)) :=
  PG.mono (pg_name hN hi hx hf) fun v σ H Q ⟨m, S, e, d, A, q, p⟩ => p _ m H A.s Grow.refl (A.e.set q i) (wipe_set hu)
theorem gs_nil : PGs X [] (tGs c us gsN) := by
  refine PGs.mono pgs_nil fun vs σ H Q ⟨m, S, e, xs, A, q, p⟩ => ?_
  cases xs with
  | nil => exact ⟨RepL.nil_iff.mp q, p _ m H A.s Grow.refl A.e rfl⟩
  | cons x r => exact p.elim
theorem gs_cons {e : Expr} {es : List Expr} (h1 : PG X e (tGt c us g)) (h2 : PGs X es (tGs c us gs)) (hs : (assignEach (e :: es) X.env).map (·.2) = assign e X.env :: (assignEach es X.env).map (·.2) := by rfl) : PGs X (e :: es) (tGs c us (gsC g gs)) := by
  refine PGs.mono (pgs_cons h1 h2 hs) fun vs σ H Q ⟨m, S, e, xs, A, q, p⟩ => ?_
  cases xs with
  | nil => exact p.elim
  | cons x r =>
    obtain ⟨v, vr, rfl, q1, q2⟩ := RepL.cons_iff.mp q
    refine ⟨v, vr, rfl, m, S, e, x, A, q1, ?_⟩
    refine (PostG.bind (rel := relE c) (k := fun e1 S1 => gs r e1 S1) p).imp (fun b H1 ⟨m1, S1, a, s1, g1, qe, p1⟩ hw => ?_) fun _ _ z => z
    exact ⟨m1, S1, a, r, ⟨s1, qe⟩, RepL.mono (g1.ext A.s) _ _ q2, p1.imp (fun σ' H' h z => h (z.trans hw)) fun _ _ z => z⟩
theorem g_tup {es : List Expr} {k n : Nat} (hc : X.calm = true) (h : PGs X es (tGs c us gs)) (hn : (assignEach es X.env).length = n := by rfl) (hst : (assignEach es X.env).findIdx? (·.1) = none := by rfl) (hK : X.K = c.K := by rfl) : PG X (.Tuple es k pos) (tGt c us (gT n gs)) := by
  refine PG.mono (pg_tup hc h hn hst) fun v σ H Q ⟨m, S, e, d, A, q, p⟩ => ?_
  cases d with
  | tup xs =>
    unfold Rep at q
    obtain ⟨a, vs, e1, h1, h2⟩ := q
    unfold gT at p
    by_cases hl : xs.length = n
    · simp only [if_pos hl] at p
      exact ⟨a, vs, e1, by rw [hK]; exact h1, by rw [RepL.len h2]; exact hl, m, S, e, xs, A, h2, p⟩
    · simp only [if_neg hl] at p; exact p.elim
  | non => exact p.elim
  | bl _ => exact p.elim
  | int _ => exact p.elim
  | str _ => exact p.elim
  | ref _ => exact p.elim
theorem g_lst {es : List Expr} {k n : Nat} (hc : X.calm = true) (h : PGs X es (tGs c us gs)) (hn : (assignEach es X.env).length = n := by rfl) (hst : (assignEach es X.env).findIdx? (·.1) = none := by rfl) (hK : X.K = c.K := by rfl) : PG X (.Tuple es k pos) (tGt c us (gL n gs)) := by
  refine PG.mono (pg_unl hc h hn hst) fun v σ H Q ⟨m, S, e, d, A, q, p⟩ => ?_
  cases d with
  | ref i =>
    unfold Rep at q
    unfold gL at p
    cases o : S[i]? with
    | none => simp only [o] at p; exact p.elim
    | some ob =>
      cases ob with
      | lst xs =>
        simp only [o] at p
        obtain ⟨vs, h1, h2⟩ := A.s.obj i _ o
        by_cases hl : xs.length = n
        · rw [if_pos hl] at p
          exact ⟨m i, vs, q.2, .of h1, by rw [RepL.len h2]; exact hl, m, S, e, xs, A, h2, p⟩
        · rw [if_neg hl] at p; exact p.elim
      | ro _ => simp only [o] at p; exact p.elim
      | dk _ => simp only [o] at p; exact p.elim
      | dn _ => simp only [o] at p; exact p.elim
      | ins _ _ => simp only [o] at p; exact p.elim
      | fk _ => simp only [o] at p; exact p.elim
  | non => exact p.elim
  | bl _ => exact p.elim
  | int _ => exact p.elim
  | str _ => exact p.elim
  | tup _ => exact p.elim
end

/-! ### assignments -/
def sAsgG (f : DE) (g : DG) : DS := fun e S => (f e S).to e fun d S1 => ((g d e S1).noX).to e fun e2 S2 => .nx e2 S2
def sSet (i : Nat) (f : DE) : DS := fun e S => (f e S).to e fun d S1 => .nx (e.set i (some d)) S1
section
variable {X : Cx} {c : Ct} {W : WX} {pos pos' : Pos} {f : DE} {g : DG} {e : Expr} {us : List Nat}
theorem noX_to {r : Rs Env} {m : Nat → Addr} {S : Store} {H : Hp} {ee : Env} {B : Ends} (p : PostS c W m S H ((r.noX).to ee fun e2 S2 => .nx e2 S2) B) : PostG c (relE c) m S H r B.nx fun _ _ => False := by
  cases r with
  | ok a S' => exact fun b m' H' s g q => p b m' H' ⟨s, q⟩ g
  | exc x S' => exact p.elim
  | stuck => exact p.elim
theorem s_asg {tg : Expr} (he : PE X e (tD c W f)) (hg : PG X tg (tGt c us g)) (hs : swapsWithSole [tg] e pos.line X.env = pure false := by rfl) (hw : swappedStores [tg] e X.env = pure none := by rfl)
    (h1 : (assignEach [tg] X.env).map (·.2) = [assign tg X.env] := by rfl) : PS X (.Assign [tg] e pos) (tS c W (sAsgG f g)) := by
  refine PS.mono (ps_asg he hg hs hw h1) fun σ H B ⟨m, S, e, A, p⟩ => ?_
  refine to_at A p fun m1 S1 x v H1 A1 g1 q1 p1 => ?_
  exact ⟨m1, S1, e, x, A1, q1, (noX_to p1).imp (fun _ _ h _ => h) fun _ _ z => z⟩
theorem set_tS {t : TE} {i : Nat} (w : ∀ σ H Q, tD c W f σ H Q → t σ H Q) : ∀ σ H B, tS c W (sSet i f) B σ H → tAsg t (gName i) B σ H := fun σ H B ⟨m, S, e, A, p⟩ =>
  w σ H _ (to_at A p fun m1 S1 x v H1 A1 g1 q1 p1 => p1 _ m1 H1 ⟨A1.s, A1.e.set q1 i⟩ Grow.refl)
theorem s_set {i : Nat} {x : Str} (hN : X.N.Nodup) (hi : X.N[i]? = some x) (hx : Loc X.env.scope x) (he : PE X e (tD c W f)) (hs : swapsWith e (some (.Name x pos')) pos.line X.env = pure false := by rfl) (hf : X.fn x = true ∨ X.env.scope.names.lookup x = some .local := by first | exact .inl rfl | exact .inr rfl | assumption) :
    PS X (.Assign [.Name x pos'] e pos) (tS c W (sSet i f)) := PS.mono (ps_set hN hi hx he hs hf) (set_tS fun _ _ _ h => h)
theorem s_par {i j : Nat} {x y : Str} {a b : Expr} {ga : DA} {px py pt : Pos} {kt k2 pt2} (hc : X.calm = true) (hN : X.N.Nodup) (hi : X.N[i]? = some x) (hj : X.N[j]? = some y) (hij : i ≠ j)
    (hx : X.env.scope.names.lookup x = some .local) (hy : X.env.scope.names.lookup y = some .local) (ha : PA X [a, b] (tL c W ga))
    (hw : swappedStores [.Tuple [.Name x px, .Name y py] kt pt] (.Tuple [a, b] k2 pt2) X.env = pure (some [x, y]))
    (hs : swapsWithSole [.Tuple [.Name x px, .Name y py] kt pt] (.Tuple [a, b] k2 pt2) pos.line X.env = pure false := by rfl) :
    PS X (.Assign [.Tuple [.Name x px, .Name y py] kt pt] (.Tuple [a, b] k2 pt2) pos) (tS c W (sPar i j ga)) := by
  refine PS.mono (ps_par hc hN hi hj hij hx hy ha hw hs) fun σ H B ⟨m, S, e, A, p⟩ => ?_
  refine to_at A p fun m1 S1 xs vs H1 A1 g1 q1 p1 => ?_
  match xs, p1 with
  | [d1, d2], p1 =>
    obtain ⟨v, r, rfl, h1, q2⟩ := RepL.cons_iff.mp q1
    obtain ⟨v2, r2, rfl, h2, q3⟩ := RepL.cons_iff.mp q2
    rw [RepL.nil_iff.mp q3]
    exact ⟨v, v2, rfl, p1 _ m1 H1 ⟨A1.s, (A1.e.set h1 i).set h2 j⟩ Grow.refl⟩
  | [], p1 => exact p1.elim
  | [_], p1 => exact p1.elim
  | _ :: _ :: _ :: _, p1 => exact p1.elim
def sAugN (i : Nat) (f : DE) (gg : Store → D → D → Rs D) : DS := fun e S => match e[i]? with
  | some (some x) => (f e S).to e fun y S1 => (gg S1 x y).to e fun z S2 => .nx (e.set i (some z)) S2
  | _ => .stuck
theorem to_post {α β : Type} {rel : RelT α β} {r : Rs α} {k : α → Store → Re} {m : Nat → Addr} {S : Store} {H : Hp} {ee : Env} {B : Ends} {Q : β → Hp → Prop} {σ : L2.St} (A : At c m S H ee σ) (p : PostS c W m S H (r.to ee k) B)
    (h : ∀ m1 S1 a b H1, SRel c m1 S1 H1 → Grow m S H m1 S1 H1 → rel m1 S1.length H1 a b → PostS c W m1 S1 H1 (k a S1) B → Q b H1) : PostG c rel m S H r Q (Pz c W σ) := by
  cases r with
  | ok a S1 => exact fun b m1 H1 s1 g1 rb => h m1 S1 a b H1 s1 g1 rb (PostS.grow g1 p)
  | exc x S1 => exact fun m1 H1 s1 g1 => p σ m1 H1 (A.grow g1 s1) g1
  | stuck => exact p
theorem s_aug {i : Nat} {x : Str} {op : Operator} {r : R2} {gg : Store → D → D → Rs D} (hN : X.N.Nodup) (hi : X.N[i]? = some x) (hx : Loc X.env.scope x) (he : PE X e (tD c W f)) (ho : PIp X op r) (hd : OpD c r gg) (hf : X.fn x = true ∨ X.env.scope.names.lookup x = some .local := by first | exact .inl rfl | exact .inr rfl | assumption) :
    PS X (.AugAssign (.Name x pos') op e pos) (tS c W (sAugN i f gg)) := by
  refine PS.mono (ps_aug hN hi hx he ho hf) fun σ H B ⟨m, S, e, A, p⟩ => ?_
  unfold sAugN at p
  cases q : e[i]? with
  | none => simp only [q] at p; exact p.elim
  | some o =>
    cases o with
    | none => simp only [q] at p; exact p.elim
    | some d =>
      simp only [q] at p
      obtain ⟨v, e1, e2⟩ := A.e.get i d q
      refine ⟨v, e1, to_at A p fun m1 S1 y u H1 A1 g1 q1 p1 => ?_⟩
      refine hd m1 S1 H1 d y v u _ (Pz c W σ) A1.s (Rep.mono (g1.ext A.s) _ _ e2) q1 (to_post A1 p1 fun m2 S2 z w H2 s2 g2 q2 p2 => ?_)
      exact p2 _ m2 H2 ⟨s2, (A1.grow g2 s2).e.set q2 i⟩ Grow.refl
end
end Dl

set_option Elab.async false
set_option linter.all false
set_option maxRecDepth 100000
set_option maxHeartbeats 4000000
namespace Dl
open PySem PySem.Spec L2

/-! ### what is walked -/
inductive Src where
  | fix (xs : List D) | live (n : Nat) | enum (s : Src) | zip (s t : Src)
def Src.at : Src → Store → Nat → Option D
  | .fix xs, _, i => xs[i]?
  | .live n, S, i => match S[n]? with
    | some (.lst xs) => xs[i]?
    | some (.ro xs) => xs[i]?
    | _ => none
  | .enum s, S, i => match s.at S i with
    | some d => some (.tup [.int i, d])
    | none => none
  | .zip s t, S, i => match s.at S i, t.at S i with
    | some a, some b => some (.tup [a, b])
    | _, _ => none
def WalkD (c : Ct) (m : Nat → Addr) (S : Store) (H : Hp) (J : It) (src : Src) : Prop := ∀ m2 S2 H2 (i : Nat), SRel c m2 S2 H2 → Grow m S H m2 S2 H2 → match src.at S2 i with
  | some d => J.go i H2 ∧ ∀ x H3, J.yld i H2 x H3 → Same H2 H3 ∧ Rep c.K m2 S2.length H3 d x
  | none => J.stop i H2
def PostI (c : Ct) (m : Nat → Addr) (S : Store) (H : Hp) (r : Rs Src) (R : It → Hp → Prop) (Z : Nat → Hp → Prop) : Prop := match r with
  | .ok src S' => ∀ J m' H', SRel c m' S' H' → Grow m S H m' S' H' → WalkD c m' S' H' J src → R J H'
  | .exc x S' => ∀ m' H', SRel c m' S' H' → Grow m S H m' S' H' → Z x H'
  | .stuck => False
abbrev DI := Env → Store → Rs Src
def tI (c : Ct) (W : WX) (f : DI) : TI := fun σ H R => ∃ m S e, At c m S H e σ ∧ PostI c m S H (f e S) R (Pz c W σ)
section
variable {c : Ct} {W : WX} {m m1 : Nat → Addr} {S S1 : Store} {H H1 : Hp} {e : Env} {σ : L2.St}
theorem PostI.grow {r : Rs Src} {R : It → Hp → Prop} {Z : Nat → Hp → Prop} (g : Grow m S H m1 S1 H1) (h : PostI c m S H r R Z) : PostI c m1 S1 H1 r R Z := by
  cases r with
  | ok a S' => exact fun J m' H' s' g' q => h J m' H' s' (g.trans g') q
  | exc x S' => exact fun m' H' s' g' => h m' H' s' (g.trans g')
  | stuck => exact h
theorem iter_at {α β : Type} {rel : RelT α β} {f : Env → Store → Rs α} {k : α → Store → Rs Src} {R : It → Hp → Prop} {R2 : β → Hp → Prop} (A : At c m S H e σ) (p : PostI c m S H ((f e S).bind k) R (Pz c W σ))
    (hk : ∀ m1 S1 a b H1, At c m1 S1 H1 e σ → Grow m S H m1 S1 H1 → rel m1 S1.length H1 a b → PostI c m1 S1 H1 (k a S1) R (Pz c W σ) → R2 b H1) : tG c rel W f σ H R2 := by
  refine ⟨m, S, e, A, ?_⟩
  cases q : f e S with
  | ok a S1 =>
    rw [q] at p
    exact fun b m1 H1 s1 g1 rb => hk m1 S1 a b H1 (A.grow g1 s1) g1 rb (PostI.grow g1 p)
  | exc x S1 => rw [q] at p; exact fun m1 H1 s1 g1 => p m1 H1 s1 g1
  | stuck => rw [q] at p; exact p
theorem walk_fix {a : Addr} {xs : List D} {vs : List V} (r : SRel c m S H) (h : SqT c.K H a vs) (q : RepL c.K m S.length H xs vs) : WalkD c m S H (Itt c.K a) (.fix xs) := by
  intro m2 S2 H2 i r2 g
  have h2 := (g.ext r).sq _ _ h
  have q2 := RepL.mono (g.ext r) _ _ q
  show match xs[i]? with | some d => _ | none => _
  cases e : xs[i]? with
  | some d =>
    obtain ⟨v, e1, e2⟩ := q2.get e
    refine ⟨⟨vs, v, h2, e1⟩, fun x H3 y => ?_⟩
    obtain ⟨rfl, y2⟩ := y
    have z := y2 vs h2
    rw [e1] at z; cases z
    exact ⟨Same.refl _, e2⟩
  | none => exact ⟨vs, h2, by rw [q2.len]; exact List.getElem?_eq_none_iff.mp e⟩
/-- a list of the store, as it stands -/
theorem SRel.list (r : SRel c m S H) {n : Nat} {xs : List D} (e : S[n]? = some (.lst xs) ∨ S[n]? = some (.ro xs)) : ∃ vs, SqL c.K H (m n) vs ∧ RepL c.K m S.length H xs vs := by
  rcases e with e | e
  · obtain ⟨vs, h1, h2⟩ := r.obj n _ e
    exact ⟨vs, .of h1, h2⟩
  · obtain ⟨vs, h1, h2⟩ := r.obj n _ e
    exact ⟨vs, h1.sq, h2⟩
theorem walk_live {n : Nat} {o : DO} (r : SRel c m S H) (e : S[n]? = some o) (hk : o.kind ≤ 1) : WalkD c m S H (Itl c.K (m n)) (.live n) := by
  intro m2 S2 H2 i r2 g
  have hn : n < S.length := lt_of_get e
  obtain ⟨o2, e2, k2⟩ := g.kind n o e
  have hx : ∃ xs, (S2[n]? = some (.lst xs) ∨ S2[n]? = some (.ro xs)) ∧ (Src.live n).at S2 i = xs[i]? := by
    cases o2 with
    | lst xs => exact ⟨xs, .inl e2, by simp only [Src.at, e2]⟩
    | ro xs => exact ⟨xs, .inr e2, by simp only [Src.at, e2]⟩
    | dk xs => rw [← k2] at hk; exact absurd hk (by simp [DO.kind])
    | dn xs => rw [← k2] at hk; exact absurd hk (by simp [DO.kind])
    | ins a b => rw [← k2] at hk; exact absurd hk (by simp [DO.kind])
    | fk _ => rw [← k2] at hk; exact absurd hk (by simp [DO.kind])
  obtain ⟨xs, hx, hat⟩ := hx
  obtain ⟨vs, h2, q2⟩ := r2.list hx
  rw [g.eq n hn] at h2
  rw [hat]
  cases e : xs[i]? with
  | some d =>
    obtain ⟨v, e1, e3⟩ := q2.get e
    refine ⟨⟨vs, v, h2, e1⟩, fun x H3 y => ?_⟩
    obtain ⟨rfl, y2⟩ := y
    have z := y2 vs h2
    rw [e1] at z; cases z
    exact ⟨Same.refl _, e3⟩
  | none => exact ⟨vs, h2, by rw [q2.len]; exact List.getElem?_eq_none_iff.mp e⟩
theorem walk_rng {lo : Int} {n : Nat} {c : Ct} : WalkD c m S H (Itr lo n) (.fix ((List.range n).map fun i => D.int (lo + (i : Nat)))) := by
  intro m2 S2 H2 i r2 g
  show match ((List.range n).map fun i => D.int (lo + (i : Nat)))[i]? with | some d => _ | none => _
  by_cases hi : i < n
  · have e : ((List.range n).map fun i => D.int (lo + (i : Nat)))[i]? = some (.int (lo + (i : Nat))) := by simp [hi]
    rw [e]
    refine ⟨hi, fun x H3 y => ?_⟩
    obtain ⟨rfl, rfl⟩ := y
    exact ⟨Same.refl _, rfl⟩
  · have e : ((List.range n).map fun i => D.int (lo + (i : Nat)))[i]? = none := by simp; omega
    rw [e]
    exact Nat.le_of_not_lt hi
/-- new pairs -/
theorem pair_new {k : Nat} {x y : D} {vx vy : V} {T : Addr} (hT : H T = none) (hx : Rep c.K m k H x vx) (hy : Rep c.K m k H y vy) : Same H (upd H T (.tup [vx, vy])) ∧ Rep c.K m k (upd H T (.tup [vx, vy])) (.tup [x, y]) (.ref T) := by
  have s : Same H (upd H T (.tup [vx, vy])) := fun a o h => by rw [upd_ne (ne_of_none h hT)]; exact h
  refine ⟨s, ?_⟩
  unfold Rep
  exact ⟨T, _, rfl, .of upd_same, RepL.cons (Rep.mono (Ext.same s) _ _ hx) (RepL.cons (Rep.mono (Ext.same s) _ _ hy) RepL.nil)⟩
theorem walk_enl {n : Nat} {o : DO} (r : SRel c m S H) (e : S[n]? = some o) (hk : o.kind ≤ 1) : WalkD c m S H (Ite c.K (m n)) (.enum (.live n)) := by
  intro m2 S2 H2 i r2 g
  have w := walk_live r e hk m2 S2 H2 i r2 g
  simp only [Src.at] at w ⊢
  cases q : (match S2[n]? with | some (.lst xs) => xs[i]? | some (.ro xs) => xs[i]? | _ => none : Option D) with
  | some d =>
    rw [q] at w
    obtain ⟨⟨vs, v, h1, h2⟩, w2⟩ := w
    refine ⟨⟨vs, v, h1, h2⟩, fun x H3 y => ?_⟩
    obtain ⟨T, x2, rfl, hT, rfl, y2⟩ := y
    obtain ⟨_, w3⟩ := w2 x2 H2 ⟨rfl, y2⟩
    exact pair_new hT rfl w3
  | none =>
    rw [q] at w
    exact w
theorem walk_zpt {a b : Addr} {xs ys : List D} {vs ws : List V} (r : SRel c m S H) (h : SqT c.K H a vs) (q : RepL c.K m S.length H xs vs) (h' : SqT c.K H b ws) (q' : RepL c.K m S.length H ys ws) : WalkD c m S H (RZ.ItzT c.K a b) (.zip (.fix xs) (.fix ys)) := by
  intro m2 S2 H2 i r2 g
  have h2 := (g.ext r).sq _ _ h
  have q2 := RepL.mono (g.ext r) _ _ q
  have h3 := (g.ext r).sq _ _ h'
  have q3 := RepL.mono (g.ext r) _ _ q'
  simp only [Src.at]
  cases e : xs[i]? with
  | none => exact ⟨vs, ws, h2, h3, .inl (by rw [q2.len]; exact List.getElem?_eq_none_iff.mp e)⟩
  | some d =>
    cases e' : ys[i]? with
    | none => exact ⟨vs, ws, h2, h3, .inr (by rw [q3.len]; exact List.getElem?_eq_none_iff.mp e')⟩
    | some d' =>
      obtain ⟨v, e1, e2⟩ := q2.get e
      obtain ⟨u, e3, e4⟩ := q3.get e'
      refine ⟨⟨vs, ws, v, u, h2, h3, e1, e3⟩, fun x H3 y => ?_⟩
      obtain ⟨T, x1, x2, rfl, hT, rfl, y1, y2⟩ := y
      have z1 := y1 vs h2
      have z2 := y2 ws h3
      rw [e1] at z1; cases z1
      rw [e3] at z2; cases z2
      exact pair_new hT e2 e4
theorem walk_zpl {n k : Nat} {o u : DO} (r : SRel c m S H) (e : S[n]? = some o) (hk : o.kind ≤ 1) (e' : S[k]? = some u) (hk' : u.kind ≤ 1) : WalkD c m S H (Itz c.K (m n) (m k)) (.zip (.live n) (.live k)) := by
  intro m2 S2 H2 i r2 g
  have w := walk_live r e hk m2 S2 H2 i r2 g
  have w' := walk_live r e' hk' m2 S2 H2 i r2 g
  have e0 : (Src.zip (.live n) (.live k)).at S2 i = match (Src.live n).at S2 i, (Src.live k).at S2 i with | some a, some b => some (.tup [a, b]) | _, _ => none := rfl
  rw [e0]
  cases q : (Src.live n).at S2 i with
  | none =>
    rw [q] at w
    obtain ⟨vs, h1, h2⟩ := w
    have ex : ∃ ws, SqL c.K H2 (m k) ws := by
      cases q' : (Src.live k).at S2 i with
      | none => rw [q'] at w'; obtain ⟨ws, z, _⟩ := w'; exact ⟨ws, z⟩
      | some d => rw [q'] at w'; obtain ⟨⟨ws, _, z, _⟩, _⟩ := w'; exact ⟨ws, z⟩
    obtain ⟨ws, h3⟩ := ex
    exact ⟨vs, ws, h1, h3, .inl h2⟩
  | some d =>
    rw [q] at w
    obtain ⟨⟨vs, v, h1, h2⟩, w2⟩ := w
    cases q' : (Src.live k).at S2 i with
    | none =>
      rw [q'] at w'
      obtain ⟨ws, h3, h4⟩ := w'
      exact ⟨vs, ws, h1, h3, .inr h4⟩
    | some d' =>
      rw [q'] at w'
      obtain ⟨⟨ws, u', h3, h4⟩, w3⟩ := w'
      refine ⟨⟨vs, ws, v, u', h1, h3, h2, h4⟩, fun x H3 y => ?_⟩
      obtain ⟨T, x1, x2, rfl, hT, rfl, y1, y2⟩ := y
      exact pair_new hT (w2 x1 H2 ⟨rfl, y1⟩).2 (w3 x2 H2 ⟨rfl, y2⟩).2
end
/-- a list or a tuple -/
def srcOf (d : D) (S : Store) : Rs Src := match d with
  | .tup xs => .ok (.fix xs) S
  | .ref n => (match S[n]? with
    | some (.lst _) => .ok (.live n) S
    | some (.ro _) => .ok (.live n) S
    | _ => .stuck)
  | _ => .stuck
def iSeq (f : DE) : DI := fun e S => (f e S).bind srcOf
def D.asI : D → Option Int
  | .int i => some i
  | _ => none
theorem D.asI_eq {d : D} {i : Int} (h : d.asI = some i) : d = .int i := by
  cases d with
  | int j => cases h; rfl
  | non => cases h
  | bl _ => cases h
  | str _ => cases h
  | tup _ => cases h
  | ref _ => cases h
def int1 : List D → Option Int
  | [d] => d.asI
  | _ => none
theorem int1_eq : ∀ {xs : List D} {i : Int}, int1 xs = some i → xs = [.int i]
  | [d], i, h => by rw [D.asI_eq (show d.asI = some i from h)]
  | [], _, h => by cases h
  | _ :: _ :: _, _, h => by cases h
def int2 : List D → Option (Int × Int)
  | [d, e] => d.asI.bind fun i => e.asI.map fun j => (i, j)
  | _ => none
theorem int2_eq : ∀ {xs : List D} {p : Int × Int}, int2 xs = some p → xs = [.int p.1, .int p.2]
  | [d, e], p, h => by
    have h : (d.asI.bind fun i => e.asI.map fun j => (i, j)) = some p := h
    cases q : d.asI with
    | none => rw [q] at h; cases h
    | some i =>
      rw [q] at h
      cases q' : e.asI with
      | none => rw [q'] at h; cases h
      | some j =>
        rw [q'] at h
        cases h
        rw [D.asI_eq q, D.asI_eq q']
  | [], _, h => by cases h
  | [_], _, h => by cases h
  | _ :: _ :: _ :: _, _, h => by cases h
theorem rep_int {K : PySem.W.Frag} {m : Nat → Addr} {k : Nat} {H : Hp} {i : Int} {v : V} (h : Rep K m k H (.int i) v) : v = .int i := h
theorem repL_int1 {K : PySem.W.Frag} {m : Nat → Addr} {k : Nat} {H : Hp} {i : Int} {vs : List V} (h : RepL K m k H [.int i] vs) : vs = [.int i] := by
  obtain ⟨v, r, rfl, h1, q2⟩ := RepL.cons_iff.mp h
  rw [RepL.nil_iff.mp q2, rep_int h1]
theorem repL_int2 {K : PySem.W.Frag} {m : Nat → Addr} {k : Nat} {H : Hp} {i j : Int} {vs : List V} (h : RepL K m k H [.int i, .int j] vs) : vs = [.int i, .int j] := by
  obtain ⟨v, r, rfl, h1, q2⟩ := RepL.cons_iff.mp h
  rw [repL_int1 q2, rep_int h1]
def rng1 (xs : List D) (S : Store) : Rs Src := match int1 xs with
  | some j => if -100000 < j ∧ j < 100000 then .ok (.fix ((List.range j.toNat).map fun i => D.int (0 + (i : Nat)))) S else .stuck
  | none => .stuck
def rng2 (xs : List D) (S : Store) : Rs Src := match int2 xs with
  | some p => if -100000 < p.1 ∧ p.1 < 100000 ∧ -100000 < p.2 ∧ p.2 < 100000 then .ok (.fix ((List.range (p.2 - p.1).toNat).map fun k => D.int (p.1 + (k : Nat)))) S else .stuck
  | none => .stuck
def iRg1 (f : DA) : DI := fun e S => (f e S).bind rng1
def iRg2 (f : DA) : DI := fun e S => (f e S).bind rng2
def zipSrc (xs : List D) (S : Store) : Rs Src := match xs with
  | [.tup xs, .tup ys] => .ok (.zip (.fix xs) (.fix ys)) S
  | [.ref n, .ref k] => (match S[n]?, S[k]? with
    | some o, some u => if o.kind ≤ 1 ∧ u.kind ≤ 1 then .ok (.zip (.live n) (.live k)) S else .stuck
    | _, _ => .stuck)
  | _ => .stuck
def iZip (f : DA) : DI := fun e S => (f e S).bind zipSrc
section
variable {X : Cx} {c : Ct} {W : WX} {tg : Expr} {f : DE} {g : DA}
theorem PI.mono {e : Expr} {t t' : TI} (h : PI X tg e t) (w : ∀ σ H R, t' σ H R → t σ H R) : PI X tg e t' := ⟨fun pins s σ H R I q => h.run pins s σ H R I (w _ _ _ q)⟩
theorem PI.or {e : Expr} {t t' : TI} (h : PI X tg e t) (h' : PI X tg e t') : PI X tg e fun σ H R => t σ H R ∨ t' σ H R := ⟨fun pins s σ H R I q => q.elim (h.run pins s σ H R I) (h'.run pins s σ H R I)⟩
theorem i_seq {l : Expr} (h : PE X l (tD c W f)) (hK : X.K = c.K := by rfl) : PI X tg l (tI c W (iSeq f)) := by
  refine PI.mono (PI.or (pi_tup h) (pi_list h)) fun σ H R ⟨m, S, e, A, p⟩ => ?_
  unfold iSeq at p
  cases q : f e S with
  | stuck => rw [q] at p; exact p.elim
  | exc x S1 => exact .inl ⟨m, S, e, A, by rw [q] at p ⊢; exact p⟩
  | ok d S1 =>
    rw [q] at p
    cases d with
    | tup xs =>
      refine .inl ⟨m, S, e, A, ?_⟩
      rw [q]
      intro v m1 H1 s1 g1 rp
      have rp : Rep c.K m1 S1.length H1 (.tup xs) v := rp
      unfold Rep at rp
      obtain ⟨a, vs, e1, h1, h2⟩ := rp
      exact ⟨a, e1, ⟨vs, by rw [hK]; exact h1⟩, by rw [hK]; exact p _ m1 H1 s1 g1 (walk_fix s1 h1 h2)⟩
    | ref n =>
      refine .inr ⟨m, S, e, A, ?_⟩
      rw [q]
      intro v m1 H1 s1 g1 rp
      have rp : Rep c.K m1 S1.length H1 (.ref n) v := rp
      unfold Rep at rp
      have p : PostI c m S H (srcOf (.ref n) S1) R (Pz c W σ) := p
      unfold srcOf at p
      cases o : S1[n]? with
      | none => simp only [o] at p; exact p.elim
      | some ob =>
        cases ob with
        | lst xs =>
          simp only [o] at p
          obtain ⟨vs, h1, h2⟩ := s1.list (.inl o)
          exact ⟨m1 n, rp.2, ⟨vs, by rw [hK]; exact h1⟩, by rw [hK]; exact p _ m1 H1 s1 g1 (walk_live s1 o (by simp [DO.kind]))⟩
        | ro xs =>
          simp only [o] at p
          obtain ⟨vs, h1, h2⟩ := s1.list (.inr o)
          exact ⟨m1 n, rp.2, ⟨vs, by rw [hK]; exact h1⟩, by rw [hK]; exact p _ m1 H1 s1 g1 (walk_live s1 o (by simp [DO.kind]))⟩
        | dk _ => simp only [o] at p; exact p.elim
        | dn _ => simp only [o] at p; exact p.elim
        | ins _ _ => simp only [o] at p; exact p.elim
        | fk _ => simp only [o] at p; exact p.elim
    | non => exact p.elim
    | bl _ => exact p.elim
    | int _ => exact p.elim
    | str _ => exact p.elim
theorem i_range1 {a : Expr} {p pos : Pos} (hg : Gl X "range") (hm : X.mg "range" = none) (ha : PA X [a] (tL c W g)) (hs : starEach [a] X.env = [(false, eval a X.env)] := by rfl) : PI X tg (.Call (.Name "range" p) [a] [] pos) (tI c W (iRg1 g)) := by
  refine PI.mono (pi_range1 hg hm ha hs) fun σ H R ⟨m, S, e, A, p⟩ => ?_
  refine iter_at A p fun m1 S1 xs vs H1 A1 g1 q1 p1 => ?_
  unfold rng1 at p1
  cases q : int1 xs with
  | none => rw [q] at p1; exact p1.elim
  | some j =>
    rw [q] at p1
    dsimp only at p1
    rw [int1_eq q] at q1
    by_cases hj : -100000 < j ∧ j < 100000
    · rw [if_pos hj] at p1
      exact ⟨j, repL_int1 q1, by omega, by omega, p1 _ m1 H1 A1.s Grow.refl walk_rng⟩
    · rw [if_neg hj] at p1; exact p1.elim
theorem i_range2 {a b : Expr} {p pos : Pos} (hg : Gl X "range") (hm : X.mg "range" = none) (ha : PA X [a, b] (tL c W g)) (hs : starEach [a, b] X.env = [(false, eval a X.env), (false, eval b X.env)] := by rfl) (hs2 : starEach [b] X.env = [(false, eval b X.env)] := by rfl) :
    PI X tg (.Call (.Name "range" p) [a, b] [] pos) (tI c W (iRg2 g)) := by
  refine PI.mono (pi_range2 hg hm ha hs hs2) fun σ H R ⟨m, S, e, A, p⟩ => ?_
  refine iter_at A p fun m1 S1 xs vs H1 A1 g1 q1 p1 => ?_
  unfold rng2 at p1
  cases q : int2 xs with
  | none => rw [q] at p1; exact p1.elim
  | some z =>
    rw [q] at p1
    dsimp only at p1
    rw [int2_eq q] at q1
    by_cases hj : -100000 < z.1 ∧ z.1 < 100000 ∧ -100000 < z.2 ∧ z.2 < 100000
    · rw [if_pos hj] at p1
      exact ⟨z.1, z.2, repL_int2 q1, by omega, p1 _ m1 H1 A1.s Grow.refl walk_rng⟩
    · rw [if_neg hj] at p1; exact p1.elim
theorem i_zip {e e2 : Expr} {p pos tpos : Pos} {elts : List Expr} {kk : Nat} (hg : Gl X "zip") (hm : X.mg "zip" = none) (ha : PA X [e, e2] (tL c W g))
    (hs : starEach [e, e2] X.env = (false, eval e X.env) :: starEach [e2] X.env := by rfl) (hpl : (backTo pos (starEach [e2] X.env)).any (·.1) = false := by rfl) (hK : X.K = c.K := by rfl) :
    PI X (.Tuple elts kk tpos) (.Call (.Name "zip" p) [e, e2] [] pos) (tI c W (iZip g)) := by
  refine PI.mono (RZ.pi_zipA hg hm ha hs hpl) fun σ H R ⟨m, S, e, A, p⟩ => ?_
  refine iter_at A p fun m1 S1 xs vs H1 A1 g1 q1 p1 => ?_
  unfold zipSrc at p1
  split at p1
  · rename_i _ xs ys
    obtain ⟨v, r, rfl, h1, q2⟩ := RepL.cons_iff.mp q1
    obtain ⟨v2, r2, rfl, h2, q3⟩ := RepL.cons_iff.mp q2
    rw [RepL.nil_iff.mp q3]
    unfold Rep at h1 h2
    obtain ⟨a, vs, rfl, a1, a2⟩ := h1
    obtain ⟨b, ws, rfl, b1, b2⟩ := h2
    exact ⟨a, b, vs, ws, rfl, .inr ⟨by rw [hK]; exact a1, by rw [hK]; exact b1, by rw [hK]; exact p1 _ m1 H1 A1.s Grow.refl (walk_zpt A1.s a1 a2 b1 b2)⟩⟩
  · rename_i _ n k
    split at p1
    · rename_i _ _ o u e1 e2
      by_cases hk : o.kind ≤ 1 ∧ u.kind ≤ 1
      · rw [if_pos hk] at p1
        obtain ⟨v, r, rfl, h1, q2⟩ := RepL.cons_iff.mp q1
        obtain ⟨v2, r2, rfl, h2, q3⟩ := RepL.cons_iff.mp q2
        rw [RepL.nil_iff.mp q3]
        unfold Rep at h1 h2
        have ls : ∀ (n : Nat) (o : DO), S1[n]? = some o → o.kind ≤ 1 → ∃ vs, SqL c.K H1 (m1 n) vs := fun n o e hk => by
          cases o with
          | lst xs => obtain ⟨vs, h, _⟩ := A1.s.list (.inl e); exact ⟨vs, h⟩
          | ro xs => obtain ⟨vs, h, _⟩ := A1.s.list (.inr e); exact ⟨vs, h⟩
          | dk xs => exact absurd hk (by simp [DO.kind])
          | dn xs => exact absurd hk (by simp [DO.kind])
          | ins a b => exact absurd hk (by simp [DO.kind])
          | fk _ => exact absurd hk (by simp [DO.kind])
        obtain ⟨vs, a1⟩ := ls n o e1 hk.1
        obtain ⟨ws, b1⟩ := ls k u e2 hk.2
        exact ⟨m1 n, m1 k, vs, ws, by rw [h1.2, h2.2], .inl ⟨by rw [hK]; exact a1, by rw [hK]; exact b1, by rw [hK]; exact p1 _ m1 H1 A1.s Grow.refl (walk_zpl A1.s e1 hk.1 e2 hk.2)⟩⟩
      · rw [if_neg hk] at p1; exact p1.elim
    · exact p1.elim
  · exact p1.elim
end

/-! ### for -/
def forD : Nat → Src → DG → DS → Nat → DS
  | 0, _, _, _, _ => fun _ _ => .stuck
  | n + 1, src, g, b, i => fun e S => match src.at S i with
    | none => .nx e S
    | some d => ((g d e S).noX).to e fun e1 S1 => match b e1 S1 with
      | .nx e2 S2 => forD n src g b (i + 1) e2 S2
      | .ct e2 S2 => forD n src g b (i + 1) e2 S2
      | .bk e2 S2 => .nx e2 S2
      | r => r
def sFor (f : DI) (g : DG) (b : DS) : DS := fun e S => (f e S).to e fun src S1 => forD FUEL src g b 0 e S1
section
variable {X : Cx} {c : Ct} {W : WX} {tg iter : Expr} {f : DI} {g : DG} {fs : DS} {pos : Pos} {us : List Nat}
theorem s_for {body : List Stmt} (hp : PassesOwn (model X.prog X.w) X.A X.env X.xe) (hc : X.calm = true) (hi : PI X tg iter (tI c W f)) (hg : PG X tg (tGt c us g)) (hb : PSs X body (tS c W fs))
    (hs : ∀ x, foldedSetIterable iter X.env x = pure x := by intro _; rfl) : PS X (.For tg iter body [] pos) (tS c W (sFor f g fs)) := by
  refine PS.mono (ps_for hp hc hi hg hb hs) fun σ H B ⟨m, S, e, A, p⟩ => ⟨m, S, e, A, ?_⟩
  unfold sFor at p
  cases q : f e S with
  | stuck => rw [q] at p; exact p
  | exc x S1 => rw [q] at p; exact fun m1 H1 s1 g1 => p σ m1 H1 (A.grow g1 s1) g1
  | ok src S1 =>
    rw [q] at p
    intro J m1 H1 s1 g1 wk
    have p : PostS c W m1 S1 H1 (forD FUEL src g fs 0 e S1) B := PostS.grow g1 p
    refine ⟨fun i n σ H => ∃ m S e, At c m S H e σ ∧ Grow m1 S1 H1 m S H ∧ PostS c W m S H (forD n src g fs i e S) B, ⟨FUEL, m1, S1, e, A.grow g1 s1, Grow.refl, p⟩, ?_⟩
    rintro i n σ H ⟨m, S, e, A, gr, p⟩
    have w := wk m S H i A.s gr
    cases n with
    | zero => exact p.elim
    | succ n =>
      unfold forD at p
      cases o : src.at S i with
      | none =>
        rw [o] at w p
        exact .inl ⟨w, p σ m H A Grow.refl⟩
      | some d =>
        rw [o] at w p
        obtain ⟨go, yl⟩ := w
        refine .inr ⟨go, fun σ' H' => ∃ m S e, At c m S H' e σ' ∧ Grow m1 S1 H1 m S H' ∧ PostS c W m S H' (forD n src g fs (i + 1) e S) B, fun σ' H' h => ⟨n, Nat.lt_succ_self n, h⟩, fun x H2 y => ?_⟩
        obtain ⟨sm, rx⟩ := yl x H2 y
        have A2 : At c m S H2 e σ := A.grow (Grow.same sm) (A.s.same sm)
        have gr2 := gr.trans (Grow.same (m := m) (S := S) sm)
        have p : PostS c W m S H2 (((g d e S).noX).to e fun e1 S1 => match fs e1 S1 with
            | .nx e2 S2 => forD n src g fs (i + 1) e2 S2
            | .ct e2 S2 => forD n src g fs (i + 1) e2 S2
            | .bk e2 S2 => .nx e2 S2
            | r => r) B := PostS.grow (Grow.same sm) p
        refine ⟨m, S, e, d, A2, rx, ?_⟩
        cases qg : g d e S with
        | stuck => rw [qg] at p; exact p.elim
        | exc x S3 => rw [qg] at p; exact p.elim
        | ok e3 S3 =>
          rw [qg] at p
          intro σ3 m3 H3 s3 g3 re3 _
          have A3 : At c m3 S3 H3 e3 σ3 := ⟨s3, re3⟩
          have gr3 := gr2.trans g3
          have p := PostS.grow g3 p
          refine ⟨m3, S3, e3, A3, ?_⟩
          dsimp only [Rs.noX, Rs.to] at p
          cases qb : fs e3 S3 with
          | nx e' S' => rw [qb] at p; exact fun σ' m' H' a g => ⟨m', S', e', a, gr3.trans g, PostS.grow g p⟩
          | ct e' S' => rw [qb] at p; exact fun σ' m' H' a g => ⟨m', S', e', a, gr3.trans g, PostS.grow g p⟩
          | bk e' S' => rw [qb] at p; exact p
          | rt d S' => rw [qb] at p; exact p
          | exc x e' S' => rw [qb] at p; exact p
          | stuck => rw [qb] at p; exact p
end
end Dl

set_option Elab.async false
set_option linter.all false
set_option maxRecDepth 100000
set_option maxHeartbeats 4000000
namespace Dl
open PySem PySem.Spec L2

/-! ### comprehensions -/
def wipeE (e : Env) : List Nat → Env
  | [] => e
  | v :: vs => (wipeE e vs).set v none
theorem wipeE_rel {c : Ct} {m : Nat → Addr} {k : Nat} {H : Hp} {e : Env} {σ : L2.St} (h : ERel c m k H e σ) : ∀ vs : List Nat, ERel c m k H (wipeE e vs) (wipe σ vs)
  | [] => h
  | v :: vs => by
    have ih := wipeE_rel h vs
    unfold wipeE wipe
    refine ⟨by rw [List.length_set, List.length_set, ih.len], fun i d q => ?_⟩
    by_cases hi : v = i
    · subst hi
      by_cases hl : v < (wipeE e vs).length
      · rw [List.getElem?_set_self hl] at q; cases q
      · rw [List.getElem?_eq_none (by simpa using hl)] at q; cases q
    · rw [List.getElem?_set_ne hi] at q ⊢
      exact ih.get i d q
theorem wipe_get {σ : L2.St} {i : Nat} : ∀ {us : List Nat}, (wipe σ us)[i]? = if i ∈ us then (σ[i]?).map fun _ => none else σ[i]?
  | [] => by simp [wipe]
  | u :: us => by
    unfold wipe
    by_cases hu : u = i
    · subst hu
      simp only [List.mem_cons, true_or, if_true]
      by_cases hl : u < σ.length
      · rw [List.getElem?_set_self (by rw [wipe_length]; exact hl), List.getElem?_eq_getElem hl]; rfl
      · rw [List.getElem?_eq_none (by rw [List.length_set, wipe_length]; omega), List.getElem?_eq_none (by omega)]; rfl
    · rw [List.getElem?_set_ne hu, wipe_get]
      have : (i ∈ u :: us) ↔ i ∈ us := ⟨fun h => (List.mem_cons.mp h).resolve_left fun z => hu z.symm, List.mem_cons_of_mem _⟩
      simp only [this]
theorem wipe_idem {σ : L2.St} {us : List Nat} : wipe (wipe σ us) us = wipe σ us := by
  refine List.ext_getElem? fun i => ?_
  rw [wipe_get, wipe_get]
  by_cases h : i ∈ us
  · rw [if_pos h, if_pos h]; cases σ[i]? <;> rfl
  · rw [if_neg h, if_neg h]
def addTo (L : Nat) (y : D) (S : Store) : Option Store := match S[L]? with
  | some (.lst acc) => if acc.length < 100000 then some (S.set L (.lst (acc ++ [y]))) else none
  | _ => none
def lcD : Nat → Src → DG → DT → DE → Nat → Env → Nat → Store → Rs D
  | 0, _, _, _, _, _, _, _, _ => .stuck
  | n + 1, src, g, tt, te, L, e0, i, S => match src.at S i with
    | none => .ok (.ref L) S
    | some d => ((g d e0 S).noX).bind fun e1 S1 => ((tt e1 S1).noX).bind fun b S2 => if b = true then
        ((te e1 S2).noX).bind fun y S3 => match addTo L y S3 with
          | some S4 => lcD n src g tt te L e0 (i + 1) S4
          | none => .stuck
      else lcD n src g tt te L e0 (i + 1) S2
def cLc (f : DI) (g : DG) (tt : DT) (te : DE) (us : List Nat) : DE := fun e S => match f e S with
  | .ok src S1 => lcD FUEL src g tt te S1.length (wipeE e us) 0 (S1 ++ [.lst []])
  | .exc x S1 => .exc x S1
  | .stuck => .stuck
def kYes : DT := fun _ S => .ok true S
abbrev W0 : WX := fun _ _ _ _ => False
section
variable {c : Ct} {W : WX} {m : Nat → Addr} {S : Store} {H : Hp} {e : Env} {σ : L2.St}
theorem addTo_ok {L : Nat} {y : D} {S4 : Store} {v : V} (r : SRel c m S H) (h : addTo L y S = some S4) (hy : Rep c.K m S.length H y v) : ∃ acc, H (m L) = some (.lst acc) ∧ acc.length < sizeLine ∧
    SRel c m S4 (L2.upd H (m L) (.lst (acc ++ [v]))) ∧ Grow m S H m S4 (L2.upd H (m L) (.lst (acc ++ [v]))) := by
  unfold addTo at h
  cases o : S[L]? with
  | none => rw [o] at h; cases h
  | some ob =>
    rw [o] at h
    cases ob with
    | lst acc =>
      dsimp only at h
      by_cases hz : acc.length < 100000
      · rw [if_pos hz] at h
        cases h
        obtain ⟨vs, h1, h2⟩ := r.obj L _ o
        obtain ⟨a, b⟩ := r.write (o' := .lst (acc ++ [y])) (u := .lst (vs ++ [v])) o (fun z => nomatch z) rfl ⟨_, upd_same, RepL.app (RepL.mono (Ext.upd (by rw [h1]; rfl)) _ _ h2) (RepL.cons (Rep.mono (Ext.upd (by rw [h1]; rfl)) _ _ hy) RepL.nil)⟩
        exact ⟨vs, h1, by rw [h2.len]; exact small5 (Nat.le_of_lt hz), a, b⟩
      · rw [if_neg hz] at h; cases h
    | ro _ => cases h
    | dk _ => cases h
    | dn _ => cases h
    | ins _ _ => cases h
    | fk _ => cases h
/-- a result of a block: nothing is let out of it -/
theorem noX_bind {α β γ δ : Type} {rel : RelT α β} {rel2 : RelT γ δ} {r : Rs α} {k : α → Store → Rs γ} {Q : δ → Hp → Prop} {Z : Nat → Hp → Prop} {R : β → Hp → Prop} {Z' : Nat → Hp → Prop} (p : PostG c rel2 m S H ((r.noX).bind k) Q Z)
    (h : ∀ m1 S1 a b H1, SRel c m1 S1 H1 → Grow m S H m1 S1 H1 → rel m1 S1.length H1 a b → PostG c rel2 m1 S1 H1 (k a S1) Q Z → R b H1) : PostG c rel m S H r R Z' := by
  cases r with
  | ok a S1 => exact fun b m1 H1 s1 g1 rb => h m1 S1 a b H1 s1 g1 rb (PostG.grow g1 p)
  | exc x S1 => exact p.elim
  | stuck => exact p.elim
theorem lc_tD {K : PySem.W.Frag} {f : DI} {g : DG} {tt : DT} {te : DE} {us : List Nat} : ∀ {σ : L2.St} {H : Hp} {Q : VK}, tD c W (cLc f g tt te us) σ H Q → tLc (tI c W f) (tGt c us g) (tT c W0 tt) (tD c W0 te) us σ H Q := by
  intro σ H Q ⟨m, S, e, A, p⟩
  refine ⟨m, S, e, A, ?_⟩
  unfold cLc at p
  cases q : f e S with
  | stuck => rw [q] at p; exact p
  | exc x S1 => rw [q] at p; exact p
  | ok src S1 =>
    rw [q] at p
    intro J m1 H1 s1 g1 wk L hL
    have sm : Same H1 (L2.upd H1 L (.lst [])) := fun a o h => by rw [upd_ne (ne_of_none h hL)]; exact h
    obtain ⟨s2, g2⟩ := s1.push (o := .lst []) (u := .lst []) hL (fun z => nomatch z) ⟨[], upd_same, RepL.nil⟩
    have A0 : At c m1 S1 H1 e σ := A.grow g1 s1
    have p := PostG.grow (g1.trans g2) p
    -- the place of the new list
    have hmL : (fun i => if i = S1.length then L else m1 i) S1.length = L := if_pos rfl
    refine ⟨fun i n H => ∃ m S, SRel c m S H ∧ Grow m1 S1 H1 m S H ∧ m S1.length = L ∧ S1.length < S.length ∧ PostG c (relD c) m S H (lcD n src g tt te S1.length (wipeE e us) i S) Q (Pz c W σ), ⟨FUEL, _, _, s2, g2, hmL, by simp, p⟩, ?_⟩
    rintro i n H ⟨m, S, s, gr, hm, hl, p⟩
    have w := wk m S H i s gr
    cases n with
    | zero => exact p.elim
    | succ n =>
      unfold lcD at p
      cases o : src.at S i with
      | none =>
        rw [o] at w p
        refine .inl ⟨w, p.here s ?_⟩
        show Rep c.K m S.length H (.ref S1.length) (.ref L)
        unfold Rep
        exact ⟨hl, by rw [hm]⟩
      | some d =>
        rw [o] at w p
        obtain ⟨go, yl⟩ := w
        refine .inr ⟨go, fun H' => ∃ m S, SRel c m S H' ∧ Grow m1 S1 H1 m S H' ∧ m S1.length = L ∧ S1.length < S.length ∧ PostG c (relD c) m S H' (lcD n src g tt te S1.length (wipeE e us) (i + 1) S) Q (Pz c W σ), fun H' h => ⟨n, Nat.lt_succ_self n, h⟩, fun x H2 y => ?_⟩
        obtain ⟨sm2, rx⟩ := yl x H2 y
        have gs : Grow m S H m S H2 := Grow.same sm2
        have s3 := s.same sm2
        have gr3 := gr.trans gs
        have A3 : At c m S H2 (wipeE e us) (wipe σ us) := ⟨s3, wipeE_rel (A0.e.grow gr3 s1) us⟩
        have p := PostG.grow gs p
        refine ⟨m, S, wipeE e us, d, A3, rx, noX_bind (rel := relE c) p fun m4 S4 e4 σ4 H4 s4 g4 re4 p4 hw => ⟨hw.trans wipe_idem, ?_⟩⟩
        refine ⟨m4, S4, e4, ⟨s4, re4⟩, noX_bind (rel := relB) p4 fun m5 S5 b b' H5 s5 g5 rb p5 => ?_⟩
        cases rb
        have fin : ∀ {m' : Nat → Addr} {S' : Store} {H' : Hp}, SRel c m' S' H' → Grow m4 S4 H4 m' S' H' → (Grow m1 S1 H1 m' S' H' ∧ m' S1.length = L ∧ S1.length < S'.length) := fun s' g' =>
          ⟨(gr3.trans g4).trans g', by rw [(g4.trans g').eq _ hl]; exact hm, Nat.lt_of_lt_of_le hl (g4.trans g').len⟩
        cases b with
        | false =>
          obtain ⟨a1, a2, a3⟩ := fin s5 g5
          exact ⟨m5, S5, s5, a1, a2, a3, p5⟩
        | true =>
          refine ⟨m5, S5, e4, ⟨s5, ERel.grow re4 g5 s4⟩, noX_bind (rel := relD c) p5 fun m6 S6 yd yv H6 s6 g6 ry p6 => ?_⟩
          cases o6 : addTo S1.length yd S6 with
          | none => rw [o6] at p6; exact p6.elim
          | some S7 =>
            rw [o6] at p6
            obtain ⟨acc, h1, h2, h3, h4⟩ := addTo_ok s6 o6 ry
            obtain ⟨a1, a2, a3⟩ := fin s6 (g5.trans g6)
            rw [a2] at h1 h3 h4
            exact ⟨acc, h1, h2, m6, S7, h3, a1.trans h4, a2, Nat.lt_of_lt_of_le a3 h4.len, PostG.grow h4 p6⟩
end

/-! ### .. with two fors -/
def lcI : Nat → Src → DG → DT → DE → Nat → Env → Nat → Store → Rs Unit
  | 0, _, _, _, _, _, _, _, _ => .stuck
  | n + 1, src, g, tt, te, L, e0, i, S => match src.at S i with
    | none => .ok () S
    | some d => ((g d e0 S).noX).bind fun e1 S1 => ((tt e1 S1).noX).bind fun b S2 => if b = true then
        ((te e1 S2).noX).bind fun y S3 => match addTo L y S3 with
          | some S4 => lcI n src g tt te L e0 (i + 1) S4
          | none => .stuck
      else lcI n src g tt te L e0 (i + 1) S2
def lcO : Nat → Src → DG → DT → DI → DG → DT → DE → List Nat → Nat → Env → Nat → Store → Rs D
  | 0, _, _, _, _, _, _, _, _, _, _, _, _ => .stuck
  | n + 1, src, g, tt, f1, g1, tt1, te, us1, L, e0, i, S => match src.at S i with
    | none => .ok (.ref L) S
    | some d => ((g d e0 S).noX).bind fun e1 S1 => ((tt e1 S1).noX).bind fun b S2 => if b = true then
        ((f1 e1 S2).noX).bind fun src1 S3 => (lcI FUEL src1 g1 tt1 te L (wipeE e1 us1) 0 S3).bind fun _ S4 => lcO n src g tt f1 g1 tt1 te us1 L e0 (i + 1) S4
      else lcO n src g tt f1 g1 tt1 te us1 L e0 (i + 1) S2
def cLc2 (f : DI) (g : DG) (tt : DT) (f1 : DI) (g1 : DG) (tt1 : DT) (te : DE) (us us1 : List Nat) : DE := fun e S => match f e S with
  | .ok src S1 => lcO FUEL src g tt f1 g1 tt1 te us1 S1.length (wipeE e us) 0 (S1 ++ [.lst []])
  | .exc x S1 => .exc x S1
  | .stuck => .stuck
section
variable {c : Ct} {W : WX}
theorem lc2_tD {f f1 : DI} {g g1 : DG} {tt tt1 : DT} {te : DE} {us us1 : List Nat} : ∀ {σ : L2.St} {H : Hp} {Q : VK}, tD c W (cLc2 f g tt f1 g1 tt1 te us us1) σ H Q → tLc2 (tI c W f) (tGt c us g) (tT c W0 tt) (tI c W0 f1) (tGt c us1 g1) (tT c W0 tt1) (tD c W0 te) us us1 σ H Q := by
  intro σ H Q ⟨m, S, e, A, p⟩
  refine ⟨m, S, e, A, ?_⟩
  unfold cLc2 at p
  cases q : f e S with
  | stuck => rw [q] at p; exact p
  | exc x S1 => rw [q] at p; exact p
  | ok src S1 =>
    rw [q] at p
    intro J m1 H1 s1 g1' wk L hL
    obtain ⟨s2, g2⟩ := s1.push (o := .lst []) (u := .lst []) hL (fun z => nomatch z) ⟨[], upd_same, RepL.nil⟩
    have A0 : At c m1 S1 H1 e σ := A.grow g1' s1
    have p := PostG.grow (g1'.trans g2) p
    have hmL : (fun i => if i = S1.length then L else m1 i) S1.length = L := if_pos rfl
    refine ⟨fun i n H => ∃ m S, SRel c m S H ∧ Grow m1 S1 H1 m S H ∧ m S1.length = L ∧ S1.length < S.length ∧ PostG c (relD c) m S H (lcO n src g tt f1 g1 tt1 te us1 S1.length (wipeE e us) i S) Q (Pz c W σ), ⟨FUEL, _, _, s2, g2, hmL, by simp, p⟩, ?_⟩
    rintro i n H ⟨m, S, s, gr, hm, hl, p⟩
    have w := wk m S H i s gr
    cases n with
    | zero => exact p.elim
    | succ n =>
      unfold lcO at p
      cases o : src.at S i with
      | none =>
        rw [o] at w p
        refine .inl ⟨w, p.here s ?_⟩
        show Rep c.K m S.length H (.ref S1.length) (.ref L)
        unfold Rep
        exact ⟨hl, by rw [hm]⟩
      | some d =>
        rw [o] at w p
        obtain ⟨go, yl⟩ := w
        refine .inr ⟨go, fun H' => ∃ m S, SRel c m S H' ∧ Grow m1 S1 H1 m S H' ∧ m S1.length = L ∧ S1.length < S.length ∧ PostG c (relD c) m S H' (lcO n src g tt f1 g1 tt1 te us1 S1.length (wipeE e us) (i + 1) S) Q (Pz c W σ), fun H' h => ⟨n, Nat.lt_succ_self n, h⟩, fun x H2 y => ?_⟩
        obtain ⟨sm2, rx⟩ := yl x H2 y
        have gs : Grow m S H m S H2 := Grow.same sm2
        have s3 := s.same sm2
        have gr3 := gr.trans gs
        have A3 : At c m S H2 (wipeE e us) (wipe σ us) := ⟨s3, wipeE_rel (A0.e.grow gr3 s1) us⟩
        have p := PostG.grow gs p
        refine ⟨m, S, wipeE e us, d, A3, rx, noX_bind (rel := relE c) p fun m4 S4 e4 σ4 H4 s4 g4 re4 p4 hw => ⟨hw.trans wipe_idem, ?_⟩⟩
        refine ⟨m4, S4, e4, ⟨s4, re4⟩, noX_bind (rel := relB) p4 fun m5 S5 b b' H5 s5 g5 rb p5 => ?_⟩
        cases rb
        have fin : ∀ {m' : Nat → Addr} {S' : Store} {H' : Hp}, SRel c m' S' H' → Grow m4 S4 H4 m' S' H' → (Grow m1 S1 H1 m' S' H' ∧ m' S1.length = L ∧ S1.length < S'.length) := fun s' g' =>
          ⟨(gr3.trans g4).trans g', by rw [(g4.trans g').eq _ hl]; exact hm, Nat.lt_of_lt_of_le hl (g4.trans g').len⟩
        cases b with
        | false =>
          obtain ⟨a1, a2, a3⟩ := fin s5 g5
          exact ⟨m5, S5, s5, a1, a2, a3, p5⟩
        | true =>
          rw [if_pos rfl]
          rw [if_pos rfl] at p5
          have re5 : ERel c m5 S5.length H5 e4 σ4 := ERel.grow re4 g5 s4
          refine ⟨m5, S5, e4, ⟨s5, re5⟩, ?_⟩
          cases q1 : f1 e4 S5 with
          | stuck => rw [q1] at p5; exact p5.elim
          | exc x S6 => rw [q1] at p5; exact p5.elim
          | ok src1 S6 =>
            rw [q1] at p5
            intro J1 m6 H6 s6 g6 wk1
            have p6 : PostG c (relD c) m6 S6 H6 ((lcI FUEL src1 g1 tt1 te S1.length (wipeE e4 us1) 0 S6).bind fun _ S4 => lcO n src g tt f1 g1 tt1 te us1 S1.length (wipeE e us) (i + 1) S4) Q (Pz c W σ) := PostG.grow g6 p5
            obtain ⟨b1, b2, b3⟩ := fin s6 (g5.trans g6)
            have re6 : ERel c m6 S6.length H6 e4 σ4 := ERel.grow re5 g6 s5
            refine ⟨fun j k H => ∃ m S, SRel c m S H ∧ Grow m6 S6 H6 m S H ∧ m S1.length = L ∧ S1.length < S.length ∧ PostG c (relD c) m S H ((lcI k src1 g1 tt1 te S1.length (wipeE e4 us1) j S).bind fun _ S4 => lcO n src g tt f1 g1 tt1 te us1 S1.length (wipeE e us) (i + 1) S4) Q (Pz c W σ),
              ⟨FUEL, m6, S6, s6, Grow.refl, b2, b3, p6⟩, ?_⟩
            rintro j k H ⟨m, S, s, gr', hm', hl', p⟩
            have w1 := wk1 m S H j s gr'
            cases k with
            | zero => exact p.elim
            | succ k =>
              unfold lcI at p
              cases o1 : src1.at S j with
              | none =>
                rw [o1] at w1 p
                exact .inl ⟨w1, m, S, s, b1.trans gr', hm', hl', p⟩
              | some d1 =>
                rw [o1] at w1 p
                obtain ⟨go1, yl1⟩ := w1
                refine .inr ⟨go1, fun H' => ∃ m S, SRel c m S H' ∧ Grow m6 S6 H6 m S H' ∧ m S1.length = L ∧ S1.length < S.length ∧ PostG c (relD c) m S H' ((lcI k src1 g1 tt1 te S1.length (wipeE e4 us1) (j + 1) S).bind fun _ S4 => lcO n src g tt f1 g1 tt1 te us1 S1.length (wipeE e us) (i + 1) S4) Q (Pz c W σ),
                  fun H' h => ⟨k, Nat.lt_succ_self k, h⟩, fun x H2 y => ?_⟩
                obtain ⟨sm7, rx7⟩ := yl1 x H2 y
                have gs7 : Grow m S H m S H2 := Grow.same sm7
                have s7 := s.same sm7
                have gr7 := gr'.trans gs7
                have A7 : At c m S H2 (wipeE e4 us1) (wipe σ4 us1) := ⟨s7, wipeE_rel (ERel.grow re6 gr7 s6) us1⟩
                have p7 := PostG.grow gs7 p
                dsimp only at p7
                cases qg : g1 d1 (wipeE e4 us1) S with
                | stuck => rw [qg] at p7; exact p7.elim
                | exc x S8 => rw [qg] at p7; exact p7.elim
                | ok e8 S8 =>
                  rw [qg] at p7
                  refine ⟨m, S, wipeE e4 us1, d1, A7, rx7, ?_⟩
                  rw [qg]
                  intro σ8 m8 H8 s8 g8 re8 hw8
                  refine ⟨hw8.trans wipe_idem, ?_⟩
                  have p8 := PostG.grow g8 p7
                  dsimp only [Rs.noX, Rs.bind] at p8
                  refine ⟨m8, S8, e8, ⟨s8, re8⟩, ?_⟩
                  cases qt : tt1 e8 S8 with
                  | stuck => rw [qt] at p8; exact p8.elim
                  | exc x S9 => rw [qt] at p8; exact p8.elim
                  | ok bb S9 =>
                    rw [qt] at p8
                    intro bb' m9 H9 s9 g9 rb
                    cases rb
                    have p9 := PostG.grow g9 p8
                    have fin1 : ∀ {m' : Nat → Addr} {S' : Store} {H' : Hp}, SRel c m' S' H' → Grow m8 S8 H8 m' S' H' → (Grow m6 S6 H6 m' S' H' ∧ m' S1.length = L ∧ S1.length < S'.length) := fun s' g' =>
                      ⟨(gr7.trans g8).trans g', by rw [(g8.trans g').eq _ hl']; exact hm', Nat.lt_of_lt_of_le hl' (g8.trans g').len⟩
                    cases bb with
                    | false =>
                      obtain ⟨a1, a2, a3⟩ := fin1 s9 g9
                      exact ⟨m9, S9, s9, a1, a2, a3, p9⟩
                    | true =>
                      rw [if_pos rfl]
                      dsimp only [Rs.noX] at p9
                      simp only [if_true] at p9
                      refine ⟨m9, S9, e8, ⟨s9, ERel.grow re8 g9 s8⟩, ?_⟩
                      cases qe : te e8 S9 with
                      | stuck => rw [qe] at p9; exact p9.elim
                      | exc x S10 => rw [qe] at p9; exact p9.elim
                      | ok yd S10 =>
                        rw [qe] at p9
                        intro yv m10 H10 s10 g10 ry
                        have p10 := PostG.grow g10 p9
                        dsimp only [Rs.bind] at p10
                        cases o6 : addTo S1.length yd S10 with
                        | none => rw [o6] at p10; exact p10.elim
                        | some S7 =>
                          rw [o6] at p10
                          obtain ⟨acc, h1, h2, h3, h4⟩ := addTo_ok s10 o6 ry
                          obtain ⟨a1, a2, a3⟩ := fin1 s10 (g9.trans g10)
                          rw [a2] at h1 h3 h4
                          exact ⟨acc, h1, h2, m10, S7, h3, a1.trans h4, a2, Nat.lt_of_lt_of_le a3 h4.len, PostG.grow h4 p10⟩
end

/-! ### the rules -/
section
variable {X : Cx} {c : Ct} {W : WX} {elt tg iter tg1 iter1 e0 : Expr} {ifs ifs1 : List Expr} {scope : Scope} {own : List (Str × Nat)} {us1 : List Nat} {pos spos py : Pos} {f f1 : DI} {g g1 : DG} {tt tt1 : DT} {te : DE} {i : Nat} {y : Str}
theorem k_yes : PTs X [] (tT c W kYes) := ⟨fun pins s σ H Q I ⟨m, S, e, A, p⟩ => pts_nil.run pins s σ H Q I (p.here A.s rfl)⟩
theorem k_only (h : PT X e0 (tT c W tt)) : PTs X [e0] (tT c W tt) := pts_one h
theorem d_lc (hc : X.calm = true) (hN : X.N.Nodup) (hi : PI X tg iter (tI c W f)) (ok : BlkOk X.N X.env.scope scope own)
    (hg : ∀ (s : Shared) (H : Hp) (C : Addr) (cl : List (Str × Addr)) (fp : List Addr), PG (X.blk s H scope (compEnvC scope cl C X.env) fp) tg (tGt c (own.map (·.2)) g)) (ht : ∀ (s : Shared) (H : Hp) (C : Addr) (cl : List (Str × Addr)) (fp : List Addr), PTs (X.blk s H scope (compEnvC scope cl C X.env) fp) ifs (tT c W0 tt))
    (he : ∀ (s : Shared) (H : Hp) (C : Addr) (cl : List (Str × Addr)) (fp : List Addr), PE (X.blk s H scope (compEnvC scope cl C X.env) fp) elt (tD c W0 te)) (hs : ∀ x, foldedSetIterable iter X.env x = pure x := by intro _; rfl) :
    PE X (.ListComp elt [⟨tg, iter, ifs, 0⟩] scope pos) (tD c W (cLc f g tt te (own.map (·.2)))) := PE.mono (pe_lc hc hN hi ok hg ht he hs) fun _ _ _ h => lc_tD (K := X.K) h
theorem s_setLc (hc : X.calm = true) (hN : X.N.Nodup) (hy : X.N[i]? = some y) (hyl : X.env.scope.names.lookup y = some .local) (hsw : swapsWith (.ListComp elt [⟨tg, iter, ifs, 0⟩] scope pos) (some (.Name y py)) spos.line X.env = pure true)
    (hi : PI X tg iter (tI c W f)) (ok : BlkOk X.N X.env.scope scope own)
    (hg : ∀ (s : Shared) (H : Hp) (C : Addr) (cl : List (Str × Addr)) (fp : List Addr), PG (X.blk s H scope (compEnvC scope cl C X.env) fp) tg (tGt c (own.map (·.2)) g)) (ht : ∀ (s : Shared) (H : Hp) (C : Addr) (cl : List (Str × Addr)) (fp : List Addr), PTs (X.blk s H scope (compEnvC scope cl C X.env) fp) ifs (tT c W0 tt))
    (he : ∀ (s : Shared) (H : Hp) (C : Addr) (cl : List (Str × Addr)) (fp : List Addr), PE (X.blk s H scope (compEnvC scope cl C X.env) fp) elt (tD c W0 te)) (hs : ∀ x, foldedSetIterable iter X.env x = pure x := by intro _; rfl) :
    PS X (.Assign [.Name y py] (.ListComp elt [⟨tg, iter, ifs, 0⟩] scope pos) spos) (tS c W (sSet i (cLc f g tt te (own.map (·.2))))) :=
  PS.mono (ps_setLc hc hN hy hyl hsw hi ok hg ht he hs) (set_tS fun _ _ _ h => lc_tD (K := X.K) h)
theorem d_lc2 (hc : X.calm = true) (hN : X.N.Nodup) (hi : PI X tg iter (tI c W f)) (ok : BlkOk X.N X.env.scope scope own) (hv : ∀ i ∈ us1, i ∈ own.map (·.2))
    (hg : ∀ (s : Shared) (H : Hp) (C : Addr) (cl : List (Str × Addr)) (fp : List Addr), PG (X.blk s H scope (compEnvC scope cl C X.env) fp) tg (tGt c (own.map (·.2)) g)) (ht : ∀ (s : Shared) (H : Hp) (C : Addr) (cl : List (Str × Addr)) (fp : List Addr), PTs (X.blk s H scope (compEnvC scope cl C X.env) fp) ifs (tT c W0 tt))
    (hi1 : ∀ (s : Shared) (H : Hp) (C : Addr) (cl : List (Str × Addr)) (fp : List Addr), PI (X.blk s H scope (compEnvC scope cl C X.env) fp) tg1 iter1 (tI c W0 f1))
    (hg1 : ∀ (s : Shared) (H : Hp) (C : Addr) (cl : List (Str × Addr)) (fp : List Addr), PG (X.blk s H scope (compEnvC scope cl C X.env) fp) tg1 (tGt c us1 g1)) (ht1 : ∀ (s : Shared) (H : Hp) (C : Addr) (cl : List (Str × Addr)) (fp : List Addr), PTs (X.blk s H scope (compEnvC scope cl C X.env) fp) ifs1 (tT c W0 tt1))
    (he : ∀ (s : Shared) (H : Hp) (C : Addr) (cl : List (Str × Addr)) (fp : List Addr), PE (X.blk s H scope (compEnvC scope cl C X.env) fp) elt (tD c W0 te)) (hs : ∀ x, foldedSetIterable iter X.env x = pure x := by intro _; rfl) (hs1 : ∀ env x, foldedSetIterable iter1 env x = pure x := by intro _ _; rfl) :
    PE X (.ListComp elt [⟨tg, iter, ifs, 0⟩, ⟨tg1, iter1, ifs1, 0⟩] scope pos) (tD c W (cLc2 f g tt f1 g1 tt1 te (own.map (·.2)) us1)) := PE.mono (pe_lc2 hc hN hi ok hv hg ht hi1 hg1 ht1 he hs hs1) fun _ _ _ h => lc2_tD h
end
end Dl

set_option Elab.async false
set_option linter.all false
set_option maxRecDepth 100000
set_option maxHeartbeats 4000000
namespace Dl
open PySem PySem.Spec L2

/-! ### operators by values -/
section
variable {c : Ct} {m : Nat → Addr} {S : Store} {H : Hp}
theorem OpD.or {r r' : R2} {g : Store → D → D → Rs D} (p : Store → D → D → Bool) (h : OpD c r fun S x y => if p S x y = true then g S x y else .stuck) (h' : OpD c r' fun S x y => if p S x y = true then .stuck else g S x y) : OpD c (fun x y H Q => r x y H Q ∨ r' x y H Q) g := by
  intro m S H x y vx vy Q Z s hx hy q
  by_cases hp : p S x y = true
  · exact .inl (h m S H x y vx vy Q Z s hx hy (by simp only [hp, if_true]; exact q))
  · exact .inr (h' m S H x y vx vy Q Z s hx hy (by simp only [hp, if_false]; exact q))
/-- two ints -/
def gII (f : Int → Int → D) : Store → D → D → Rs D := fun S x y => match x, y with
  | .int i, .int j => .ok (f i j) S
  | _, _ => .stuck
theorem gII_eq {f : Int → Int → D} {x y : D} {S : Store} {Q : VK} {Z : Nat → Hp → Prop} (p : PostG c (relD c) m S H (gII f S x y) Q Z) : ∃ i j, x = .int i ∧ y = .int j ∧ PostG c (relD c) m S H (.ok (f i j) S) Q Z := by
  cases x with
  | int i =>
    cases y with
    | int j => exact ⟨i, j, rfl, rfl, p⟩
    | non => exact p.elim
    | bl _ => exact p.elim
    | str _ => exact p.elim
    | tup _ => exact p.elim
    | ref _ => exact p.elim
  | non => exact p.elim
  | bl _ => exact p.elim
  | str _ => exact p.elim
  | tup _ => exact p.elim
  | ref _ => exact p.elim
theorem opII {f : Int → Int → D} {fv : Int → Int → V} (h : ∀ i j K m k H, Rep K m k H (f i j) (fv i j)) : OpD c (rI0 fv) (gII f) := by
  intro m S H x y vx vy Q Z s hx hy p
  obtain ⟨i, j, rfl, rfl, p⟩ := gII_eq p
  rw [rep_int hx, rep_int hy]
  exact ⟨i, j, rfl, rfl, p.here s (h i j _ _ _ _)⟩
/-- .. under a condition -/
def gIIc (C : Int → Int → Bool) (f : Int → Int → D) : Store → D → D → Rs D := fun S x y => match x, y with
  | .int i, .int j => if C i j = true then .ok (f i j) S else .stuck
  | _, _ => .stuck
theorem opIIc {C : Int → Int → Bool} {C' : Int → Int → Prop} {f : Int → Int → D} {fv : Int → Int → V} (h : ∀ i j K m k H, Rep K m k H (f i j) (fv i j)) (hc : ∀ i j, C i j = true → C' i j) : OpD c (rI C' fv) (gIIc C f) := by
  intro m S H x y vx vy Q Z s hx hy p
  unfold gIIc at p
  split at p
  · rename_i _ _ i j
    by_cases hC : C i j = true
    · rw [if_pos hC] at p
      rw [rep_int hx, rep_int hy]
      exact ⟨i, j, rfl, rfl, hc i j hC, p.here s (h i j _ _ _ _)⟩
    · rw [if_neg hC] at p; exact p.elim
  · exact p.elim
end
def gSub := gII fun i j => .int (i - j)
def gLt := gII fun i j => .bl (decide (i < j))
def gLe := gII fun i j => .bl (decide (i ≤ j))
def gGt := gII fun i j => .bl (decide (j < i))
def gGe := gII fun i j => .bl (decide (j ≤ i))
def big64 (i : Int) : Bool := decide (-18446744073709551616 < i) && decide (i < 18446744073709551616)
def gMul := gIIc (fun i j => big64 i || big64 j) fun i j => .int (i * j)
def gDiv := gIIc (fun _ j => decide (0 < j) && decide (j < 1073741824)) fun i j => .int (i / j)
def gMod := gIIc (fun _ j => decide (0 < j)) fun i j => .int (i % j)
def gPow := gIIc (fun i j => decide (0 ≤ j) && decide (j ≤ 1000) && big64 i) fun i j => .int (i ^ j.toNat)
section
variable {c : Ct}
theorem od_sub : OpD c (rI0 fun i j => .int (i - j)) gSub := opII fun _ _ _ _ _ _ => rfl
theorem od_lt : OpD c (rI0 fun i j => .bl (decide (i < j))) gLt := opII fun _ _ _ _ _ _ => rfl
theorem od_le : OpD c (rI0 fun i j => .bl (decide (i ≤ j))) gLe := opII fun _ _ _ _ _ _ => rfl
theorem od_gt : OpD c (rI0 fun i j => .bl (decide (j < i))) gGt := opII fun _ _ _ _ _ _ => rfl
theorem od_ge : OpD c (rI0 fun i j => .bl (decide (j ≤ i))) gGe := opII fun _ _ _ _ _ _ => rfl
theorem big64_ok {i : Int} (h : big64 i = true) : -(2 ^ 64) < i ∧ i < 2 ^ 64 := by
  unfold big64 at h
  have h := Bool.and_eq_true_iff.mp h
  have h1 := of_decide_eq_true h.1
  have h2 := of_decide_eq_true h.2
  exact ⟨by omega, by omega⟩
theorem od_mul : OpD c (rI CMul fun i j => .int (i * j)) gMul := opIIc (fun _ _ _ _ _ _ => rfl) fun i j h => by
  rcases Bool.or_eq_true_iff.mp h with h | h
  · exact .inl (big64_ok h)
  · exact .inr (big64_ok h)
theorem od_div : OpD c (rI CDiv fun i j => .int (i / j)) gDiv := opIIc (fun _ _ _ _ _ _ => rfl) fun i j h => by
  have h := Bool.and_eq_true_iff.mp h
  exact ⟨of_decide_eq_true h.1, of_decide_eq_true h.2⟩
theorem od_mod : OpD c (rI (fun _ j => 0 < j) fun i j => .int (i % j)) gMod := opIIc (fun _ _ _ _ _ _ => rfl) fun i j h => of_decide_eq_true h
theorem od_pow : OpD c (rI CPow fun i j => .int (i ^ j.toNat)) gPow := opIIc (fun _ _ _ _ _ _ => rfl) fun i j h => by
  have h := Bool.and_eq_true_iff.mp h
  have h1 := Bool.and_eq_true_iff.mp h.1
  have a := of_decide_eq_true h1.1
  have b := of_decide_eq_true h1.2
  have d := big64_ok h.2
  exact ⟨a, by omega, by omega⟩
end

/-! ### + -/
def strOf (s : List Nat) : Str := ⟨s.toArray⟩
theorem strOf_len (s : List Nat) : (strOf s).length = s.length := by simp [strOf, Str.length]
def gAdd : Store → D → D → Rs D := fun S x y => match x, y with
  | .int i, .int j => .ok (.int (i + j)) S
  | .str a, .str b => if a.length + b.length ≤ 100000 then .ok (.str (a ++ b)) S else .stuck
  | .tup a, .tup b => if a.length + b.length ≤ 100000 then .ok (.tup (a ++ b)) S else .stuck
  | .ref n, .ref k => (match S[n]?, S[k]? with
    | some (.lst a), some (.lst b) => if a.length + b.length ≤ 100000 then .ok (.ref S.length) (S ++ [.lst (a ++ b)]) else .stuck
    | _, _ => .stuck)
  | _, _ => .stuck
def rAddS : R2 := fun x y H Q => ∃ i j, x = .str i ∧ y = .str j ∧ i.length + j.length ≤ sizeLine ∧ Q (.str (i ++ j)) H
def rAddAll (K : PySem.W.Frag) : R2 := fun x y H Q => rI0 (fun i j => .int (i + j)) x y H Q ∨ rAddS x y H Q ∨ rCatA K x y H Q ∨ rCat x y H Q
section
variable {X : Cx} {c : Ct}
theorem op_addAll : OpR X (binaryOp .Add) (rAddAll X.K) := op_add.or (OpR.or op_add_str (OpR.or op_catA op_cat))
theorem od_add : OpD c (rAddAll c.K) gAdd := by
  intro m S H x y vx vy Q Z s hx hy p
  unfold gAdd at p
  split at p
  · rw [rep_int hx, rep_int hy]
    exact .inl ⟨_, _, rfl, rfl, p.here s rfl⟩
  · rename_i _ _ a b
    by_cases hz : a.length + b.length ≤ 100000
    · rw [if_pos hz] at p
      have hx : vx = .str (strOf a) := hx
      have hy : vy = .str (strOf b) := hy
      rw [hx, hy]
      refine .inr (.inl ⟨_, _, rfl, rfl, by rw [strOf_len, strOf_len]; exact Nat.le_of_lt (small5 hz), p.here s ?_⟩)
      show V.str _ = V.str _
      have e : (strOf a ++ strOf b) = strOf (a ++ b) := by
        show Str.mk (a.toArray ++ b.toArray) = Str.mk (a ++ b).toArray
        rw [List.append_toArray]
      rw [e]; rfl
    · rw [if_neg hz] at p; exact p.elim
  · rename_i _ _ a b
    by_cases hz : a.length + b.length ≤ 100000
    · rw [if_pos hz] at p
      unfold Rep at hx hy
      obtain ⟨u, vs, rfl, h1, h2⟩ := hx
      obtain ⟨w, ws, rfl, h3, h4⟩ := hy
      have l1 := h2.len
      have l2 := h4.len
      refine .inr (.inr (.inl ⟨u, w, vs, ws, rfl, rfl, h1, h3, by rw [l1, l2]; exact Nat.le_of_lt (small5 hz), fun e => ?_, fun _ e => ?_, fun _ _ t ht => ?_⟩))
      · subst e
        have ea : a = [] := List.eq_nil_of_length_eq_zero l1.symm
        subst ea
        refine p.here s ?_
        show Rep c.K m S.length H (.tup ([] ++ b)) _
        unfold Rep
        exact ⟨w, ws, rfl, h3, h4⟩
      · subst e
        have eb : b = [] := List.eq_nil_of_length_eq_zero l2.symm
        subst eb
        refine p.here s ?_
        show Rep c.K m S.length H (.tup (a ++ [])) _
        rw [List.append_nil]
        unfold Rep
        exact ⟨u, vs, rfl, h1, h2⟩
      · exact new_tup s (RepL.app h2 h4) p t ht
    · rw [if_neg hz] at p; exact p.elim
  · rename_i _ _ n k
    split at p
    · rename_i _ _ a b e1 e2
      by_cases hz : a.length + b.length ≤ 100000
      · rw [if_pos hz] at p
        unfold Rep at hx hy
        obtain ⟨vs, h1, h2⟩ := s.obj n _ e1
        obtain ⟨ws, h3, h4⟩ := s.obj k _ e2
        refine .inr (.inr (.inr ⟨m n, m k, vs, ws, hx.2, hy.2, h1, h3, by rw [h2.len, h4.len]; exact Nat.le_of_lt (small5 hz), fun t ht => ?_⟩))
        exact new_lst s (RepL.app h2 h4) p t ht
      · rw [if_neg hz] at p; exact p.elim
    · exact p.elim
  · exact p.elim

/-! ### is -/
def gIs : Store → D → D → Rs D := fun S x y => match x, y with
  | .bl a, .bl b => .ok (.bl (decide (a = b))) S
  | .non, .non => .ok (.bl true) S
  | .ref _, .non => .ok (.bl false) S
  | .tup _, .non => .ok (.bl false) S
  | .int _, .non => .ok (.bl false) S
  | .str _, .non => .ok (.bl false) S
  | .bl _, .non => .ok (.bl false) S
  | _, _ => .stuck
def gNot : Store → D → D → Rs D := fun S x y => match x, y with
  | .bl a, .bl b => .ok (.bl (!decide (a = b))) S
  | .non, .non => .ok (.bl false) S
  | .ref _, .non => .ok (.bl true) S
  | .tup _, .non => .ok (.bl true) S
  | .int _, .non => .ok (.bl true) S
  | .str _, .non => .ok (.bl true) S
  | .bl _, .non => .ok (.bl true) S
  | _, _ => .stuck
def rIsAll : R2 := fun x y H Q => rIsB x y H Q ∨ (y = .non ∧ Q (.bl (decide (x = .non))) H)
def rNotAll : R2 := fun x y H Q => rNotB x y H Q ∨ (y = .non ∧ Q (.bl (!decide (x = .non))) H)
theorem op_isAll : OpR X (compareOp .Is) rIsAll := OpR.or op_isBl op_isN
theorem op_notAll : OpR X (compareOp .IsNot) rNotAll := OpR.or op_notBl op_notN
theorem rep_ref {K : PySem.W.Frag} {m : Nat → Addr} {k n : Nat} {H : Hp} {v : V} (h : Rep K m k H (.ref n) v) : v = .ref (m n) := by unfold Rep at h; exact h.2
theorem rep_tup {K : PySem.W.Frag} {m : Nat → Addr} {k : Nat} {H : Hp} {xs : List D} {v : V} (h : Rep K m k H (.tup xs) v) : ∃ a vs, v = .ref a ∧ SqT K H a vs ∧ RepL K m k H xs vs := by unfold Rep at h; exact h
theorem od_is : OpD c rIsAll gIs := by
  intro m S H x y vx vy Q Z s hx hy p
  unfold gIs at p
  split at p
  · exact .inl ⟨_, _, hx, hy, p.here s rfl⟩
  · cases hx; exact .inr ⟨hy, p.here s rfl⟩
  · rw [rep_ref hx]; exact .inr ⟨hy, p.here s rfl⟩
  · obtain ⟨a, vs, rfl, _⟩ := rep_tup hx; exact .inr ⟨hy, p.here s rfl⟩
  · cases hx; exact .inr ⟨hy, p.here s rfl⟩
  · cases hx; exact .inr ⟨hy, p.here s rfl⟩
  · cases hx; exact .inr ⟨hy, p.here s rfl⟩
  · exact p.elim
theorem od_not : OpD c rNotAll gNot := by
  intro m S H x y vx vy Q Z s hx hy p
  unfold gNot at p
  split at p
  · exact .inl ⟨_, _, hx, hy, p.here s rfl⟩
  · cases hx; exact .inr ⟨hy, p.here s rfl⟩
  · rw [rep_ref hx]; exact .inr ⟨hy, p.here s rfl⟩
  · obtain ⟨a, vs, rfl, _⟩ := rep_tup hx; exact .inr ⟨hy, p.here s rfl⟩
  · cases hx; exact .inr ⟨hy, p.here s rfl⟩
  · cases hx; exact .inr ⟨hy, p.here s rfl⟩
  · cases hx; exact .inr ⟨hy, p.here s rfl⟩
  · exact p.elim
end
end Dl

set_option Elab.async false
set_option linter.all false
set_option maxRecDepth 100000
set_option maxHeartbeats 4000000
namespace Dl
open PySem PySem.Spec L2

/-! ### data: ==, != -/
mutual
def D.pd : D → PyData
  | .non => .none
  | .bl b => .bool b
  | .int i => .int i
  | .str s => .str (strOf s)
  | .tup xs => .tuple (D.pdL xs)
  | .ref _ => .none
def D.pdL : List D → List PyData
  | [] => []
  | x :: xs => x.pd :: D.pdL xs
end
mutual
/-- no object in it, and its texts are texts -/
def D.fine : D → Bool
  | .ref _ => false
  | .str s => s.all fun z => decide (z < 0x110000)
  | .tup xs => D.fineL xs
  | .non => true
  | .bl _ => true
  | .int _ => true
def D.fineL : List D → Bool
  | [] => true
  | x :: xs => x.fine && D.fineL xs
end
mutual
def D.eq : D → D → Bool
  | .non, .non => true
  | .bl a, .bl b => a == b
  | .bl a, .int j => (if a then 1 else 0) == j
  | .int i, .bl b => i == (if b then 1 else 0)
  | .int i, .int j => i == j
  | .str s, .str t => s == t
  | .tup xs, .tup ys => D.eqL xs ys
  | _, _ => false
def D.eqL : List D → List D → Bool
  | [], [] => true
  | x :: xs, y :: ys => D.eq x y && D.eqL xs ys
  | _, _ => false
end
theorem strOf_beq (s t : List Nat) : (strOf s == strOf t) = (s == t) := by
  by_cases h : s = t
  · subst h; simp
  · have h2 : strOf s ≠ strOf t := fun e => h (by
      have e : Str.mk s.toArray = Str.mk t.toArray := e
      injection e with e
      exact congrArg Array.toList e)
    rw [beq_eq_false_iff_ne.mpr h, beq_eq_false_iff_ne.mpr h2]
mutual
theorem eqv_pd : ∀ x y : D, x.fine = true → y.fine = true → PyData.eqv x.pd y.pd = D.eq x y
  | .ref _, _, h, _ => by unfold D.fine at h; exact Bool.noConfusion h
  | .non, y, _, hy => by cases y <;> first | rfl | (unfold D.fine at hy; exact Bool.noConfusion hy)
  | .bl a, y, _, hy => by cases y <;> first | rfl | (unfold D.fine at hy; exact Bool.noConfusion hy)
  | .int a, y, _, hy => by cases y <;> first | rfl | (unfold D.fine at hy; exact Bool.noConfusion hy)
  | .str a, y, _, hy => by
    cases y with
    | str b => show PyData.eqv (.str (strOf a)) (.str (strOf b)) = D.eq (.str a) (.str b); unfold PyData.eqv D.eq; exact strOf_beq a b
    | ref _ => unfold D.fine at hy; exact Bool.noConfusion hy
    | non => rfl
    | bl _ => rfl
    | int _ => rfl
    | tup _ => rfl
  | .tup xs, y, h, hy => by
    cases y with
    | tup ys =>
      unfold D.pd PyData.eqv D.eq
      unfold D.fine at h hy
      exact eqv_pdL xs ys h hy
    | ref _ => unfold D.fine at hy; exact Bool.noConfusion hy
    | non => rfl
    | bl _ => rfl
    | int _ => rfl
    | str _ => rfl
theorem eqv_pdL : ∀ xs ys : List D, D.fineL xs = true → D.fineL ys = true → PyData.eqvAll (D.pdL xs) (D.pdL ys) = D.eqL xs ys
  | [], [], _, _ => rfl
  | [], _ :: _, _, _ => rfl
  | _ :: _, [], _, _ => rfl
  | x :: xs, y :: ys, h, hy => by
    unfold D.fineL at h hy
    have h := Bool.and_eq_true_iff.mp h
    have hy := Bool.and_eq_true_iff.mp hy
    unfold D.pdL PyData.eqvAll D.eqL
    rw [eqv_pd x y h.1 hy.1, eqv_pdL xs ys h.2 hy.2]
end
mutual
theorem pd_lay : ∀ x : D, x.fine = true → x.pd.canLay0 = true
  | .ref _, h => by unfold D.fine at h; exact Bool.noConfusion h
  | .non, _ => rfl
  | .bl _, _ => rfl
  | .int _, _ => rfl
  | .str s, h => by
    unfold D.fine at h
    unfold D.pd PyData.canLay0
    show (strOf s).cps.all _ = true
    unfold strOf
    simpa using h
  | .tup xs, h => by
    unfold D.fine at h
    unfold D.pd PyData.canLay0
    exact pd_layL xs h
theorem pd_layL : ∀ xs : List D, D.fineL xs = true → PyData.canLayAll0 (D.pdL xs) = true
  | [], _ => rfl
  | x :: xs, h => by
    unfold D.fineL at h
    have h := Bool.and_eq_true_iff.mp h
    unfold D.pdL PyData.canLayAll0
    rw [pd_lay x h.1, pd_layL xs h.2]; rfl
end
mutual
theorem pd_depth : ∀ x : D, x.pd.depth = x.deep
  | .ref _ => rfl
  | .non => rfl
  | .bl _ => rfl
  | .int _ => rfl
  | .str s => rfl
  | .tup xs => by unfold D.pd PyData.depth D.deep; rw [pd_depthL xs]
theorem pd_depthL : ∀ xs : List D, PyData.depthAll (D.pdL xs) = D.deepL xs
  | [] => rfl
  | x :: xs => by unfold D.pdL PyData.depthAll D.deepL; rw [pd_depth x, pd_depthL xs]
end
section
variable {K : PySem.W.Frag} {m : Nat → Addr} {k : Nat} {H : Hp}
mutual
theorem rep_dp : ∀ (x : D) (v : V), x.fine = true → Rep K m k H x v → Dp K H v x.pd
  | .ref _, _, h, _ => by unfold D.fine at h; exact Bool.noConfusion h
  | .non, v, _, r => by cases r; exact .non
  | .bl b, v, _, r => by cases r; exact .bl b
  | .int i, v, _, r => by cases r; exact .int i
  | .str s, v, _, r => by cases r; exact .str _
  | .tup xs, v, h, r => by
    unfold D.fine at h
    obtain ⟨a, vs, rfl, h1, h2⟩ := rep_tup r
    exact .tup h1 (rep_dpL xs vs h h2)
theorem rep_dpL : ∀ (xs : List D) (vs : List V), D.fineL xs = true → RepL K m k H xs vs → DpAll K H vs (D.pdL xs)
  | [], vs, _, r => by rw [RepL.nil_iff.mp r]; exact .nil
  | x :: xs, vs, h, r => by
    unfold D.fineL at h
    have h := Bool.and_eq_true_iff.mp h
    obtain ⟨v, t, rfl, h1, h2⟩ := RepL.cons_iff.mp r
    exact .cons (rep_dp x v h.1 h1) (rep_dpL xs t h.2 h2)
end
end
/-- a list as (true, its items), anything else as (false, itself) -/
def view (S : Store) : D → Option (Bool × D)
  | .ref n => match S[n]? with
    | some (.lst xs) => some (true, .tup xs)
    | some (.ro xs) => some (true, .tup xs)
    | _ => none
  | .non => some (false, .non)
  | .bl b => some (false, .bl b)
  | .int i => some (false, .int i)
  | .str s => some (false, .str s)
  | .tup xs => some (false, .tup xs)
def vpd : Bool × D → PyData
  | (true, .tup xs) => .list (D.pdL xs)
  | (_, d) => d.pd
def D.good (d : D) : Bool := d.fine && decide (d.deep ≤ 60)
def eqB (S : Store) (x y : D) : Option Bool := match view S x, view S y with
  | some a, some b => if a.2.good = true ∧ b.2.good = true then some (if a.1 = b.1 then D.eq a.2 b.2 else false) else none
  | _, _ => none
def gEq : Store → D → D → Rs D := fun S x y => match eqB S x y with
  | some b => .ok (.bl b) S
  | none => .stuck
def gNe : Store → D → D → Rs D := fun S x y => match eqB S x y with
  | some b => .ok (.bl (!b)) S
  | none => .stuck
section
variable {X : Cx} {c : Ct} {m : Nat → Addr} {S : Store} {H : Hp}
theorem view_rep {x : D} {v : V} {a : Bool × D} (s : SRel c m S H) (r : Rep c.K m S.length H x v) (h : view S x = some a) (g : a.2.fine = true) : Dp c.K H v (vpd a) ∧ (a.1 = true → ∃ xs, a.2 = .tup xs) := by
  cases x with
  | ref n =>
    dsimp only [view] at h
    cases e : S[n]? with
    | none => rw [e] at h; cases h
    | some o =>
      rw [e] at h
      cases o with
      | lst xs =>
        cases h
        obtain ⟨vs, h1, h2⟩ := s.list (.inl e)
        rw [rep_ref r]
        unfold D.fine at g
        exact ⟨.lst h1 (rep_dpL xs vs g h2), fun _ => ⟨xs, rfl⟩⟩
      | ro xs =>
        cases h
        obtain ⟨vs, h1, h2⟩ := s.list (.inr e)
        rw [rep_ref r]
        unfold D.fine at g
        exact ⟨.lst h1 (rep_dpL xs vs g h2), fun _ => ⟨xs, rfl⟩⟩
      | dk _ => cases h
      | dn _ => cases h
      | ins _ _ => cases h
      | fk _ => cases h
  | non => cases h; exact ⟨rep_dp _ _ g r, fun z => Bool.noConfusion z⟩
  | bl _ => cases h; exact ⟨rep_dp _ _ g r, fun z => Bool.noConfusion z⟩
  | int _ => cases h; exact ⟨rep_dp _ _ g r, fun z => Bool.noConfusion z⟩
  | str _ => cases h; exact ⟨rep_dp _ _ g r, fun z => Bool.noConfusion z⟩
  | tup _ => cases h; exact ⟨rep_dp _ _ g r, fun z => Bool.noConfusion z⟩
theorem good_fine {d : D} (h : d.good = true) : d.fine = true := (Bool.and_eq_true_iff.mp h).1
theorem good_deep {d : D} (h : d.good = true) : d.deep ≤ 60 := of_decide_eq_true (Bool.and_eq_true_iff.mp h).2
theorem vpd_shaped {a : Bool × D} (h : a.2.good = true) (l : a.1 = true → ∃ xs, a.2 = .tup xs) : SeqAt.shaped (vpd a) = true := by
  obtain ⟨b, d⟩ := a
  have hf : d.fine = true := good_fine h
  have hd : d.deep ≤ 60 := good_deep h
  have base : SeqAt.shaped d.pd = true := by
    unfold SeqAt.shaped
    rw [pd_lay d hf, pd_depth]
    exact Bool.and_eq_true_iff.mpr ⟨rfl, decide_eq_true (by omega)⟩
  cases b with
  | false => cases d <;> exact base
  | true =>
    obtain ⟨xs, e⟩ := l rfl
    have e : d = .tup xs := e
    subst e
    show (PyData.canLay0 (.list (D.pdL xs)) && decide (PyData.depth (.list (D.pdL xs)) ≤ 64)) = true
    unfold D.fine at hf
    unfold D.deep at hd
    unfold PyData.canLay0 PyData.depth
    rw [pd_layL xs hf, pd_depthL]
    exact Bool.and_eq_true_iff.mpr ⟨rfl, decide_eq_true (by omega)⟩
theorem eqv_view {a b : Bool × D} (ha : a.2.good = true) (hb : b.2.good = true) (la : a.1 = true → ∃ xs, a.2 = .tup xs) (lb : b.1 = true → ∃ xs, b.2 = .tup xs) : PyData.eqv (vpd a) (vpd b) = if a.1 = b.1 then D.eq a.2 b.2 else false := by
  obtain ⟨p, d⟩ := a
  obtain ⟨q, e⟩ := b
  have fd : d.fine = true := good_fine ha
  have fe : e.fine = true := good_fine hb
  cases p with
  | true =>
    obtain ⟨xs, z⟩ := la rfl
    have z : d = .tup xs := z
    subst z
    unfold D.fine at fd
    cases q with
    | true =>
      obtain ⟨ys, z⟩ := lb rfl
      have z : e = .tup ys := z
      subst z
      unfold D.fine at fe
      rw [if_pos rfl]
      show PyData.eqv (.list (D.pdL xs)) (.list (D.pdL ys)) = D.eq (.tup xs) (.tup ys)
      unfold PyData.eqv D.eq
      exact eqv_pdL xs ys fd fe
    | false =>
      rw [if_neg (by simp)]
      cases e <;> first | rfl | (unfold D.fine at fe; exact Bool.noConfusion fe)
  | false =>
    cases q with
    | true =>
      obtain ⟨ys, z⟩ := lb rfl
      have z : e = .tup ys := z
      subst z
      rw [if_neg (by simp)]
      cases d <;> first | rfl | (unfold D.fine at fd; exact Bool.noConfusion fd)
    | false =>
      rw [if_pos rfl]
      have : PyData.eqv d.pd e.pd = D.eq d e := eqv_pd d e fd fe
      cases d <;> cases e <;> exact this
theorem eqB_ok {x y : D} {vx vy : V} {b : Bool} (s : SRel c m S H) (hx : Rep c.K m S.length H x vx) (hy : Rep c.K m S.length H y vy) (h : eqB S x y = some b) : ∃ d e, Dp c.K H vx d ∧ Dp c.K H vy e ∧ SeqAt.shaped d = true ∧ SeqAt.shaped e = true ∧ PyData.eqv d e = b := by
  unfold eqB at h
  cases e1 : view S x with
  | none => rw [e1] at h; cases h
  | some a =>
    cases e2 : view S y with
    | none => rw [e1, e2] at h; cases h
    | some a2 =>
      rw [e1, e2] at h
      dsimp only at h
      by_cases hg : a.2.good = true ∧ a2.2.good = true
      · rw [if_pos hg] at h
        obtain ⟨p1, l1⟩ := view_rep s hx e1 (good_fine hg.1)
        obtain ⟨p2, l2⟩ := view_rep s hy e2 (good_fine hg.2)
        exact ⟨_, _, p1, p2, vpd_shaped hg.1 l1, vpd_shaped hg.2 l2, (eqv_view hg.1 hg.2 l1 l2).trans (Option.some.inj h)⟩
      · rw [if_neg hg] at h; cases h
theorem od_eq : OpD c (rEqD c.K) gEq := by
  intro m S H x y vx vy Q Z s hx hy p
  unfold gEq at p
  cases e : eqB S x y with
  | none => rw [e] at p; exact p.elim
  | some b =>
    rw [e] at p
    obtain ⟨d1, d2, a1, a2, a3, a4, a5⟩ := eqB_ok s hx hy e
    exact ⟨d1, d2, a1, a2, a3, a4, by rw [a5]; exact p.here s rfl⟩
theorem od_ne : OpD c (rNeD c.K) gNe := by
  intro m S H x y vx vy Q Z s hx hy p
  unfold gNe at p
  cases e : eqB S x y with
  | none => rw [e] at p; exact p.elim
  | some b =>
    rw [e] at p
    obtain ⟨d1, d2, a1, a2, a3, a4, a5⟩ := eqB_ok s hx hy e
    exact ⟨d1, d2, a1, a2, a3, a4, by rw [a5]; exact p.here s rfl⟩
end
end Dl

set_option Elab.async false
set_option linter.all false
set_option maxRecDepth 100000
set_option maxHeartbeats 4000000
namespace Dl
open PySem PySem.Spec L2

/-! ### dicts -/
def D.keq : D → D → Bool
  | .int i, .int j => i == j
  | .str s, .str t => s == t
  | _, _ => false
def D.neq (x y : D) : Bool := NestedKey.beq x.nk y.nk
def atB (eq : D → D → Bool) : List (D × D) → D → Option D
  | [], _ => none
  | p :: r, k => if eq p.1 k = true then some p.2 else atB eq r k
def setM (eq : D → D → Bool) (k v : D) : List (D × D) → List (D × D)
  | [] => []
  | p :: r => (if eq p.1 k = true then (p.1, v) else p) :: setM eq k v r
def setB (eq : D → D → Bool) (kvs : List (D × D)) (k v : D) : List (D × D) := if (atB eq kvs k).isSome = true then setM eq k v kvs else kvs ++ [(k, v)]
theorem keq_key {a b : D} {p q : Key} (ha : dkey a = some p) (hb : dkey b = some q) : D.keq a b = decide (p = q) := by
  cases a with
  | int i =>
    cases b with
    | int j =>
      cases ha; cases hb
      show (i == j) = decide ((Sum.inl i : Key) = Sum.inl j)
      by_cases h : i = j
      · subst h; simp
      · rw [beq_eq_false_iff_ne.mpr h, decide_eq_false fun e => h (by injection e)]
    | str t => cases ha; cases hb; exact (decide_eq_false fun e => nomatch e).symm
    | non => cases hb
    | bl _ => cases hb
    | tup _ => cases hb
    | ref _ => cases hb
  | str s =>
    cases b with
    | int j => cases ha; cases hb; exact (decide_eq_false fun e => nomatch e).symm
    | str t =>
      cases ha; cases hb
      show (s == t) = decide ((Sum.inr ⟨s.toArray⟩ : Key) = Sum.inr ⟨t.toArray⟩)
      by_cases h : s = t
      · subst h; simp
      · rw [beq_eq_false_iff_ne.mpr h, decide_eq_false fun e => h (by injection e with e; injection e with e; exact congrArg Array.toList e)]
    | non => cases hb
    | bl _ => cases hb
    | tup _ => cases hb
    | ref _ => cases hb
  | non => cases ha
  | bl _ => cases ha
  | tup _ => cases ha
  | ref _ => cases ha
section
variable {K : PySem.W.Frag} {m : Nat → Addr} {k : Nat} {H : Hp}
theorem RepKV.nil_iff {ws : List (Key × V)} : RepKV K m k H [] ws ↔ ws = [] := by unfold RepKV; exact Iff.rfl
theorem RepKV.cons_iff {p : D × D} {r : List (D × D)} {ws : List (Key × V)} : RepKV K m k H (p :: r) ws ↔ ∃ q v t, ws = (q, v) :: t ∧ dkey p.1 = some q ∧ Rep K m k H p.2 v ∧ RepKV K m k H r t := by
  constructor
  · intro h; unfold RepKV at h; exact h
  · intro h; unfold RepKV; exact h
theorem RepKV.len : ∀ {kvs : List (D × D)} {ws : List (Key × V)}, RepKV K m k H kvs ws → ws.length = kvs.length
  | [], _, h => by rw [RepKV.nil_iff.mp h]; rfl
  | p :: r, _, h => by
    obtain ⟨q, v, t, rfl, _, _, h4⟩ := RepKV.cons_iff.mp h
    rw [List.length_cons, List.length_cons, RepKV.len h4]
theorem RepKV.get {d : D} {q : Key} (hd : dkey d = some q) : ∀ {kvs : List (D × D)} {ws : List (Key × V)}, RepKV K m k H kvs ws → match atB D.keq kvs d with
    | none => valV ws q = none
    | some e => ∃ v, valV ws q = some v ∧ Rep K m k H e v
  | [], _, h => by rw [RepKV.nil_iff.mp h]; rfl
  | p :: r, _, h => by
    obtain ⟨q1, v, t, rfl, h2, h3, h4⟩ := RepKV.cons_iff.mp h
    have ih := RepKV.get hd h4
    unfold atB
    rw [keq_key h2 hd]
    by_cases e : q1 = q
    · rw [if_pos (decide_eq_true e)]
      exact ⟨v, valV_pos (p := (q1, v)) e, h3⟩
    · rw [if_neg (by simp [e])]
      have z : valV ((q1, v) :: t) q = valV t q := valV_neg (p := (q1, v)) e
      rw [z]
      exact ih
theorem RepKV.app : ∀ {kvs lvs : List (D × D)} {ws us : List (Key × V)}, RepKV K m k H kvs ws → RepKV K m k H lvs us → RepKV K m k H (kvs ++ lvs) (ws ++ us)
  | [], _, _, _, h, g => by rw [RepKV.nil_iff.mp h]; exact g
  | p :: r, _, _, _, h, g => by
    obtain ⟨q, v, t, rfl, h2, h3, h4⟩ := RepKV.cons_iff.mp h
    exact RepKV.cons_iff.mpr ⟨q, v, _, rfl, h2, h3, RepKV.app h4 g⟩
theorem RepKV.setM {d e : D} {q : Key} {x : V} (hd : dkey d = some q) (hx : Rep K m k H e x) : ∀ {kvs : List (D × D)} {ws : List (Key × V)}, RepKV K m k H kvs ws → RepKV K m k H (setM D.keq d e kvs) (ws.map fun kv => if kv.1 = q then (kv.1, x) else kv)
  | [], _, h => by rw [RepKV.nil_iff.mp h]; exact RepKV.nil_iff.mpr rfl
  | p :: r, _, h => by
    obtain ⟨q1, v, t, rfl, h2, h3, h4⟩ := RepKV.cons_iff.mp h
    unfold Dl.setM
    rw [keq_key h2 hd, List.map_cons]
    by_cases z : q1 = q
    · rw [if_pos (decide_eq_true z), if_pos z]
      exact RepKV.cons_iff.mpr ⟨q1, x, _, rfl, h2, hx, RepKV.setM hd hx h4⟩
    · rw [if_neg (by simp [z]), if_neg z]
      exact RepKV.cons_iff.mpr ⟨q1, v, _, rfl, h2, h3, RepKV.setM hd hx h4⟩
theorem RepKV.put {d e : D} {q : Key} {x : V} (hd : dkey d = some q) (hx : Rep K m k H e x) {kvs : List (D × D)} {ws : List (Key × V)} (h : RepKV K m k H kvs ws) : RepKV K m k H (setB D.keq kvs d e) (putK ws q x) := by
  have g := h.get hd
  unfold setB putK
  rw [valV_any]
  cases z : atB D.keq kvs d with
  | none =>
    rw [z] at g
    rw [g, if_neg (by decide), if_neg (by decide)]
    exact h.app (RepKV.cons_iff.mpr ⟨q, x, [], rfl, hd, hx, RepKV.nil_iff.mpr rfl⟩)
  | some y =>
    rw [z] at g
    obtain ⟨v, g1, _⟩ := g
    rw [g1, if_pos (show (some y).isSome = true from rfl), if_pos (show (some v).isSome = true from rfl)]
    exact h.setM hd hx

/-! ### keys that are tuples -/
theorem RepNV.nil_iff {ws : List (NestedKey × Addr × V)} : RepNV K m k H [] ws ↔ ws = [] := by unfold RepNV; exact Iff.rfl
theorem RepNV.cons_iff {p : D × D} {r : List (D × D)} {ws : List (NestedKey × Addr × V)} : RepNV K m k H (p :: r) ws ↔ ∃ q v t, ws = (p.1.nk, q, v) :: t ∧ (∃ ys, p.1 = .tup ys) ∧ p.1.pure = true ∧ p.1.deep ≤ 8 ∧ Rep K m k H p.1 (.ref q) ∧ Rep K m k H p.2 v ∧ RepNV K m k H r t := by
  constructor
  · intro h; unfold RepNV at h; exact h
  · intro h; unfold RepNV; exact h
theorem RepNV.len : ∀ {kvs : List (D × D)} {ws : List (NestedKey × Addr × V)}, RepNV K m k H kvs ws → ws.length = kvs.length
  | [], _, h => by rw [RepNV.nil_iff.mp h]; rfl
  | p :: r, _, h => by
    obtain ⟨q, v, t, rfl, _, _, _, _, _, h4⟩ := RepNV.cons_iff.mp h
    rw [List.length_cons, List.length_cons, RepNV.len h4]
def putE (es : List (NestedKey × Addr × V)) (q : NestedKey) (b : Addr) (v : V) : List (NestedKey × Addr × V) :=
  if (es.find? fun x => decide (x.1 = q)).isSome = true then es.map fun x => if x.1 = q then (x.1, x.2.1, v) else x else es ++ [(q, b, v)]
theorem RepNV.get {d : D} : ∀ {kvs : List (D × D)} {ws : List (NestedKey × Addr × V)}, RepNV K m k H kvs ws → match atB D.neq kvs d with
    | none => (ws.find? fun x => decide (x.1 = d.nk)) = none
    | some e => ∃ x, (ws.find? fun x => decide (x.1 = d.nk)) = some x ∧ Rep K m k H e x.2.2
  | [], _, h => by rw [RepNV.nil_iff.mp h]; rfl
  | p :: r, _, h => by
    obtain ⟨q1, v, t, rfl, h1, h2, h3, h4, h5, h6⟩ := RepNV.cons_iff.mp h
    have ih := RepNV.get (d := d) h6
    unfold atB
    rw [show D.neq p.1 d = decide (p.1.nk = d.nk) from (NestedKey.decide_eq _ _).symm, List.find?_cons]
    by_cases e : p.1.nk = d.nk
    · rw [if_pos (decide_eq_true e), decide_eq_true e]
      exact ⟨_, rfl, h5⟩
    · rw [if_neg (by simp [e]), decide_eq_false e]
      exact ih
theorem RepNV.app : ∀ {kvs lvs : List (D × D)} {ws us : List (NestedKey × Addr × V)}, RepNV K m k H kvs ws → RepNV K m k H lvs us → RepNV K m k H (kvs ++ lvs) (ws ++ us)
  | [], _, _, _, h, g => by rw [RepNV.nil_iff.mp h]; exact g
  | p :: r, _, _, _, h, g => by
    obtain ⟨q, v, t, rfl, h1, h2, h3, h4, h5, h6⟩ := RepNV.cons_iff.mp h
    exact RepNV.cons_iff.mpr ⟨q, v, _, rfl, h1, h2, h3, h4, h5, RepNV.app h6 g⟩
theorem RepNV.setM {d e : D} {x : V} (hx : Rep K m k H e x) : ∀ {kvs : List (D × D)} {ws : List (NestedKey × Addr × V)}, RepNV K m k H kvs ws → RepNV K m k H (setM D.neq d e kvs) (ws.map fun y => if y.1 = d.nk then (y.1, y.2.1, x) else y)
  | [], _, h => by rw [RepNV.nil_iff.mp h]; exact RepNV.nil_iff.mpr rfl
  | p :: r, _, h => by
    obtain ⟨q1, v, t, rfl, h1, h2, h3, h4, h5, h6⟩ := RepNV.cons_iff.mp h
    unfold Dl.setM
    rw [show D.neq p.1 d = decide (p.1.nk = d.nk) from (NestedKey.decide_eq _ _).symm, List.map_cons]
    by_cases z : p.1.nk = d.nk
    · rw [if_pos (decide_eq_true z), if_pos z]
      exact RepNV.cons_iff.mpr ⟨q1, x, _, rfl, h1, h2, h3, h4, hx, RepNV.setM hx h6⟩
    · rw [if_neg (by simp [z]), if_neg z]
      exact RepNV.cons_iff.mpr ⟨q1, v, _, rfl, h1, h2, h3, h4, h5, RepNV.setM hx h6⟩
theorem RepNV.put {d e : D} {b : Addr} {x : V} (ht : ∃ ys, d = .tup ys) (hp : d.pure = true) (hn : d.deep ≤ 8) (hd : Rep K m k H d (.ref b)) (hx : Rep K m k H e x) {kvs : List (D × D)} {ws : List (NestedKey × Addr × V)} (h : RepNV K m k H kvs ws) : RepNV K m k H (setB D.neq kvs d e) (putE ws d.nk b x) := by
  have g := h.get (d := d)
  unfold setB putE
  cases z : atB D.neq kvs d with
  | none =>
    rw [z] at g
    rw [g, if_neg (by decide), if_neg (by decide)]
    exact h.app (RepNV.cons_iff.mpr ⟨b, x, [], rfl, ht, hp, hn, hd, hx, RepNV.nil_iff.mpr rfl⟩)
  | some y =>
    rw [z] at g
    obtain ⟨v, g1, _⟩ := g
    rw [g1, if_pos (show (some y).isSome = true from rfl), if_pos (show (some v).isSome = true from rfl)]
    exact h.setM hx
end
abbrev PR : (NestedKey × Addr × V) → (NestedKey × Addr × Value) → Prop := fun p q => p.1 = q.1 ∧ p.2.1 = q.2.1 ∧ RelV p.2.2 q.2.2
theorem pr_find {es : List (NestedKey × Addr × V)} {us : List (NestedKey × Addr × Value)} (r : Paired PR es us) (q : NestedKey) : match es.find? fun x => decide (x.1 = q) with
    | none => atKey us q = none
    | some x => ∃ u, atKey us q = some u ∧ RelV x.2.2 u.2 := by
  induction r with
  | nil => rfl
  | @cons p u ps qs h t ih =>
    obtain ⟨h1, h2, h3⟩ := h
    unfold atKey
    rw [List.find?_cons, List.find?_cons, ← h1]
    by_cases z : p.1 = q
    · rw [decide_eq_true z]; exact ⟨u.2, rfl, h3⟩
    · rw [decide_eq_false z]; exact ih
theorem pr_put {es : List (NestedKey × Addr × V)} {us : List (NestedKey × Addr × Value)} (r : Paired PR es us) (q : NestedKey) (b : Addr) {x : V} {u : Value} (hx : RelV x u) : Paired PR (putE es q b x) (storedH us q b u) := by
  have f := pr_find r q
  unfold putE storedH
  cases z : es.find? fun x => decide (x.1 = q) with
  | none =>
    rw [z] at f
    rw [f, if_neg (by decide), if_neg (by decide)]
    exact Paired.snoc r ⟨rfl, rfl, hx⟩
  | some y =>
    rw [z] at f
    obtain ⟨v, f1, _⟩ := f
    rw [f1, if_pos (show (some y).isSome = true from rfl), if_pos (show (some v).isSome = true from rfl)]
    clear z f1
    induction r with
    | nil => exact .nil
    | @cons p w ps qs h t ih =>
      obtain ⟨h1, h2, h3⟩ := h
      rw [List.map_cons, List.map_cons]
      refine .cons ?_ ih
      unfold putAt
      rw [← h1]
      by_cases z : p.1 = q
      · rw [if_pos z, if_pos z]; exact ⟨rfl, h2, hx⟩
      · rw [if_neg z, if_neg z]; exact ⟨h1, h2, h3⟩
theorem pr_keys {es : List (NestedKey × Addr × V)} {us : List (NestedKey × Addr × Value)} (r : Paired PR es us) : es.map (·.1) = us.map (·.1) := by
  induction r with
  | nil => rfl
  | cons h t ih => rw [List.map_cons, List.map_cons, ih, h.1]
mutual
theorem nk_depth : ∀ d : D, d.nk.depth = d.deep
  | .non => rfl
  | .bl _ => rfl
  | .int _ => rfl
  | .str _ => rfl
  | .ref _ => rfl
  | .tup xs => by unfold D.nk D.deep NestedKey.depth; rw [nk_depthL xs]
theorem nk_depthL : ∀ xs : List D, NestedKey.depthAll (D.nkL xs) = D.deepL xs
  | [] => rfl
  | x :: xs => by unfold D.nkL D.deepL NestedKey.depthAll; rw [nk_depth x, nk_depthL xs]
end
section
variable {X : Cx} {pins : List (Addr × Obj)} {σ : L2.St} {H : Hp} {s : Shared} {m : Nat → Addr} {k : Nat}
mutual
theorem rep_nk (I : Inv X pins σ H s) : ∀ (d : D) (v : V) (u : Value), d.pure = true → Rep X.K m k H d v → RelV v u → NestedIs s.heap d.nk u
  | .non, v, u, _, h, r => by cases h; cases r; exact .none
  | .bl b, v, u, _, h, r => by cases h; cases r; exact .bool rfl
  | .int i, v, u, _, h, r => by cases h; obtain ⟨t, rfl⟩ := r; exact .int i t
  | .str z, v, u, _, h, r => by cases h; obtain ⟨t, rfl⟩ := r; exact .text _ t
  | .ref n, v, u, p, h, r => by unfold D.pure at p; exact Bool.noConfusion p
  | .tup xs, v, u, p, h, r => by
    obtain ⟨a, vs, rfl, h1, h2⟩ := rep_tup h
    cases r
    obtain ⟨its, r1, ⟨o, e1, e2, n, e3⟩, _⟩ := I.tuple h1
    unfold D.nk
    unfold D.pure at p
    exact .tup e1 e2 e3 (by simpa using rep_nkL I xs vs its p h2 r1)
theorem rep_nkL (I : Inv X pins σ H s) : ∀ (ds : List D) (vs : List V) (us : List Value), D.pureL ds = true → RepL X.K m k H ds vs → Vals vs us → NestedAll s.heap (D.nkL ds) us
  | [], vs, us, _, h, r => by rw [RepL.nil_iff.mp h] at r; cases r; exact .nil
  | d :: ds, vs, us, p, h, r => by
    unfold D.pureL at p
    have p := Bool.and_eq_true_iff.mp p
    obtain ⟨v, t, rfl, h1, h2⟩ := RepL.cons_iff.mp h
    cases r with
    | cons r1 r2 => exact .cons (rep_nk I d v _ p.1 h1 r1) (rep_nkL I ds t _ p.2 h2 r2)
end
theorem rep_key (I : Inv X pins σ H s) {d : D} {b : Addr} (hp : d.pure = true) (hn : d.deep ≤ 8) (h : Rep X.K m k H d (.ref b)) : (nestedKind X.prog X.w).is s.heap d.nk b := ⟨rep_nk I d _ _ hp h rfl, by rw [nk_depth]; exact hn⟩
theorem dn_open (I : Inv X pins σ H s) {kvs : List (D × D)} {es : List (NestedKey × Addr × V)} {a : Addr} (h1 : RepNV X.K m k H kvs es) (h2 : (es.map (·.1)).Nodup) (h3 : H a = some (.ext (DN X.prog X.w a es))) :
    ∃ us, Paired PR es us ∧ s.heap.DictOfH (nestedKind X.prog X.w) a us := by
  obtain ⟨⟨us, r, o, fs, ep, e1, e2, e3, e4⟩, _⟩ := I.hok a _ h3
  refine ⟨us, r, o, fs, ep, e1, e2, e3, e4, ?_, by rw [← pr_keys r]; exact h2⟩
  have all : ∀ {kvs : List (D × D)} {es : List (NestedKey × Addr × V)} {us : List (NestedKey × Addr × Value)}, Paired PR es us → RepNV X.K m k H kvs es → ∀ x ∈ us, (nestedKind X.prog X.w).is s.heap x.1 x.2.1 := by
    intro kvs es us r
    induction r generalizing kvs with
    | nil => intro _ x hx; cases hx
    | @cons p u ps qs h t ih =>
      intro g x hx
      cases kvs with
      | nil => cases RepNV.nil_iff.mp g
      | cons y ys =>
        obtain ⟨q1, v, t2, e, g1, g2, g3, g4, g5, g6⟩ := RepNV.cons_iff.mp g
        cases e
        rcases List.mem_cons.mp hx with rfl | hx
        · rw [← h.1, ← h.2.1]; exact rep_key I g2 g3 g4
        · exact ih g6 x hx
  exact all r h1
theorem dn_new {P : Program} {w : World} {H' : Hp} {h' : Heap} {a : Addr} {es : List (NestedKey × Addr × V)} {us : List (NestedKey × Addr × Value)} (r : Paired PR es us) (hm : h'.DictOfH (nestedKind P w) a us) : ObjOk P w H' h' a (.ext (DN P w a es)) := by
  obtain ⟨o, fs, ep, e1, e2, e3, e4, _, _⟩ := hm
  refine ⟨⟨us, r, o, fs, ep, e1, e2, e3, e4⟩, ⟨o, e1⟩, ?_⟩
  rintro h1 h2 ⟨us, r, o, fs, ep, e1, e2⟩ kk
  exact ⟨us, r, o, fs, ep, kk o e1, e2⟩
end
end Dl

set_option Elab.async false
set_option linter.all false
set_option maxRecDepth 100000
set_option maxHeartbeats 4000000
namespace Dl
open PySem PySem.Spec L2

/-! ### subscripts -/
def gIx : Store → D → D → Rs D := fun S x y => match x, y with
  | .tup xs, .int i => (match atI xs i with
    | some d => .ok d S
    | none => .stuck)
  | .str z, .int i => if z.length ≤ 100000 then (match atI z i with
    | some n => .ok (.str [n]) S
    | none => .stuck) else .stuck
  | .ref n, y => (match S[n]? with
    | some (.lst xs) => (match y with
      | .int i => (match atI xs i with
        | some d => .ok d S
        | none => .stuck)
      | _ => .stuck)
    | some (.ro xs) => (match y with
      | .int i => (match atI xs i with
        | some d => .ok d S
        | none => .stuck)
      | _ => .stuck)
    | some (.dk kvs) => (match dkey y, atB D.keq kvs y with
      | some _, some d => .ok d S
      | _, _ => .stuck)
    | some (.dn kvs) => (match y, atB D.neq kvs y with
      | .tup ys, some d => if D.pure (.tup ys) = true ∧ D.deep (.tup ys) ≤ 8 then .ok d S else .stuck
      | _, _ => .stuck)
    | _ => .stuck)
  | _, _ => .stuck
def rIxK : R2 := fun x y H Q => ∃ a v, x = .ref a ∧ DGet H a y (some v) ∧ Q v H
def rIxN (P : Program) (w : World) (K : PySem.W.Frag) : R2 := fun x y H Q => ∃ a b es kvs m k d e, x = .ref a ∧ y = .ref b ∧ RepNV K m k H kvs es ∧ (es.map (·.1)).Nodup ∧ H a = some (.ext (DN P w a es)) ∧ d.pure = true ∧ d.deep ≤ 8 ∧ Rep K m k H d (.ref b) ∧
  atB D.neq kvs d = some e ∧ ∀ v, Rep K m k H e v → Q v H
def rIxAll (P : Program) (w : World) (K : PySem.W.Frag) : R2 := fun x y H Q => rIx K x y H Q ∨ rIxK x y H Q ∨ rIxN P w K x y H Q
theorem rep_at {K : PySem.W.Frag} {m : Nat → Addr} {k : Nat} {H : Hp} {xs : List D} {vs : List V} {i : Int} {d : D} (h : RepL K m k H xs vs) (e : atI xs i = some d) : ∃ v, atI vs i = some v ∧ Rep K m k H d v := by
  unfold atI at e ⊢
  rw [h.len]
  cases q : ixN xs.length i with
  | none => rw [q] at e; cases e
  | some j => rw [q] at e; exact h.get e
theorem strOf_length (z : List Nat) : (strOf z).length = z.length := by simp [strOf, Str.length]
section
variable {X : Cx} {c : Ct}
theorem ix_dict (hu : X.A.units + 64 < cLine) : IxR X rIxK := by
  intro value slice pins s σ H x y v u Q I rx ry h hs
  obtain ⟨a, z, rfl, g, q⟩ := h
  cases rx
  exact PyProof.Rows.tail_any (dict_typeIs I g) PySem.F.slot_dict_getitem.lookup (d_getItem (by omega) I g ry fun w' s' I' r' => ⟨z, H, I', r', q⟩) hs
theorem ix_dn (hu : X.A.units + 64 < cLine) : IxR X (rIxN X.prog X.w X.K) := by
  intro value slice pins s σ H x y v u Q I rx ry h hs
  obtain ⟨a, b, es, kvs, m, k, d, e, rfl, rfl, h1, h2, h3, h4, h5, h6, h7, q⟩ := h
  cases rx
  cases ry
  obtain ⟨us, r, hm⟩ := dn_open I h1 h2 h3
  have g := h1.get (d := d)
  rw [h7] at g
  obtain ⟨y, g1, g2⟩ := g
  have f := pr_find r d.nk
  rw [g1] at f
  obtain ⟨p, f1, f2⟩ := f
  refine PyProof.Rows.tail_any hm.typeIs PySem.F.slot_dict_getitem.lookup (wpAny_getItem_heap (knd := nestedKind X.prog X.w) ?_ (rep_key I h4 h5 h6) hm f1 ⟨_, H, I.tok _, f2, q _ g2⟩) hs
  show X.A.units + 1 + 8 < cLine
  omega
theorem ix_all (hu : X.A.units + 64 < cLine) : IxR X (rIxAll X.prog X.w X.K) := ix_seq.or ((ix_dict hu).or (ix_dn hu))
theorem dkey_rep {K : PySem.W.Frag} {m : Nat → Addr} {k : Nat} {H : Hp} {y : D} {q : Key} {v : V} (e : dkey y = some q) (h : Rep K m k H y v) : v = kV q := by
  cases y with
  | int i => cases e; cases h; rfl
  | str s => cases e; cases h; rfl
  | non => cases e
  | bl _ => cases e
  | tup _ => cases e
  | ref _ => cases e
theorem od_ix : OpD c (rIxAll c.P c.w c.K) gIx := by
  intro m S H x y vx vy Q Z s hx hy p
  cases x with
  | non => exact p.elim
  | bl _ => exact p.elim
  | int _ => exact p.elim
  | tup xs =>
    cases y with
    | int i =>
      dsimp only [gIx] at p
      obtain ⟨a, vs, rfl, h1, h2⟩ := rep_tup hx
      cases hy
      cases q : atI xs i with
      | none => rw [q] at p; exact p.elim
      | some d =>
        rw [q] at p
        obtain ⟨v, e1, e2⟩ := rep_at h2 q
        exact .inl (.inr (.inl ⟨a, vs, i, v, rfl, rfl, h1, e1, p.here s e2⟩))
    | non => exact p.elim
    | bl _ => exact p.elim
    | str _ => exact p.elim
    | tup _ => exact p.elim
    | ref _ => exact p.elim
  | str z =>
    cases y with
    | int i =>
      dsimp only [gIx] at p
      cases hx
      cases hy
      by_cases hz : z.length ≤ 100000
      · rw [if_pos hz] at p
        cases q : atI z i with
        | none => rw [q] at p; exact p.elim
        | some d =>
          rw [q] at p
          refine .inl (.inr (.inr ⟨_, i, d, rfl, rfl, ?_, q, p.here s rfl⟩))
          exact Nat.le_of_lt (small5 hz)
      · rw [if_neg hz] at p; exact p.elim
    | non => exact p.elim
    | bl _ => exact p.elim
    | str _ => exact p.elim
    | tup _ => exact p.elim
    | ref _ => exact p.elim
  | ref n =>
    rw [rep_ref hx]
    dsimp only [gIx] at p
    cases o : S[n]? with
    | none => rw [o] at p; exact p.elim
    | some ob =>
      rw [o] at p
      cases ob with
      | lst xs =>
        cases y with
        | int i =>
          dsimp only at p
          cases hy
          cases q : atI xs i with
          | none => rw [q] at p; exact p.elim
          | some d =>
            rw [q] at p
            obtain ⟨vs, h1, h2⟩ := s.list (.inl o)
            obtain ⟨v, e1, e2⟩ := rep_at h2 q
            exact .inl (.inl ⟨_, vs, i, v, rfl, rfl, h1, e1, p.here s e2⟩)
        | non => exact p.elim
        | bl _ => exact p.elim
        | str _ => exact p.elim
        | tup _ => exact p.elim
        | ref _ => exact p.elim
      | ro xs =>
        cases y with
        | int i =>
          dsimp only at p
          cases hy
          cases q : atI xs i with
          | none => rw [q] at p; exact p.elim
          | some d =>
            rw [q] at p
            obtain ⟨vs, h1, h2⟩ := s.list (.inr o)
            obtain ⟨v, e1, e2⟩ := rep_at h2 q
            exact .inl (.inl ⟨_, vs, i, v, rfl, rfl, h1, e1, p.here s e2⟩)
        | non => exact p.elim
        | bl _ => exact p.elim
        | str _ => exact p.elim
        | tup _ => exact p.elim
        | ref _ => exact p.elim
      | dk kvs =>
        dsimp only at p
        cases e1 : dkey y with
        | none => rw [e1] at p; exact p.elim
        | some q =>
          cases e2 : atB D.keq kvs y with
          | none => rw [e1, e2] at p; exact p.elim
          | some d =>
            rw [e1, e2] at p
            obtain ⟨ws, h1, h2⟩ := s.obj n _ o
            have g := h2.get e1
            rw [e2] at g
            obtain ⟨v, g1, g2⟩ := g
            rw [dkey_rep e1 hy]
            refine .inr (.inl ⟨_, v, rfl, ?_, p.here s g2⟩)
            rw [← g1]
            exact DGet.k h1
      | dn kvs =>
        cases y with
        | tup ys =>
          dsimp only at p
          cases e2 : atB D.neq kvs (.tup ys) with
          | none => rw [e2] at p; exact p.elim
          | some d =>
            rw [e2] at p
            dsimp only at p
            by_cases hz : D.pure (.tup ys) = true ∧ D.deep (.tup ys) ≤ 8
            · rw [if_pos hz] at p
              obtain ⟨_, _, es, h1, h2, h3⟩ := s.obj n _ o
              have hy0 := hy
              obtain ⟨b, vs, rfl, _, _⟩ := rep_tup hy
              exact .inr (.inr ⟨_, b, es, kvs, m, S.length, _, d, rfl, rfl, h1, h2, h3, hz.1, hz.2, hy0, e2, fun v r => p.here s r⟩)
            · rw [if_neg hz] at p; exact p.elim
        | non => exact p.elim
        | bl _ => exact p.elim
        | int _ => exact p.elim
        | str _ => exact p.elim
        | ref _ => exact p.elim
      | ins _ _ => exact p.elim
      | fk _ => exact p.elim

/-! ### slices -/
abbrev DOp := Env → Store → Rs (Option Int)
abbrev relO : RelT (Option Int) (Option Int) := fun _ _ _ a b => a = b
def oNone : DOp := fun _ S => .ok none S
def oInt (d : D) (S : Store) : Rs (Option Int) := match d with
  | .int i => .ok (some i) S
  | _ => .stuck
def oSome (f : DE) : DOp := fun e S => (f e S).bind oInt
variable {W : WX} {lo hi : Option Expr} {l h : DOp} {e : Expr} {f : DE} {p2 pos : Pos}
theorem PO.mono {e : Option Expr} {t t' : TO} (h : PO X e t) (w : ∀ σ H Q, t' σ H Q → t σ H Q) : PO X e t' := ⟨fun pins s σ H Q I q => h.run pins s σ H Q I (w _ _ _ q)⟩
theorem o_none : PO X none (tG c relO W oNone) := PO.mono po_none fun σ H Q ⟨m, S, e, A, p⟩ => p.here A.s rfl
theorem o_some (he : PE X e (tD c W f)) : PO X (some e) (tG c relO W (oSome f)) := by
  refine PO.mono (po_some he) fun σ H Q ⟨m, S, e, A, p⟩ => ?_
  refine bind_at A p fun m1 S1 x v H1 A1 g1 q1 p1 => ?_
  unfold oInt at p1
  split at p1
  · rename_i i
    exact ⟨i, q1, p1.here A1.s rfl⟩
  · exact p1.elim
def cutD {α : Type} (xs : List α) (lo hi : Option Int) : List α := (xs.drop (HT.sIx xs.length 0 lo)).take (HT.sIx xs.length xs.length hi - HT.sIx xs.length 0 lo)
def gSl (S : Store) (x : D) (lo hi : Option Int) : Rs D := match x with
  | .tup xs => .ok (.tup (cutD xs lo hi)) S
  | .ref n => (match S[n]? with
    | some (.lst xs) => .ok (.ref S.length) (S ++ [.lst (cutD xs lo hi)])
    | some (.ro xs) => .ok (.ref S.length) (S ++ [.lst (cutD xs lo hi)])
    | _ => .stuck)
  | _ => .stuck
def cSl (f : DE) (l h : DOp) : DE := fun e S => (f e S).bind fun x S1 => (l e S1).bind fun lo S2 => (h e S2).bind fun hi S3 => gSl S3 x lo hi
theorem repL_cut {K : PySem.W.Frag} {m : Nat → Addr} {k : Nat} {H : Hp} {xs : List D} {vs : List V} (lo hi : Option Int) (r : RepL K m k H xs vs) : RepL K m k H (cutD xs lo hi) (cutV vs lo hi) := by
  unfold cutD cutV
  rw [r.len]
  exact (r.drop _).take _
theorem d_slice (he : PE X e (tD c W f)) (hl : PO X lo (tG c relO W l)) (hh : PO X hi (tG c relO W h)) (hK : X.K = c.K := by rfl) : PE X (.Subscript e (.Slice lo hi none p2) pos) (tD c W (cSl f l h)) := by
  refine PE.mono (pe_slice (sl_tupA.or sl_list) he hl hh) fun σ H Q ⟨m, S, e, A, p⟩ => ?_
  refine bind_at A p fun m1 S1 x v H1 A1 g1 q1 p1 => ?_
  refine bind_at A1 p1 fun m2 S2 lo lo' H2 A2 g2 q2 p2 => ?_
  refine bind_at A2 p2 fun m3 S3 hi hi' H3 A3 g3 q3 p3 => ?_
  cases q2
  cases q3
  have q1 := Rep.mono ((g2.trans g3).ext A1.s) _ _ q1
  cases x with
  | non => exact p3.elim
  | bl _ => exact p3.elim
  | int _ => exact p3.elim
  | str _ => exact p3.elim
  | tup xs =>
    dsimp only [gSl] at p3
    obtain ⟨a, vs, rfl, h1, h2⟩ := rep_tup q1
    refine .inl ⟨a, vs, rfl, by rw [hK]; exact h1, fun hw => ?_, fun _ t ht => new_tup A3.s (repL_cut _ _ h2) p3 t ht⟩
    refine p3.here A3.s ?_
    have ec : cutD xs lo hi = xs := by
      unfold cutD
      rw [← h2.len, hw.1, hw.2, h2.len]
      simp
    rw [ec]
    exact q1
  | ref n =>
    dsimp only [gSl] at p3
    cases o : S3[n]? with
    | none => rw [o] at p3; exact p3.elim
    | some ob =>
      rw [o] at p3
      cases ob with
      | lst xs =>
        obtain ⟨vs, h1, h2⟩ := A3.s.list (.inl o)
        exact .inr ⟨_, vs, rep_ref q1, by rw [hK]; exact h1, fun t ht => new_lst A3.s (repL_cut _ _ h2) p3 t ht⟩
      | ro xs =>
        obtain ⟨vs, h1, h2⟩ := A3.s.list (.inr o)
        exact .inr ⟨_, vs, rep_ref q1, by rw [hK]; exact h1, fun t ht => new_lst A3.s (repL_cut _ _ h2) p3 t ht⟩
      | dk _ => exact p3.elim
      | dn _ => exact p3.elim
      | ins _ _ => exact p3.elim
      | fk _ => exact p3.elim

/-! ### calls of what is built in -/
def gLen (S : Store) (xs : List D) : Rs D := match xs with
  | [.tup ys] => .ok (.int ys.length) S
  | [.str z] => if z.length ≤ 100000 then .ok (.int z.length) S else .stuck
  | [.ref n] => (match S[n]? with
    | some (.lst ys) => .ok (.int ys.length) S
    | some (.ro ys) => .ok (.int ys.length) S
    | some (.dk kvs) => .ok (.int kvs.length) S
    | some (.dn kvs) => .ok (.int kvs.length) S
    | _ => .stuck)
  | _ => .stuck
def rLenSeq (K : PySem.W.Frag) : List V → Hp → VK → Prop := fun xs H Q => ∃ p ys, xs = [.ref p] ∧ (SqL K H p ys ∨ SqT K H p ys) ∧ Q (.int ys.length) H
def rLenStr : List V → Hp → VK → Prop := fun xs H Q => ∃ z : Str, xs = [.str z] ∧ z.length ≤ sizeLine ∧ Q (.int z.length) H
def rLenDk : List V → Hp → VK → Prop := fun xs H Q => ∃ a kvs, xs = [V.ref a] ∧ H a = some (.dK kvs) ∧ Q (.int kvs.length) H
def rLenDn (P : Program) (w : World) (K : PySem.W.Frag) : List V → Hp → VK → Prop := fun xs H Q => ∃ a es kvs m k, xs = [.ref a] ∧ (a == sysModules) = false ∧ kvs.length ≤ sizeLine ∧ RepNV K m k H kvs es ∧ (es.map (·.1)).Nodup ∧ H a = some (.ext (DN P w a es)) ∧ Q (.int kvs.length) H
def rLenAll (P : Program) (w : World) (K : PySem.W.Frag) : List V → Hp → VK → Prop := fun xs H Q => rLenSeq K xs H Q ∨ rLenStr xs H Q ∨ rLenDk xs H Q ∨ rLenDn P w K xs H Q
theorem Paired.len2 {α β : Type} {R : α → β → Prop} {xs : List α} {ys : List β} (h : Paired R xs ys) : xs.length = ys.length := Paired.length h
theorem call_len_dn : CallR X (.builtin "len") (rLenDn X.prog X.w X.K) := by
  intro pins s σ H xs us Q I r h
  obtain ⟨a, es, kvs, m, k, rfl, h0, hz, h1, h2, h3, q⟩ := h
  obtain ⟨u, rfl, rx⟩ := vals1 r
  cases rx
  obtain ⟨us, r, hm⟩ := dn_open I h1 h2 h3
  have e1 : us.length = kvs.length := (Paired.length r).symm.trans h1.len
  refine call_len_dictH h0 hm (by rw [e1]; have := sizeLine_eq; omega) ?_
  rw [e1]
  exact ⟨.int kvs.length, H, I.tok _, ⟨_, rfl⟩, q⟩
theorem call_len_all : CallR X (.builtin "len") (rLenAll X.prog X.w X.K) := CallR.or call_len_seq (CallR.or call_len_str (CallR.or call_lenD call_len_dn))
theorem repL1 {K : PySem.W.Frag} {m : Nat → Addr} {k : Nat} {H : Hp} {d : D} {vs : List V} (h : RepL K m k H [d] vs) : ∃ v, vs = [v] ∧ Rep K m k H d v := by
  obtain ⟨v, r, rfl, h1, h2⟩ := RepL.cons_iff.mp h
  rw [RepL.nil_iff.mp h2]
  exact ⟨v, rfl, h1⟩
theorem ol_len : OpDL c (rLenAll c.P c.w c.K) gLen := by
  intro m S H x vx Q Z s hx p
  unfold gLen at p
  split at p
  · rename_i ys
    obtain ⟨v, rfl, h⟩ := repL1 hx
    obtain ⟨a, vs, rfl, h1, h2⟩ := rep_tup h
    exact .inl ⟨a, vs, rfl, .inr h1, by rw [h2.len]; exact p.here s rfl⟩
  · rename_i z
    obtain ⟨v, rfl, h⟩ := repL1 hx
    cases h
    by_cases hz : z.length ≤ 100000
    · rw [if_pos hz] at p
      refine .inr (.inl ⟨_, rfl, Nat.le_of_lt (small5 hz), ?_⟩)
      exact p.here s rfl
    · rw [if_neg hz] at p; exact p.elim
  · rename_i n
    obtain ⟨v, rfl, h⟩ := repL1 hx
    rw [rep_ref h]
    cases o : S[n]? with
    | none => rw [o] at p; exact p.elim
    | some ob =>
      rw [o] at p
      cases ob with
      | lst xs =>
        obtain ⟨vs, h1, h2⟩ := s.list (.inl o)
        exact .inl ⟨_, vs, rfl, .inl h1, by rw [h2.len]; exact p.here s rfl⟩
      | ro xs =>
        obtain ⟨vs, h1, h2⟩ := s.list (.inr o)
        exact .inl ⟨_, vs, rfl, .inl h1, by rw [h2.len]; exact p.here s rfl⟩
      | dk kvs =>
        obtain ⟨ws, h1, h2⟩ := s.obj n _ o
        exact .inr (.inr (.inl ⟨_, ws, rfl, h1, by rw [h2.len]; exact p.here s rfl⟩))
      | dn kvs =>
        obtain ⟨h0, hz, es, h1, h2, h3⟩ := s.obj n _ o
        exact .inr (.inr (.inr ⟨_, es, kvs, m, S.length, rfl, h0, hz, h1, h2, h3, p.here s rfl⟩))
      | ins _ _ => exact p.elim
      | fk _ => exact p.elim
  · exact p.elim
def gAbs (S : Store) (xs : List D) : Rs D := match xs with
  | [.int i] => .ok (.int (if i < 0 then -i else i)) S
  | _ => .stuck
theorem ol_abs : OpDL c (fun xs H Q => ∃ i, xs = [.int i] ∧ Q (.int (if i < 0 then -i else i)) H) gAbs := by
  intro m S H x vx Q Z s hx p
  unfold gAbs at p
  split at p
  · obtain ⟨v, rfl, h⟩ := repL1 hx
    cases h
    exact ⟨_, rfl, p.here s rfl⟩
  · exact p.elim
def gInt (S : Store) (xs : List D) : Rs D := match xs with
  | [.int i] => .ok (.int i) S
  | [.bl b] => .ok (.int (if b then 1 else 0)) S
  | _ => .stuck
theorem ol_int : OpDL c (fun xs H Q => (∃ i, xs = [.int i] ∧ Q (.int i) H) ∨ ∃ k, xs = [.bl k] ∧ Q (.int (if k then 1 else 0)) H) gInt := by
  intro m S H x vx Q Z s hx p
  unfold gInt at p
  split at p
  · obtain ⟨v, rfl, h⟩ := repL1 hx
    cases h
    exact .inl ⟨_, rfl, p.here s rfl⟩
  · obtain ⟨v, rfl, h⟩ := repL1 hx
    cases h
    exact .inr ⟨_, rfl, p.here s rfl⟩
  · exact p.elim
def gTuple (S : Store) (xs : List D) : Rs D := match xs with
  | [.tup ys] => .ok (.tup ys) S
  | [.ref n] => (match S[n]? with
    | some (.lst ys) => .ok (.tup ys) S
    | some (.ro ys) => .ok (.tup ys) S
    | _ => .stuck)
  | _ => .stuck
def rTupleOf (K : PySem.W.Frag) : List V → Hp → VK → Prop := fun xs H Q => ∃ p ys, xs = [.ref p] ∧ ((SqL K H p ys ∧ ∀ l, H l = none → Q (.ref l) (L2.upd H l (.tup ys))) ∨ (SqT K H p ys ∧ Q (.ref p) H))
theorem ol_tuple : OpDL c (rTupleOf c.K) gTuple := by
  intro m S H x vx Q Z s hx p
  unfold gTuple at p
  split at p
  · rename_i ys
    obtain ⟨v, rfl, h⟩ := repL1 hx
    obtain ⟨a, vs, rfl, h1, h2⟩ := rep_tup h
    exact ⟨a, vs, rfl, .inr ⟨h1, p.here s h⟩⟩
  · rename_i n
    obtain ⟨v, rfl, h⟩ := repL1 hx
    rw [rep_ref h]
    cases o : S[n]? with
    | none => rw [o] at p; exact p.elim
    | some ob =>
      rw [o] at p
      cases ob with
      | lst xs =>
        obtain ⟨vs, h1, h2⟩ := s.list (.inl o)
        exact ⟨_, vs, rfl, .inl ⟨h1, fun t ht => new_tup s h2 p t ht⟩⟩
      | ro xs =>
        obtain ⟨vs, h1, h2⟩ := s.list (.inr o)
        exact ⟨_, vs, rfl, .inl ⟨h1, fun t ht => new_tup s h2 p t ht⟩⟩
      | dk kvs => exact p.elim
      | dn kvs => exact p.elim
      | ins _ _ => exact p.elim
      | fk _ => exact p.elim
  · exact p.elim
def gList (S : Store) (xs : List D) : Rs D := match xs with
  | [.tup ys] => .ok (.ref S.length) (S ++ [.lst ys])
  | [.ref n] => (match S[n]? with
    | some (.lst ys) => .ok (.ref S.length) (S ++ [.lst ys])
    | some (.ro ys) => .ok (.ref S.length) (S ++ [.lst ys])
    | _ => .stuck)
  | _ => .stuck
def rListOf (K : PySem.W.Frag) : List V → Hp → VK → Prop := fun xs H Q => ∃ p ys, xs = [.ref p] ∧ (SqL K H p ys ∨ SqT K H p ys) ∧ ∀ l, H l = none → Q (.ref l) (L2.upd H l (.lst ys))
theorem ol_list : OpDL c (rListOf c.K) gList := by
  intro m S H x vx Q Z s hx p
  unfold gList at p
  split at p
  · rename_i ys
    obtain ⟨v, rfl, h⟩ := repL1 hx
    obtain ⟨a, vs, rfl, h1, h2⟩ := rep_tup h
    exact ⟨a, vs, rfl, .inr h1, fun t ht => new_lst s h2 p t ht⟩
  · rename_i n
    obtain ⟨v, rfl, h⟩ := repL1 hx
    rw [rep_ref h]
    cases o : S[n]? with
    | none => rw [o] at p; exact p.elim
    | some ob =>
      rw [o] at p
      cases ob with
      | lst xs =>
        obtain ⟨vs, h1, h2⟩ := s.list (.inl o)
        exact ⟨_, vs, rfl, .inl h1, fun t ht => new_lst s h2 p t ht⟩
      | ro xs =>
        obtain ⟨vs, h1, h2⟩ := s.list (.inr o)
        exact ⟨_, vs, rfl, .inl h1, fun t ht => new_lst s h2 p t ht⟩
      | dk kvs => exact p.elim
      | dn kvs => exact p.elim
      | ins _ _ => exact p.elim
      | fk _ => exact p.elim
  · exact p.elim
/-- the truths that stand in it -/
def blsOf : List D → Option (List Bool)
  | [] => some []
  | .bl b :: r => (blsOf r).map (b :: ·)
  | _ :: _ => none
theorem blsOf_rep {K : PySem.W.Frag} {m : Nat → Addr} {k : Nat} {H : Hp} : ∀ {xs : List D} {vs : List V} {bs : List Bool}, RepL K m k H xs vs → blsOf xs = some bs → vs = bs.map V.bl
  | [], vs, bs, h, e => by cases e; rw [RepL.nil_iff.mp h]; rfl
  | x :: xs, vs, bs, h, e => by
    obtain ⟨v, r, rfl, h1, h2⟩ := RepL.cons_iff.mp h
    cases x with
    | bl b =>
      unfold blsOf at e
      cases q : blsOf xs with
      | none => rw [q] at e; cases e
      | some cs =>
        rw [q] at e
        cases e
        cases h1
        rw [blsOf_rep h2 q]; rfl
    | non => cases e
    | int _ => cases e
    | str _ => cases e
    | tup _ => cases e
    | ref _ => cases e
def seqOf (S : Store) (n : Nat) : Option (List D) := match S[n]? with
  | some (.lst ys) => some ys
  | some (.ro ys) => some ys
  | _ => none
theorem seqOf_rep {m : Nat → Addr} {S : Store} {H : Hp} {n : Nat} {ys : List D} (s : SRel c m S H) (h : seqOf S n = some ys) : ∃ vs, SqL c.K H (m n) vs ∧ RepL c.K m S.length H ys vs := by
  unfold seqOf at h
  cases o : S[n]? with
  | none => rw [o] at h; cases h
  | some ob =>
    rw [o] at h
    cases ob with
    | lst xs => cases h; exact s.list (.inl o)
    | ro xs => cases h; exact s.list (.inr o)
    | dk kvs => cases h
    | dn kvs => cases h
    | ins _ _ => cases h
    | fk _ => cases h
def gAll (S : Store) (xs : List D) : Rs D := match xs with
  | [.ref n] => (match (seqOf S n).bind blsOf with
    | some bs => .ok (.bl (bs.all id)) S
    | none => .stuck)
  | _ => .stuck
def gAny (S : Store) (xs : List D) : Rs D := match xs with
  | [.ref n] => (match (seqOf S n).bind blsOf with
    | some bs => .ok (.bl (bs.any id)) S
    | none => .stuck)
  | _ => .stuck
theorem bls_at {m : Nat → Addr} {S : Store} {H : Hp} {n : Nat} {bs : List Bool} (s : SRel c m S H) (h : (seqOf S n).bind blsOf = some bs) : SqL c.K H (m n) (bs.map V.bl) := by
  cases q : seqOf S n with
  | none => rw [q] at h; cases h
  | some ys =>
    rw [q] at h
    obtain ⟨vs, h1, h2⟩ := seqOf_rep s q
    rw [← blsOf_rep h2 h]
    exact h1
theorem ol_all : OpDL c (rAll c.K) gAll := by
  intro m S H x vx Q Z s hx p
  unfold gAll at p
  split at p
  · rename_i n
    obtain ⟨v, rfl, h⟩ := repL1 hx
    rw [rep_ref h]
    cases q : (seqOf S n).bind blsOf with
    | none => rw [q] at p; exact p.elim
    | some bs => rw [q] at p; exact ⟨_, bs, rfl, bls_at s q, p.here s rfl⟩
  · exact p.elim
theorem ol_any : OpDL c (rAny c.K) gAny := by
  intro m S H x vx Q Z s hx p
  unfold gAny at p
  split at p
  · rename_i n
    obtain ⟨v, rfl, h⟩ := repL1 hx
    rw [rep_ref h]
    cases q : (seqOf S n).bind blsOf with
    | none => rw [q] at p; exact p.elim
    | some bs => rw [q] at p; exact ⟨_, bs, rfl, bls_at s q, p.here s rfl⟩
  · exact p.elim
end
end Dl

set_option Elab.async false
set_option linter.all false
set_option maxRecDepth 100000
set_option maxHeartbeats 4000000
namespace Dl
open PySem PySem.Spec L2

/-! ### isinstance -/
inductive Ty where
  | non | bool | int | str | tuple | list | dict
def Ty.name : Ty → String
  | .non => "NoneType" | .bool => "bool" | .int => "int" | .str => "str" | .tuple => "tuple" | .list => "list" | .dict => "dict"
def Ty.isi : Ty → Ty → Bool
  | .non, .non => true
  | .bool, .bool => true
  | .bool, .int => true
  | .int, .int => true
  | .str, .str => true
  | .tuple, .tuple => true
  | .list, .list => true
  | .dict, .dict => true
  | _, _ => false
theorem Ty.kit (a b : Ty) (h : b ≠ .non) : kitB a.name b.name = some (Ty.isi a b) := by
  cases b with
  | non => exact absurd rfl h
  | bool => cases a <;> decide +kernel
  | int => cases a <;> decide +kernel
  | str => cases a <;> decide +kernel
  | tuple => cases a <;> decide +kernel
  | list => cases a <;> decide +kernel
  | dict => cases a <;> decide +kernel
def tyOf (S : Store) : D → Option Ty
  | .non => some .non
  | .bl _ => some .bool
  | .int _ => some .int
  | .str _ => some .str
  | .tup _ => some .tuple
  | .ref n => match S[n]? with
    | some (.lst _) => some .list
    | some (.ro _) => some .list
    | some (.dk _) => some .dict
    | _ => none
def isiK (T : Ty) (d : D) (S : Store) : Rs D := match tyOf S d with
  | some t => .ok (.bl (Ty.isi t T)) S
  | none => .stuck
def cIsi (T : Ty) (f : DE) : DE := fun e S => (f e S).bind (isiK T)
section
variable {X : Cx} {c : Ct} {W : WX}
theorem tyX_seq {K : PySem.W.Frag} {H : Hp} {a : Addr} {vs : List V} (h : SqL K H a vs) : TyX K H (.ref a) (.type "list") := by
  rcases h with (h | ⟨o, h⟩) | ⟨o, its, n, hk, hc, hd, hs, hz, r⟩
  · exact .base (.lst h)
  · exact .base (.frz h)
  · exact .kList hk hc
theorem tyX_tup {K : PySem.W.Frag} {H : Hp} {a : Addr} {vs : List V} (h : SqT K H a vs) : TyX K H (.ref a) (.type "tuple") := by
  rcases h with (h | ⟨o, h⟩) | ⟨o, its, n, hk, hc, hs, hz, r⟩
  · exact .base (.tup h)
  · exact .fTuple h
  · exact .kTuple hk hc
theorem tyX_of {m : Nat → Addr} {S : Store} {H : Hp} {d : D} {v : V} {t : Ty} (s : SRel c m S H) (r : Rep c.K m S.length H d v) (h : tyOf S d = some t) : TyX c.K H v (.type t.name) := by
  cases d with
  | non => cases h; cases r; exact .base .non
  | bl b => cases h; cases r; exact .base (.bl b)
  | int i => cases h; cases r; exact .base (.int i)
  | str z => cases h; cases r; exact .base (.str _)
  | tup xs => cases h; obtain ⟨a, vs, rfl, h1, _⟩ := rep_tup r; exact tyX_tup h1
  | ref n =>
    rw [rep_ref r]
    dsimp only [tyOf] at h
    cases o : S[n]? with
    | none => rw [o] at h; cases h
    | some ob =>
      rw [o] at h
      cases ob with
      | lst xs => cases h; obtain ⟨vs, h1, _⟩ := s.list (.inl o); exact tyX_seq h1
      | ro xs => cases h; obtain ⟨vs, h1, _⟩ := s.list (.inr o); exact tyX_seq h1
      | dk kvs => cases h; obtain ⟨ws, h1, _⟩ := s.obj n _ o; exact .base (.dK h1)
      | dn _ => cases h
      | ins _ _ => cases h
      | fk _ => cases h
theorem d_isi {x y : Str} {p p2 pos : Pos} {e : Expr} {f : DE} (T : Ty) (he : PE X e (tD c W f)) (hg : Gl X x) (hm : X.mg x = none) (hv : bootBuiltins x = some (.builtin "isinstance")) (hg2 : Gl X y) (hm2 : X.mg y = none) (hv2 : bootBuiltins y = some (.type T.name)) (hT : T ≠ .non)
    (hn : x ≠ "__name__" := by decide) (hdb : (x == ("__debug__" : Str)) = false := by decide) (hn2 : y ≠ "__name__" := by decide) (hdb2 : (y == ("__debug__" : Str)) = false := by decide)
    (hs0 : starEach [.Name y p2] X.env = [(false, eval (.Name y p2) X.env)] := by rfl)
    (hs : starEach (e :: [.Name y p2]) X.env = (false, eval e X.env) :: starEach [.Name y p2] X.env := by rfl) (hpl : (backTo pos (starEach [.Name y p2] X.env)).any (·.1) = false := by rfl) (hK : X.K = c.K := by rfl) :
    PE X (.Call (.Name x p) [e, .Name y p2] [] pos) (tD c W (cIsi T f)) := by
  have hty : PE X (.Name y p2) (tC (.ty T.name)) := pe_bltn hg2 hm2 hv2 rfl hn2 hdb2
  refine PE.mono (pe_callB call_isi hg hm hv (pa_cons he (pa_cons hty pa_nil hs0) hs) hn hdb hs hpl) fun σ H Q ⟨m, S, ev, A, p⟩ => ?_
  refine bind_at A p fun m1 S1 d v H1 A1 g1 q1 p1 => ?_
  unfold isiK at p1
  cases q : tyOf S1 d with
  | none => rw [q] at p1; exact p1.elim
  | some t =>
    rw [q] at p1
    refine ⟨v, .ty T.name, .type t.name, .type T.name, Ty.isi t T, rfl, .ty _, ?_, ?_, p1.here A1.s rfl⟩
    · rw [hK]; exact tyX_of A1.s q1 q
    · exact kit_ty (Ty.kit t T hT)

/-! ### in, not in, of dicts -/
def inB (S : Store) (x y : D) : Option Bool := match y with
  | .ref n => (match S[n]? with
    | some (.dk kvs) => (match dkey x with
      | some _ => some (atB D.keq kvs x).isSome
      | none => none)
    | some (.dn kvs) => (match x with
      | .tup ys => if D.pure (.tup ys) = true ∧ D.deep (.tup ys) ≤ 8 then some (atB D.neq kvs (.tup ys)).isSome else none
      | _ => none)
    | _ => none)
  | _ => none
def gIn : Store → D → D → Rs D := fun S x y => match inB S x y with
  | some b => .ok (.bl b) S
  | none => .stuck
def gNin : Store → D → D → Rs D := fun S x y => match inB S x y with
  | some b => .ok (.bl (!b)) S
  | none => .stuck
def rInK2 (neg : Bool) : R2 := fun x y H Q => ∃ a o, y = .ref a ∧ DGet H a x o ∧ Q (.bl (if neg then !o.isSome else o.isSome)) H
def rInN (P : Program) (w : World) (K : PySem.W.Frag) (neg : Bool) : R2 := fun x y H Q => ∃ a b es kvs m k d, y = .ref a ∧ x = .ref b ∧ (a == sysModules) = false ∧ RepNV K m k H kvs es ∧ (es.map (·.1)).Nodup ∧ H a = some (.ext (DN P w a es)) ∧ d.pure = true ∧ d.deep ≤ 8 ∧ Rep K m k H d (.ref b) ∧
  Q (.bl (if neg then !(atB D.neq kvs d).isSome else (atB D.neq kvs d).isSome)) H
def rInAll (P : Program) (w : World) (K : PySem.W.Frag) (neg : Bool) : R2 := fun x y H Q => rInK2 neg x y H Q ∨ rInN P w K neg x y H Q
theorem op_inK2 (hu : X.A.units + 64 < cLine) : OpR X (compareOp .In) (rInK2 false) := by
  intro pins s σ H x y v u Q I rx ry h
  obtain ⟨a, o, rfl, g, q⟩ := h
  cases ry
  exact d_in (by omega) I g rx fun s' I' => ⟨.bl o.isSome, H, I', rfl, q⟩
theorem op_ninK2 (hu : X.A.units + 64 < cLine) : OpR X (compareOp .NotIn) (rInK2 true) := by
  intro pins s σ H x y v u Q I rx ry h
  obtain ⟨a, o, rfl, g, q⟩ := h
  cases ry
  exact d_notIn (by omega) I g rx fun s' I' => ⟨.bl (!o.isSome), H, I', rfl, q⟩
theorem find_isSome {K : PySem.W.Frag} {m : Nat → Addr} {k : Nat} {H : Hp} {kvs : List (D × D)} {es : List (NestedKey × Addr × V)} {us : List (NestedKey × Addr × Value)} (h : RepNV K m k H kvs es) (r : Paired PR es us) (d : D) : (atKey us d.nk).isSome = (atB D.neq kvs d).isSome := by
  have g := h.get (d := d)
  have f := pr_find r d.nk
  cases z : atB D.neq kvs d with
  | none => rw [z] at g; rw [g] at f; rw [f]; rfl
  | some e =>
    rw [z] at g
    obtain ⟨y, g1, _⟩ := g
    rw [g1] at f
    obtain ⟨p, f1, _⟩ := f
    rw [f1]; rfl
theorem op_inN (hu : X.A.units + 64 < cLine) : OpR X (compareOp .In) (rInN X.prog X.w X.K false) := by
  intro pins s σ H x y v u Q I rx ry h
  obtain ⟨a, b, es, kvs, m, k, d, rfl, rfl, h0, h1, h2, h3, h4, h5, h6, q⟩ := h
  cases rx
  cases ry
  obtain ⟨us, r, hm⟩ := dn_open I h1 h2 h3
  refine wpAny_in_heap (knd := nestedKind X.prog X.w) (by show X.A.units + 1 + 8 < cLine; omega) (rep_key I h4 h5 h6) h0 hm ⟨.bl _, H, I.tok _, rfl, ?_⟩
  rw [find_isSome h1 r]
  exact q
theorem op_ninN (hu : X.A.units + 64 < cLine) : OpR X (compareOp .NotIn) (rInN X.prog X.w X.K true) := by
  intro pins s σ H x y v u Q I rx ry h
  obtain ⟨a, b, es, kvs, m, k, d, rfl, rfl, h0, h1, h2, h3, h4, h5, h6, q⟩ := h
  cases rx
  cases ry
  obtain ⟨us, r, hm⟩ := dn_open I h1 h2 h3
  refine PyProof.Rows.wpAny_notIn_heap (knd := nestedKind X.prog X.w) (by show X.A.units + 1 + 8 < cLine; omega) (rep_key I h4 h5 h6) h0 hm ⟨.bl _, H, I.tok _, rfl, ?_⟩
  rw [find_isSome h1 r]
  exact q
theorem op_inAll (hu : X.A.units + 64 < cLine) : OpR X (compareOp .In) (rInAll X.prog X.w X.K false) := (op_inK2 hu).or (op_inN hu)
theorem op_ninAll (hu : X.A.units + 64 < cLine) : OpR X (compareOp .NotIn) (rInAll X.prog X.w X.K true) := (op_ninK2 hu).or (op_ninN hu)
theorem inB_ok {m : Nat → Addr} {S : Store} {H : Hp} {x y : D} {vx vy : V} {b : Bool} (neg : Bool) {Q : VK} (s : SRel c m S H) (hx : Rep c.K m S.length H x vx) (hy : Rep c.K m S.length H y vy) (h : inB S x y = some b) (q : Q (.bl (if neg then !b else b)) H) : rInAll c.P c.w c.K neg vx vy H Q := by
  cases y with
  | ref n =>
    rw [rep_ref hy]
    dsimp only [inB] at h
    cases o : S[n]? with
    | none => rw [o] at h; cases h
    | some ob =>
      rw [o] at h
      cases ob with
      | dk kvs =>
        dsimp only at h
        cases e : dkey x with
        | none => rw [e] at h; cases h
        | some k =>
          rw [e] at h
          cases h
          obtain ⟨ws, h1, h2⟩ := s.obj n _ o
          have g := h2.get e
          rw [dkey_rep e hx]
          refine .inl ⟨_, _, rfl, DGet.k h1, ?_⟩
          have : (valV ws k).isSome = (atB D.keq kvs x).isSome := by
            cases z : atB D.keq kvs x with
            | none => rw [z] at g; rw [g]; rfl
            | some d => rw [z] at g; obtain ⟨v, g1, _⟩ := g; rw [g1]; rfl
          rw [this]; exact q
      | dn kvs =>
        cases x with
        | tup ys =>
          dsimp only at h
          by_cases hz : D.pure (.tup ys) = true ∧ D.deep (.tup ys) ≤ 8
          · rw [if_pos hz] at h
            cases h
            obtain ⟨h0, _, es, h1, h2, h3⟩ := s.obj n _ o
            have hx0 := hx
            obtain ⟨b, vs, rfl, _, _⟩ := rep_tup hx
            exact .inr ⟨_, b, es, kvs, m, S.length, _, rfl, rfl, h0, h1, h2, h3, hz.1, hz.2, hx0, q⟩
          · rw [if_neg hz] at h; cases h
        | non => cases h
        | bl _ => cases h
        | int _ => cases h
        | str _ => cases h
        | ref _ => cases h
      | lst _ => cases h
      | ro _ => cases h
      | ins _ _ => cases h
      | fk _ => cases h
  | non => cases h
  | bl _ => cases h
  | int _ => cases h
  | str _ => cases h
  | tup _ => cases h
theorem od_in : OpD c (rInAll c.P c.w c.K false) gIn := by
  intro m S H x y vx vy Q Z s hx hy p
  unfold gIn at p
  cases e : inB S x y with
  | none => rw [e] at p; exact p.elim
  | some b => rw [e] at p; exact inB_ok false s hx hy e (p.here s rfl)
theorem od_nin : OpD c (rInAll c.P c.w c.K true) gNin := by
  intro m S H x y vx vy Q Z s hx hy p
  unfold gNin at p
  cases e : inB S x y with
  | none => rw [e] at p; exact p.elim
  | some b => rw [e] at p; exact inB_ok true s hx hy e (p.here s rfl)

/-! ### a < b < c -/
def chK2 (gg' : Store → D → D → Rs D) (f3 : DE) (e : Env) (y : D) (z : D) (S3 : Store) : Rs D := match z with
  | .bl true => (f3 e S3).bind fun w S4 => gg' S4 y w
  | .bl false => .ok (.bl false) S3
  | _ => .stuck
def cChain (gg gg' : Store → D → D → Rs D) (f1 f2 f3 : DE) : DE := fun e S => (f1 e S).bind fun x S1 => (f2 e S1).bind fun y S2 => (gg S2 x y).bind (chK2 gg' f3 e y)
theorem post_bind {γ : Type} {δ : Type} {rel2 : RelT γ δ} {m : Nat → Addr} {S : Store} {H : Hp} {r : Rs D} {k : D → Store → Rs γ} {Q : δ → Hp → Prop} {Z : Nat → Hp → Prop} {R : VK} (p : PostG c rel2 m S H (r.bind k) Q Z)
    (h : ∀ m1 S1 a b H1, SRel c m1 S1 H1 → Grow m S H m1 S1 H1 → Rep c.K m1 S1.length H1 a b → PostG c rel2 m1 S1 H1 (k a S1) Q Z → R b H1) : PostG c (relD c) m S H r R Z :=
  (PostG.bind (rel := relD c) p).imp (fun b H1 ⟨m1, S1, a, s1, g1, q, p1⟩ => h m1 S1 a b H1 s1 g1 q p1) fun _ _ z => z
theorem d_chain {op op' : CmpOp} {r r' : R2} {gg gg' : Store → D → D → Rs D} {a b cc : Expr} {f1 f2 f3 : DE} {pos : Pos} (ho : OpR X (compareOp op) r) (hg : OpD c r gg) (ho' : OpR X (compareOp op') r') (hg' : OpD c r' gg') (ha : PE X a (tD c W f1)) (hb : PE X b (tD c W f2)) (hc : PE X cc (tD c W f3))
    (hm : lastMarks [op, op'] [b, cc] = false := by with_unfolding_all rfl) : PE X (.Compare a [op, op'] [b, cc] pos) (tD c W (cChain gg gg' f1 f2 f3)) := by
  refine PE.mono (pe_chain ho ho' ha hb hc hm) fun σ H Q ⟨m, S, e, A, p⟩ => ?_
  refine bind_at A p fun m1 S1 x vx H1 A1 g1 q1 p1 => ?_
  refine bind_at A1 p1 fun m2 S2 y vy H2 A2 g2 q2 p2 => ?_
  refine hg m2 S2 H2 x y vx vy _ (Pz c W σ) A2.s (Rep.mono (g2.ext A1.s) _ _ q1) q2 (post_bind p2 fun m3 S3 z vz H3 s3 g3 q3 p3 => ?_)
  unfold chK2 at p3
  split at p3
  · refine ⟨true, q3, ?_⟩
    rw [if_pos rfl]
    have A3 := A2.grow g3 s3
    refine bind_at A3 p3 fun m4 S4 w vw H4 A4 g4 q4 p4 => ?_
    exact hg' m4 S4 H4 y w vy vw Q _ A4.s (Rep.mono ((g3.trans g4).ext A2.s) _ _ q2) q4 p4
  · refine ⟨false, q3, ?_⟩
    rw [if_neg (by decide)]
    exact p3.here s3 rfl
  · exact p3.elim
theorem k_chain {op op' : CmpOp} {r r' : R2} {gg gg' : Store → D → D → Rs D} {a b cc : Expr} {f1 f2 f3 : DE} {pos : Pos} (ho : OpR X (compareOp op) r) (hg : OpD c r gg) (ho' : OpR X (compareOp op') r') (hg' : OpD c r' gg') (ha : PE X a (tD c W f1)) (hb : PE X b (tD c W f2)) (hc : PE X cc (tD c W f3))
    (hm : lastMarks [op, op'] [b, cc] = false := by with_unfolding_all rfl) : PT X (.Compare a [op, op'] [b, cc] pos) (tT c W (kB (cChain gg gg' f1 f2 f3))) := by
  refine PT.mono (pt_chain ho ho' ha hb hc hm) fun σ H Q ⟨m, S, e, A, p⟩ => ?_
  have z : tD c W (cChain gg gg' f1 f2 f3) σ H fun x H1 => ∃ k, x = .bl k ∧ Q k H1 := by
    refine bind_at (k := fun x S1 => match x with | .bl b => .ok b S1 | _ => .stuck) A p fun m1 S1 x v H1 A1 g1 q1 p1 => ?_
    cases x with
    | bl k => exact ⟨k, q1, p1.here A1.s rfl⟩
    | non => exact p1.elim
    | int _ => exact p1.elim
    | str _ => exact p1.elim
    | tup _ => exact p1.elim
    | ref _ => exact p1.elim
  obtain ⟨m, S, e, A, p⟩ := z
  refine bind_at A p fun m1 S1 x vx H1 A1 g1 q1 p1 => ?_
  refine bind_at A1 p1 fun m2 S2 y vy H2 A2 g2 q2 p2 => ?_
  refine hg m2 S2 H2 x y vx vy _ (Pz c W σ) A2.s (Rep.mono (g2.ext A1.s) _ _ q1) q2 (post_bind p2 fun m3 S3 z vz H3 s3 g3 q3 p3 => ?_)
  unfold chK2 at p3
  split at p3
  · refine ⟨true, q3, ?_⟩
    rw [if_pos rfl]
    have A3 := A2.grow g3 s3
    refine bind_at A3 p3 fun m4 S4 w vw H4 A4 g4 q4 p4 => ?_
    exact hg' m4 S4 H4 y w vy vw _ _ A4.s (Rep.mono ((g3.trans g4).ext A2.s) _ _ q2) q4 p4
  · refine ⟨false, q3, ?_⟩
    rw [if_neg (by decide)]
    exact p3.here s3 rfl
  · exact p3.elim
end
end Dl

set_option Elab.async false
set_option linter.all false
set_option maxRecDepth 100000
set_option maxHeartbeats 4000000
namespace Dl
open PySem PySem.Spec L2

/-! ### methods of lists and texts -/
def OpM (c : Ct) (r : V → List V → Hp → VK → Prop) (g : Store → D → List D → Rs D) : Prop := ∀ (m : Nat → Addr) (S : Store) (H : Hp) (x : D) (xs : List D) (vx : V) (vs : List V) (Q : VK) (Z : Nat → Hp → Prop),
  SRel c m S H → Rep c.K m S.length H x vx → RepL c.K m S.length H xs vs → PostG c (relD c) m S H (g S x xs) Q Z → r vx vs H Q
/-- what the receiver is -/
def TyM (c : Ct) (T : String) (ty : Store → D → Bool) : Prop := ∀ (m : Nat → Addr) (S : Store) (H : Hp) (x : D) (vx : V), SRel c m S H → Rep c.K m S.length H x vx → ty S x = true → tyV c.K T vx H
def mtK2 (g : Store → D → List D → Rs D) (x : D) (xs : List D) (S2 : Store) : Rs D := g S2 x xs
def mtK (ty : Store → D → Bool) (g : Store → D → List D → Rs D) (a : DA) (e : Env) (x : D) (S1 : Store) : Rs D := if ty S1 x = true then (a e S1).bind (mtK2 g x) else .stuck
def cMt (ty : Store → D → Bool) (g : Store → D → List D → Rs D) (f : DE) (a : DA) : DE := fun e S => (f e S).bind (mtK ty g a e)
def mtK0 (ty : Store → D → Bool) (g : Store → D → List D → Rs D) (x : D) (S1 : Store) : Rs D := if ty S1 x = true then g S1 x [] else .stuck
def cMt0 (ty : Store → D → Bool) (g : Store → D → List D → Rs D) (f : DE) : DE := fun e S => (f e S).bind (mtK0 ty g)
section
variable {X : Cx} {c : Ct} {W : WX} {o e : Expr} {es : List Expr} {f : DE} {a : DA} {name : Str} {apos cpos : Pos} {T id : String} {r : V → List V → Hp → VK → Prop} {g : Store → D → List D → Rs D} {ty : Store → D → Bool}
theorem d_mt (pa : PlainAttrs T) (slot : Slot T name id) (hty : typeOf (.builtin id) = pure (.type "method_descriptor")) (hm : MtR X id r) (hg : OpM c r g) (ht : TyM c T ty) (ho : PE X o (tD c W f)) (ha : PA X (e :: es) (tL c W a))
    (hbase : attributeBase o name X.env (eval o X.env) = eval o X.env := by rfl)
    (hfew : ((backTo cpos (starEach (e :: es) X.env)).all (fun x => !x.1) && (backToKw cpos (keywordEach [] X.env)).all (fun x => x.1.isSome)
      && decide ((e :: es).length + ([] : List Keyword).length + (if ([] : List Keyword).isEmpty then 0 else 1) < 30)) = true := by rfl)
    (hline : (apos.endLine == cpos.line) = true := by rfl) (hs : starEach (e :: es) X.env = (false, eval e X.env) :: starEach es X.env := by rfl) (hplain : (backTo cpos (starEach es X.env)).any (·.1) = false := by rfl) (hK : X.K = c.K := by rfl) :
    PE X (.Call (.Attribute o name apos) (e :: es) [] cpos) (tD c W (cMt ty g f a)) := by
  refine PE.mono (pe_bm pa slot hty hm ho ha hbase hfew hline hs hplain) fun σ H Q ⟨m, S, ev, A, p⟩ => ?_
  refine bind_at A p fun m1 S1 x v H1 A1 g1 q1 p1 => ?_
  unfold mtK at p1
  by_cases hz : ty S1 x = true
  · rw [if_pos hz] at p1
    refine ⟨by rw [hK]; exact ht m1 S1 H1 x v A1.s q1 hz, bind_at A1 p1 fun m2 S2 xs vs H2 A2 g2 q2 p2 => ?_⟩
    exact hg m2 S2 H2 x xs v vs Q _ A2.s (Rep.mono (g2.ext A1.s) _ _ q1) q2 p2
  · rw [if_neg hz] at p1; exact p1.elim
theorem d_mt0 (pa : PlainAttrs T) (slot : Slot T name id) (hty : typeOf (.builtin id) = pure (.type "method_descriptor")) (hm : MtR X id r) (hg : OpM c r g) (ht : TyM c T ty) (ho : PE X o (tD c W f))
    (hbase : attributeBase o name X.env (eval o X.env) = eval o X.env := by rfl) (hline : (apos.endLine == cpos.line) = true := by rfl) (hK : X.K = c.K := by rfl) :
    PE X (.Call (.Attribute o name apos) [] [] cpos) (tD c W (cMt0 ty g f)) := by
  refine PE.mono (pe_bm0 pa slot hty hm ho hbase hline) fun σ H Q ⟨m, S, ev, A, p⟩ => ?_
  refine bind_at A p fun m1 S1 x v H1 A1 g1 q1 p1 => ?_
  unfold mtK0 at p1
  by_cases hz : ty S1 x = true
  · rw [if_pos hz] at p1
    exact ⟨by rw [hK]; exact ht m1 S1 H1 x v A1.s q1 hz, hg m1 S1 H1 x [] v [] Q _ A1.s q1 RepL.nil p1⟩
  · rw [if_neg hz] at p1; exact p1.elim
def isLst (S : Store) (x : D) : Bool := match x with
  | .ref n => (match S[n]? with
    | some (.lst _) => true
    | _ => false)
  | _ => false
theorem ty_lst : TyM c "list" isLst := by
  intro m S H x vx s r h
  cases x with
  | ref n =>
    rw [rep_ref r]
    dsimp only [isLst] at h
    cases o : S[n]? with
    | none => rw [o] at h; exact Bool.noConfusion h
    | some ob =>
      rw [o] at h
      cases ob with
      | lst xs => obtain ⟨vs, h1, _⟩ := s.list (.inl o); exact .inl ⟨rfl, vs, h1⟩
      | ro _ => exact Bool.noConfusion h
      | dk _ => exact Bool.noConfusion h
      | dn _ => exact Bool.noConfusion h
      | ins _ _ => exact Bool.noConfusion h
      | fk _ => exact Bool.noConfusion h
  | non => exact Bool.noConfusion h
  | bl _ => exact Bool.noConfusion h
  | int _ => exact Bool.noConfusion h
  | str _ => exact Bool.noConfusion h
  | tup _ => exact Bool.noConfusion h
def isStr (_ : Store) (x : D) : Bool := match x with
  | .str _ => true
  | _ => false
theorem ty_str : TyM c "str" isStr := by
  intro m S H x vx s r h
  cases x with
  | str z => cases r; rfl
  | ref n => exact Bool.noConfusion h
  | non => exact Bool.noConfusion h
  | bl _ => exact Bool.noConfusion h
  | int _ => exact Bool.noConfusion h
  | tup _ => exact Bool.noConfusion h
theorem repL2 {K : PySem.W.Frag} {m : Nat → Addr} {k : Nat} {H : Hp} {d e : D} {vs : List V} (h : RepL K m k H [d, e] vs) : ∃ v w, vs = [v, w] ∧ Rep K m k H d v ∧ Rep K m k H e w := by
  obtain ⟨v, r, rfl, h1, h2⟩ := RepL.cons_iff.mp h
  obtain ⟨w, rfl, h3⟩ := repL1 h2
  exact ⟨v, w, rfl, h1, h3⟩
def gApp : Store → D → List D → Rs D := fun S x xs => match x, xs with
  | .ref n, [y] => (match addTo n y S with
    | some S' => .ok .non S'
    | none => .stuck)
  | _, _ => .stuck
theorem om_app : OpM c rAppend gApp := by
  intro m S H x xs vx vs Q Z s hx hxs p
  unfold gApp at p
  split at p
  · rename_i n y
    obtain ⟨v, rfl, hy⟩ := repL1 hxs
    rw [rep_ref hx]
    cases e : addTo n y S with
    | none => rw [e] at p; exact p.elim
    | some S' =>
      rw [e] at p
      obtain ⟨acc, h1, h2, h3, h4⟩ := addTo_ok s e hy
      exact ⟨_, acc, v, rfl, rfl, h1, h2, p .non m _ h3 h4 rfl⟩
  · exact p.elim
/-- the list n becomes ys -/
theorem put_lst {m : Nat → Addr} {S : Store} {H : Hp} {n : Nat} {xs ys : List D} {ws : List V} (s : SRel c m S H) (o : S[n]? = some (.lst xs)) (r : RepL c.K m S.length H ys ws) :
    SRel c m (S.set n (.lst ys)) (L2.upd H (m n) (.lst ws)) ∧ Grow m S H m (S.set n (.lst ys)) (L2.upd H (m n) (.lst ws)) := by
  obtain ⟨vs, h1, h2⟩ := s.obj n _ o
  exact s.write (o' := .lst ys) (u := .lst ws) o (fun z => nomatch z) rfl ⟨_, upd_same, RepL.mono (Ext.upd (by rw [h1]; rfl)) _ _ r⟩
def gExt : Store → D → List D → Rs D := fun S x xs => match x, xs with
  | .ref n, [.ref k] => (match S[n]?, S[k]? with
    | some (.lst a), some (.lst b) => if a.length + b.length ≤ 100000 then .ok .non (S.set n (.lst (a ++ b))) else .stuck
    | _, _ => .stuck)
  | _, _ => .stuck
theorem om_ext : OpM c rExtend gExt := by
  intro m S H x xs vx vs Q Z s hx hxs p
  unfold gExt at p
  split at p
  · rename_i n k
    obtain ⟨v, rfl, hy⟩ := repL1 hxs
    rw [rep_ref hx, rep_ref hy]
    split at p
    · rename_i _ _ a b e1 e2
      by_cases hz : a.length + b.length ≤ 100000
      · rw [if_pos hz] at p
        obtain ⟨va, h1, h2⟩ := s.obj n _ e1
        obtain ⟨vb, h3, h4⟩ := s.obj k _ e2
        obtain ⟨s', g'⟩ := put_lst s e1 (RepL.app h2 h4)
        exact ⟨_, _, va, vb, rfl, rfl, h1, h3, by rw [h2.len, h4.len]; exact Nat.le_of_lt (small5 hz), p .non m _ s' g' rfl⟩
      · rw [if_neg hz] at p; exact p.elim
    · exact p.elim
  · exact p.elim
def gIns : Store → D → List D → Rs D := fun S x xs => match x, xs with
  | .ref n, [.int i, y] => (match S[n]? with
    | some (.lst a) => if a.length < 100000 ∧ 0 ≤ i ∧ i < 100000 then .ok .non (S.set n (.lst (a.take i.toNat ++ [y] ++ a.drop i.toNat))) else .stuck
    | _ => .stuck)
  | _, _ => .stuck
def rInsert : V → List V → Hp → VK → Prop := fun x vs H Q => ∃ (l : Addr) (xs : List V) (i : Int) (y : V), x = .ref l ∧ vs = [.int i, y] ∧ H l = some (.lst xs) ∧ xs.length < sizeLine ∧ 0 ≤ i ∧ i < 2 ^ 63 ∧
    Q .non (L2.upd H l (.lst (xs.take i.toNat ++ [y] ++ xs.drop i.toNat)))
theorem om_ins : OpM c rInsert gIns := by
  intro m S H x xs vx vs Q Z s hx hxs p
  unfold gIns at p
  split at p
  · rename_i n i y
    obtain ⟨v, w, rfl, hv, hw⟩ := repL2 hxs
    cases hv
    rw [rep_ref hx]
    split at p
    · rename_i _ a e1
      by_cases hz : a.length < 100000 ∧ 0 ≤ i ∧ i < 100000
      · rw [if_pos hz] at p
        obtain ⟨va, h1, h2⟩ := s.obj n _ e1
        obtain ⟨s', g'⟩ := put_lst s e1 (((h2.take i.toNat).app (RepL.cons hw RepL.nil)).app (h2.drop i.toNat))
        exact ⟨_, va, i, w, rfl, rfl, h1, by rw [h2.len]; exact small5 (Nat.le_of_lt hz.1), hz.2.1, by omega, p .non m _ s' g' rfl⟩
      · rw [if_neg hz] at p; exact p.elim
    · exact p.elim
  · exact p.elim
def gPop0 : Store → D → List D → Rs D := fun S x xs => match x, xs with
  | .ref n, [] => (match S[n]? with
    | some (.lst a) => (match a[a.length - 1]? with
      | some d => .ok d (S.set n (.lst a.dropLast))
      | none => .stuck)
    | _ => .stuck)
  | _, _ => .stuck
theorem RepL.dropLast {K : PySem.W.Frag} {m : Nat → Addr} {k : Nat} {H : Hp} {xs : List D} {vs : List V} (h : RepL K m k H xs vs) : RepL K m k H xs.dropLast vs.dropLast := by
  rw [List.dropLast_eq_take, List.dropLast_eq_take, h.len]
  exact h.take _
theorem om_pop0 : OpM c rPop gPop0 := by
  intro m S H x xs vx vs Q Z s hx hxs p
  unfold gPop0 at p
  split at p
  · rename_i n
    rw [RepL.nil_iff.mp hxs, rep_ref hx]
    split at p
    · rename_i _ a e1
      obtain ⟨va, h1, h2⟩ := s.obj n _ e1
      cases e : a[a.length - 1]? with
      | none => rw [e] at p; exact p.elim
      | some d =>
        rw [e] at p
        obtain ⟨s', g'⟩ := put_lst s e1 h2.dropLast
        obtain ⟨v, e2, e3⟩ := h2.get e
        have hl : (S.set n (.lst a.dropLast)).length = S.length := List.length_set
        exact ⟨_, va, v, rfl, rfl, h1, by rw [h2.len]; exact e2, p v m _ s' g' (by rw [hl]; exact Rep.mono (Ext.upd (by rw [h1]; rfl)) _ _ e3)⟩
    · exact p.elim
  · exact p.elim

/-! ### d.setdefault(k, x) -/
def isDk (S : Store) (x : D) : Bool := match x with
  | .ref n => (match S[n]? with
    | some (.dk _) => true
    | _ => false)
  | _ => false
def isDn (S : Store) (x : D) : Bool := match x with
  | .ref n => (match S[n]? with
    | some (.dn _) => true
    | _ => false)
  | _ => false
/-- what stands there at k, and the store with v put there -/
def dctGet (S : Store) (n : Nat) (k : D) : Option (Option D) := match S[n]? with
  | some (.dk kvs) => (match dkey k with
    | some _ => some (atB D.keq kvs k)
    | none => none)
  | some (.dn kvs) => (match k with
    | .tup ys => if D.pure (.tup ys) = true ∧ D.deep (.tup ys) ≤ 8 then some (atB D.neq kvs (.tup ys)) else none
    | _ => none)
  | _ => none
def dctPut (S : Store) (n : Nat) (k v : D) : Option Store := match S[n]? with
  | some (.dk kvs) => (match dkey k with
    | some _ => if kvs.length < 100000 then some (S.set n (.dk (setB D.keq kvs k v))) else none
    | none => none)
  | some (.dn kvs) => (match k with
    | .tup ys => if (D.pure (.tup ys) = true ∧ D.deep (.tup ys) ≤ 8) ∧ kvs.length < 100000 then some (S.set n (.dn (setB D.neq kvs (.tup ys) v))) else none
    | _ => none)
  | _ => none
def sdK3 (x k : D) (v : D) (S3 : Store) : Rs D := match x with
  | .ref n => (match dctGet S3 n k, dctPut S3 n k v with
    | some (some w), some _ => .ok w S3
    | some none, some S4 => .ok v S4
    | _, _ => .stuck)
  | _ => .stuck
def sdK2 (fv : DE) (e : Env) (x k : D) (S2 : Store) : Rs D := (fv e S2).bind (sdK3 x k)
def sdK (is : Store → D → Bool) (fk fv : DE) (e : Env) (x : D) (S1 : Store) : Rs D := if is S1 x = true then (fk e S1).bind (sdK2 fv e x) else .stuck
def cSetd (is : Store → D → Bool) (f fk fv : DE) : DE := fun e S => (f e S).bind (sdK is fk fv e)
theorem kind_back {m m' : Nat → Addr} {S S' : Store} {H H' : Hp} {n : Nat} {o o' : DO} (g : Grow m S H m' S' H') (e : S[n]? = some o) (e' : S'[n]? = some o') : o'.kind = o.kind := by
  obtain ⟨o2, a, b⟩ := g.kind n o e
  rw [a] at e'; cases e'; exact b
theorem is_dk {S : Store} {x : D} (h : isDk S x = true) : ∃ n kvs, x = .ref n ∧ S[n]? = some (.dk kvs) := by
  cases x with
  | ref n =>
    dsimp only [isDk] at h
    cases o : S[n]? with
    | none => rw [o] at h; exact Bool.noConfusion h
    | some ob =>
      rw [o] at h
      cases ob with
      | dk kvs => exact ⟨n, kvs, rfl, o⟩
      | lst _ => exact Bool.noConfusion h
      | ro _ => exact Bool.noConfusion h
      | dn _ => exact Bool.noConfusion h
      | ins _ _ => exact Bool.noConfusion h
      | fk _ => exact Bool.noConfusion h
  | non => exact Bool.noConfusion h
  | bl _ => exact Bool.noConfusion h
  | int _ => exact Bool.noConfusion h
  | str _ => exact Bool.noConfusion h
  | tup _ => exact Bool.noConfusion h
theorem is_dn {S : Store} {x : D} (h : isDn S x = true) : ∃ n kvs, x = .ref n ∧ S[n]? = some (.dn kvs) := by
  cases x with
  | ref n =>
    dsimp only [isDn] at h
    cases o : S[n]? with
    | none => rw [o] at h; exact Bool.noConfusion h
    | some ob =>
      rw [o] at h
      cases ob with
      | dn kvs => exact ⟨n, kvs, rfl, o⟩
      | lst _ => exact Bool.noConfusion h
      | ro _ => exact Bool.noConfusion h
      | dk _ => exact Bool.noConfusion h
      | ins _ _ => exact Bool.noConfusion h
      | fk _ => exact Bool.noConfusion h
  | non => exact Bool.noConfusion h
  | bl _ => exact Bool.noConfusion h
  | int _ => exact Bool.noConfusion h
  | str _ => exact Bool.noConfusion h
  | tup _ => exact Bool.noConfusion h
theorem setB_len (eq : D → D → Bool) (kvs : List (D × D)) (k v : D) : (setB eq kvs k v).length ≤ kvs.length + 1 := by
  have hm : ∀ l : List (D × D), (setM eq k v l).length = l.length := fun l => by
    induction l with
    | nil => rfl
    | cons p r ih => unfold setM; rw [List.length_cons, List.length_cons, ih]
  unfold setB
  split
  · rw [hm]; exact Nat.le_succ _
  · rw [List.length_append]; exact Nat.le_refl _
/-- a dict with keys of ints and texts is written -/
theorem put_dk {m : Nat → Addr} {S : Store} {H : Hp} {n : Nat} {kvs : List (D × D)} {ws : List (Key × V)} {k v : D} {q : Key} {x : V} (s : SRel c m S H) (o : S[n]? = some (.dk kvs)) (h1 : H (m n) = some (.dK ws)) (h2 : RepKV c.K m S.length H kvs ws) (hk : dkey k = some q) (hx : Rep c.K m S.length H v x) :
    SRel c m (S.set n (.dk (setB D.keq kvs k v))) (L2.upd H (m n) (.dK (putK ws q x))) ∧ Grow m S H m (S.set n (.dk (setB D.keq kvs k v))) (L2.upd H (m n) (.dK (putK ws q x))) :=
  s.write (o' := .dk _) (u := .dK _) o (fun z => nomatch z) rfl ⟨_, upd_same, RepKV.mono (Ext.upd (by rw [h1]; rfl)) (h2.put hk hx)⟩
theorem put_dn {m : Nat → Addr} {S : Store} {H : Hp} {n : Nat} {kvs : List (D × D)} {es : List (NestedKey × Addr × V)} {ys : List D} {v : D} {b : Addr} {x : V} (s : SRel c m S H) (o : S[n]? = some (.dn kvs)) (h0 : (m n == sysModules) = false) (hl : kvs.length < 100000)
    (h2 : RepNV c.K m S.length H kvs es) (hn : ((putE es (D.tup ys).nk b x).map (·.1)).Nodup) (h1 : H (m n) = some (.ext (DN c.P c.w (m n) es))) (hp : D.pure (.tup ys) = true) (hd : D.deep (.tup ys) ≤ 8) (hb : Rep c.K m S.length H (.tup ys) (.ref b)) (hx : Rep c.K m S.length H v x) :
    SRel c m (S.set n (.dn (setB D.neq kvs (.tup ys) v))) (L2.upd H (m n) (.ext (DN c.P c.w (m n) (putE es (D.tup ys).nk b x)))) ∧ Grow m S H m (S.set n (.dn (setB D.neq kvs (.tup ys) v))) (L2.upd H (m n) (.ext (DN c.P c.w (m n) (putE es (D.tup ys).nk b x)))) := by
  refine s.write (o' := .dn _) (u := .ext _) o (fun z => nomatch z) rfl ⟨h0, ?_, _, RepNV.mono (Ext.upd (by rw [h1]; rfl)) (h2.put ⟨_, rfl⟩ hp hd hb hx), hn, upd_same⟩
  have := setB_len D.neq kvs (.tup ys) v
  exact Nat.le_of_lt (small5 (by omega))
variable {fe ff : Expr} {fk fv : DE}
theorem d_setdK (ho : PE X o (tD c W f)) (he : PE X fe (tD c W fk)) (hf : PE X ff (tD c W fv)) (mm : M2 X o "setdefault" apos fe ff cpos) : PE X (.Call (.Attribute o "setdefault" apos) [fe, ff] [] cpos) (tD c W (cSetd isDk f fk fv)) := by
  refine PE.mono (pe_dsetd ho he hf mm) fun σ H Q ⟨m, S, ev, A, p⟩ => ?_
  refine bind_at A p fun m1 S1 x v H1 A1 g1 q1 p1 => ?_
  unfold sdK at p1
  by_cases hz : isDk S1 x = true
  · rw [if_pos hz] at p1
    obtain ⟨n, kvs, rfl, o1⟩ := is_dk hz
    obtain ⟨ws, h1, _⟩ := A1.s.obj n _ o1
    refine ⟨_, rep_ref q1, .inl ⟨ws, .inl h1⟩, bind_at A1 p1 fun m2 S2 k vk H2 A2 g2 q2 p2 => ?_⟩
    unfold sdK2 at p2
    refine bind_at A2 p2 fun m3 S3 w vw H3 A3 g3 q3 p3 => ?_
    have q2 := Rep.mono (g3.ext A2.s) _ _ q2
    dsimp only [sdK3] at p3
    obtain ⟨o3, e3, ek⟩ := (g2.trans g3).kind n _ o1
    cases o3 with
    | dk kvs3 =>
      have em : m3 n = m1 n := (g2.trans g3).eq n (lt_of_get o1)
      rw [← em]
      obtain ⟨ws3, b1, b2⟩ := A3.s.obj n _ e3
      unfold dctGet dctPut at p3
      rw [e3] at p3
      dsimp only at p3
      cases ek : dkey k with
      | none => rw [ek] at p3; exact p3.elim
      | some q =>
        rw [ek] at p3
        dsimp only at p3
        by_cases hl : kvs3.length < 100000
        · rw [if_pos hl] at p3
          have g := b2.get ek
          refine ⟨ws3, q, b1, dkey_rep ek q2, by rw [b2.len]; exact small5 (Nat.le_of_lt hl), fun v hv => ?_, fun hn => ?_⟩
          · cases z : atB D.keq kvs3 k with
            | none => rw [z] at g; rw [g] at hv; cases hv
            | some d =>
              rw [z] at g p3
              obtain ⟨v2, g1, g2⟩ := g
              rw [g1] at hv; cases hv
              exact p3.here A3.s g2
          · cases z : atB D.keq kvs3 k with
            | some d => rw [z] at g; obtain ⟨v2, g1, g2⟩ := g; rw [g1] at hn; cases hn
            | none =>
              rw [z] at p3
              obtain ⟨s', g'⟩ := put_dk A3.s e3 b1 b2 ek q3
              have hln : (S3.set n (.dk (setB D.keq kvs3 k w))).length = S3.length := List.length_set
              exact p3 vw m3 _ s' g' (by show Rep _ _ _ _ _ _; rw [hln]; exact Rep.mono (Ext.upd (by rw [b1]; rfl)) _ _ q3)
        · rw [if_neg hl] at p3
          cases z : atB D.keq kvs3 k with
          | none => rw [z] at p3; exact p3.elim
          | some d => rw [z] at p3; exact p3.elim
    | lst _ => cases ek
    | ro _ => cases ek
    | dn _ => cases ek
    | ins _ _ => cases ek
    | fk _ => cases ek
  · rw [if_neg hz] at p1; exact p1.elim
end
end Dl

set_option Elab.async false
set_option linter.all false
set_option maxRecDepth 100000
set_option maxHeartbeats 4000000
namespace Dl
open PySem PySem.Spec L2

/-! ### dicts with tuple keys: setdefault -/
/-- what a reading says of such a dict at a, before and behind a store -/
def SdN (P : Program) (w : World) (K : PySem.W.Frag) (a : Addr) (y z : V) (H : Hp) (Q : VK) : Prop := ∃ b es kvs m k d, y = .ref b ∧ (a == sysModules) = false ∧ kvs.length < 100000 ∧ RepNV K m k H kvs es ∧ (es.map (·.1)).Nodup ∧ H a = some (.ext (DN P w a es)) ∧ d.pure = true ∧ d.deep ≤ 8 ∧ Rep K m k H d (.ref b) ∧
  (∀ e v, atB D.neq kvs d = some e → Rep K m k H e v → Q v H) ∧ (atB D.neq kvs d = none → ((putE es d.nk b z).map (·.1)).Nodup → Q z (L2.upd H a (.ext (DN P w a (putE es d.nk b z)))))
def tSetdN (P : Program) (w : World) (K : PySem.W.Frag) (td ty tx : TE) : TE := fun σ H Q => td σ H fun x H1 => ∃ a, x = .ref a ∧ (∃ es, H1 a = some (.ext (DN P w a es))) ∧ ty σ H1 fun y H2 => tx σ H2 fun z H3 => SdN P w K a y z H3 Q
theorem dn_type {X : Cx} {pins : List (Addr × Obj)} {σ : L2.St} {H : Hp} {s : Shared} {a : Addr} {es : List (NestedKey × Addr × V)} (I : Inv X pins σ H s) (h : H a = some (.ext (DN X.prog X.w a es))) :
    s.TypeIs (.ref a) "dict" ∧ ∀ b, Value.ref a = .ref b → ∃ ob, s.heap.get? b = some ob ∧ ob.dict = none := by
  obtain ⟨⟨us, r, o, fs, ep, e1, e2, e3, e4⟩, _⟩ := I.hok a _ h
  exact ⟨⟨o, e1, e2.1⟩, fun b q => by cases q; exact ⟨o, e1, e2.2.1⟩⟩
section
variable {X : Cx} {c : Ct} {W : WX} {o e f : Expr} {td ty tx : TE} {apos cpos : Pos}
theorem pe_setdN (hu : X.A.units + 64 < cLine) (ho : PE X o td) (he : PE X e ty) (hf : PE X f tx) (m : M2 X o "setdefault" apos e f cpos) : PE X (.Call (.Attribute o "setdefault" apos) [e, f] [] cpos) (tSetdN X.prog X.w X.K td ty tx) := by
  refine ⟨fun pins s σ H Q I h => ?_⟩
  refine wpAny_Call_method m.base m.few m.line PySem.F.plainAttrs_dict PySem.F.slot_dict_setdefault PySem.F.type_dict_setdefault (thn (ho.run pins s σ H _ I h) fun u s1 ⟨x, H1, I1, rx, a, ex, ⟨es0, d⟩, q1⟩ => ?_)
  subst ex
  obtain rfl : u = Value.ref a := rx
  obtain ⟨t1, t2⟩ := dn_type I1 d
  refine ⟨t1, t2, ?_⟩
  rw [m.trees]
  refine Calls.callWith_builtin rfl (Calls.evalArgs_plain (Calls.spliced_cons (thn (he.run pins s1 σ H1 _ I1 q1) fun iv s2 ⟨y, H2, I2, ry, q2⟩ =>
    Calls.spliced_cons (thn (hf.run pins s2 σ H2 _ I2 q2) fun fv s3 ⟨z, H3, I3, rz, q3⟩ => Calls.spliced_nil ?_))))
  obtain ⟨b, es, kvs, m', k, d, rfl, h0, hl, h1, h2, h3, h4, h5, h6, qa, qb⟩ := q3
  cases ry
  obtain ⟨us, r, hm⟩ := dn_open I3 h1 h2 h3
  have hlen : us.length = kvs.length := (Paired.length r).symm.trans h1.len
  have g := h1.get (d := d)
  have fd := pr_find r d.nk
  refine call_setdefault_heap (knd := nestedKind X.prog X.w) (hsz := by rw [hlen]; exact Nat.le_of_lt (small5 (Nat.le_of_lt hl))) (by show X.A.units + 1 + 8 < cLine; omega) (rep_key I3 h4 h5 h6) h0 hm (fun p hp => ?_) fun hn h' hm' hs => ?_
  · cases zz : atB D.neq kvs d with
    | none => rw [zz] at g; rw [g] at fd; rw [fd] at hp; cases hp
    | some e =>
      rw [zz] at g
      obtain ⟨y, g1, g2⟩ := g
      rw [g1] at fd
      obtain ⟨p', f1, f2⟩ := fd
      rw [f1] at hp; cases hp
      exact ⟨_, H3, I3.tok _, f2, qa e _ zz g2⟩
  · have hnone : atB D.neq kvs d = none := by
      cases zz : atB D.neq kvs d with
      | none => rfl
      | some e =>
        rw [zz] at g
        obtain ⟨y, g1, g2⟩ := g
        rw [g1] at fd
        obtain ⟨p', f1, _⟩ := fd
        rw [f1] at hn; cases hn
    have rp := pr_put r d.nk b rz
    have nd : ((putE es d.nk b z).map (·.1)).Nodup := by
      rw [pr_keys rp]
      obtain ⟨_, _, _, _, _, _, _, _, nd⟩ := hm'
      exact nd
    have he : ∃ q, h'.get? a = some q := by obtain ⟨q, _, _, hq, _⟩ := hm'; exact ⟨q, hq⟩
    exact ⟨z, _, d_write (t' := s3.toks + (nestedKind X.prog X.w).draws d.nk) I3 (by rw [h3]; trivial) hs he (dn_new rp hm'), rz, qb hnone nd⟩
variable {g fk fv : DE}
theorem d_setdN (hu : X.A.units + 64 < cLine) (ho : PE X o (tD c W g)) (he : PE X e (tD c W fk)) (hf : PE X f (tD c W fv)) (mm : M2 X o "setdefault" apos e f cpos) (hK : X.K = c.K := by rfl) (hP : X.prog = c.P := by rfl) (hw : X.w = c.w := by rfl) :
    PE X (.Call (.Attribute o "setdefault" apos) [e, f] [] cpos) (tD c W (cSetd isDn g fk fv)) := by
  refine PE.mono (pe_setdN hu ho he hf mm) fun σ H Q ⟨m, S, ev, A, p⟩ => ?_
  refine bind_at A p fun m1 S1 x v H1 A1 g1 q1 p1 => ?_
  unfold sdK at p1
  by_cases hz : isDn S1 x = true
  · rw [if_pos hz] at p1
    obtain ⟨n, kvs, rfl, o1⟩ := is_dn hz
    obtain ⟨h0, _, es, _, _, h1⟩ := A1.s.obj n _ o1
    refine ⟨_, rep_ref q1, ⟨es, by rw [hP, hw]; exact h1⟩, bind_at A1 p1 fun m2 S2 k vk H2 A2 g2 q2 p2 => ?_⟩
    unfold sdK2 at p2
    refine bind_at A2 p2 fun m3 S3 w vw H3 A3 g3 q3 p3 => ?_
    have q2 := Rep.mono (g3.ext A2.s) _ _ q2
    dsimp only [sdK3] at p3
    obtain ⟨o3, e3, ek⟩ := (g2.trans g3).kind n _ o1
    cases o3 with
    | dn kvs3 =>
      have em : m3 n = m1 n := (g2.trans g3).eq n (lt_of_get o1)
      rw [← em]
      obtain ⟨b0, _, es3, b1, b2, b3⟩ := A3.s.obj n _ e3
      unfold dctGet dctPut at p3
      rw [e3] at p3
      dsimp only at p3
      cases k with
      | tup ys =>
        dsimp only at p3
        by_cases hp : D.pure (.tup ys) = true ∧ D.deep (.tup ys) ≤ 8
        · rw [if_pos hp] at p3
          by_cases hl : kvs3.length < 100000
          · rw [if_pos ⟨hp, hl⟩] at p3
            have q20 := q2
            obtain ⟨b, vs, rfl, _, _⟩ := rep_tup q2
            refine ⟨b, es3, kvs3, m3, S3.length, .tup ys, rfl, b0, hl, by rw [hK]; exact b1, b2, by rw [hP, hw]; exact b3, hp.1, hp.2, by rw [hK]; exact q20, fun e v hv hr => ?_, fun hn hnd => ?_⟩
            · rw [hv] at p3
              rw [hK] at hr
              exact p3.here A3.s hr
            · rw [hn] at p3
              obtain ⟨s', g'⟩ := put_dn A3.s e3 b0 hl b1 hnd b3 hp.1 hp.2 q20 q3
              have hln : (S3.set n (.dn (setB D.neq kvs3 (.tup ys) w))).length = S3.length := List.length_set
              rw [hP, hw]
              exact p3 vw m3 _ s' g' (by show Rep _ _ _ _ _ _; rw [hln]; exact Rep.mono (Ext.upd (by rw [b3]; rfl)) _ _ q3)
          · rw [if_neg fun z => hl z.2] at p3
            cases z : atB D.neq kvs3 (.tup ys) with
            | none => rw [z] at p3; exact p3.elim
            | some d => rw [z] at p3; exact p3.elim
        · rw [if_neg hp] at p3; exact p3.elim
      | non => exact p3.elim
      | bl _ => exact p3.elim
      | int _ => exact p3.elim
      | str _ => exact p3.elim
      | ref _ => exact p3.elim
    | lst _ => cases ek
    | ro _ => cases ek
    | dk _ => cases ek
    | ins _ _ => cases ek
    | fk _ => cases ek
  · rw [if_neg hz] at p1; exact p1.elim

/-! ### o[i] = v -/
def gSet (S : Store) (x i v : D) : Option Store := match x with
  | .ref n => (match S[n]? with
    | some (.lst xs) => (match i with
      | .int k => (match ixN xs.length k with
        | some j => some (S.set n (.lst (xs.set j v)))
        | none => none)
      | _ => none)
    | _ => dctPut S n i v)
  | _ => none
abbrev R3 := V → V → V → Hp → (Hp → Prop) → Prop
def rSetK : R3 := fun x i v H Q => ∃ a H', x = .ref a ∧ DPut H a i v H' ∧ Q H'
def rSetN (P : Program) (w : World) (K : PySem.W.Frag) : R3 := fun x y z H Q => ∃ a b es kvs m k d, x = .ref a ∧ y = .ref b ∧ kvs.length < 100000 ∧ RepNV K m k H kvs es ∧ (es.map (·.1)).Nodup ∧ H a = some (.ext (DN P w a es)) ∧ d.pure = true ∧ d.deep ≤ 8 ∧ Rep K m k H d (.ref b) ∧
  (((putE es d.nk b z).map (·.1)).Nodup → Q (L2.upd H a (.ext (DN P w a (putE es d.nk b z)))))
def rSetAll (P : Program) (w : World) (K : PySem.W.Frag) : R3 := fun x i v H Q => rSetL x i v H Q ∨ rSetK x i v H Q ∨ rSetN P w K x i v H Q
theorem PSet.or {r r' : R3} (h : PSet X r) (h' : PSet X r') : PSet X fun x i v H Q => r x i v H Q ∨ r' x i v H Q := fun pins s σ H o i v ov iv u Q I ro ri rv q =>
  q.elim (h pins s σ H o i v ov iv u Q I ro ri rv) (h' pins s σ H o i v ov iv u Q I ro ri rv)
theorem set_dk (hu : X.A.units + 64 < cLine) : PSet X rSetK := by
  intro pins s σ H o i v ov iv u Q I ro ri rv h
  obtain ⟨a, H', rfl, g, q⟩ := h
  cases ro
  exact d_setItem (by omega) I g ri rv fun s' I' => ⟨H', I', q⟩
theorem set_dn (hu : X.A.units + 64 < cLine) : PSet X (rSetN X.prog X.w X.K) := by
  intro pins s σ H o i v ov iv u Q I ro ri rv h
  obtain ⟨a, b, es, kvs, m, k, d, rfl, rfl, hl, h1, h2, h3, h4, h5, h6, q⟩ := h
  cases ro
  cases ri
  obtain ⟨us, r, hm⟩ := dn_open I h1 h2 h3
  have hlen : us.length = kvs.length := (Paired.length r).symm.trans h1.len
  refine wpAny_setItem_heap (knd := nestedKind X.prog X.w) (hsz := by rw [hlen]; exact Nat.le_of_lt (small5 (Nat.le_of_lt hl))) (by show X.A.units + 1 + 8 < cLine; omega) (rep_key I h4 h5 h6) hm fun h' hm' hs => ?_
  have rp := pr_put r d.nk b rv
  have nd : ((putE es d.nk b v).map (·.1)).Nodup := by
    rw [pr_keys rp]
    obtain ⟨_, _, _, _, _, _, _, _, nd⟩ := hm'
    exact nd
  have he : ∃ q, h'.get? a = some q := by obtain ⟨q, _, _, hq, _⟩ := hm'; exact ⟨q, hq⟩
  exact ⟨_, d_write (t' := s.toks + (nestedKind X.prog X.w).draws d.nk) I (by rw [h3]; trivial) hs he (dn_new rp hm'), q nd⟩
theorem set_all (hu : X.A.units + 64 < cLine) : PSet X (rSetAll X.prog X.w X.K) := PSet.or set_list (PSet.or (set_dk hu) (set_dn hu))
theorem set_ok {m : Nat → Addr} {S S' : Store} {H : Hp} {x i v : D} {vx vi vv : V} {Q : Hp → Prop} (s : SRel c m S H) (hx : Rep c.K m S.length H x vx) (hi : Rep c.K m S.length H i vi) (hv : Rep c.K m S.length H v vv) (h : gSet S x i v = some S')
    (q : ∀ H', SRel c m S' H' → Grow m S H m S' H' → Q H') : rSetAll c.P c.w c.K vx vi vv H Q := by
  cases x with
  | ref n =>
    rw [rep_ref hx]
    dsimp only [gSet] at h
    cases o : S[n]? with
    | none => rw [o] at h; unfold dctPut at h; rw [o] at h; cases h
    | some ob =>
      rw [o] at h
      cases ob with
      | lst xs =>
        cases i with
        | int k =>
          dsimp only at h
          cases hi
          cases e : ixN xs.length k with
          | none => rw [e] at h; cases h
          | some j =>
            rw [e] at h
            cases h
            obtain ⟨vs, h1, h2⟩ := s.obj n _ o
            obtain ⟨s', g'⟩ := put_lst s o (h2.set j hv)
            exact .inl ⟨_, vs, k, j, rfl, rfl, h1, by rw [h2.len]; exact e, q _ s' g'⟩
        | non => cases h
        | bl _ => cases h
        | str _ => cases h
        | tup _ => cases h
        | ref _ => cases h
      | dk kvs =>
        unfold dctPut at h
        rw [o] at h
        dsimp only at h
        cases e : dkey i with
        | none => rw [e] at h; cases h
        | some k =>
          rw [e] at h
          dsimp only at h
          by_cases hl : kvs.length < 100000
          · rw [if_pos hl] at h
            cases h
            obtain ⟨ws, b1, b2⟩ := s.obj n _ o
            obtain ⟨s', g'⟩ := put_dk s o b1 b2 e hv
            rw [dkey_rep e hi]
            exact .inr (.inl ⟨_, _, rfl, DPut.k b1 (by rw [b2.len]; exact small5 (Nat.le_of_lt hl)), q _ s' g'⟩)
          · rw [if_neg hl] at h; cases h
      | dn kvs =>
        unfold dctPut at h
        rw [o] at h
        dsimp only at h
        cases i with
        | tup ys =>
          dsimp only at h
          by_cases hp : (D.pure (.tup ys) = true ∧ D.deep (.tup ys) ≤ 8) ∧ kvs.length < 100000
          · rw [if_pos hp] at h
            cases h
            obtain ⟨b0, _, es, b1, b2, b3⟩ := s.obj n _ o
            have hi0 := hi
            obtain ⟨b, vs, rfl, _, _⟩ := rep_tup hi
            refine .inr (.inr ⟨_, b, es, kvs, m, S.length, .tup ys, rfl, rfl, hp.2, b1, b2, b3, hp.1.1, hp.1.2, hi0, fun hnd => ?_⟩)
            obtain ⟨s', g'⟩ := put_dn s o b0 hp.2 b1 hnd b3 hp.1.1 hp.1.2 hi0 hv
            exact q _ s' g'
          · rw [if_neg hp] at h; cases h
        | non => cases h
        | bl _ => cases h
        | int _ => cases h
        | str _ => cases h
        | ref _ => cases h
      | ro _ => unfold dctPut at h; rw [o] at h; cases h
      | ins _ _ => unfold dctPut at h; rw [o] at h; cases h
      | fk _ => unfold dctPut at h; rw [o] at h; cases h
  | non => cases h
  | bl _ => cases h
  | int _ => cases h
  | str _ => cases h
  | tup _ => cases h
def gsK3 (d x i : D) (e : Env) (S2 : Store) : Rs Env := match gSet S2 x i d with
  | some S3 => .ok e S3
  | none => .stuck
def gsK2 (fi : DE) (d : D) (e : Env) (x : D) (S1 : Store) : Rs Env := (fi e S1).bind fun i S2 => gsK3 d x i e S2
def gSub2 (fo fi : DE) : DG := fun d e S => (fo e S).bind (gsK2 fi d e)
theorem g_sub {i : Expr} {fo fi : DE} {us : List Nat} {pos : Pos} (hu : X.A.units + 64 < cLine) (ho : PE X o (tD c W fo)) (hi : PE X i (tD c W fi))
    (ha : ∀ v, assign (.Subscript o i pos) X.env v = (do
      let ov ← holding [v] (eval o X.env)
      let iv ← holding [v, ov] (eval i X.env)
      standAt pos
      holding [v, ov, iv] (setItem ov iv v)
      release [v, ov, iv] []) := by intro _; rfl) (hK : X.K = c.K := by rfl) (hP : X.prog = c.P := by rfl) (hw : X.w = c.w := by rfl) : PG X (.Subscript o i pos) (tGt c us (gSub2 fo fi)) := by
  refine PG.mono (pg_sub ho hi (set_all hu) ha) fun v σ H Q ⟨m, S, e, d, A, q, p⟩ => ?_
  refine ⟨m, S, e, A, ?_⟩
  refine (PostG.bind (rel := relD c) (k := gsK2 fi d e) p).imp (fun x H1 ⟨m1, S1, dx, s1, g1, q1, p1⟩ => ?_) fun _ _ z => z.elim
  have A1 := A.grow g1 s1
  refine ⟨m1, S1, e, A1, ?_⟩
  unfold gsK2 at p1
  refine (PostG.bind (rel := relD c) (k := fun i S2 => gsK3 d dx i e S2) p1).imp (fun y H2 ⟨m2, S2, di, s2, g2, q2, p2⟩ => ?_) fun _ _ z => z.elim
  have A2 := A1.grow g2 s2
  unfold gsK3 at p2
  cases ee : gSet S2 dx di d with
  | none => rw [ee] at p2; exact p2.elim
  | some S3 =>
    rw [ee] at p2
    rw [hP, hw, hK]
    refine set_ok s2 (Rep.mono (g2.ext s1) _ _ q1) q2 (Rep.mono ((g1.trans g2).ext A.s) _ _ q) ee fun H' s' g' => ?_
    exact p2 σ m2 H' s' g' (A2.e.grow g' s2) rfl

/-! ### o[i] += v, of a list -/
def rGetL (K : PySem.W.Frag) : V → V → Hp → VK → Prop := fun x y H Q => ∃ p xs i v, x = .ref p ∧ y = .int i ∧ SqL K H p xs ∧ 0 ≤ i ∧ atI xs i = some v ∧ Q v H
theorem get_list : PGet X (rGetL X.K) := by
  intro pins s σ H o i ov iv Q I ro ri h
  obtain ⟨p, xs, i, z, rfl, rfl, hq, h0, he, q⟩ := h
  cases ro
  obtain ⟨t, rfl⟩ := ri
  obtain ⟨its, r, pl, hz⟩ := I.list hq
  obtain ⟨j, h1, h2, h3, h4, h5⟩ := atI_get he
  obtain ⟨w, ew, rw'⟩ := r.get h2
  have hl := r.length
  have hn := line63
  have hj : i.toNat = j := by
    rw [seqIndex_of h0 h5] at h1
    exact Option.some.inj h1
  exact wpAny_getItem_list pl.isList h0 (by omega) (by rw [hj]; simpa using ew) ⟨z, H, I, rw', q⟩
def getL (S : Store) (x i : D) : Option D := match x, i with
  | .ref n, .int k => (match S[n]? with
    | some (.lst xs) => if 0 ≤ k then atI xs k else none
    | _ => none)
  | _, _ => none
def sAugS (fo fi fv : DE) (gg : Store → D → D → Rs D) : DS := fun e S => (fo e S).to e fun x S1 => (fi e S1).to e fun i S2 => match getL S2 x i with
  | some old => (fv e S2).to e fun y S3 => (gg S3 old y).to e fun z S4 => (match gSet S4 x i z with
    | some S5 => .nx e S5
    | none => .stuck)
  | none => .stuck
theorem getL_ok {m : Nat → Addr} {S : Store} {H : Hp} {x i d : D} {vx vi : V} {Q : VK} (s : SRel c m S H) (hx : Rep c.K m S.length H x vx) (hi : Rep c.K m S.length H i vi) (h : getL S x i = some d) (q : ∀ v, Rep c.K m S.length H d v → Q v H) : rGetL c.K vx vi H Q := by
  unfold getL at h
  split at h
  · rename_i n k
    split at h
    · rename_i _ xs o
      by_cases h0 : 0 ≤ k
      · rw [if_pos h0] at h
        obtain ⟨vs, h1, h2⟩ := s.list (.inl o)
        obtain ⟨v, e1, e2⟩ := rep_at h2 h
        cases hi
        rw [rep_ref hx]
        exact ⟨_, vs, k, v, rfl, rfl, h1, h0, e1, q v e2⟩
      · rw [if_neg h0] at h; cases h
    · cases h
  · cases h
theorem s_augS {i ev : Expr} {fo fi fv : DE} {gg : Store → D → D → Rs D} {r : R2} {op : Operator} {tpos pos : Pos} (hu : X.A.units + 64 < cLine) (ho : PE X o (tD c W fo)) (hi : PE X i (tD c W fi)) (hv : PE X ev (tD c W fv)) (hop : PIp X op r) (hd : OpD c r gg)
    (ha : ∀ ov iv new, augStore i ov iv new = (do holding [new, ov, iv] (setItem ov iv new); release [new, ov, iv] []; pure .next) := by intros; rfl) (hK : X.K = c.K := by rfl) (hP : X.prog = c.P := by rfl) (hw : X.w = c.w := by rfl) :
    PS X (.AugAssign (.Subscript o i tpos) op ev pos) (tS c W (sAugS fo fi fv gg)) := by
  refine PS.mono (ps_augS ho hi get_list hv hop (set_all hu) ha) fun σ H B ⟨m, S, e, A, p⟩ => ?_
  refine to_at A p fun m1 S1 x vx H1 A1 g1 q1 p1 => ?_
  refine to_at A1 p1 fun m2 S2 i vi H2 A2 g2 q2 p2 => ?_
  cases eg : getL S2 x i with
  | none => rw [eg] at p2; exact p2.elim
  | some old =>
    rw [eg] at p2
    rw [hK]
    refine getL_ok A2.s (Rep.mono (g2.ext A1.s) _ _ q1) q2 eg fun vo ro => ?_
    refine to_at A2 p2 fun m3 S3 y vy H3 A3 g3 q3 p3 => ?_
    refine hd m3 S3 H3 old y vo vy _ (Pz c W σ) A3.s (Rep.mono (g3.ext A2.s) _ _ ro) q3 (to_post A3 p3 fun m4 S4 z vz H4 s4 g4 q4 p4 => ?_)
    cases es : gSet S4 x i z with
    | none => rw [es] at p4; exact p4.elim
    | some S5 =>
      rw [es] at p4
      rw [hP, hw]
      refine set_ok s4 (Rep.mono (((g2.trans g3).trans g4).ext A1.s) _ _ q1) (Rep.mono ((g3.trans g4).ext A2.s) _ _ q2) q4 es fun H' s' g' => ?_
      exact p4 σ m4 H' ((A3.grow g4 s4).grow g' s') g'
/-- += of ints -/
def gAddI : Store → D → D → Rs D := fun S x y => match x, y with
  | .int i, .int j => .ok (.int (i + j)) S
  | _, _ => .stuck
def gSubI : Store → D → D → Rs D := fun S x y => match x, y with
  | .int i, .int j => .ok (.int (i - j)) S
  | _, _ => .stuck
theorem od_addI : OpD c (ipI fun i j => i + j) gAddI := by
  intro m S H x y vx vy Q Z s hx hy p
  unfold gAddI at p
  split at p
  · cases hx; cases hy; exact ⟨_, _, rfl, rfl, p.here s rfl⟩
  · exact p.elim
theorem od_subI : OpD c (ipI fun i j => i - j) gSubI := by
  intro m S H x y vx vy Q Z s hx hy p
  unfold gSubI at p
  split at p
  · cases hx; cases hy; exact ⟨_, _, rfl, rfl, p.here s rfl⟩
  · exact p.elim
end

/-! ### {} and {k: v} -/
def cNewK : DE := fun _ S => .ok (.ref S.length) (S ++ [.dk []])
def cNewN : DE := fun _ S => .ok (.ref S.length) (S ++ [.dn []])
def tNewN (P : Program) (w : World) : TE := fun _ H Q => ∀ p, H p = none → (p == sysModules) = false → Q (.ref p) (L2.upd H p (.ext (DN P w p [])))
theorem dn_empty {P : Program} {w : World} {H : Hp} (h : Heap) (hb : sysModules < h.objs.size) : ObjOk P w H (h.push { cls := .type "dict", data := .dict #[] }) h.objs.size (.ext (DN P w h.objs.size [])) :=
  dn_new (us := []) .nil (Heap.DictOfH.new h)
section
variable {X : Cx} {c : Ct} {W : WX} {pos : Pos}
theorem pe_newN : PE X (.Dict [] [] pos) (tNewN X.prog X.w) := ⟨fun pins s σ H Q I h =>
  wpAny_Dict_empty ⟨.ref s.heap.objs.size, _, I.laid (a := s.heap.objs.size) (o := .ext (DN X.prog X.w s.heap.objs.size [])) (t' := s.toks) (fun _ _ q => Heap.get?_push_of_some _ q) (Nat.le_refl _) (dn_empty s.heap I.big), rfl,
    h _ (I.hok.fresh (Nat.le_refl _)) (beq_eq_false_iff_ne.mpr (Ne.symm (Nat.ne_of_lt I.big)))⟩⟩
theorem d_newK : PE X (.Dict [] [] pos) (tD c W cNewK) := by
  refine PE.mono pe_dnewK fun σ H Q ⟨m, S, e, A, p⟩ t ht => ?_
  obtain ⟨r', g'⟩ := A.s.push (o := .dk []) (u := .dK []) ht (fun z => nomatch z) ⟨[], upd_same, RepKV.nil_iff.mpr rfl⟩
  refine p (.ref t) _ _ r' g' ?_
  show Rep c.K _ _ _ (.ref S.length) (.ref t)
  unfold Rep
  exact ⟨by simp, by rw [if_pos rfl]⟩
theorem push_dn {m : Nat → Addr} {S : Store} {H : Hp} {t : Addr} (r : SRel c m S H) (ht : H t = none) (h0 : (t == sysModules) = false) :
    SRel c (fun i => if i = S.length then t else m i) (S ++ [.dn []]) (L2.upd H t (.ext (DN c.P c.w t []))) ∧ Grow m S H (fun i => if i = S.length then t else m i) (S ++ [.dn []]) (L2.upd H t (.ext (DN c.P c.w t []))) :=
  r.push (o := .dn []) (u := .ext (DN c.P c.w t [])) ht (fun z => nomatch z) ⟨h0, Nat.zero_le _, [], RepNV.nil_iff.mpr rfl, List.nodup_nil, upd_same⟩
theorem d_newN (hP : X.prog = c.P := by rfl) (hw : X.w = c.w := by rfl) : PE X (.Dict [] [] pos) (tD c W cNewN) := by
  refine PE.mono pe_newN fun σ H Q ⟨m, S, e, A, p⟩ t ht h0 => ?_
  rw [hP, hw]
  obtain ⟨r', g'⟩ := push_dn A.s ht h0
  refine p (.ref t) _ _ r' g' ?_
  show Rep c.K _ _ _ (.ref S.length) (.ref t)
  unfold Rep
  exact ⟨by simp, by rw [if_pos rfl]⟩
/-- {k: v}, k a tuple -/
def dspK3 (L : Nat) (k v : D) (S2 : Store) : Rs D := match S2[L]?, k with
  | some (.dn []), .tup ys => if D.pure (.tup ys) = true ∧ D.deep (.tup ys) ≤ 8 then .ok (.ref L) (S2.set L (.dn [(.tup ys, v)])) else .stuck
  | _, _ => .stuck
def dspK2 (fv : DE) (e : Env) (L : Nat) (k : D) (S1 : Store) : Rs D := (fv e S1).bind (dspK3 L k)
def cDsp (fk fv : DE) : DE := fun e S => (fk e (S ++ [.dn []])).bind (dspK2 fv e S.length)
def tDsp (P : Program) (w : World) (K : PySem.W.Frag) (tk tv : TE) : TE := fun σ H Q => ∀ p, H p = none → (p == sysModules) = false → tk σ (L2.upd H p (.ext (DN P w p []))) fun y H1 => tv σ H1 fun z H2 => ∃ b m k d, y = .ref b ∧ H2 p = some (.ext (DN P w p [])) ∧ d.pure = true ∧ d.deep ≤ 8 ∧ Rep K m k H2 d (.ref b) ∧
  Q (.ref p) (L2.upd H2 p (.ext (DN P w p [(d.nk, b, z)])))
theorem pe_dsp {k v : Expr} {tk tv : TE} (hu : X.A.units + 64 < cLine) (hk : PE X k tk) (hv : PE X v tv) (hsh : (evalEachOpt [some k] X.env).zip ((evalEach [v] X.env).map fun v => do let x ← v; standAt pos; pure x) = (pairTrees [some k] [v] X.env pos).map fun p => (some p.1, p.2) := by rfl) :
    PE X (.Dict [some k] [v] pos) (tDsp X.prog X.w X.K tk tv) := by
  refine ⟨fun pins s σ H Q I h => ?_⟩
  have hn := I.hok.fresh (Nat.le_refl s.heap.objs.size)
  have I1 := I.laid (a := s.heap.objs.size) (o := .ext (DN X.prog X.w s.heap.objs.size [])) (t' := s.toks) (fun _ _ q => Heap.get?_push_of_some _ q) (Nat.le_refl _) (dn_empty s.heap I.big)
  rw [arm_eval_Dict, hsh, dictDisplay_pairs (pairTrees [some k] [v] X.env pos) (by intro z; cases z) (by show 1 < 17; omega)]
  refine wpAny_bind (wpAny_standAt (wpAny_bind (wpAny_subDictH (knd := nestedKind X.prog X.w) (by show X.A.units + 8 < cLine; omega) (by show 1 ≤ 15; omega) ?_)))
  refine pairTrees_cons_walk (thn (hk.run pins _ σ _ _ I1 (h _ hn (beq_eq_false_iff_ne.mpr (Ne.symm (Nat.ne_of_lt I.big))))) fun u s1 ⟨y, H1, I1, ry, q1⟩ => thn (hv.run pins s1 σ H1 _ I1 q1) fun u2 s2 ⟨z, H2, I2, rz, b, m, kk, d, ey, hp, h4, h5, h6, q⟩ => pairTrees_nil_walk ?_)
  subst ey
  cases ry
  obtain ⟨us, r, hm⟩ := dn_open (kvs := []) (m := m) (k := kk) I2 (RepNV.nil_iff.mpr rfl) List.nodup_nil hp
  cases r
  refine ⟨[(d.nk, b, u2)], ⟨rfl, rfl, rep_key I2 h4 h5 h6, trivial⟩, hm, fun h' tk hd' hs => wpAny_pure ?_⟩
  have hd2 : h'.DictOfH (nestedKind X.prog X.w) s.heap.objs.size [(d.nk, b, u2)] := hd'
  have he : ∃ q, h'.get? s.heap.objs.size = some q := by obtain ⟨q, _, _, hq, _⟩ := hd2; exact ⟨q, hq⟩
  exact ⟨.ref s.heap.objs.size, _, d_write (t' := tk) I2 (by rw [hp]; trivial) hs he (dn_new (es := [(d.nk, b, z)]) (.cons ⟨rfl, rfl, rz⟩ .nil) hd2), rfl, q⟩
theorem d_dsp {k v : Expr} {fk fv : DE} (hu : X.A.units + 64 < cLine) (hk : PE X k (tD c W fk)) (hv : PE X v (tD c W fv)) (hsh : (evalEachOpt [some k] X.env).zip ((evalEach [v] X.env).map fun v => do let x ← v; standAt pos; pure x) = (pairTrees [some k] [v] X.env pos).map fun p => (some p.1, p.2) := by rfl)
    (hK : X.K = c.K := by rfl) (hP : X.prog = c.P := by rfl) (hw : X.w = c.w := by rfl) : PE X (.Dict [some k] [v] pos) (tD c W (cDsp fk fv)) := by
  refine PE.mono (pe_dsp hu hk hv hsh) fun σ H Q ⟨m, S, e, A, p⟩ t ht h0 => ?_
  rw [hP, hw, hK]
  obtain ⟨r', g'⟩ := push_dn A.s ht h0
  have A0 := A.grow g' r'
  have p : PostG c (relD c) _ _ _ ((fk e (S ++ [.dn []])).bind (dspK2 fv e S.length)) Q (Pz c W σ) := PostG.grow g' p
  refine bind_at A0 p fun m1 S1 y vy H1 A1 g1 q1 p1 => ?_
  unfold dspK2 at p1
  refine bind_at A1 p1 fun m2 S2 z vz H2 A2 g2 q2 p2 => ?_
  have q1 := Rep.mono (g2.ext A1.s) _ _ q1
  have hL : S.length < (S ++ [DO.dn []]).length := by simp
  have em : m2 S.length = t := by rw [(g1.trans g2).eq _ hL]; exact if_pos rfl
  unfold dspK3 at p2
  split at p2
  · rename_i ys e2 _
    by_cases hz : D.pure (.tup ys) = true ∧ D.deep (.tup ys) ≤ 8
    · rw [if_pos hz] at p2
      obtain ⟨_, _, es, b1, b2, b3⟩ := A2.s.obj _ _ e2
      have ees : es = [] := RepNV.nil_iff.mp b1
      subst ees
      rw [em] at b3
      have q10 := q1
      obtain ⟨b, vs, rfl, _, _⟩ := rep_tup q1
      refine ⟨b, m2, S2.length, .tup ys, rfl, b3, hz.1, hz.2, q10, ?_⟩
      have w := A2.s.write (o' := .dn [(.tup ys, z)]) (u := .ext (DN c.P c.w t [((D.tup ys).nk, b, vz)])) e2 (fun z => nomatch z) rfl (by
        rw [em]
        refine ⟨h0, by show 1 ≤ sizeLine; decide, _, RepNV.cons_iff.mpr ⟨b, vz, [], rfl, ⟨_, rfl⟩, hz.1, hz.2, ?_, ?_, RepNV.nil_iff.mpr rfl⟩, by simp, upd_same⟩
        · exact Rep.mono (Ext.upd (by rw [b3]; rfl)) _ _ q10
        · exact Rep.mono (Ext.upd (by rw [b3]; rfl)) _ _ q2)
      rw [em] at w
      obtain ⟨s', g''⟩ := w
      refine p2 (.ref t) m2 _ s' g'' ?_
      show Rep c.K _ _ _ (.ref S.length) (.ref t)
      unfold Rep
      exact ⟨by rw [List.length_set]; exact lt_of_get e2, by rw [em]⟩
    · rw [if_neg hz] at p2; exact p2.elim
  · exact p2.elim
end
end Dl

set_option Elab.async false
set_option linter.all false
set_option maxRecDepth 100000
set_option maxHeartbeats 4000000
/-! enumerate of a tuple -/
namespace DlE
open PySem PySem.Spec L2
theorem meets_enum1 {v : Value} {o : Obj} {H : Heap → Prop} (B : Begins v o H) :
    Meets (Builtin.«enumerate.__new__» ⟨[.type "enumerate", v], []⟩) (fun _ R s => H s.heap ∧
      R (.ok (.ret (.ref (s.heap.push o).objs.size))) { s with heap := (s.heap.push o).push { cls := .type "enumerate", data := .fields #[.none, .bool false, .ref s.heap.objs.size, rawInt 0, .none, .none] } }) :=
  .of_wp fun prog w A R s h => by
    obtain ⟨hp, g, d, tk, os⟩ := s
    obtain ⟨h1, h⟩ := h
    have hsub := sub_enumerate
    have begin1 : ∀ {A' : Around} {E : Value → Shared → Prop} {Q : Value → Shared → Prop}, Q (.ref hp.objs.size) ⟨hp.push o, g, d, tk, os⟩ → wpAny (model prog w) A' (pyIter v) Q E ⟨hp, g, d, tk, os⟩ :=
      fun q => B.iter prog w _ _ ⟨hp, g, d, tk, os⟩ _ h1 q
    wp_walk using begin1
    refine wpAny_stack_any fun st => wpAny_pure ?_
    split
    · rename_i c _ _ _ _ _
      cases (c == Value.type "enumerate") <;> (wp_walk using begin1; exact ⟨_, rfl, h⟩)
    · wp_walk using begin1
      exact ⟨_, rfl, h⟩
section
variable {prog : Program} {w : World} {A : Around} {E : Value → Shared → Prop} {s : Shared}
theorem enum1 {v : Value} {o : Obj} {H : Heap → Prop} {Q : Value → Shared → Prop} (B : Begins v o H) (h1 : H s.heap)
    (h : ∀ h', IsEnum h' (s.heap.objs.size + 1) s.heap.objs.size 0 .none → h'.get? s.heap.objs.size = some o → (∀ b o, s.heap.get? b = some o → h'.get? b = some o) → Q (.ref (s.heap.objs.size + 1)) { s with heap := h' }) :
    wpAny (model prog w) A (call (.type "enumerate") [v]) Q E s := by
  refine callType_new F.called_enumerate (by decide) (F.typeCall_enumerate_1 _) (F.newCall_enumerate_1 _) (fun obj => F.args_object_init_2 obj _) F.entry_enumerate_new (meets_enum1 B) ⟨h1, ?_⟩
  have hz : (s.heap.push o).objs.size = s.heap.objs.size + 1 := Heap.size_push ..
  show _ ∧ _
  rw [hz]
  have he := Heap.get?_push_size (s.heap.push o) (o := { cls := .type "enumerate", data := .fields #[.none, .bool false, .ref s.heap.objs.size, rawInt 0, .none, .none] }) rfl
  rw [hz] at he
  exact ⟨⟨_, he, rfl⟩, h _ he (Heap.get?_push_of_some _ (Heap.get?_push_size _ B.free)) fun b o x => Heap.get?_push_of_some _ (Heap.get?_push_of_some _ x)⟩
theorem enumT_end {e it l : Addr} {i : Nat} {k : Int} {items : Array Value} {old : Value} {Q : Option Value → Shared → Prop} (hh : A.handled = none) (he : IsEnum s.heap e it k old) (hit : s.heap.IsTupleIter it l i) (hl : s.heap.IsTuple l items) (hx : items[i]? = none)
    (hQ : ∀ h', Heap.ExtBut it s.heap h' → Q none { s with heap := h' }) : wpAny (model prog w) A (pyNext (.ref e)) Q E s := by
  have hT : s.TypeIs (.ref e) "enumerate" := ⟨_, he, rfl⟩
  unfold pyNext
  refine wpAny_bind (wpAny_attempt (wpAny_callSpecial?_slot (name := Str.ofString "__next__") hT F.slot_enumerate_next (wpAny_call_entry F.slot_enumerate_next hT F.entry_enumerate_next ?_ (F.args_enumerate_next_1 _))))
  show wpAny _ _ (field (.ref e) 2 >>= _) _ _ _
  refine wpAny_bind (wpAny_field he rfl (x := .ref it) rfl (wpAny_bind (RZ.nextOf_tuple_end hh hit hl hx fun h' x he' ⟨o, ho, hc⟩ => ?_)))
  exact wpAny_bind (wpAny_isInstance (T := "StopIteration") (b := true) ⟨o, ho, hc⟩ isSubtype_stop (wpAny_pure (hQ _ he')))
end
end DlE
namespace Dl
open PySem PySem.Spec L2
def Iet (K : PySem.W.Frag) (a : Addr) : It :=
  ⟨fun i H => ∃ (xs : List V) (x : V), SqT K H a xs ∧ xs[i]? = some x, fun i H v H' => ∃ T x, v = .ref T ∧ H T = none ∧ H' = L2.upd H T (.tup [.int (i : Nat), x]) ∧ ∀ xs, SqT K H a xs → xs[i]? = some x, fun i H => ∃ xs : List V, SqT K H a xs ∧ xs.length ≤ i⟩
theorem turn_enumT {P : Program} {w : World} {K : PySem.W.Frag} {elts : List Expr} {kk : Nat} {tpos : Pos} (a e it : Addr) :
    Turn P w K (.Tuple elts kk tpos) (Iet K a) [e, it] e (fun i h => (∃ old, IsEnum h e it ((i : Nat) : Int) old) ∧ h.IsTupleIter it a i ∧ e ≠ it ∧ a ≠ it ∧ a ≠ e) where
  mem := by simp
  obj := fun i h st b hb => by
    obtain ⟨⟨old, he⟩, ⟨o, ho, hc, hd⟩, _⟩ := st
    have e' : b = e ∨ b = it := by simpa using hb
    rcases e' with z | z
    · rw [z]; exact ⟨_, he, fun v q => nomatch q⟩
    · rw [z]; exact ⟨o, ho, fun v q => by rw [hd] at q; cases q⟩
  keep := fun i h h' st k => let ⟨⟨old, he⟩, hi, hne⟩ := st; ⟨⟨old, k e (by simp) _ he⟩, hi.at fun o q => k it (by simp) o q, hne⟩
  item := by
    intro X hP hw hK hc i pins s σ H E I hf st hg
    subst hP hw hK
    obtain ⟨⟨old, he⟩, hit, hne, hai, hae⟩ := st
    obtain ⟨xs, x, hq, hx⟩ := hg
    obtain ⟨its, rv, p, hz⟩ := I.tuple hq
    obtain ⟨u, hu, ru⟩ := rv.get hx
    have hel : e < s.heap.objs.size := Heap.lt_size he
    have hil : it < s.heap.objs.size := by obtain ⟨_, q, _⟩ := hit; exact Heap.lt_size q
    have hlt : i < its.toArray.size := by simpa using (List.getElem?_eq_some_iff.mp hu).1
    have D := Draws.tuple (prog := X.prog) (w := X.w) (A := X.A.in1) (I.ok.hd hc) it a hai its.toArray
    refine wpAny_pyNext_enum_itemD D he ⟨hit, p⟩ hlt hne (by simp [hne, Ne.symm hae]) fun y h' tk hy ho hst hT hsz hk => ?_
    have ey : y = u := by
      have e2 : its[i]? = some y := by simpa using hy
      rw [hu] at e2; exact (Option.some.inj e2).symm
    subst ey
    refine ⟨_, rfl, wpAny_letOwnedTupleGo_enum (s := { s with heap := h', toks := tk + 1 }) ho fun h'' he' sb => ?_⟩
    have hT2 : h''.get? s.heap.objs.size = some { cls := .type "tuple", data := .seq #[.int i tk, y] } := (sb.2 _ (Nat.ne_of_gt hel)).trans hT
    have new : ObjOk X.prog X.w (L2.upd H s.heap.objs.size (.tup [.int (i : Nat), x])) h'' s.heap.objs.size (.tup [.int (i : Nat), x]) :=
      ⟨by show 2 ≤ sizeLine; decide, [.int i tk, y], .cons ⟨_, rfl⟩ (.cons ru .nil), ⟨_, hT2, rfl, _, rfl⟩⟩
    have I1 : Inv X pins σ (L2.upd H s.heap.objs.size (.tup [.int (i : Nat), x])) { s with heap := h'', toks := tk + 1 } :=
      I.turnedNew (ch := [e, it]) (fun b ob hb q => (sb.2 b (fun z => hb (by simp [z]))).trans (hk b ob (fun z => hb (by simp [z])) (fun z => hb (by simp [z])) q)) hf (Nat.le_refl _) new
    refine ⟨.ref s.heap.objs.size, _, I1, rfl, ⟨_, x, rfl, I.hok.fresh (Nat.le_refl _), rfl, fun ys hy => by rw [I.tuple_inj hy hq]; exact hx⟩, ⟨⟨y, ?_⟩, hst.1.at fun o q => (sb.2 it (Ne.symm hne)).trans q, hne, hai, hae⟩, fun b hb => ?_⟩
    · have e1 : ((i + 1 : Nat) : Int) = (i : Int) + 1 := by omega
      rw [e1]; exact he'
    · have hb' : b < s.heap.objs.size := by
        have e' : b = e ∨ b = it := by simpa using hb
        rcases e' with z | z
        · rw [z]; exact hel
        · rw [z]; exact hil
      rw [L2.upd_ne (Nat.ne_of_lt hb')]
      exact (hf b hb).1
  done := by
    intro X hP hw hK hc i pins s σ H E I hf st hg
    subst hP hw hK
    obtain ⟨⟨old, he⟩, hit, hne, hai, hae⟩ := st
    obtain ⟨xs, hq, hx⟩ := hg
    obtain ⟨its, rv, p, hz⟩ := I.tuple hq
    obtain ⟨f0, f1, f2, f3, f4, f5⟩ := hf it (by simp)
    have hl := rv.length
    exact DlE.enumT_end (I.ok.hd hc) he hit p (by simp; omega) fun h' eb => ⟨rfl, I.turned (t' := s.toks) (fun b o hb q => eb b o hb q) f0 f1 f3 f4 f5⟩
  self := fun A i s Q E st h => let ⟨⟨_, he⟩, _⟩ := st; wpAny_pyIter_enum he h
def iEnumT (K : PySem.W.Frag) (ta : TA) : TI := fun σ H R => ta σ H fun vs H1 => ∃ a xs, vs = [.ref a] ∧ SqT K H1 a xs ∧ R (Iet K a) H1
theorem pi_enumT {X : Cx} {e : Expr} {ta : TA} {p pos tpos : Pos} {elts : List Expr} {kk : Nat} (hg : Gl X "enumerate") (hm : X.mg "enumerate" = none) (ha : PA X [e] ta) (hs : starEach [e] X.env = [(false, eval e X.env)] := by rfl) :
    PI X (.Tuple elts kk tpos) (.Call (.Name "enumerate" p) [e] [] pos) (iEnumT X.K ta) := by
  refine ⟨fun pins s σ H R I h => ?_⟩
  refine PyProof.Rows.Call_ (ld_blt I hg hm PyProof.Rows.boot_enumerate (PyProof.Rows.callWith_type1 (thn (ha.run pos pins s σ H _ I h) fun us s1 ⟨vs, H1, I1, r1, q1⟩ => ?_) hs rfl))
  obtain ⟨a, xs, ex, hq, q⟩ := q1
  subst ex
  cases r1 with
  | cons r rr =>
    cases rr
    cases r
    obtain ⟨its, rv, p', hz⟩ := I1.tuple hq
    have hal : a < s1.heap.objs.size := by obtain ⟨o, ho, _⟩ := p'; exact Heap.lt_size ho
    refine DlE.enum1 (begins_tuple a its.toArray) p' fun h' he hit hk => wpAny_pyIter_enum he ?_
    have I2 : Inv X pins σ H1 { s1 with heap := h' } := I1.kept (t' := s1.toks) hk
    refine ⟨s1.heap.objs.size + 1, [s1.heap.objs.size + 1, s1.heap.objs.size], _, _, H1, rfl, I2, turn_enumT a (s1.heap.objs.size + 1) s1.heap.objs.size, ⟨⟨.none, he⟩, ⟨_, hit, rfl, rfl⟩, Nat.succ_ne_self _, Nat.ne_of_lt hal, Nat.ne_of_lt (Nat.lt_succ_of_lt hal)⟩, fun b hb => ?_, q⟩
    have e' : b = s1.heap.objs.size + 1 ∨ b = s1.heap.objs.size := by simpa using hb
    have hle : s1.heap.objs.size ≤ b := by
      rcases e' with z | z
      · rw [z]; exact Nat.le_add_right _ _
      · rw [z]; exact Nat.le_refl _
    exact I1.fpOk hle (I1.hok.fresh hle)
section
variable {c : Ct} {m : Nat → Addr} {S : Store} {H : Hp} {X : Cx} {W : WX}
theorem walk_ent {a : Addr} {xs : List D} {vs : List V} (r : SRel c m S H) (h : SqT c.K H a vs) (q : RepL c.K m S.length H xs vs) : WalkD c m S H (Iet c.K a) (.enum (.fix xs)) := by
  intro m2 S2 H2 i r2 g
  have h2 := (g.ext r).sq _ _ h
  have q2 := RepL.mono (g.ext r) _ _ q
  simp only [Src.at]
  cases e : xs[i]? with
  | none => exact ⟨vs, h2, by rw [q2.len]; exact List.getElem?_eq_none_iff.mp e⟩
  | some d =>
    obtain ⟨v, e1, e3⟩ := q2.get e
    refine ⟨⟨vs, v, h2, e1⟩, fun x H3 y => ?_⟩
    obtain ⟨T, x2, rfl, hT, rfl, y2⟩ := y
    have z := y2 vs h2
    rw [e1] at z; cases z
    exact pair_new hT rfl e3
def enumSrc (xs : List D) (S : Store) : Rs Src := match xs with
  | [.tup ys] => .ok (.enum (.fix ys)) S
  | [.ref n] => (match seqOf S n with
    | some _ => .ok (.enum (.live n)) S
    | none => .stuck)
  | _ => .stuck
def iEnm (f : DA) : DI := fun e S => (f e S).bind enumSrc
theorem seqOf_kind {n : Nat} {ys : List D} (h : seqOf S n = some ys) : ∃ o, S[n]? = some o ∧ o.kind ≤ 1 := by
  unfold seqOf at h
  cases o : S[n]? with
  | none => rw [o] at h; cases h
  | some ob =>
    rw [o] at h
    cases ob with
    | lst xs => exact ⟨_, rfl, by simp [DO.kind]⟩
    | ro xs => exact ⟨_, rfl, by simp [DO.kind]⟩
    | dk _ => cases h
    | dn _ => cases h
    | ins _ _ => cases h
    | fk _ => cases h
theorem i_enum {e : Expr} {f : DA} {p pos tpos : Pos} {elts : List Expr} {kk : Nat} (hg : Gl X "enumerate") (hm : X.mg "enumerate" = none) (ha : PA X [e] (tL c W f)) (hs : starEach [e] X.env = [(false, eval e X.env)] := by rfl) (hK : X.K = c.K := by rfl) :
    PI X (.Tuple elts kk tpos) (.Call (.Name "enumerate" p) [e] [] pos) (tI c W (iEnm f)) := by
  refine PI.mono (PI.or (pi_enumT hg hm ha hs) (pi_enum hg hm ha hs)) fun σ H R ⟨m, S, ev, A, p⟩ => ?_
  unfold iEnm at p
  cases q : f ev S with
  | stuck => rw [q] at p; exact p.elim
  | exc x S1 => exact .inl ⟨m, S, ev, A, by rw [q] at p ⊢; exact p⟩
  | ok xs S1 =>
    rw [q] at p
    replace p : PostI c m S H (enumSrc xs S1) R (Pz c W σ) := p
    unfold enumSrc at p
    split at p
    · rename_i ys
      refine .inl ⟨m, S, ev, A, ?_⟩
      rw [q]
      intro vs m1 H1 s1 g1 rp
      obtain ⟨v, rfl, h⟩ := repL1 rp
      obtain ⟨a, ws, rfl, h1, h2⟩ := rep_tup h
      exact ⟨a, ws, rfl, by rw [hK]; exact h1, by rw [hK]; exact p _ m1 H1 s1 g1 (walk_ent s1 h1 h2)⟩
    · rename_i n
      refine .inr ⟨m, S, ev, A, ?_⟩
      rw [q]
      intro vs m1 H1 s1 g1 rp
      obtain ⟨v, rfl, h⟩ := repL1 rp
      rw [rep_ref h]
      cases o : seqOf S1 n with
      | none => rw [o] at p; exact p.elim
      | some ys =>
        rw [o] at p
        obtain ⟨ws, h1, h2⟩ := seqOf_rep s1 o
        obtain ⟨ob, e1, e2⟩ := seqOf_kind o
        exact ⟨_, ws, rfl, by rw [hK]; exact h1, by rw [hK]; exact p _ m1 H1 s1 g1 (walk_enl s1 e1 e2)⟩
    · exact p.elim
end
end Dl

set_option Elab.async false
set_option linter.all false
set_option maxRecDepth 100000
set_option maxHeartbeats 4000000
namespace Dl
open PySem PySem.Spec L2

/-! ### {k: v for .. in ..} with keys of ints and texts -/
def putTo (L : Nat) (k v : D) (S : Store) : Option Store := match S[L]? with
  | some (.dk _) => dctPut S L k v
  | _ => none
def dcD : Nat → Src → DG → DT → DE → DE → Nat → Env → Nat → Store → Rs D
  | 0, _, _, _, _, _, _, _, _, _ => .stuck
  | n + 1, src, g, tt, tk, tv, L, e0, i, S => match src.at S i with
    | none => .ok (.ref L) S
    | some d => ((g d e0 S).noX).bind fun e1 S1 => ((tt e1 S1).noX).bind fun b S2 => if b = true then
        ((tk e1 S2).noX).bind fun k S3 => ((tv e1 S3).noX).bind fun v S4 => match putTo L k v S4 with
          | some S5 => dcD n src g tt tk tv L e0 (i + 1) S5
          | none => .stuck
      else dcD n src g tt tk tv L e0 (i + 1) S2
def cDc (f : DI) (g : DG) (tt : DT) (tk tv : DE) (us : List Nat) : DE := fun e S => match f e S with
  | .ok src S1 => dcD FUEL src g tt tk tv S1.length (wipeE e us) 0 (S1 ++ [.dk []])
  | .exc x S1 => .exc x S1
  | .stuck => .stuck
section
variable {c : Ct} {W : WX} {m : Nat → Addr} {S : Store} {H : Hp}
theorem putTo_ok {L : Nat} {k v : D} {S5 : Store} {vk vv : V} (r : SRel c m S H) (h : putTo L k v S = some S5) (hk : Rep c.K m S.length H k vk) (hv : Rep c.K m S.length H v vv) : ∃ kvs q, vk = kV q ∧ H (m L) = some (.dK kvs) ∧ kvs.length < sizeLine ∧
    SRel c m S5 (L2.upd H (m L) (.dK (putK kvs q vv))) ∧ Grow m S H m S5 (L2.upd H (m L) (.dK (putK kvs q vv))) := by
  unfold putTo at h
  cases o : S[L]? with
  | none => rw [o] at h; cases h
  | some ob =>
    rw [o] at h
    cases ob with
    | dk kvs =>
      dsimp only at h
      unfold dctPut at h
      rw [o] at h
      dsimp only at h
      cases e : dkey k with
      | none => rw [e] at h; cases h
      | some q =>
        rw [e] at h
        dsimp only at h
        by_cases hl : kvs.length < 100000
        · rw [if_pos hl] at h
          cases h
          obtain ⟨ws, b1, b2⟩ := r.obj L _ o
          obtain ⟨s', g'⟩ := put_dk r o b1 b2 e hv
          exact ⟨ws, q, dkey_rep e hk, b1, by rw [b2.len]; exact small5 (Nat.le_of_lt hl), s', g'⟩
        · rw [if_neg hl] at h; cases h
    | ro _ => cases h
    | lst _ => cases h
    | dn _ => cases h
    | ins _ _ => cases h
    | fk _ => cases h
theorem dc_tD {f : DI} {g : DG} {tt : DT} {tk tv : DE} {us : List Nat} : ∀ {σ : L2.St} {H : Hp} {Q : VK}, tD c W (cDc f g tt tk tv us) σ H Q → tDc (tI c W f) (tGt c us g) (tT c W0 tt) (tD c W0 tk) (tD c W0 tv) us σ H Q := by
  intro σ H Q ⟨m, S, e, A, p⟩
  refine ⟨m, S, e, A, ?_⟩
  unfold cDc at p
  cases q : f e S with
  | stuck => rw [q] at p; exact p
  | exc x S1 => rw [q] at p; exact p
  | ok src S1 =>
    rw [q] at p
    intro J m1 H1 s1 g1 wk L hL
    obtain ⟨s2, g2⟩ := s1.push (o := .dk []) (u := .dK []) hL (fun z => nomatch z) ⟨[], upd_same, RepKV.nil_iff.mpr rfl⟩
    have A0 : At c m1 S1 H1 e σ := A.grow g1 s1
    have p := PostG.grow (g1.trans g2) p
    have hmL : (fun i => if i = S1.length then L else m1 i) S1.length = L := if_pos rfl
    refine ⟨fun i n H => ∃ m S, SRel c m S H ∧ Grow m1 S1 H1 m S H ∧ m S1.length = L ∧ S1.length < S.length ∧ PostG c (relD c) m S H (dcD n src g tt tk tv S1.length (wipeE e us) i S) Q (Pz c W σ), ⟨FUEL, _, _, s2, g2, hmL, by simp, p⟩, ?_⟩
    rintro i n H ⟨m, S, s, gr, hm, hl, p⟩
    have w := wk m S H i s gr
    cases n with
    | zero => exact p.elim
    | succ n =>
      unfold dcD at p
      cases o : src.at S i with
      | none =>
        rw [o] at w p
        refine .inl ⟨w, p.here s ?_⟩
        show Rep c.K m S.length H (.ref S1.length) (.ref L)
        unfold Rep
        exact ⟨hl, by rw [hm]⟩
      | some d =>
        rw [o] at w p
        obtain ⟨go, yl⟩ := w
        refine .inr ⟨go, fun H' => ∃ m S, SRel c m S H' ∧ Grow m1 S1 H1 m S H' ∧ m S1.length = L ∧ S1.length < S.length ∧ PostG c (relD c) m S H' (dcD n src g tt tk tv S1.length (wipeE e us) (i + 1) S) Q (Pz c W σ), fun H' h => ⟨n, Nat.lt_succ_self n, h⟩, fun x H2 y => ?_⟩
        obtain ⟨sm2, rx⟩ := yl x H2 y
        have gs : Grow m S H m S H2 := Grow.same sm2
        have s3 := s.same sm2
        have gr3 := gr.trans gs
        have A3 : At c m S H2 (wipeE e us) (wipe σ us) := ⟨s3, wipeE_rel (A0.e.grow gr3 s1) us⟩
        have p := PostG.grow gs p
        refine ⟨m, S, wipeE e us, d, A3, rx, noX_bind (rel := relE c) p fun m4 S4 e4 σ4 H4 s4 g4 re4 p4 hw => ⟨hw.trans wipe_idem, ?_⟩⟩
        refine ⟨m4, S4, e4, ⟨s4, re4⟩, noX_bind (rel := relB) p4 fun m5 S5 b b' H5 s5 g5 rb p5 => ?_⟩
        cases rb
        have fin : ∀ {m' : Nat → Addr} {S' : Store} {H' : Hp}, SRel c m' S' H' → Grow m4 S4 H4 m' S' H' → (Grow m1 S1 H1 m' S' H' ∧ m' S1.length = L ∧ S1.length < S'.length) := fun s' g' =>
          ⟨(gr3.trans g4).trans g', by rw [(g4.trans g').eq _ hl]; exact hm, Nat.lt_of_lt_of_le hl (g4.trans g').len⟩
        cases b with
        | false =>
          obtain ⟨a1, a2, a3⟩ := fin s5 g5
          exact ⟨m5, S5, s5, a1, a2, a3, p5⟩
        | true =>
          rw [if_pos rfl]
          rw [if_pos rfl] at p5
          have re5 : ERel c m5 S5.length H5 e4 σ4 := ERel.grow re4 g5 s4
          refine ⟨m5, S5, e4, ⟨s5, re5⟩, noX_bind (rel := relD c) p5 fun m6 S6 kd kv H6 s6 g6 rk p6 => ?_⟩
          refine ⟨m6, S6, e4, ⟨s6, ERel.grow re5 g6 s5⟩, noX_bind (rel := relD c) p6 fun m7 S7 vd vv H7 s7 g7 rv p7 => ?_⟩
          cases o7 : putTo S1.length kd vd S7 with
          | none => rw [o7] at p7; exact p7.elim
          | some S8 =>
            rw [o7] at p7
            obtain ⟨kvs, qk, h0, h1, h2, h3, h4⟩ := putTo_ok s7 o7 (Rep.mono (g7.ext s6) _ _ rk) rv
            obtain ⟨a1, a2, a3⟩ := fin s7 ((g5.trans g6).trans g7)
            rw [a2] at h1 h3 h4
            exact ⟨kvs, qk, h0, h1, h2, m7, S8, h3, a1.trans h4, a2, Nat.lt_of_lt_of_le a3 h4.len, PostG.grow h4 p7⟩
end
section
variable {X : Cx} {c : Ct} {W : WX} {kx vx tg iter : Expr} {ifs : List Expr} {scope : Scope} {own : List (Str × Nat)} {pos spos py : Pos} {f : DI} {g : DG} {tt : DT} {tk tv : DE} {i : Nat} {y : Str}
theorem d_dc (hc : X.calm = true) (hN : X.N.Nodup) (hi : PI X tg iter (tI c W f)) (ok : BlkOk X.N X.env.scope scope own)
    (hg : ∀ (s : Shared) (H : Hp) (C : Addr) (cl : List (Str × Addr)) (fp : List Addr), PG (X.blk s H scope (compEnvC scope cl C X.env) fp) tg (tGt c (own.map (·.2)) g)) (ht : ∀ (s : Shared) (H : Hp) (C : Addr) (cl : List (Str × Addr)) (fp : List Addr), PTs (X.blk s H scope (compEnvC scope cl C X.env) fp) ifs (tT c W0 tt))
    (hk : ∀ (s : Shared) (H : Hp) (C : Addr) (cl : List (Str × Addr)) (fp : List Addr), PE (X.blk s H scope (compEnvC scope cl C X.env) fp) kx (tD c W0 tk))
    (he : ∀ (s : Shared) (H : Hp) (C : Addr) (cl : List (Str × Addr)) (fp : List Addr), PE (X.blk s H scope (compEnvC scope cl C X.env) fp) vx (tD c W0 tv)) (hs : ∀ x, foldedSetIterable iter X.env x = pure x := by intro _; rfl) :
    PE X (.DictComp kx vx [⟨tg, iter, ifs, 0⟩] scope pos) (tD c W (cDc f g tt tk tv (own.map (·.2)))) := PE.mono (pe_dc hc hN hi ok hg ht hk he hs) fun _ _ _ h => dc_tD h
/-- name = {..} on one line, the name a local -/
theorem ps_setDc {wi : TI} {tg' : TG} {tt' : TT} {tk' tv' : TE} (hc : X.calm = true) (hN : X.N.Nodup) (hy : X.N[i]? = some y) (hyl : X.env.scope.names.lookup y = some .local)
    (hsw : swapsWith (.DictComp kx vx [⟨tg, iter, ifs, 0⟩] scope pos) (some (.Name y py)) spos.line X.env = pure true) (hi : PI X tg iter wi) (ok : BlkOk X.N X.env.scope scope own)
    (hg : ∀ (s : Shared) (H : Hp) (C : Addr) (cl : List (Str × Addr)) (fp : List Addr), PG (X.blk s H scope (compEnvC scope cl C X.env) fp) tg tg') (ht : ∀ (s : Shared) (H : Hp) (C : Addr) (cl : List (Str × Addr)) (fp : List Addr), PTs (X.blk s H scope (compEnvC scope cl C X.env) fp) ifs tt')
    (hk : ∀ (s : Shared) (H : Hp) (C : Addr) (cl : List (Str × Addr)) (fp : List Addr), PE (X.blk s H scope (compEnvC scope cl C X.env) fp) kx tk')
    (he : ∀ (s : Shared) (H : Hp) (C : Addr) (cl : List (Str × Addr)) (fp : List Addr), PE (X.blk s H scope (compEnvC scope cl C X.env) fp) vx tv') (hs : ∀ x, foldedSetIterable iter X.env x = pure x := by intro _; rfl) :
    PS X (.Assign [.Name y py] (.DictComp kx vx [⟨tg, iter, ifs, 0⟩] scope pos) spos) (tAsg (tDc wi tg' tt' tk' tv' (own.map (·.2))) (gName i)) := by
  refine ⟨fun pins s σ H D I h => ?_⟩
  rw [exec_Assign_Name_used _ _ _ _ hsw]
  refine wpAny_bind (wpAny_standAt (wpAny_bind ?_))
  show wpAny _ X.A (do let _ ← comprehension (.DictComp kx vx [⟨tg, iter, ifs, 0⟩] scope pos) scope X.env (firstIterPos [⟨tg, iter, ifs, 0⟩] pos) newDict false (eval iter X.env) (some (assign (.Name y py) X.env))) _ _ s
  replace h : tDc wi tg' tt' tk' tv' (own.map (·.2)) σ H (fun x H1 => gName i x σ H1 D.nx) := h
  refine wpAny_bind (thn (dc_core (Qf := fun _ s' => SP X pins D .next s') hc hN I hi ok hg ht hk he hs h fun L C s' m H' I' q hn f => ?_) fun _ s' hq => wpAny_pure (wpAny_pure hq))
  show wpAny _ _ (assign (.Name y py) X.env (.ref L)) _ _ _
  refine wpAny_assign_Name (store_ok2 (v := V.ref L) I' hN hy (.inl hyl) rfl (fun s2 I2 ⟨a, sb, ha⟩ => ?_) (.inr hyl))
  obtain ⟨f0, f1, f2, f3, f4, f5⟩ := f
  have haC : C ≠ a := by
    rcases ha with z | z
    · rw [z]; exact f1
    · exact fun e => f4 y a z e.symm
  refine ⟨m, hn.sameBut sb haC, fun h3 sb3 => ?_⟩
  exact ⟨_, H', I2.turned (t' := s2.toks) (fun b o hb e => (sb3.2 b hb).trans e) f0 f1 f3 f4 f5, q⟩
theorem sw_dict {gs : List Comprehension} {l : Nat} {env : PySem.Env} (hk : env.scope.kind = .function) (hy : env.scope.names.lookup y = some .local) (hl : (py.line == pos.line) = true)
    (ha : (scope.names.any fun (n, k) => n == y && (k == .local || k == .cell)) = false) : swapsWith (.DictComp kx vx gs scope pos) (some (.Name y py)) l env = pure true := by
  have ky : env.kindOf y = some .local := hy
  have hb : env.blockKind = .function := by unfold Env.blockKind; rw [hk]; rfl
  unfold swapsWith
  simp only [hb, ky, ha, Expr.pos, hl]
  rfl
theorem s_setDc (hc : X.calm = true) (hN : X.N.Nodup) (hy : X.N[i]? = some y) (hyl : X.env.scope.names.lookup y = some .local) (hsw : swapsWith (.DictComp kx vx [⟨tg, iter, ifs, 0⟩] scope pos) (some (.Name y py)) spos.line X.env = pure true)
    (hi : PI X tg iter (tI c W f)) (ok : BlkOk X.N X.env.scope scope own)
    (hg : ∀ (s : Shared) (H : Hp) (C : Addr) (cl : List (Str × Addr)) (fp : List Addr), PG (X.blk s H scope (compEnvC scope cl C X.env) fp) tg (tGt c (own.map (·.2)) g)) (ht : ∀ (s : Shared) (H : Hp) (C : Addr) (cl : List (Str × Addr)) (fp : List Addr), PTs (X.blk s H scope (compEnvC scope cl C X.env) fp) ifs (tT c W0 tt))
    (hk : ∀ (s : Shared) (H : Hp) (C : Addr) (cl : List (Str × Addr)) (fp : List Addr), PE (X.blk s H scope (compEnvC scope cl C X.env) fp) kx (tD c W0 tk))
    (he : ∀ (s : Shared) (H : Hp) (C : Addr) (cl : List (Str × Addr)) (fp : List Addr), PE (X.blk s H scope (compEnvC scope cl C X.env) fp) vx (tD c W0 tv)) (hs : ∀ x, foldedSetIterable iter X.env x = pure x := by intro _; rfl) :
    PS X (.Assign [.Name y py] (.DictComp kx vx [⟨tg, iter, ifs, 0⟩] scope pos) spos) (tS c W (sSet i (cDc f g tt tk tv (own.map (·.2))))) :=
  PS.mono (ps_setDc hc hN hy hyl hsw hi ok hg ht hk he hs) (set_tS fun _ _ _ h => dc_tD h)
end

/-! ### a dict that is walked is locked -/
section
variable {c : Ct} {m m' : Nat → Addr} {S S1 : Store} {H H' : Hp} {n : Nat} {kvs : List (D × D)} {ws : List (Key × V)} {od : Obj}
theorem lock_rel (r : SRel c m S H) (e : S[n]? = some (.dk kvs)) (h1 : H (m n) = some (.dK ws)) (h2 : RepKV c.K m S.length H kvs ws) : SRel c m (S.set n (.fk kvs)) (L2.upd H (m n) (.frz od (.dK ws))) := by
  have hm : mutH (H (m n)) = true := by rw [h1]; rfl
  have ex : Ext c.K m S.length H m S.length (L2.upd H (m n) (.frz od (.dK ws))) := Ext.upd hm
  have hn : n < S.length := lt_of_get e
  have cs : ∀ (i : Nat) (x : DO), (S.set n (.fk kvs))[i]? = some x → (i = n ∧ x = .fk kvs) ∨ (i ≠ n ∧ S[i]? = some x) := fun i x h => by
    by_cases hi : n = i
    · subst hi
      rw [List.getElem?_set_self hn] at h
      exact .inl ⟨rfl, (Option.some.inj h).symm⟩
    · rw [List.getElem?_set_ne hi] at h
      exact .inr ⟨fun z => hi z.symm, h⟩
  refine ⟨fun i x h => ?_, fun i j o1 o2 e1 e2 k1 k2 z => ?_⟩
  · rw [List.length_set]
    rcases cs i x h with ⟨rfl, rfl⟩ | ⟨hi, h⟩
    · exact ⟨ws, od, upd_same, RepKV.mono ex h2⟩
    · have hx := r.obj i x h
      by_cases hx0 : x.mk = 0
      · have far : ∀ v, H (m i) = some v → mutH (some v) = false → m i ≠ m n := fun v h1 h2 z => by
          rw [← z, h1, h2] at hm
          exact Bool.noConfusion hm
        cases x with
        | ro xs => exact ORep.ro ex hx fun v h1 h2 => by rw [upd_ne (far v h1 h2)]; exact h1
        | fk xs => exact ORep.fk ex hx fun v h1 h2 => by rw [upd_ne (far v h1 h2)]; exact h1
        | lst xs => exact absurd hx0 (fun z => nomatch z)
        | dk xs => exact absurd hx0 (fun z => nomatch z)
        | dn xs => exact absurd hx0 (fun z => nomatch z)
        | ins a b => exact absurd hx0 (fun z => nomatch z)
      · refine hx.stay ex fun v h1 => ?_
        rw [upd_ne fun z => hi (r.inj i n _ _ h e hx0 (fun z => nomatch z) z)]; exact h1
  · rcases cs i o1 e1 with ⟨_, rfl⟩ | ⟨hi, e1⟩
    · exact absurd rfl k1
    · rcases cs j o2 e2 with ⟨_, rfl⟩ | ⟨hj, e2⟩
      · exact absurd rfl k2
      · exact r.inj i j _ _ e1 e2 k1 k2 z
theorem Ext.free {K : PySem.W.Frag} {k : Nat} {t : Addr} {u : HO} (h : tupH (H t) = false) : Ext K m k H m k (L2.upd H t u) := by
  refine ⟨fun _ _ => rfl, Nat.le_refl _, fun a vs h1 => ?_⟩
  have ne : ∀ x, H a = some x → tupH (some x) = true → a ≠ t := fun x e q z => by
    subst z
    rw [e, q] at h
    exact Bool.noConfusion h
  rcases h1 with (h1 | ⟨o, h1⟩) | h1
  · exact .inl (.inl (by rw [upd_ne (ne _ h1 rfl)]; exact h1))
  · exact .inl (.inr ⟨o, by rw [upd_ne (ne _ h1 rfl)]; exact h1⟩)
  · exact .inr h1
theorem unlock_rel (r : SRel c m S H) (e : S[n]? = some (.dk kvs)) (h1 : H (m n) = some (.dK ws)) (h2 : RepKV c.K m S.length H kvs ws) (r' : SRel c m' S1 H') (g : Grow m (S.set n (.fk kvs)) (L2.upd H (m n) (.frz od (.dK ws))) m' S1 H') :
    H' (m n) = some (.frz od (.dK ws)) ∧ SRel c m' (S1.set n (.dk kvs)) (L2.upd H' (m n) (.dK ws)) ∧ Grow m S H m' (S1.set n (.dk kvs)) (L2.upd H' (m n) (.dK ws)) := by
  have hn : n < S.length := lt_of_get e
  have ln : (S.set n (.fk kvs)).length = S.length := List.length_set
  have en : m' n = m n := g.eq n (by rw [ln]; exact hn)
  have hm : mutH (H (m n)) = true := by rw [h1]; rfl
  have old : ∀ (i : Nat) (x : DO), (S.set n (.fk kvs))[i]? = some x → x.mk ≠ 0 → i ≠ n ∧ S[i]? = some x := fun i x h k => by
    by_cases hi : n = i
    · subst hi
      rw [List.getElem?_set_self hn] at h
      cases h
      exact absurd rfl k
    · rw [List.getElem?_set_ne hi] at h
      exact ⟨fun z => hi z.symm, h⟩
  have hf : H' (m n) = some (.frz od (.dK ws)) := g.frame _ _ upd_same fun i o ei ki z => by
    obtain ⟨a, b⟩ := old i o ei ki
    exact a (r.inj i n _ _ b e ki (fun z => nomatch z) z)
  have hn1 : n < S1.length := Nat.lt_of_lt_of_le hn (by rw [← ln]; exact g.len)
  have ex : Ext c.K m' S1.length H' m' S1.length (L2.upd H' (m n) (.dK ws)) := Ext.free (by rw [hf]; rfl)
  have ex0 : Ext c.K m S.length H m' S1.length H' := by
    have a : Ext c.K m S.length H m S.length (L2.upd H (m n) (.frz od (.dK ws))) := Ext.upd hm
    have b := g.ext (lock_rel r e h1 h2)
    exact ⟨fun i hi => b.eq i (by rw [ln]; exact hi), by have := b.le; rw [ln] at this; exact this, fun x vs q => b.sq _ _ (a.sq _ _ q)⟩
  -- another thing of the store does not stand there
  have far : ∀ (i : Nat) (x : DO), i ≠ n → S1[i]? = some x → (∀ u, H' (m' i) = some u → ∃ xs, x = .ro xs) ∨ m' i ≠ m n := fun i x hi hx => by
    by_cases hl : i < S.length
    · have ei : m' i = m i := g.eq i (by rw [ln]; exact hl)
      have eo : S[i]? = some S[i] := List.getElem?_eq_getElem hl
      by_cases hk : S[i].mk = 0
      · -- read alone
        have ho := r.obj i _ eo
        obtain ⟨o2, e2, k2⟩ := g.kind i S[i] (by rw [List.getElem?_set_ne fun z => hi z.symm]; exact eo)
        rw [hx] at e2
        cases e2
        cases hs : S[i] with
        | ro xs =>
          rw [hs] at k2
          cases x with
          | ro ys => exact .inl fun u _ => ⟨ys, rfl⟩
          | lst _ => cases k2
          | dk _ => cases k2
          | dn _ => cases k2
          | ins _ _ => cases k2
          | fk _ => cases k2
        | fk xs =>
          rw [hs] at ho
          obtain ⟨w2, od2, q1, _⟩ := ho
          exact .inr fun z => by rw [ei] at z; rw [z, h1] at q1; cases q1
        | lst xs => rw [hs] at hk; exact absurd hk (fun z => nomatch z)
        | dk xs => rw [hs] at hk; exact absurd hk (fun z => nomatch z)
        | dn xs => rw [hs] at hk; exact absurd hk (fun z => nomatch z)
        | ins a b => rw [hs] at hk; exact absurd hk (fun z => nomatch z)
      · exact .inr fun z => hi (r.inj i n _ _ eo e hk (fun z => nomatch z) (by rw [← ei]; exact z))
    · have fr := g.fresh i (by rw [ln]; exact Nat.le_of_not_lt hl) (lt_of_get hx)
      exact .inr fun z => by rw [z, upd_same] at fr; cases fr
  have cs : ∀ (i : Nat) (x : DO), (S1.set n (.dk kvs))[i]? = some x → (i = n ∧ x = .dk kvs) ∨ (i ≠ n ∧ S1[i]? = some x) := fun i x h => by
    by_cases hi : n = i
    · subst hi
      rw [List.getElem?_set_self hn1] at h
      exact .inl ⟨rfl, (Option.some.inj h).symm⟩
    · rw [List.getElem?_set_ne hi] at h
      exact .inr ⟨fun z => hi z.symm, h⟩
  have apart : ∀ (i : Nat) (x : DO), i ≠ n → S1[i]? = some x → x.mk ≠ 0 → m' i ≠ m n := fun i x hi hx hk z => by
    have := (r'.obj i x hx).mut hk
    rw [z, hf] at this
    exact Bool.noConfusion this
  refine ⟨hf, ⟨fun i x h => ?_, fun i j o1 o2 e1 e2 k1 k2 z => ?_⟩, ⟨?_, fun i hi => g.eq i (by rw [ln]; exact hi), fun i o ei => ?_, fun a u ha hfr => ?_, fun i h3 h4 => ?_, fun a u ha => ?_⟩⟩
  · rw [List.length_set]
    rcases cs i x h with ⟨rfl, rfl⟩ | ⟨hi, h⟩
    · refine ⟨ws, by rw [en]; exact upd_same, RepKV.mono ex (RepKV.mono ex0 h2)⟩
    · have hx := r'.obj i x h
      rcases far i x hi h with q | q
      · by_cases hz : ∃ xs, x = .ro xs
        · obtain ⟨xs, rfl⟩ := hz
          obtain ⟨vs, q1, q2⟩ := hx
          refine ⟨vs, ?_, RepL.mono ex _ _ q2⟩
          rcases q1 with ⟨o, q1⟩ | q1
          · refine .inl ⟨o, ?_⟩
            rw [upd_ne fun z => by rw [z, hf] at q1; cases q1]
            exact q1
          · exact .inr q1
        · refine hx.stay ex fun u hu => absurd (q u hu) hz
      · exact hx.stay ex fun u hu => by rw [upd_ne q]; exact hu
  · rcases cs i o1 e1 with ⟨hi, he⟩ | ⟨hi, e1⟩
    · rcases cs j o2 e2 with ⟨hj, _⟩ | ⟨hj, e2⟩
      · exact hi.trans hj.symm
      · rw [hi, en] at z
        exact absurd z.symm (apart j o2 hj e2 k2)
    · rcases cs j o2 e2 with ⟨hj, _⟩ | ⟨hj, e2⟩
      · rw [hj, en] at z
        exact absurd z (apart i o1 hi e1 k1)
      · exact r'.inj i j _ _ e1 e2 k1 k2 z
  · rw [List.length_set]
    have := g.len
    rw [ln] at this
    exact this
  · by_cases hi : n = i
    · subst hi
      rw [e] at ei; cases ei
      exact ⟨.dk kvs, List.getElem?_set_self hn1, rfl⟩
    · obtain ⟨o', a, b⟩ := g.kind i o (by rw [List.getElem?_set_ne hi]; exact ei)
      exact ⟨o', by rw [List.getElem?_set_ne hi]; exact a, b⟩
  · have hne : a ≠ m n := fun z => hfr n _ e (fun z => nomatch z) z.symm
    rw [upd_ne hne]
    refine g.frame a u (by rw [upd_ne hne]; exact ha) fun i o ei ki => ?_
    obtain ⟨_, b⟩ := old i o ei ki
    exact hfr i o b ki
  · rw [List.length_set] at h4
    have fr := g.fresh i (by rw [ln]; exact h3) h4
    by_cases hz : m' i = m n
    · rw [hz, upd_same] at fr; cases fr
    · rw [upd_ne hz] at fr; exact fr
  · by_cases ha2 : a = m n
    · rw [ha2]; exact ⟨_, upd_same⟩
    · rw [upd_ne ha2]
      exact g.keep a u (by rw [upd_ne ha2]; exact ha)
end
def unlockR (n : Nat) (kvs : List (D × D)) : Rs D → Rs D
  | .ok d S1 => .ok d (S1.set n (.dk kvs))
  | _ => .stuck
/-- f, with the dict in the slot j locked -/
def cLock (j : Nat) (f : DE) : DE := fun e S => match e[j]? with
  | some (some (.ref n)) => (match S[n]? with
    | some (.dk kvs) => unlockR n kvs (f e (S.set n (.fk kvs)))
    | _ => .stuck)
  | _ => .stuck
section
variable {X : Cx} {c : Ct} {W : WX} {f : DE} {j : Nat}
theorem lock_tD {t : TE} (w : ∀ σ H Q, tD c W f σ H Q → t σ H Q) : ∀ σ H Q, tD c W (cLock j f) σ H Q → tLockE t σ H Q := by
  intro σ H Q ⟨m, S, e, A, p⟩
  unfold cLock at p
  cases q : e[j]? with
  | none => rw [q] at p; exact p.elim
  | some o =>
    cases o with
    | none => rw [q] at p; exact p.elim
    | some d =>
      cases d with
      | ref n =>
        rw [q] at p
        dsimp only at p
        cases o : S[n]? with
        | none => rw [o] at p; exact p.elim
        | some ob =>
          cases ob with
          | dk kvs =>
            rw [o] at p
            dsimp only at p
            obtain ⟨ws, h1, h2⟩ := A.s.obj n _ o
            refine ⟨m n, .dK ws, h1, trivial, fun od => w _ _ _ ⟨m, S.set n (.fk kvs), e, ⟨lock_rel A.s o h1 h2, ?_⟩, ?_⟩⟩
            · rw [List.length_set]
              exact ⟨A.e.len, fun i d hi => by
                obtain ⟨v, a, b⟩ := A.e.get i d hi
                exact ⟨v, a, Rep.mono (Ext.upd (by rw [h1]; rfl)) _ _ b⟩⟩
            · cases ef : f e (S.set n (.fk kvs)) with
              | stuck => rw [ef] at p; exact p.elim
              | exc x S1 => rw [ef] at p; exact p.elim
              | ok d S1 =>
                rw [ef] at p
                intro v m' H' s' g' rv
                obtain ⟨a1, a2, a3⟩ := unlock_rel A.s o h1 h2 s' g'
                refine ⟨a1, p v m' _ a2 a3 ?_⟩
                show Rep c.K m' (S1.set n (.dk kvs)).length _ d v
                rw [List.length_set]
                exact Rep.mono (Ext.free (by rw [a1]; rfl)) _ _ rv
          | lst _ => rw [o] at p; exact p.elim
          | ro _ => rw [o] at p; exact p.elim
          | dn _ => rw [o] at p; exact p.elim
          | ins _ _ => rw [o] at p; exact p.elim
          | fk _ => rw [o] at p; exact p.elim
      | non => rw [q] at p; exact p.elim
      | bl _ => rw [q] at p; exact p.elim
      | int _ => rw [q] at p; exact p.elim
      | str _ => rw [q] at p; exact p.elim
      | tup _ => rw [q] at p; exact p.elim
theorem d_lock {e : Expr} (j : Nat) (h : PE X e (tD c W f)) : PE X e (tD c W (cLock j f)) := PE.mono (pe_lock h) (lock_tD fun _ _ _ h => h)
/-- name = .., with the dict in the slot j locked -/
theorem s_lock {st : Stmt} {i : Nat} {t : TE} (j : Nat) (h : PS X st (tAsg t (gName i))) (w : ∀ σ H Q, tD c W f σ H Q → t σ H Q) : PS X st (tS c W (sSet i (cLock j f))) := by
  refine PS.mono (ps_lock h) fun σ H B hB => ?_
  exact lock_tD (j := j) w σ H (fun x H1 => B.nx (σ.set i (some x)) H1) (by
    obtain ⟨m, S, e, A, p⟩ := hB
    exact to_at A p fun m1 S1 x v H1 A1 g1 q1 p1 => p1 _ m1 H1 ⟨A1.s, A1.e.set q1 i⟩ Grow.refl)
/-- d.items() of a locked dict -/
def pairsD : List (D × D) → List D
  | [] => []
  | p :: r => .tup [p.1, p.2] :: pairsD r
def itmSrc (d : D) (S : Store) : Rs Src := match d with
  | .ref n => (match S[n]? with
    | some (.fk kvs) => .ok (.fix (pairsD kvs)) S
    | _ => .stuck)
  | _ => .stuck
def iItm (f : DE) : DI := fun e S => (f e S).bind itmSrc
theorem pairsD_get {K : PySem.W.Frag} {m : Nat → Addr} {k : Nat} {H : Hp} : ∀ {kvs : List (D × D)} {ws : List (Key × V)}, RepKV K m k H kvs ws → ∀ i : Nat, match (pairsD kvs)[i]? with
    | none => ws.length ≤ i
    | some d => ∃ q v a b, ws[i]? = some (q, v) ∧ d = .tup [a, b] ∧ Rep K m k H a (kV q) ∧ Rep K m k H b v
  | [], ws, h, i => by rw [RepKV.nil_iff.mp h]; unfold pairsD; simp
  | p :: r, ws, h, i => by
    obtain ⟨q, v, t, rfl, h2, h3, h4⟩ := RepKV.cons_iff.mp h
    unfold pairsD
    cases i with
    | zero =>
      refine ⟨q, v, p.1, p.2, rfl, rfl, ?_, h3⟩
      cases e : p.1 with
      | int i => rw [e] at h2; cases h2; rfl
      | str s => rw [e] at h2; cases h2; rfl
      | non => rw [e] at h2; cases h2
      | bl _ => rw [e] at h2; cases h2
      | tup _ => rw [e] at h2; cases h2
      | ref _ => rw [e] at h2; cases h2
    | succ i =>
      have ih := pairsD_get h4 i
      rw [List.getElem?_cons_succ]
      cases z : (pairsD r)[i]? with
      | none => rw [z] at ih; rw [List.length_cons]; exact Nat.succ_le_succ ih
      | some d => rw [z] at ih; obtain ⟨q', v', a, b, c1, c2⟩ := ih; exact ⟨q', v', a, b, by rw [List.getElem?_cons_succ]; exact c1, c2⟩
theorem walk_itm {m : Nat → Addr} {S : Store} {H : Hp} {n : Nat} {kvs : List (D × D)} {ws : List (Key × V)} {od : Obj} (r : SRel c m S H) (e : S[n]? = some (.fk kvs)) (h1 : H (m n) = some (.frz od (.dK ws))) (h2 : RepKV c.K m S.length H kvs ws) :
    WalkD c m S H (Iti (m n) od ws) (.fix (pairsD kvs)) := by
  intro m2 S2 H2 i r2 g
  have hf : H2 (m n) = some (.frz od (.dK ws)) := g.frame _ _ h1 fun i o ei ki z => by
    have := (r.obj i o ei).mut ki
    rw [z, h1] at this
    exact Bool.noConfusion this
  have q := pairsD_get (RepKV.mono (g.ext r) h2) i
  show match (pairsD kvs)[i]? with | some d => _ | none => _
  cases z : (pairsD kvs)[i]? with
  | none => rw [z] at q; exact ⟨hf, q⟩
  | some d =>
    rw [z] at q
    obtain ⟨k, v, a, b, c1, rfl, c2, c3⟩ := q
    refine ⟨⟨hf, (List.getElem?_eq_some_iff.mp c1).1⟩, fun x H3 y => ?_⟩
    obtain ⟨T, k', v', y1, rfl, hT, rfl⟩ := y
    rw [c1] at y1; cases y1
    exact pair_new hT c2 c3
theorem i_items {elts : List Expr} {kk : Nat} {tpos apos cpos : Pos} {e : Expr} (he : PE X e (tD c W f)) (hbase : attributeBase e "items" X.env (eval e X.env) = eval e X.env := by rfl) (hline : (apos.endLine == cpos.line) = true := by rfl) :
    PI X (.Tuple elts kk tpos) (.Call (.Attribute e "items" apos) [] [] cpos) (tI c W (iItm f)) := by
  refine PI.mono (pi_items he hbase hline) fun σ H R ⟨m, S, ev, A, p⟩ => ?_
  refine iter_at (rel := relD c) A p fun m1 S1 d v H1 A1 g1 q1 p1 => ?_
  cases d with
  | ref n =>
    dsimp only [itmSrc] at p1
    cases o : S1[n]? with
    | none => rw [o] at p1; exact p1.elim
    | some ob =>
      rw [o] at p1
      cases ob with
      | fk kvs =>
        obtain ⟨ws, od, h1, h2⟩ := A1.s.obj n _ o
        exact ⟨_, od, ws, rep_ref q1, h1, p1 _ m1 H1 A1.s Grow.refl (walk_itm A1.s o h1 h2)⟩
      | lst _ => exact p1.elim
      | ro _ => exact p1.elim
      | dk _ => exact p1.elim
      | dn _ => exact p1.elim
      | ins _ _ => exact p1.elim
  | non => exact p1.elim
  | bl _ => exact p1.elim
  | int _ => exact p1.elim
  | str _ => exact p1.elim
  | tup _ => exact p1.elim
end
end Dl

set_option Elab.async false
set_option linter.all false
set_option maxRecDepth 100000
set_option maxHeartbeats 4000000
namespace Dl
open PySem PySem.Spec L2
open PyProof.Rows hiding St

/-! ### defs that are called where no guard stands -/
structure FnG (P : Program) (w : World) (K : PySem.W.Frag) (mg : Str → Option Value) (base : Heap) (k : Nat) (f : Addr) (fd : FuncData) (ps : List Str) (sp : Sp) : Prop where
  len : ∀ vs H Q E, sp vs H Q E → vs.length = ps.length
  run : ∀ (A : Around) (outer : List PySem.Env) (s : Shared) (H : Hp) (args : Args) (us : List Value) (vs : List V) (Q : VK) (E : XK), Room k A → A.guards = some [] → Env0 P w K mg base A outer s H → BindsTo s fd args (ps.zip us) → Vals vs us → sp vs H Q E →
    codeAny (model P w) A (.call (.ref f) args) (CR (L2.CX P w) outer P w H s Q E) s
section
variable {P : Program} {w : World} {K : PySem.W.Frag} {mg : Str → Option Value} {base : Heap}
theorem FnG.mono {j k : Nat} {f : Addr} {fd : FuncData} {ps : List Str} {sp : Sp} (F : FnG P w K mg base j f fd ps sp) (h : j ≤ k) : FnG P w K mg base k f fd ps sp :=
  ⟨F.len, fun A outer s H args us vs Q E hr => F.run A outer s H args us vs Q E (hr.mono h)⟩
theorem fnG_of {x qual : Str} {st : Stmt} {f : Addr} {fd : FuncData} {N ps : List Str} {k : Nat} {sp : Sp} (F : Fun K x qual st f fd) (S : FnScope N ps (defScope st)) (len : ∀ vs H Q E, sp vs H Q E → vs.length = ps.length)
    (body : ∀ (cdv : Value) (A : Around) (outer : List PySem.Env) (s : Shared) (H : Hp) (vs : List V) (Q : VK) (E : XK), Room k (A.deeper (envOfC qual (defScope st) s.heap.objs.size f cdv)) → A.guards = some [] → sp vs H Q E →
      ∃ t, PSs (cxOf (L2.CX P w) P w K mg base N qual (defScope st) f cdv A outer s H E) (defBody st) t ∧ t { nx := fun _ H' => Q .non H', rt := Q } (L2.start N vs) H) : FnG P w K mg base (k + 1) f fd ps sp := by
  obtain ⟨oc, od, kV, doc, pm, an, cdv, ct, osl, rfl, lk, hcd⟩ := F.ex
  refine ⟨len, ?_⟩
  intro A outer s H args us vs Q E hr hgd e0 hb rv hsp
  have old := fun (b : Addr) (o : Obj) (e : base.get? b = some o) => (e0.bs b o e).1
  have kinds : ∀ y ∈ ps.zip us, (defScope st).names.lookup y.1 = some .local ∨ ((defScope st).names.lookup y.1 = some .cell ∧ ((cellsFrom (s.heap.objs.size + 1) (defScope st).names []).lookup y.1).isSome = true) := by
    rintro ⟨n, v⟩ hy
    exact (S.par n (List.of_mem_zip hy).1).imp id fun q => ⟨q, PySem.W.cellsFrom_some _ _ _ (.inl q)⟩
  have KX : K.In s.heap := e0.mod.kin.keeps old
  refine codeAny_call_function hr.depth (KX _ _ lk) rfl S.co S.gen rfl (PySem.W.codeRec_of KX hcd) (hb _ _ _ _ ?_)
  refine wpAny_newFunctionEnv_cells S.kind kinds fun env he s1 x => ?_
  subst he
  obtain ⟨t, ht, hq⟩ := body cdv A outer s H vs Q E (hr.deeper _) hgd hsp
  refine ⟨(e0.mod.nolimit.keeps old).keeps x.toInCall.keep, codeAny_func (wpAny_mono (ht.run [] s1 _ H _ (inv_start S hr.hd e0 (len _ _ _ _ hsp) rv x) hq) ?_ fun _ _ z => z)⟩
  intro fl s' hs
  cases fl with
  | next => obtain ⟨σ', H', J, q⟩ := hs; exact ⟨.non, H', J.os, J.bare, J.base, J.hok, rfl, q⟩
  | ret u => obtain ⟨v, σ', H', J, r, q⟩ := hs; exact ⟨v, H', J.os, J.bare, J.base, J.hok, r, q⟩
  | brk => obtain ⟨_, _, _, q⟩ := hs; exact False.elim q
  | cont => obtain ⟨_, _, _, q⟩ := hs; exact False.elim q
end
section
variable {X : Cx} {c : Ct} {W : WX} {k n : Nat} {f : Addr} {fd : FuncData} {ps : List Str} {sp : Sp} {F : Fn} {x : Str} {p pos : Pos} {e : Expr} {es : List Expr} {t : TA} {g : DA} {E : L2.St → XK}
theorem run_fnG {pins : List (Addr × Obj)} {σ : L2.St} {H : Hp} {s : Shared} {Q : VK} {us : List Value} {vs : List V} (G : FnG X.prog X.w X.K X.mg X.base k f fd ps sp) (hr : Room k X.A) (hgd : X.A.guards = some []) (hb : Binds X.K fd ps []) (hx : PassesAt (L2.CX X.prog X.w) X σ (E σ))
    (I : Inv X pins σ H s) (r : Vals vs us) (h : sp vs H Q (E σ)) : wpAny (model X.prog X.w) X.A (call (.ref f) us) (EP X pins σ Q) X.xe s := by
  have b := hb s us I.kIn (by rw [List.append_nil, ← r.length]; exact G.len _ _ _ _ h)
  rw [List.append_nil] at b
  refine wpAny_call (codeAny_mono (G.run X.A X.stack s H ⟨us, []⟩ us vs Q (E σ) hr hgd I.env0 b r h) fun r s' hq => ?_)
  cases r with
  | error e => exact hx pins H s e s' I hq
  | ok fl =>
    cases fl with
    | ret u => exact I.after hq
    | next => exact False.elim hq
    | brk => exact False.elim hq
    | cont => exact False.elim hq
theorem pe_callG (G : FnG X.prog X.w X.K X.mg X.base k f fd ps sp) (hr : Room k X.A) (hgd : X.A.guards = some []) (hg : Gl X x) (hm : X.mg x = some (.ref f)) (hk : PySem.W.keepIn X.K (.ref f) = true) (hb : Binds X.K fd ps []) (hx : ∀ σ, PassesAt (L2.CX X.prog X.w) X σ (E σ))
    (ha : PA X (e :: es) t) (hdb : (x == ("__debug__" : Str)) = false := by decide) (he : starEach (e :: es) X.env = (false, eval e X.env) :: starEach es X.env := by rfl) (hpl : (backTo pos (starEach es X.env)).any (·.1) = false := by rfl) :
    PE X (.Call (.Name x p) (e :: es) [] pos) (tCallS sp E t) := by
  refine ⟨fun pins s σ H Q I h => ?_⟩
  refine wpAny_Call_Name_kw (ld_glob I hg hm ?_ hdb)
  exact PySem.W.callWith_K (h₀ := X.base) I.ok.mod.kin hk (thn (ha.run pos pins s σ H _ I h) fun us s1 ⟨vs, H1, I1, r, q⟩ => ⟨I1.kIn, run_fnG G hr hgd hb (hx σ) I1 r q⟩) he hpl
theorem d_callG (G : FnG X.prog X.w X.K X.mg X.base k f fd ps (spD c n F)) (hr : Room k X.A) (hgd : X.A.guards = some []) (hg : Gl X x) (hm : X.mg x = some (.ref f)) (hk : PySem.W.keepIn X.K (.ref f) = true) (hb : Binds X.K fd ps []) (tk : Takes X W)
    (ha : PA X (e :: es) (tL c W g)) (hdb : (x == ("__debug__" : Str)) = false := by decide) (he : starEach (e :: es) X.env = (false, eval e X.env) :: starEach es X.env := by rfl) (hpl : (backTo pos (starEach es X.env)).any (·.1) = false := by rfl) :
    PE X (.Call (.Name x p) (e :: es) [] pos) (tD c W (cFn n F g)) := by
  refine PE.mono (pe_callG (E := WE W) G hr hgd hg hm hk hb (fun σ => passAt tk σ) ha hdb he hpl) fun σ H Q ⟨m, S, e, A, p⟩ => ?_
  refine bind_at (k := fun xs S1 => if xs.length = n then runF F S1 xs else .stuck) A p fun m1 S1 xs vs H1 A1 g1 q1 p1 => ?_
  by_cases hz : xs.length = n
  · rw [if_pos hz] at p1
    exact runF_ok A1.s q1 hz p1
  · rw [if_neg hz] at p1; exact p1.elim
end
/-- a def, by its body -/
theorem start_rel {c : Ct} {m : Nat → Addr} {k : Nat} {H : Hp} {N : List Str} {ds : List D} {vs : List V} (h : RepL c.K m k H ds vs) : ERel c m k H (ds.map some ++ List.replicate (N.length - ds.length) none) (L2.start N vs) := by
  have hl := h.len
  refine ⟨by unfold L2.start; simp [hl], fun i d q => ?_⟩
  unfold L2.start
  by_cases hi : i < ds.length
  · rw [List.getElem?_append_left (by simpa using hi), List.getElem?_map] at q
    cases e : ds[i]? with
    | none => rw [e] at q; cases q
    | some d' =>
      rw [e] at q
      cases q
      obtain ⟨v, e1, e2⟩ := h.get e
      exact ⟨v, by rw [List.getElem?_append_left (by rw [List.length_map, hl]; exact hi), List.getElem?_map, e1]; rfl, e2⟩
  · rw [List.getElem?_append_right (by simp; omega), List.getElem?_replicate] at q
    split at q <;> cases q
theorem fnG {P : Program} {w : World} {mg : Str → Option Value} {base : Heap} {c : Ct} {x qual : Str} {st : Stmt} {f : Addr} {fd : FuncData} {N ps : List Str} {k : Nat} {den : DS} (F : Fun c.K x qual st f fd) (S : FnScope N ps (defScope st))
    (body : ∀ (cdv : Value) (A : Around) (outer : List PySem.Env) (s : Shared) (H : Hp) (E : XK), Room k (A.deeper (envOfC qual (defScope st) s.heap.objs.size f cdv)) → A.guards = some [] →
      PSs (cxOf (L2.CX P w) P w c.K mg base N qual (defScope st) f cdv A outer s H E) (defBody st) (tS c (fun cls d _ H => E cls d H) den)) : FnG P w c.K mg base (k + 1) f fd ps (spD c ps.length (fnD N.length den)) := by
  refine fnG_of F S (fun vs H Q E ⟨m, S, ds, hn, s, r, _⟩ => by rw [r.len, hn]) fun cdv A outer s H vs Q E hr hgd ⟨m, T, ds, hn, sr, r, p⟩ => ⟨_, body cdv A outer s H E hr hgd, m, T, _, ⟨sr, start_rel r⟩, ?_⟩
  unfold fnD at p
  cases q : den (ds.map some ++ List.replicate (N.length - ds.length) none) T with
  | nx e' S' => rw [q] at p; exact fun σ' m' H' a g => p .non m' H' a.s g rfl
  | rt d S' => rw [q] at p; exact fun v m' H' a g rv => p v m' H' a g rv
  | exc y e' S' => rw [q] at p; exact fun σ' m' H' a g => p m' H' a.s g
  | bk e' S' => rw [q] at p; exact p.elim
  | ct e' S' => rw [q] at p; exact p.elim
  | stuck => rw [q] at p; exact p.elim
/-- what leaves such a def -/
theorem takesG {P : Program} {w : World} {K : PySem.W.Frag} {mg : Str → Option Value} {base : Heap} {N : List Str} {qual : Str} {scope : Scope} {f : Addr} {cdv : Value} {A : Around} {outer : List PySem.Env} {s : Shared} {H : Hp} {E : XK} :
    Takes (cxOf (L2.CX P w) P w K mg base N qual scope f cdv A outer s H E) (fun cls d _ H => E cls d H) := takes_of rfl rfl rfl rfl
theorem passesG {P : Program} {w : World} {K : PySem.W.Frag} {mg : Str → Option Value} {base : Heap} {N : List Str} {qual : Str} {scope : Scope} {f : Addr} {cdv : Value} {A : Around} {outer : List PySem.Env} {s : Shared} {H : Hp} {E : XK} :
    PassesOwn (model P w) (cxOf (L2.CX P w) P w K mg base N qual scope f cdv A outer s H E).A (cxOf (L2.CX P w) P w K mg base N qual scope f cdv A outer s H E).env (cxOf (L2.CX P w) P w K mg base N qual scope f cdv A outer s H E).xe := PassesOwn.leaving

/-! ### the law's own call -/
theorem law_callG {P : Program} {w : World} {K : PySem.W.Frag} {mg mb : Str → Option Value} {k : Nat} {fa a : Addr} {fd : FuncData} {x : Str} {sp : Sp} {s₁ : Shared} {vs : List Value} {ns : List Int}
    (KX : K.In s₁.heap) (hns : s₁.heap.Ns mainGlobals mg) (hb : s₁.heap.Ns builtinsNs mb) (hbb : ∀ x : Str, x ≠ "__name__" → mb x = bootBuiltins x) (hlim : s₁.heap.NoLimit) (hg : s₁.gens = #[])
    (ha : s₁.heap.get? a = some { cls := .type "list", data := .seq vs.toArray }) (hi : IntsAre vs ns) (hl : ns.length ≤ sizeLine) (hr : Room k callerA)
    (F : ∀ base : Heap, K.In base → base.Ns mainGlobals mg → FnG P w K mg base k fa fd [x] sp) (hbind : ∀ (s : Shared) (u : Value), BindsTo s fd ⟨[u], []⟩ [(x, u)])
    (hsp : ∀ H : Hp, Only H → SqL K H a (ns.map V.int) → (∃ o, H a = some (.frz o (.lst (ns.map V.int)))) ∨ (∃ (o : Obj) (its : Array Value) (n : Nat), K.lookup a = some o ∧ o.cls = .type "list" ∧ o.dict = none ∧ o.data = .seq its n ∧ its.size ≤ sizeLine ∧ Vals (ns.map V.int) its.toList) → sp [.ref a] H (fun v _ => v = .bl true) fun _ _ _ => False) :
    codeAny (model P w) callerA (.call (.ref fa) ⟨[.ref a], []⟩) (fun r s' => r = .ok (.ret (.bool true)) ∧ OldK s₁.heap s'.heap ∧ s'.os = s₁.os ∧ AllBare s'.gens) s₁ := by
  have rv := vals_ints hi
  have lv := hi.length
  -- the heap told abstractly: the script, or nothing
  have go : ∀ H : Hp, (∀ b, H b = none ∨ (b = a ∧ ∃ o xs, H b = some (.frz o (.lst xs)))) → (H a ≠ none → K.lookup a = none) → HOk P w H s₁.heap → sp [.ref a] H (fun v _ => v = .bl true) (fun _ _ _ => False) →
      codeAny (model P w) callerA (.call (.ref fa) ⟨[.ref a], []⟩) (fun r s' => r = .ok (.ret (.bool true)) ∧ OldK s₁.heap s'.heap ∧ s'.os = s₁.os ∧ AllBare s'.gens) s₁ := by
    intro H hH hK hok hs
    have isA : ∀ b, H b ≠ none → b = a := fun b q => by
      rcases hH b with z | z
      · exact absurd z q
      · exact z.1
    have dictFree : ∀ (b : Addr) (o : Obj) (es : Array DictEntry) (ep : Nat), s₁.heap.get? b = some o → o.data = .dict es ep → H b = none := fun b o es ep e d => by
      rcases hH b with z | ⟨z, _⟩
      · exact z
      · rw [z, ha] at e
        cases e
        have d2 : Data.seq vs.toArray _ = Data.dict es ep := d
        cases d2
    have ns2 : ∀ (b : Addr) (m : Str → Option Value), s₁.heap.Ns b m → (hidT s₁.heap H).Ns b m := fun b m ⟨o, es, ep, e, d, r⟩ => ⟨o, es, ep, hidT_get e (dictFree b o es ep e d), d, r⟩
    have KB : K.In (hidT s₁.heap H) := fun b o e => hidT_get (KX b o e) (by
      rcases hH b with z | ⟨z, o2, xs, h2⟩
      · exact z
      · rw [z] at e h2
        rw [hK (by rw [h2]; simp)] at e
        cases e)
    have lim2 : (hidT s₁.heap H).NoLimit := by
      obtain ⟨mc, h1, h2⟩ := hlim
      exact ⟨mc, ns2 _ _ h1, h2⟩
    have e0 : Env0 P w K mg (hidT s₁.heap H) callerA [] s₁ H :=
      ⟨rfl, ⟨KB, ns2 _ _ hns, ⟨mb, ns2 _ _ hb, hbb⟩, lim2⟩, fun b o e => of_hidT e, Nat.le_of_eq (hidT_size _ _), trivial, fun b q => absurd (show b ∈ ([] : List Addr) from q) List.not_mem_nil, hok, .of_eq hg⟩
    refine codeAny_mono ((F _ KB (ns2 _ _ hns)).run callerA [] s₁ H ⟨[.ref a], []⟩ [.ref a] [.ref a] _ _ hr rfl e0 (hbind s₁ (.ref a)) (.cons rfl .nil) hs) fun r s' h => ?_
    cases r with
    | error e => obtain ⟨_, _, _, _, _, _, _, _, _, _, _, _, z⟩ := h; exact z.elim
    | ok fl =>
      cases fl with
      | next => exact False.elim h
      | brk => exact False.elim h
      | cont => exact False.elim h
      | ret u =>
        obtain ⟨v, H', os, bare, un, hok', r', q⟩ := h
        have q' : v = .bl true := q
        rw [q'] at r'
        obtain rfl : u = Value.bool true := r'
        refine ⟨rfl, OldK.of_keep fun b o e => ?_, os, bare⟩
        rcases hH b with z | ⟨_, ob, xs, z⟩
        · exact un.keep b o e z (fun z => absurd (show b ∈ ([] : List Addr) from z) List.not_mem_nil) List.not_mem_nil
        · have z2 := un.frzs b ob _ z
          obtain ⟨e1, _⟩ := hok b _ z
          obtain ⟨e2, _⟩ := hok' b _ z2
          rw [e] at e1
          cases e1
          exact e2
  cases hk : K.lookup a with
  | some o =>
    have e := KX a o hk
    rw [ha] at e
    cases e
    have r3 : ∃ (o : Obj) (its : Array Value) (n : Nat), K.lookup a = some o ∧ o.cls = .type "list" ∧ o.dict = none ∧ o.data = .seq its n ∧ its.size ≤ sizeLine ∧ Vals (ns.map V.int) its.toList := ⟨_, vs.toArray, _, hk, rfl, rfl, rfl, by rw [List.size_toArray, lv]; exact hl, by simpa using rv⟩
    exact go (fun _ => none) (fun _ => .inl rfl) (fun z => absurd rfl z) (fun b u z => by have z2 : (none : Option HO) = some u := z; cases z2) (hsp _ (fun _ => .inl rfl) (.inr r3) (.inr r3))
  | none =>
    have at_a : (fun b => if b = a then some (HO.frz { cls := .type "list", data := .seq vs.toArray } (.lst (ns.map V.int))) else none : Hp) a = some (.frz { cls := .type "list", data := .seq vs.toArray } (.lst (ns.map V.int))) := if_pos rfl
    refine go (fun b => if b = a then some (HO.frz { cls := .type "list", data := .seq vs.toArray } (.lst (ns.map V.int))) else none) (fun b => ?_) (fun _ => hk) (fun b u z => ?_) (hsp _ (fun b => ?_) (.inl (.inr ⟨_, at_a⟩)) (.inl ⟨_, at_a⟩))
    · by_cases hb : b = a
      · exact .inr ⟨hb, _, _, if_pos hb⟩
      · exact .inl (if_neg hb)
    · by_cases hb : b = a
      · have z2 := (if_pos hb).symm.trans z
        cases z2
        subst hb
        exact ⟨ha, by rw [List.length_map]; exact hl, vs, _, rv, ha⟩
      · have z2 := (if_neg hb).symm.trans z
        cases z2
    · by_cases hb : b = a
      · exact .inr ⟨_, _, if_pos hb⟩
      · exact .inl (if_neg hb)
theorem repL_ints {K : PySem.W.Frag} {m : Nat → Addr} {k : Nat} {H : Hp} : ∀ ns : List Int, RepL K m k H (ns.map D.int) (ns.map V.int)
  | [] => RepL.nil
  | n :: ns => RepL.cons rfl (repL_ints ns)
/-- the head's goal, from the law's function on data -/
theorem walkG {l : PySem.W.OpenLaw} {k : Nat} {q : Program} {loose : List Str} {XP : (Str → Option Value) → Heap → Prop} {YP : World → Heap → Prop} {d : DefRec} {K : Params → PySem.W.Frag} {x : Str} {G : Fn} (hn : l.most = some 63) (hdf : d.params.defaults = []) (hr : Room k callerA)
    (hY : ∀ (w : World) (h : Heap), YP w h → (K w.params).In h)
    (F : ∀ (w : World) (mg : Str → Option Value) (fa : Addr) (h : Heap), (K w.params).In h → h.Ns mainGlobals mg → mg d.name = some (.ref fa) →
      ∃ (c : Ct) (fd : FuncData), c.K = K w.params ∧ (∀ (s : Shared) (u : Value), BindsTo s fd ⟨[u], []⟩ [(x, u)]) ∧ ∀ base : Heap, (K w.params).In base → base.Ns mainGlobals mg → FnG l.prog w (K w.params) mg base k fa fd [x] (spD c 1 G))
    (hG : ∀ ns : List Int, ns.length ≤ 63 → ∃ S, G [.ref 0] [.ro (ns.map D.int)] = .ok (.bl true) S) :
    PySem.W.WalkO q loose XP YP l.row.toRowW d [] (fun f vs => PySem.call f vs) := by
  refine Att.attach_callB hn hdf fun w s₀ s₁ mg mb fa o pm cd doc a vs ns GG Y ho hd hcd hmg hobj hints hlen _ hg => ?_
  obtain ⟨c, fd, hc, hb, hF⟩ := F w mg fa _ (hY w _ Y) GG.T.g hmg
  refine law_callG (hY w _ Y) GG.T.g GG.T.b GG.T.builtins GG.T.nolimit hg hobj hints (Nat.le_trans hlen (by decide)) hr hF hb fun H hO hS h3 => ?_
  obtain ⟨T, eT⟩ := hG ns hlen
  refine ⟨fun _ => a, [.ro (ns.map D.int)], [.ref 0], rfl, ⟨fun n ob e => ?_, fun i j o1 o2 e1 e2 k1 k2 z => ?_⟩, RepL.cons ?_ RepL.nil, ?_⟩
  · cases n with
    | zero =>
      cases e
      rw [← hc] at h3
      exact ⟨ns.map V.int, h3, repL_ints ns⟩
    | succ n => cases e
  · cases i with
    | zero => cases e1; exact absurd rfl k1
    | succ i => cases e1
  · unfold Rep
    exact ⟨by show 0 < 1; omega, rfl⟩
  · rw [eT]
    exact fun v m' H' _ _ r => r
end Dl

set_option Elab.async false
set_option linter.all false
set_option maxRecDepth 100000
set_option maxHeartbeats 4000000
namespace Dl
open PySem PySem.Spec L2

/-! ### sorted(d), d's keys ints -/
def insI (x : Int) : List Int → List Int
  | [] => [x]
  | y :: r => if x ≤ y then x :: y :: r else y :: insI x r
def sortI : List Int → List Int
  | [] => []
  | x :: r => insI x (sortI r)
theorem insI_perm (x : Int) : ∀ l : List Int, (insI x l).Perm (x :: l)
  | [] => List.Perm.refl _
  | y :: r => by
    unfold insI
    by_cases h : x ≤ y
    · rw [if_pos h]
    · rw [if_neg h]
      exact ((insI_perm x r).cons y).trans (List.Perm.swap x y r)
theorem sortI_perm : ∀ l : List Int, (sortI l).Perm l
  | [] => List.Perm.refl _
  | x :: r => (insI_perm x _).trans ((sortI_perm r).cons x)
theorem insI_le {x : Int} : ∀ {l : List Int}, l.Pairwise (· ≤ ·) → (insI x l).Pairwise (· ≤ ·)
  | [], _ => by unfold insI; simp
  | y :: r, h => by
    unfold insI
    have h2 := List.pairwise_cons.mp h
    by_cases hxy : x ≤ y
    · rw [if_pos hxy]
      exact List.pairwise_cons.mpr ⟨fun z hz => by
        rcases List.mem_cons.mp hz with rfl | hz
        · exact hxy
        · exact Int.le_trans hxy (h2.1 z hz), h⟩
    · rw [if_neg hxy]
      refine List.pairwise_cons.mpr ⟨fun z hz => ?_, insI_le h2.2⟩
      rcases List.mem_cons.mp ((insI_perm x r).mem_iff.mp hz) with rfl | hz
      · omega
      · exact h2.1 z hz
theorem sortI_le : ∀ l : List Int, (sortI l).Pairwise (· ≤ ·)
  | [] => List.Pairwise.nil
  | x :: r => insI_le (sortI_le r)
theorem sorted_one : ∀ {a b : List Int}, a.Perm b → a.Pairwise (· ≤ ·) → b.Pairwise (· ≤ ·) → a = b
  | [], b, p, _, _ => (List.Perm.nil_eq p)
  | x :: a, [], p, _, _ => absurd p.length_eq (by simp)
  | x :: a, y :: b, p, h1, h2 => by
    have c1 := List.pairwise_cons.mp h1
    have c2 := List.pairwise_cons.mp h2
    have e : x = y := by
      have m1 : x ∈ y :: b := p.mem_iff.mp (List.mem_cons_self ..)
      have m2 : y ∈ x :: a := p.mem_iff.mpr (List.mem_cons_self ..)
      rcases List.mem_cons.mp m1 with h | h
      · exact h
      · rcases List.mem_cons.mp m2 with g | g
        · exact g.symm
        · exact Int.le_antisymm (c1.1 y g) (c2.1 x h)
    subst e
    rw [sorted_one (List.Perm.cons_inv p) c1.2 c2.2]
def intKeys : List (D × D) → Option (List Int)
  | [] => some []
  | p :: r => match p.1 with
    | .int i => (intKeys r).map (i :: ·)
    | _ => none
theorem intKeys_rep {K : PySem.W.Frag} {m : Nat → Addr} {k : Nat} {H : Hp} : ∀ {kvs : List (D × D)} {ws : List (Key × V)} {ks : List Int}, RepKV K m k H kvs ws → intKeys kvs = some ks → ws.map (·.1) = ks.map Sum.inl
  | [], ws, ks, h, e => by cases e; rw [RepKV.nil_iff.mp h]; rfl
  | p :: r, ws, ks, h, e => by
    obtain ⟨q, v, t, rfl, h2, h3, h4⟩ := RepKV.cons_iff.mp h
    unfold intKeys at e
    cases ep : p.1 with
    | int i =>
      rw [ep] at e h2
      dsimp only at e
      cases z : intKeys r with
      | none => rw [z] at e; cases e
      | some js =>
        rw [z] at e
        cases e
        cases h2
        rw [List.map_cons, List.map_cons, intKeys_rep h4 z]
    | non => rw [ep] at h2; cases h2
    | bl _ => rw [ep] at h2; cases h2
    | str _ => rw [ep] at e; cases e
    | tup _ => rw [ep] at h2; cases h2
    | ref _ => rw [ep] at h2; cases h2
def gSorted (S : Store) (xs : List D) : Rs D := match xs with
  | [.ref n] => (match S[n]? with
    | some (.dk kvs) => (match intKeys kvs with
      | some ks => if ks.length < 64 then .ok (.ref S.length) (S ++ [.lst ((sortI ks).map D.int)]) else .stuck
      | none => .stuck)
    | _ => .stuck)
  | _ => .stuck
def rSortedDI : List V → Hp → VK → Prop := fun xs H Q => ∃ (a : Addr) (kvs : List (Key × V)) (ks : List Int), xs = [.ref a] ∧ Rd H a (.dK kvs) ∧ kvs.map (·.1) = ks.map Sum.inl ∧ ks.length < 64 ∧
    ∀ (ys : List Int) (p : Addr), ys.Perm ks → ys.Pairwise (· ≤ ·) → H p = none → Q (.ref p) (L2.upd H p (.lst (ys.map V.int)))
section
variable {X : Cx} {c : Ct} {W : WX}
theorem ol_sorted : OpDL c rSortedDI gSorted := by
  intro m S H x vx Q Z s hx p
  unfold gSorted at p
  split at p
  · rename_i n
    obtain ⟨v, rfl, h⟩ := repL1 hx
    rw [rep_ref h]
    cases o : S[n]? with
    | none => rw [o] at p; exact p.elim
    | some ob =>
      rw [o] at p
      cases ob with
      | dk kvs =>
        dsimp only at p
        obtain ⟨ws, h1, h2⟩ := s.obj n _ o
        cases e : intKeys kvs with
        | none => rw [e] at p; exact p.elim
        | some ks =>
          rw [e] at p
          dsimp only at p
          by_cases hz : ks.length < 64
          · rw [if_pos hz] at p
            refine ⟨_, ws, ks, rfl, .inl h1, intKeys_rep h2 e, hz, fun ys t hp hs ht => ?_⟩
            have ey : ys = sortI ks := sorted_one (hp.trans (sortI_perm ks).symm) hs (sortI_le ks)
            rw [ey]
            exact new_lst s (repL_ints _) p t ht
          · rw [if_neg hz] at p; exact p.elim
      | lst _ => exact p.elim
      | ro _ => exact p.elim
      | dn _ => exact p.elim
      | ins _ _ => exact p.elim
      | fk _ => exact p.elim
  · exact p.elim

/-! ### list(range(e)) -/
def lrgK (d : D) (S : Store) : Rs D := match d with
  | .int n => if -100000 < n ∧ n < 100000 then .ok (.ref S.length) (S ++ [.lst ((List.range n.toNat).map fun (i : Nat) => D.int i)]) else .stuck
  | _ => .stuck
def cLrg (f : DE) : DE := fun e S => (f e S).bind lrgK
theorem rgV_rep {K : PySem.W.Frag} {m : Nat → Addr} {k : Nat} {H : Hp} (n : Int) : RepL K m k H ((List.range n.toNat).map fun (i : Nat) => D.int i) (rgV 0 n) := by
  unfold rgV
  rw [show n - 0 = n by omega]
  have go : ∀ l : List Nat, RepL K m k H (l.map fun (i : Nat) => D.int i) (l.map fun i => V.int (0 + (i : Nat))) := fun l => by
    induction l with
    | nil => exact RepL.nil
    | cons a l ih => exact RepL.cons (show V.int _ = V.int _ by rw [Int.zero_add]) ih
  exact go _
theorem d_listRg {e : Expr} {f : DE} {p pos p2 pos2 : Pos} (hc : X.calm = true) (hg : Gl X "list") (hm : X.mg "list" = none) (hg2 : Gl X "range") (hm2 : X.mg "range" = none) (he : PE X e (tD c W f))
    (na2 : starEach [e] X.env = (false, eval e X.env) :: starEach [] X.env := by rfl) (na : starEach [.Call (.Name "range" p2) [e] [] pos2] X.env = (false, eval (.Call (.Name "range" p2) [e] [] pos2) X.env) :: starEach [] X.env := by rfl) :
    PE X (.Call (.Name "list" p) [.Call (.Name "range" p2) [e] [] pos2] [] pos) (tD c W (cLrg f)) := by
  refine PE.mono (pe_listRg hc hg hm (prg_1 hg2 hm2 he na2) na) fun σ H Q ⟨m, S, ev, A, p⟩ => ?_
  refine bind_at A p fun m1 S1 d v H1 A1 g1 q1 p1 => ?_
  unfold lrgK at p1
  split at p1
  · rename_i n
    by_cases hz : -100000 < n ∧ n < 100000
    · rw [if_pos hz] at p1
      exact ⟨n, q1, ⟨by omega, by omega, by omega, by omega, by omega⟩, fun t ht => new_lst A1.s (rgV_rep n) p1 t ht⟩
    · rw [if_neg hz] at p1; exact p1.elim
  · exact p1.elim

/-! ### (*t, ..) -/
def starK2 (ys : List D) (xs : List D) (S2 : Store) : Rs (List D) := .ok (ys ++ xs) S2
def starK (g : DA) (e : Env) (d : D) (S1 : Store) : Rs (List D) := match d with
  | .tup ys => (g e S1).bind (starK2 ys)
  | _ => .stuck
def aSt (f : DE) (g : DA) : DA := fun e S => (f e S).bind (starK g e)
theorem da_star {e : Expr} {es : List Expr} {f : DE} {g : DA} {p : Pos} (he : PE X e (tD c W f)) (hr : PA X es (tL c W g)) (hs : starEach (.Starred e p :: es) X.env = (true, eval e X.env) :: starEach es X.env := by rfl) (hK : X.K = c.K := by rfl) : PA X (.Starred e p :: es) (tL c W (aSt f g)) := by
  refine PA.mono (StX.pa_star he hr hs) fun σ H Q ⟨m, S, ev, A, p⟩ => ?_
  refine bind_at A p fun m1 S1 d v H1 A1 g1 q1 p1 => ?_
  unfold starK at p1
  split at p1
  · rename_i ys
    obtain ⟨a, vs, rfl, h1, h2⟩ := rep_tup q1
    refine ⟨a, vs, rfl, .inl (by rw [hK]; exact h1), bind_at A1 p1 fun m2 S2 xs ws H2 A2 g2 q2 p2 => ?_⟩
    exact p2.here A2.s (RepL.app (RepL.mono (g2.ext A1.s) _ _ h2) q2)
  · exact p1.elim
/-- a tuple of ints that the text has written -/
theorem rep_written {K : PySem.W.Frag} {a : Addr} {o : Obj} {its : Array Value} {n : Nat} {xs : List Int} (hk : K.lookup a = some o) (hc : o.cls = .type "tuple") (hd : o.data = .seq its n) (hz : its.size ≤ sizeLine) (hv : Vals (xs.map V.int) its.toList) (m : Nat → Addr) (k : Nat) (H : Hp) :
    Rep K m k H (.tup (xs.map D.int)) (.ref a) := by
  unfold Rep
  exact ⟨a, _, rfl, .inr ⟨o, its, n, hk, hc, hd, hz, hv⟩, repL_ints xs⟩
theorem d_globT {x : Str} {a : Addr} {d : D} {pos : Pos} (hg : Gl X x) (hm : X.mg x = some (.ref a)) (r : ∀ m k H, Rep c.K m k H d (.ref a)) (hd : (x == ("__debug__" : Str)) = false := by decide) : PE X (.Name x pos) (tD c W (cC d)) :=
  d_const (pe_glob (v := .ref a) hg hm (show Value.ref a = Value.ref a from rfl) hd) r

/-! ### a, b, c = .. -/
def par3 (i j l : Nat) (e : Env) : List D → Store → Re := fun xs S1 => match xs with
  | [x, y, z] => .nx (((e.set i (some x)).set j (some y)).set l (some z)) S1
  | _ => .stuck
def sPar3 (i j l : Nat) (g : DA) : DS := fun e S => (g e S).to e (par3 i j l e)
theorem s_par3 {i j l : Nat} {x y z : Str} {a b d : Expr} {ga : DA} {px py pz pt pos : Pos} {kt k2 pt2} (hc : X.calm = true) (hN : X.N.Nodup) (hi : X.N[i]? = some x) (hj : X.N[j]? = some y) (hl : X.N[l]? = some z) (hij : i ≠ j) (hil : i ≠ l) (hjl : j ≠ l)
    (hx : X.env.scope.names.lookup x = some .local) (hy : X.env.scope.names.lookup y = some .local) (hz : X.env.scope.names.lookup z = some .local) (ha : PA X [a, b, d] (tL c W ga))
    (hw : swappedStores [.Tuple [.Name x px, .Name y py, .Name z pz] kt pt] (.Tuple [a, b, d] k2 pt2) X.env = pure (some [x, y, z]))
    (hs : swapsWithSole [.Tuple [.Name x px, .Name y py, .Name z pz] kt pt] (.Tuple [a, b, d] k2 pt2) pos.line X.env = pure false := by rfl) :
    PS X (.Assign [.Tuple [.Name x px, .Name y py, .Name z pz] kt pt] (.Tuple [a, b, d] k2 pt2) pos) (tS c W (sPar3 i j l ga)) := by
  refine PS.mono (ps_par3 hc hN hi hj hl hij hil hjl hx hy hz ha hw hs) fun σ H B ⟨m, S, e, A, p⟩ => ?_
  refine to_at A p fun m1 S1 xs vs H1 A1 g1 q1 p1 => ?_
  match xs, p1 with
  | [d1, d2, d3], p1 =>
    obtain ⟨v, r, rfl, h1, q2⟩ := RepL.cons_iff.mp q1
    obtain ⟨v2, v3, rfl, h2, h3⟩ := repL2 q2
    exact ⟨v, v2, v3, rfl, p1 _ m1 H1 ⟨A1.s, ((A1.e.set h1 i).set h2 j).set h3 l⟩ Grow.refl⟩
  | [], p1 => exact p1.elim
  | [_], p1 => exact p1.elim
  | [_, _], p1 => exact p1.elim
  | _ :: _ :: _ :: _ :: _, p1 => exact p1.elim

/-! ### raise X(), try .. except X: .. -/
def sRaise (x : Nat) : DS := fun e S => .exc x e S
theorem pmk_own0 {C : Addr} {bmB : List Value} {B newId initId : String} {x : Str} {p pos : Pos} (F : ExcBaseFacts B newId initId bmB) (q : PySem.W.excIn X.K C bmB newId = true) (gC : X.mg x = some (.ref C)) (kC : PySem.W.keepIn X.K (.ref C) = true) (r : Raises X (.ref C)) (hg : Gl X x)
    (hdb : (x == ("__debug__" : Str)) = false := by decide) : PMk X (.Call (.Name x p) [] [] pos) (fun _ H Q => Q (.ref C) none H) := by
  intro pins s σ H Q I h
  refine wpAny_Call_Name_kw (ld_glob I hg gC ?_ hdb)
  refine PySem.W.callWith_K0 I.kIn kC ?_
  show wpAny _ _ (call (.ref C) []) _ _ _
  obtain ⟨bm, N, nm, qn, bs, hdct, sn, sub, ab, col, dd, k0, k1, k2, k3, k5, mN, hC, hN, hni, T⟩ := exc_obj I.kIn q
  exact wpAny_call_exc_subT F T hC hN hni (fun h' e hm => mk_of I hm r h (I.hok.gone hm.new)) (Nat.zero_le _)
theorem s_raise0 {C : Addr} {bmB : List Value} {B newId initId : String} {x : Str} {p pos pos' : Pos} (k : Nat) (hc : X.calm = true) (tk : Takes X W) (F : ExcBaseFacts B newId initId bmB) (q : PySem.W.excIn X.K C bmB newId = true) (gC : X.mg x = some (.ref C)) (kC : PySem.W.keepIn X.K (.ref C) = true)
    (r : Raises X (.ref C)) (hk : c.exc k = C) (hg : Gl X x) (hdb : (x == ("__debug__" : Str)) = false := by decide) : PS X (.Raise (some (.Call (.Name x p) [] [] pos)) none pos') (tS c W (sRaise k)) := by
  refine PS.mono (ps_raise hc tk (pmk_own0 F q gC kC r hg hdb)) fun σ H B ⟨m, S, e, A, p⟩ => ?_
  have := p σ m H A Grow.refl
  rw [hk] at this
  exact this
def noXS : Re → Re
  | .exc _ _ _ => .stuck
  | r => r
def sTry (cat : Nat → Option Bool) (fb fs : DS) : DS := fun e S => match fb e S with
  | .exc x e1 S1 => (match cat x with
    | some true => noXS (fs e1 S1)
    | some false => .exc x e1 S1
    | none => .stuck)
  | r => r
theorem noXS_post {r : Re} {m : Nat → Addr} {S : Store} {H : Hp} {B : Ends} {W' : WX} (h : PostS c W m S H (noXS r) B) : PostS c W' m S H r B := by
  cases r with
  | exc _ _ _ => exact h.elim
  | nx _ _ => exact h
  | rt _ _ => exact h
  | bk _ _ => exact h
  | ct _ _ => exact h
  | stuck => exact h
theorem s_try {x : Str} {cv : Value} {body suite : List Stmt} {b₀ : Stmt} {np pos pos' : Pos} {fb fs : DS} {cat : Nat → Option Bool} (hs : X.stack = X.env :: X.outer) (hf : X.env.frame = some X.env.locals) (hc : Names X x cv) (tk : Takes X W)
    (hcat : ∀ k b, cat k = some b → PySem.W.exmOne X.K (.ref (c.exc k)) cv = some b)
    (hb : ∀ (W : WX) (pn : List (Addr × Obj)) (xe : Value → Shared → Prop), Takes (X.tr pn xe) W → PassesOwn (model X.prog X.w) X.A X.env xe → PSs (X.tr pn xe) body (tS c W fb))
    (hsu : ∀ (a : Addr) (oe : Obj) (cls : Value) (d : Option Addr) (pn : List (Addr × Obj)), Zc cls d oe → (∃ vs, oe.data = .fields vs) → PSs (X.suite a ((a, oe) :: pn)) (b₀ :: suite) (tS c W0 fs)) :
    PS X (.Try body [.ExceptHandler (some (.Name x np)) none (b₀ :: suite) pos'] [] [] pos) (tS c W (sTry cat fb fs)) := by
  refine PS.mono (ps_try_only (tb := fun W' => tS c W' fb) (ts := fun _ _ _ => tS c W0 fs) hs hf hc tk hb hsu) fun σ H B ⟨m, S, e, A, p⟩ => ⟨m, S, e, A, ?_⟩
  unfold sTry at p
  cases q : fb e S with
  | nx e' S' => rw [q] at p; exact p
  | rt d S' => rw [q] at p; exact p
  | bk e' S' => rw [q] at p; exact p
  | ct e' S' => rw [q] at p; exact p
  | stuck => rw [q] at p; exact p
  | exc k e1 S1 =>
    rw [q] at p
    dsimp only at p
    cases ec : cat k with
    | none => rw [ec] at p; exact p.elim
    | some b =>
      rw [ec] at p
      intro σ' m' H' A' g'
      refine ⟨b, hcat k b ec, fun hb a ha => ?_, fun hb => ?_⟩
      · subst hb
        exact ⟨m', S1, e1, A', noXS_post (PostS.grow g' p)⟩
      · subst hb
        exact p σ' m' H' A' g'

/-! ### repr -/
mutual
theorem rep_reads {pins : List (Addr × Obj)} {σ : L2.St} {H : Hp} {s : Shared} {m : Nat → Addr} {k : Nat} (I : Inv X pins σ H s) : ∀ (d : D) (v : V) (u : Value), d.fine = true → Rep X.K m k H d v → RelV v u → ∃ as, Reads s.heap u d.pd as
  | .non, v, u, _, h, r => by cases h; cases r; exact ⟨_, .none⟩
  | .bl b, v, u, _, h, r => by cases h; cases r; exact ⟨_, .bool b⟩
  | .int i, v, u, _, h, r => by cases h; obtain ⟨t, rfl⟩ := r; exact ⟨_, .int i t⟩
  | .str z, v, u, _, h, r => by cases h; obtain ⟨t, rfl⟩ := r; exact ⟨_, .str _ t⟩
  | .ref n, v, u, p, h, r => by unfold D.fine at p; exact Bool.noConfusion p
  | .tup xs, v, u, p, h, r => by
    obtain ⟨a, vs, rfl, h1, h2⟩ := rep_tup h
    cases r
    obtain ⟨its, r1, ⟨o, e1, e2, n, e3⟩, _⟩ := I.tuple h1
    unfold D.fine at p
    obtain ⟨as, hr⟩ := rep_readsL I xs vs its p h2 r1
    unfold D.pd
    exact ⟨as, .tuple e1 e2 e3 (by simpa using hr)⟩
theorem rep_readsL {pins : List (Addr × Obj)} {σ : L2.St} {H : Hp} {s : Shared} {m : Nat → Addr} {k : Nat} (I : Inv X pins σ H s) : ∀ (ds : List D) (vs : List V) (us : List Value), D.fineL ds = true → RepL X.K m k H ds vs → Vals vs us → ∃ as, ReadsAll s.heap us (D.pdL ds) as
  | [], vs, us, _, h, r => by rw [RepL.nil_iff.mp h] at r; cases r; exact ⟨_, .nil⟩
  | d :: ds, vs, us, p, h, r => by
    unfold D.fineL at p
    have p := Bool.and_eq_true_iff.mp p
    obtain ⟨v, t, rfl, h1, h2⟩ := RepL.cons_iff.mp h
    cases r with
    | cons r1 r2 =>
      obtain ⟨as, a1⟩ := rep_reads I d v _ p.1 h1 r1
      obtain ⟨bs, b1⟩ := rep_readsL I ds t _ p.2 h2 r2
      exact ⟨_, .cons a1 b1⟩
end
mutual
theorem pd_noDict : ∀ x : D, x.pd.hasDict = false
  | .ref _ => rfl
  | .non => rfl
  | .bl _ => rfl
  | .int _ => rfl
  | .str s => rfl
  | .tup xs => by unfold D.pd PyData.hasDict; exact pd_noDictL xs
theorem pd_noDictL : ∀ xs : List D, PyData.hasDictAll (D.pdL xs) = false
  | [] => rfl
  | x :: xs => by unfold D.pdL PyData.hasDictAll; rw [pd_noDict x, pd_noDictL xs]; rfl
end
/-- what its repr is -/
def shw (d : PyData) : List Nat := d.shown.cps.toList
def gRepr (S : Store) (xs : List D) : Rs D := match xs with
  | [x] => (match view S x with
    | some a => if a.2.good = true ∧ (vpd a).showable = true ∧ (vpd a).shown.length ≤ 100000 then .ok (.str (shw (vpd a))) S else .stuck
    | none => .stuck)
  | _ => .stuck
def rReprD (c : Ct) : List V → Hp → VK → Prop := fun xs H Q => ∃ m S x v a, xs = [v] ∧ SRel c m S H ∧ Rep c.K m S.length H x v ∧ view S x = some a ∧ a.2.good = true ∧ (vpd a).showable = true ∧ (vpd a).shown.length ≤ 100000 ∧ Q (.str (vpd a).shown) H
theorem call_reprD (hu : X.A.units + 64 < cLine) (hg : X.A.guards = some []) (hK : X.K = c.K := by rfl) : CallR X (.builtin "repr") (rReprD c) := by
  intro pins s σ H xs us Q I r h
  obtain ⟨m, S, x, v, a, rfl, sr, hx, hv, hgd, hsh, hl, q⟩ := h
  obtain ⟨u, rfl, ru⟩ := vals1 r
  have fl : (vpd a).shown.length ≤ sizeLine := Nat.le_of_lt (small5 hl)
  have fin : ∀ (h' : Heap) (u' : Tok) (tk : Nat), (∀ b o, s.heap.get? b = some o → h'.get? b = some o) → EP X pins σ Q (.str (vpd a).shown u') { s with heap := h', toks := tk } := fun h' u' tk hk => ⟨.str (vpd a).shown, H, I.kept hk, ⟨_, rfl⟩, q⟩
  have hfine : a.2.fine = true := good_fine hgd
  have hdeep : a.2.deep ≤ 60 := good_deep hgd
  rw [← hK] at hx
  cases x with
  | non =>
    cases hv
    cases hx
    cases ru
    exact P.repr_of_none ⟨.str _, H, I.tok _, ⟨_, rfl⟩, q⟩
  | bl b =>
    cases hv
    cases hx
    cases ru
    refine P.repr_of_bool ⟨.str (vpd (false, D.bl b)).shown, H, I.tok _, ⟨s.toks, ?_⟩, q⟩
    cases b <;> rfl
  | int i =>
    cases hv
    cases hx
    obtain ⟨t, rfl⟩ := ru
    exact P.repr_of_int (of_decide_eq_true hsh) ⟨.str _, H, I.tok _, ⟨_, rfl⟩, q⟩
  | str z =>
    cases hv
    cases hx
    obtain ⟨t, rfl⟩ := ru
    exact P.repr_of_str ⟨.str _, H, I.tok _, ⟨_, rfl⟩, q⟩ (hsz := fl)
  | tup ys =>
    cases hv
    obtain ⟨as, hr⟩ := rep_reads I _ _ _ hfine hx ru
    obtain ⟨b, vs, rfl, _, _⟩ := rep_tup hx
    cases ru
    refine repr_of_reads' hr hsh (PyData.noDict_hsm (pd_noDict _)) hg ?_ (fun _ _ e => e) fin (hsz := fl)
    rw [pd_depth]
    have : (D.tup ys).deep ≤ 60 := hdeep
    omega
  | ref n =>
    have ls : ∀ ys : List D, a = (true, .tup ys) → (∃ ws, SqL X.K H (m n) ws ∧ RepL X.K m S.length H ys ws) → wpAny (model X.prog X.w) X.A (call (.builtin "repr") [u]) (EP X pins σ Q) X.xe s := fun ys ea ⟨ws, h1, h2⟩ => by
      subst ea
      rw [rep_ref hx] at ru
      cases ru
      obtain ⟨its, r1, ⟨o, n2, e1, e2, _, e3⟩, _⟩ := I.list h1
      have hfine : D.fineL ys = true := by unfold D.fine at hfine; exact hfine
      obtain ⟨as, hr⟩ := rep_readsL I ys ws its hfine h2 r1
      have hrr : Reads s.heap (.ref (m n)) (.list (D.pdL ys)) (m n :: as) := .list e1 e2 e3 (by simpa using hr)
      refine repr_of_reads' hrr hsh (PyData.noDict_hsm ?_) hg ?_ (fun _ _ e => e) fin (hsz := fl)
      · show PyData.hasDict (.list (D.pdL ys)) = false
        unfold PyData.hasDict
        exact pd_noDictL ys
      · have hd : (D.tup ys).deep ≤ 60 := hdeep
        unfold D.deep at hd
        show X.A.units + (PyData.depth (.list (D.pdL ys)) + 1) < cLine
        unfold PyData.depth
        rw [pd_depthL]
        omega
    dsimp only [view] at hv
    cases o : S[n]? with
    | none => rw [o] at hv; cases hv
    | some ob =>
      rw [o] at hv
      cases ob with
      | lst ys => cases hv; exact ls ys rfl (by rw [hK]; exact sr.list (.inl o))
      | ro ys => cases hv; exact ls ys rfl (by rw [hK]; exact sr.list (.inr o))
      | dk _ => cases hv
      | dn _ => cases hv
      | ins _ _ => cases hv
      | fk _ => cases hv
theorem ol_repr : OpDL c (rReprD c) gRepr := by
  intro m S H x vx Q Z s hx p
  unfold gRepr at p
  split at p
  · rename_i y
    obtain ⟨v, rfl, h⟩ := repL1 hx
    cases e : view S y with
    | none => rw [e] at p; exact p.elim
    | some a =>
      rw [e] at p
      dsimp only at p
      by_cases hz : a.2.good = true ∧ (vpd a).showable = true ∧ (vpd a).shown.length ≤ 100000
      · rw [if_pos hz] at p
        refine ⟨m, S, y, v, a, rfl, s, h, e, hz.1, hz.2.1, hz.2.2, p.here s ?_⟩
        show V.str _ = V.str _
        unfold shw
        simp
      · rw [if_neg hz] at p; exact p.elim
  · exact p.elim
/-- == of texts -/
def gEqS : Store → D → D → Rs D := fun S x y => match x, y with
  | .str a, .str b => .ok (.bl (decide (a = b))) S
  | _, _ => .stuck
theorem od_eqS : OpD c rEq gEqS := by
  intro m S H x y vx vy Q Z s hx hy p
  unfold gEqS at p
  split at p
  · rename_i a b
    cases hx
    cases hy
    refine ⟨rfl, ?_⟩
    have e : decide ((V.str ⟨a.toArray⟩ : V) = V.str ⟨b.toArray⟩) = decide (a = b) := by
      by_cases h : a = b
      · subst h; simp
      · rw [decide_eq_false h, decide_eq_false fun z => h (by injection z with z; injection z with z; exact congrArg Array.toList z)]
    rw [e]
    exact p.here s rfl
  · exact p.elim
end

/-! ### what a block takes from around it -/
def FreeIn (sc : Scope) (l : List (Str × NameKind)) : Prop := ∀ y ∈ l, y.2 = .free → sc.names.lookup y.1 = some .cell ∨ sc.names.lookup y.1 = some .free
theorem fr_nil {sc : Scope} : FreeIn sc [] := fun y hy => absurd hy List.not_mem_nil
theorem fr_skip {sc : Scope} {x : Str} {k : NameKind} {r : List (Str × NameKind)} (h : k ≠ .free) (t : FreeIn sc r) : FreeIn sc ((x, k) :: r) := fun y hy hf => by
  rcases List.mem_cons.mp hy with e | hy
  · subst e; exact absurd hf h
  · exact t y hy hf
theorem fr_take {sc : Scope} {x : Str} {k : NameKind} {r : List (Str × NameKind)} (h : sc.names.lookup x = some .cell ∨ sc.names.lookup x = some .free) (t : FreeIn sc r) : FreeIn sc ((x, k) :: r) := fun y hy hf => by
  rcases List.mem_cons.mp hy with e | hy
  · subst e; exact h
  · exact t y hy hf
end Dl

set_option Elab.async false
set_option linter.all false
set_option maxRecDepth 100000
set_option maxHeartbeats 4000000
/-! Evaluation of the data functions. -/
namespace Dl
/-- S' is S with more behind it -/
def Pre (S S' : Store) : Prop := ∃ G, S' = S ++ G
theorem Pre.refl (S : Store) : Pre S S := ⟨[], (List.append_nil S).symm⟩
theorem Pre.trans {S S1 S2 : Store} (h : Pre S S1) (g : Pre S1 S2) : Pre S S2 := by
  obtain ⟨G, rfl⟩ := h
  obtain ⟨G2, rfl⟩ := g
  exact ⟨G ++ G2, List.append_assoc ..⟩
theorem Pre.push (S : Store) (o : DO) : Pre S (S ++ [o]) := ⟨[o], rfl⟩
theorem Pre.get {S S' : Store} {n : Nat} {o : DO} (h : Pre S S') (e : S[n]? = some o) : S'[n]? = some o := by
  obtain ⟨G, rfl⟩ := h
  rw [List.getElem?_append_left (lt_of_get e)]
  exact e
theorem Pre.len {S S' : Store} (h : Pre S S') : S.length ≤ S'.length := by
  obtain ⟨G, rfl⟩ := h
  simp
/-- a def that is handed no object and gives none -/
structure Ev (F : Fn) (ds : List D) (d : D) : Prop where
  pin : D.pureL ds = true
  out : d.pure = true
  ev : ∃ T, F ds [] = .ok d T
theorem Ev.run {F : Fn} {ds : List D} {d : D} (h : Ev F ds d) (S : Store) : runF F S ds = .ok d S := by
  obtain ⟨T, e⟩ := h.ev
  unfold runF
  rw [if_pos h.pin, e]
  dsimp only
  rw [if_pos h.out]
/-- .. that raises -/
theorem runF_exc {F : Fn} {ds : List D} {x : Nat} {T : Store} (h : D.pureL ds = true) (e : F ds [] = .exc x T) (S : Store) : runF F S ds = .exc x S := by
  unfold runF
  rw [if_pos h, e]
theorem runF_ref {F : Fn} {ds : List D} (h : D.pureL ds = false) (S : Store) : runF F S ds = F ds S := by
  unfold runF
  rw [if_neg (by rw [h]; decide)]
theorem fn_rt {n : Nat} {b : DS} {ds : List D} {S S' : Store} {d : D} (h : b (ds.map some ++ List.replicate (n - ds.length) none) S = .rt d S') : fnD n b ds S = .ok d S' := by
  unfold fnD
  rw [h]
theorem fn_exc {n : Nat} {b : DS} {ds : List D} {S S' : Store} {x : Nat} {e : Env} (h : b (ds.map some ++ List.replicate (n - ds.length) none) S = .exc x e S') : fnD n b ds S = .exc x S' := by
  unfold fnD
  rw [h]
section
variable {e e1 e2 : Env} {S S1 S2 S3 : Store} {f f1 f2 : DE} {g : DA} {x y d : D} {xs ds : List D} {n : Nat} {F : Fn} {t : DT} {b : Bool}
theorem ev_fn (h : g e S = .ok ds S1) (hl : ds.length = n) (E : Ev F ds d) : cFn n F g e S = .ok d S1 := by
  unfold cFn
  rw [h]
  show (if ds.length = n then runF F S1 ds else .stuck) = _
  rw [if_pos hl]
  exact E.run S1
theorem ev_aC (h : f e S = .ok x S1) (h2 : g e S1 = .ok xs S2) : aC f g e S = .ok (x :: xs) S2 := by
  unfold aC
  rw [h]
  show (g e S1).bind _ = _
  rw [h2]
  rfl
theorem ev_aN : aN e S = .ok [] S := rfl
theorem ev_op2 {gg : Store → D → D → Rs D} (h : f1 e S = .ok x S1) (h2 : f2 e S1 = .ok y S2) : cOp2 gg f1 f2 e S = gg S2 x y := by
  unfold cOp2
  rw [h]
  show (f2 e S1).bind _ = _
  rw [h2]
  rfl
theorem ev_call {gg : Store → List D → Rs D} (h : g e S = .ok xs S1) : cCall gg g e S = gg S1 xs := by
  unfold cCall
  rw [h]
  rfl
theorem ev_tup (h : g e S = .ok xs S1) (hl : xs.length ≤ 100000) : cTup g e S = .ok (.tup xs) S1 := by
  unfold cTup
  rw [h]
  show (if xs.length ≤ 100000 then Rs.ok (D.tup xs) S1 else .stuck) = _
  rw [if_pos hl]
theorem ev_lst (h : g e S = .ok xs S1) (hl : xs.length ≤ 100000) : cLst g e S = .ok (.ref S1.length) (S1 ++ [.lst xs]) := by
  unfold cLst
  rw [h]
  show (if xs.length ≤ 100000 then Rs.ok (D.ref S1.length) (S1 ++ [.lst xs]) else .stuck) = _
  rw [if_pos hl]
theorem ev_kB (h : f e S = .ok (.bl b) S1) : kB f e S = .ok b S1 := by
  unfold kB
  rw [h]
  rfl
theorem ev_ifE (h : t e S = .ok b S1) : cIfE t f1 f2 e S = if b = true then f1 e S1 else f2 e S1 := by
  unfold cIfE
  rw [h]
  rfl
theorem ev_not (h : f e S = .ok (.bl b) S1) : cNot f e S = .ok (.bl (!b)) S1 := by
  unfold cNot
  rw [h]
  rfl
theorem ev_and (h : f1 e S = .ok (.bl b) S1) : cAnd f1 f2 e S = if b = true then f2 e S1 else .ok (.bl false) S1 := by
  unfold cAnd
  rw [h]
  cases b <;> rfl
theorem ev_or (h : f1 e S = .ok (.bl b) S1) : cOr f1 f2 e S = if b = true then .ok (.bl true) S1 else f2 e S1 := by
  unfold cOr
  rw [h]
  cases b <;> rfl
theorem ev_kNot (h : t e S = .ok b S1) : kNot t e S = .ok (!b) S1 := by
  unfold kNot
  rw [h]
  rfl
variable {t2 : DT} {u u2 : DS}
theorem ev_kAnd (h : t e S = .ok b S1) : kAnd t t2 e S = if b = true then t2 e S1 else .ok false S1 := by
  unfold kAnd
  rw [h]
  rfl
theorem ev_kOr (h : t e S = .ok b S1) : kOr t t2 e S = if b = true then .ok true S1 else t2 e S1 := by
  unfold kOr
  rw [h]
  rfl
theorem ev_seq (h : u e S = .nx e1 S1) : sSeq u u2 e S = u2 e1 S1 := by
  unfold sSeq
  rw [h]
theorem ev_seq_rt (h : u e S = .rt d S1) : sSeq u u2 e S = .rt d S1 := by
  unfold sSeq
  rw [h]
theorem ev_if (h : t e S = .ok b S1) : sIf t u u2 e S = if b = true then u e S1 else u2 e S1 := by
  unfold sIf
  rw [h]
  rfl
theorem ev_ret (h : f e S = .ok d S1) : sRet f e S = .rt d S1 := by
  unfold sRet
  rw [h]
  rfl
theorem ev_drop (h : f e S = .ok d S1) : sDrop f e S = .nx e S1 := by
  unfold sDrop
  rw [h]
  rfl
theorem ev_set {i : Nat} (h : f e S = .ok d S1) : sSet i f e S = .nx (e.set i (some d)) S1 := by
  unfold sSet
  rw [h]
  rfl
theorem ev_asg {gt : DG} (h : f e S = .ok d S1) (h2 : gt d e S1 = .ok e2 S2) : sAsgG f gt e S = .nx e2 S2 := by
  unfold sAsgG
  rw [h]
  show ((gt d e S1).noX).to e _ = _
  rw [h2]
  rfl
/-! ### loops -/
theorem while_inv {R : D → Store → Prop} {Q : Env → Store → Prop} (P : Nat → Env → Store → Prop)
    (step : ∀ m e S, P m e S → (∃ S1, t e S = .ok false S1 ∧ Q e S1) ∨ ∃ S1, t e S = .ok true S1 ∧ ((∃ e2 S2 m2, u e S1 = .nx e2 S2 ∧ m2 < m ∧ P m2 e2 S2) ∨ ∃ d S2, u e S1 = .rt d S2 ∧ R d S2)) :
    ∀ n m e S, P m e S → m < n → (∃ e' S', whileD n t u e S = .nx e' S' ∧ Q e' S') ∨ ∃ d S', whileD n t u e S = .rt d S' ∧ R d S'
  | 0, m, _, _, _, h => absurd h (Nat.not_lt_zero m)
  | n + 1, m, e, S, p, h => by
    unfold whileD
    rcases step m e S p with ⟨S1, a, q⟩ | ⟨S1, a, q⟩
    · rw [a]
      exact .inl ⟨e, S1, rfl, q⟩
    · rw [a]
      rcases q with ⟨e2, S2, m2, b, lt, p2⟩ | ⟨d, S2, b, r⟩
      · have ih := while_inv P step n m2 e2 S2 p2 (by omega)
        show (∃ e' S', (match u e S1 with | .nx e2 S2 => whileD n t u e2 S2 | .ct e2 S2 => whileD n t u e2 S2 | .bk e2 S2 => .nx e2 S2 | r => r) = .nx e' S' ∧ Q e' S') ∨ ∃ d S', (match u e S1 with | .nx e2 S2 => whileD n t u e2 S2 | .ct e2 S2 => whileD n t u e2 S2 | .bk e2 S2 => .nx e2 S2 | r => r) = .rt d S' ∧ R d S'
        rw [b]
        exact ih
      · refine .inr ⟨d, S2, ?_, r⟩
        show (match u e S1 with | .nx e2 S2 => whileD n t u e2 S2 | .ct e2 S2 => whileD n t u e2 S2 | .bk e2 S2 => .nx e2 S2 | r => r) = .rt d S2
        rw [b]
theorem for_inv {R : D → Store → Prop} {src : Src} {gt : DG} (N : Nat) (P : Nat → Env → Store → Prop) (stop : ∀ e S, P N e S → src.at S N = none)
    (step : ∀ i e S, i < N → P i e S → ∃ d e1 S0, src.at S i = some d ∧ gt d e S = .ok e1 S0 ∧ ((∃ e2 S2, u e1 S0 = .nx e2 S2 ∧ P (i + 1) e2 S2) ∨ ∃ d S2, u e1 S0 = .rt d S2 ∧ R d S2)) :
    ∀ n i e S, P i e S → i ≤ N → N < n + i → (∃ e' S', forD n src gt u i e S = .nx e' S' ∧ P N e' S') ∨ ∃ d S', forD n src gt u i e S = .rt d S' ∧ R d S'
  | 0, i, _, _, _, h, h2 => by omega
  | n + 1, i, e, S, p, h, h2 => by
    unfold forD
    by_cases hi : i < N
    · obtain ⟨d, e1, S0, a, b, q⟩ := step i e S hi p
      rw [a]
      dsimp only
      rw [b]
      show (∃ e' S', (match u e1 S0 with | .nx e2 S2 => forD n src gt u (i + 1) e2 S2 | .ct e2 S2 => forD n src gt u (i + 1) e2 S2 | .bk e2 S2 => .nx e2 S2 | r => r) = .nx e' S' ∧ P N e' S') ∨ ∃ d S', (match u e1 S0 with | .nx e2 S2 => forD n src gt u (i + 1) e2 S2 | .ct e2 S2 => forD n src gt u (i + 1) e2 S2 | .bk e2 S2 => .nx e2 S2 | r => r) = .rt d S' ∧ R d S'
      rcases q with ⟨e2, S2, z, p2⟩ | ⟨d, S2, z, r⟩
      · rw [z]
        exact for_inv N P stop step n (i + 1) e2 S2 p2 hi (by omega)
      · rw [z]
        exact .inr ⟨d, S2, rfl, r⟩
    · have e0 : i = N := by omega
      subst e0
      rw [stop e S p]
      exact .inl ⟨e, S, rfl, p⟩
theorem fuel_big {n : Nat} (h : n < 100000) : n < FUEL + 0 := by unfold FUEL; omega
/-- a for, behind its iterable -/
theorem ev_for {R : D → Store → Prop} {fi : DI} {src : Src} {gt : DG} (N : Nat) (P : Nat → Env → Store → Prop) (h : fi e S = .ok src S1) (hN : N < 100000) (p0 : P 0 e S1) (stop : ∀ e S, P N e S → src.at S N = none)
    (step : ∀ i e S, i < N → P i e S → ∃ d e1 S0, src.at S i = some d ∧ gt d e S = .ok e1 S0 ∧ ((∃ e2 S2, u e1 S0 = .nx e2 S2 ∧ P (i + 1) e2 S2) ∨ ∃ d S2, u e1 S0 = .rt d S2 ∧ R d S2)) :
    (∃ e' S', sFor fi gt u e S = .nx e' S' ∧ P N e' S') ∨ ∃ d S', sFor fi gt u e S = .rt d S' ∧ R d S' := by
  unfold sFor
  rw [h]
  exact for_inv N P stop step FUEL 0 e S1 p0 (Nat.zero_le _) (fuel_big hN)
/-- a for that does not return -/
theorem ev_forN {fi : DI} {src : Src} {gt : DG} (N : Nat) (P : Nat → Env → Store → Prop) (h : fi e S = .ok src S1) (hN : N < 100000) (p0 : P 0 e S1) (stop : ∀ e S, P N e S → src.at S N = none)
    (step : ∀ i e S, i < N → P i e S → ∃ d e1 S0 e2 S2, src.at S i = some d ∧ gt d e S = .ok e1 S0 ∧ u e1 S0 = .nx e2 S2 ∧ P (i + 1) e2 S2) : ∃ e' S', sFor fi gt u e S = .nx e' S' ∧ P N e' S' := by
  rcases ev_for (R := fun _ _ => False) N P h hN p0 stop (fun i e S hi p => by
    obtain ⟨d, e1, S0, e2, S2, a, b, z, p2⟩ := step i e S hi p
    exact ⟨d, e1, S0, a, b, .inl ⟨e2, S2, z, p2⟩⟩) with h | ⟨_, _, _, h⟩
  · exact h
  · exact h.elim
theorem ev_whileN {Q : Env → Store → Prop} (M : Nat) (P : Nat → Env → Store → Prop) (hM : M < 100000) (p0 : P M e S)
    (step : ∀ m e S, P m e S → (∃ S1, t e S = .ok false S1 ∧ Q e S1) ∨ ∃ S1 e2 S2 m2, t e S = .ok true S1 ∧ u e S1 = .nx e2 S2 ∧ m2 < m ∧ P m2 e2 S2) : ∃ e' S', sWhile t u e S = .nx e' S' ∧ Q e' S' := by
  rcases while_inv (R := fun _ _ => False) (Q := Q) P (fun m e S p => by
    rcases step m e S p with h | ⟨S1, e2, S2, m2, a, b, c, d⟩
    · exact .inl h
    · exact .inr ⟨S1, a, .inl ⟨e2, S2, m2, b, c, d⟩⟩) FUEL M e S p0 (by have := fuel_big hM; omega) with h | ⟨_, _, _, h⟩
  · exact h
  · exact h.elim
/-- .. that returns -/
theorem ev_whileR {Q : Env → Store → Prop} {R : D → Store → Prop} (M : Nat) (P : Nat → Env → Store → Prop) (hM : M < 100000) (p0 : P M e S)
    (step : ∀ m e S, P m e S → (∃ S1, t e S = .ok false S1 ∧ Q e S1) ∨ ∃ S1, t e S = .ok true S1 ∧ ((∃ e2 S2 m2, u e S1 = .nx e2 S2 ∧ m2 < m ∧ P m2 e2 S2) ∨ ∃ d S2, u e S1 = .rt d S2 ∧ R d S2)) :
    (∃ e' S', sWhile t u e S = .nx e' S' ∧ Q e' S') ∨ ∃ d S', sWhile t u e S = .rt d S' ∧ R d S' :=
  while_inv P step FUEL M e S p0 (by have := fuel_big hM; omega)

/-! ### comprehensions -/
theorem take_put {ks : List (Option D)} {i : Nat} {o : Option D} (h : ks[i]? = some o) : (ks.take (i + 1)).filterMap id = (ks.take i).filterMap id ++ o.toList := by
  rw [List.take_add_one, h]
  cases o <;> simp
theorem lc_go {src : Src} {gt : DG} {tt : DT} {te : DE} {e0 : Env} {S1 : Store} {ds : List D} {ks : List (Option D)} (hlen : ks.length = ds.length) (hb : ds.length < 100000)
    (hs : ∀ (S : Store) (i : Nat), Pre S1 S → src.at S i = ds[i]?)
    (hx : ∀ (i : Nat) (d : D) (S : Store), ds[i]? = some d → Pre S1 S → ∃ e1 S0 S2, gt d e0 S = .ok e1 S0 ∧ Pre S S0 ∧ Pre S0 S2 ∧ ((tt e1 S0 = .ok false S2 ∧ ks[i]? = some none) ∨ (tt e1 S0 = .ok true S2 ∧ ∃ y S3, ks[i]? = some (some y) ∧ te e1 S2 = .ok y S3 ∧ Pre S2 S3))) :
    ∀ (n i : Nat) (S : Store), i ≤ ds.length → ds.length < n + i → (∃ G, S = S1 ++ .lst ((ks.take i).filterMap id) :: G) → ∃ G, lcD n src gt tt te S1.length e0 i S = .ok (.ref S1.length) (S1 ++ .lst (ks.filterMap id) :: G)
  | 0, i, _, h, h2, _ => by omega
  | n + 1, i, S, h, h2, ⟨G, e⟩ => by
    have pS : Pre S1 S := ⟨_, e⟩
    unfold lcD
    rw [hs S i pS]
    by_cases hi : i < ds.length
    · have e1 : ds[i]? = some ds[i] := List.getElem?_eq_getElem hi
      rw [e1]
      obtain ⟨en, S0, S2, a, pa, pb, q⟩ := hx i _ S e1 pS
      dsimp only
      rw [a]
      dsimp only [Rs.noX, Rs.bind]
      rcases q with ⟨b, ek⟩ | ⟨b, y, S3, ek, c, pc⟩
      · rw [b]
        dsimp only [Rs.noX, Rs.bind]
        rw [if_neg (by decide)]
        refine lc_go hlen hb hs hx n (i + 1) S2 hi (by omega) ?_
        obtain ⟨G', e'⟩ := pa.trans pb
        exact ⟨G ++ G', by rw [e', e, take_put ek]; simp⟩
      · rw [b]
        dsimp only [Rs.noX, Rs.bind]
        rw [if_pos rfl, c]
        dsimp only [Rs.noX, Rs.bind]
        obtain ⟨G3, e3⟩ : ∃ G3, S3 = S1 ++ .lst ((ks.take i).filterMap id) :: G3 := by
          obtain ⟨G', e'⟩ := pa.trans (pb.trans pc)
          exact ⟨G ++ G', by rw [e', e]; simp⟩
        have at3 : S3[S1.length]? = some (.lst ((ks.take i).filterMap id)) := by rw [e3]; simp
        have hl : ((ks.take i).filterMap id).length < 100000 := by
          have q1 : ((ks.take i).filterMap id).length ≤ (ks.take i).length := List.length_filterMap_le ..
          rw [List.length_take] at q1
          omega
        have ad : addTo S1.length y S3 = some (S3.set S1.length (.lst ((ks.take i).filterMap id ++ [y]))) := by
          unfold addTo
          rw [at3]
          dsimp only
          rw [if_pos hl]
        rw [ad]
        dsimp only
        refine lc_go hlen hb hs hx n (i + 1) _ hi (by omega) ⟨G3, ?_⟩
        rw [e3, take_put ek]
        simp
    · have e0 : ds[i]? = none := List.getElem?_eq_none (by omega)
      rw [e0]
      refine ⟨G, ?_⟩
      rw [e, List.take_of_length_le (by omega)]
/-- a comprehension whose ifs and elements leave what stands -/
theorem ev_lcF {fi : DI} {src : Src} {gt : DG} {tt : DT} {te : DE} {us : List Nat} {e : Env} {S S1 : Store} {ds : List D} {ks : List (Option D)} (h : fi e S = .ok src S1) (hlen : ks.length = ds.length) (hb : ds.length < 100000)
    (hs : ∀ (S : Store) (i : Nat), Pre S1 S → src.at S i = ds[i]?)
    (hx : ∀ (i : Nat) (d : D) (S : Store), ds[i]? = some d → Pre S1 S → ∃ e1 S0 S2, gt d (wipeE e us) S = .ok e1 S0 ∧ Pre S S0 ∧ Pre S0 S2 ∧ ((tt e1 S0 = .ok false S2 ∧ ks[i]? = some none) ∨ (tt e1 S0 = .ok true S2 ∧ ∃ y S3, ks[i]? = some (some y) ∧ te e1 S2 = .ok y S3 ∧ Pre S2 S3))) :
    ∃ G, cLc fi gt tt te us e S = .ok (.ref S1.length) (S1 ++ .lst (ks.filterMap id) :: G) := by
  unfold cLc
  rw [h]
  exact lc_go hlen hb hs hx FUEL 0 _ (Nat.zero_le _) (fuel_big hb) ⟨[], rfl⟩
theorem filterMap_some (ys : List D) : (ys.map some).filterMap id = ys := by
  induction ys with
  | nil => rfl
  | cons y ys ih => simp
/-- .. without ifs -/
theorem ev_lc {fi : DI} {src : Src} {gt : DG} {te : DE} {us : List Nat} {e : Env} {S S1 : Store} {ds ys : List D} (h : fi e S = .ok src S1) (hlen : ys.length = ds.length) (hb : ds.length < 100000)
    (hs : ∀ (S : Store) (i : Nat), Pre S1 S → src.at S i = ds[i]?)
    (hx : ∀ (i : Nat) (d y : D) (S : Store), ds[i]? = some d → ys[i]? = some y → Pre S1 S → ∃ e1 S3, gt d (wipeE e us) S = .ok e1 S ∧ te e1 S = .ok y S3 ∧ Pre S S3) :
    ∃ G, cLc fi gt kYes te us e S = .ok (.ref S1.length) (S1 ++ .lst ys :: G) := by
  have := ev_lcF (tt := kYes) (te := te) (gt := gt) (us := us) (ks := ys.map some) h (by rw [List.length_map]; exact hlen) hb hs (fun i d S hd hp => by
    have hi : i < ys.length := by rw [hlen]; exact lt_of_get hd
    obtain ⟨e1, S3, a, b, c⟩ := hx i d ys[i] S hd (List.getElem?_eq_getElem hi) hp
    exact ⟨e1, S, S, a, Pre.refl _, Pre.refl _, .inr ⟨rfl, ys[i], S3, by rw [List.getElem?_map, List.getElem?_eq_getElem hi]; rfl, b, c⟩⟩)
  rw [filterMap_some] at this
  exact this
/-- .. in a tuple() -/
theorem ev_tuple_of {f : DE} {e : Env} {S S1 : Store} {n : Nat} {ys : List D} (h : f e S = .ok (.ref n) S1) (hn : S1[n]? = some (.lst ys)) : cCall gTuple (aC f aN) e S = .ok (.tup ys) S1 := by
  rw [ev_call (ev_aC h ev_aN)]
  dsimp only [gTuple]
  rw [hn]
theorem ev_len_ref {f : DE} {e : Env} {S S1 : Store} {n : Nat} {ys : List D} (h : f e S = .ok (.ref n) S1) (hn : S1[n]? = some (.lst ys)) : cCall gLen (aC f aN) e S = .ok (.int ys.length) S1 := by
  rw [ev_call (ev_aC h ev_aN)]
  dsimp only [gLen]
  rw [hn]
theorem blsOf_map (bs : List Bool) : blsOf (bs.map D.bl) = some bs := by
  induction bs with
  | nil => rfl
  | cons b bs ih => rw [List.map_cons]; unfold blsOf; rw [ih]; rfl
theorem ev_all {f : DE} {e : Env} {S S1 : Store} {n : Nat} {bs : List Bool} (h : f e S = .ok (.ref n) S1) (hn : S1[n]? = some (.lst (bs.map .bl))) : cCall gAll (aC f aN) e S = .ok (.bl (bs.all id)) S1 := by
  rw [ev_call (ev_aC h ev_aN)]
  dsimp only [gAll, seqOf]
  rw [hn]
  dsimp only [Option.bind]
  rw [blsOf_map]
theorem at_new {S : Store} {o : DO} {G : Store} : (S ++ o :: G)[S.length]? = some o := by simp
/-- what is walked: a tuple, or a list that stays -/
theorem src_fix {ds : List D} (S1 : Store) : ∀ (S : Store) (i : Nat), Pre S1 S → (Src.fix ds).at S i = ds[i]? := fun _ _ _ => rfl
theorem src_live {S1 : Store} {n : Nat} {ds : List D} (h : S1[n]? = some (.lst ds)) : ∀ (S : Store) (i : Nat), Pre S1 S → (Src.live n).at S i = ds[i]? := fun S i p => by
  simp only [Src.at, p.get h]
end
end Dl

set_option Elab.async false
set_option linter.all false
set_option maxRecDepth 100000
set_option maxHeartbeats 4000000
/-! Evaluation by simp. -/
namespace Dl
open PySem PySem.Spec L2
section
variable {α β : Type} {a : α} {S S1 : Store} {e e2 : Env} {k : α → Store → Rs β} {kr : α → Store → Re} {x : Nat}
@[simp] theorem x_bind : (Rs.ok a S).bind k = k a S := rfl
@[simp] theorem x_bindx : (Rs.exc x S : Rs α).bind k = .exc x S := rfl
@[simp] theorem x_binds : (Rs.stuck : Rs α).bind k = .stuck := rfl
@[simp] theorem x_to : (Rs.ok a S).to e kr = kr a S := rfl
@[simp] theorem x_tox : (Rs.exc x S : Rs α).to e kr = .exc x e S := rfl
@[simp] theorem x_nox : (Rs.ok a S).noX = .ok a S := rfl
theorem x_if {b : Bool} {u v : Rs α} (h : b = true) : (if b = true then u else v) = u := if_pos h
end
section
variable {S S1 : Store} {e : Env} {d : D} {o : Option D} {f f1 f2 f3 : DE} {g : DA} {t t1 t2 : DT} {u u2 : DS} {i n : Nat} {F : Fn}
@[simp] theorem x_cV0 : cV 0 (some d :: e) S = .ok d S := rfl
@[simp] theorem x_cVs : cV (i + 1) (o :: e) S = cV i e S := by unfold cV; rw [List.getElem?_cons_succ]
@[simp] theorem x_cC : cC d e S = .ok d S := rfl
@[simp] theorem x_aN : aN e S = .ok [] S := rfl
@[simp] theorem x_aC : aC f g e S = (f e S).bind fun x S1 => (g e S1).bind fun xs S2 => .ok (x :: xs) S2 := rfl
@[simp] theorem x_cTup : cTup g e S = (g e S).bind fun xs S1 => if xs.length ≤ 100000 then .ok (.tup xs) S1 else .stuck := rfl
@[simp] theorem x_cLst : cLst g e S = (g e S).bind fun xs S1 => if xs.length ≤ 100000 then .ok (.ref S1.length) (S1 ++ [.lst xs]) else .stuck := rfl
@[simp] theorem x_op2 {gg : Store → D → D → Rs D} : cOp2 gg f1 f2 e S = (f1 e S).bind fun x S1 => (f2 e S1).bind fun y S2 => gg S2 x y := rfl
@[simp] theorem x_call {gg : Store → List D → Rs D} : cCall gg g e S = (g e S).bind fun xs S1 => gg S1 xs := rfl
@[simp] theorem x_ifE : cIfE t f1 f2 e S = (t e S).bind fun b S1 => if b = true then f1 e S1 else f2 e S1 := rfl
@[simp] theorem x_and : cAnd f1 f2 e S = (f1 e S).bind fun x S1 => match x with | .bl true => f2 e S1 | .bl false => .ok (.bl false) S1 | _ => .stuck := rfl
@[simp] theorem x_or : cOr f1 f2 e S = (f1 e S).bind fun x S1 => match x with | .bl true => .ok (.bl true) S1 | .bl false => f2 e S1 | _ => .stuck := rfl
@[simp] theorem x_not : cNot f e S = (f e S).bind fun x S1 => match x with | .bl b => .ok (.bl (!b)) S1 | _ => .stuck := rfl
@[simp] theorem x_kB : kB f e S = (f e S).bind fun x S1 => match x with | .bl b => .ok b S1 | _ => .stuck := rfl
@[simp] theorem x_kAnd : kAnd t1 t2 e S = (t1 e S).bind fun b S1 => if b = true then t2 e S1 else .ok false S1 := rfl
@[simp] theorem x_kOr : kOr t1 t2 e S = (t1 e S).bind fun b S1 => if b = true then .ok true S1 else t2 e S1 := rfl
@[simp] theorem x_kNot : kNot t e S = (t e S).bind fun b S1 => .ok (!b) S1 := rfl
@[simp] theorem x_kYes : kYes e S = .ok true S := rfl
@[simp] theorem x_fn : cFn n F g e S = (g e S).bind fun xs S1 => if xs.length = n then runF F S1 xs else .stuck := rfl
@[simp] theorem x_isi {T : Ty} : cIsi T f e S = (f e S).bind (isiK T) := rfl
@[simp] theorem x_sNext : sNext e S = .nx e S := rfl
@[simp] theorem x_sRet : sRet f e S = (f e S).to e fun d S1 => .rt d S1 := rfl
@[simp] theorem x_sDrop : sDrop f e S = (f e S).to e fun _ S1 => .nx e S1 := rfl
@[simp] theorem x_sSet : sSet i f e S = (f e S).to e fun d S1 => .nx (e.set i (some d)) S1 := rfl
@[simp] theorem x_sIf : sIf t u u2 e S = (t e S).to e fun b S1 => if b = true then u e S1 else u2 e S1 := rfl
@[simp] theorem x_sSeq : sSeq u u2 e S = match u e S with | .nx e' S' => u2 e' S' | r => r := rfl
@[simp] theorem x_sRaise : sRaise i e S = .exc i e S := rfl
@[simp] theorem x_sAsgG {gt : DG} : sAsgG f gt e S = (f e S).to e fun d S1 => ((gt d e S1).noX).to e fun e2 S2 => .nx e2 S2 := rfl
@[simp] theorem x_sPar {j : Nat} : sPar i j g e S = (g e S).to e (par2 i j e) := rfl
@[simp] theorem x_par2 {j : Nat} {x y : D} : par2 i j e [x, y] S = .nx ((e.set i (some x)).set j (some y)) S := rfl
@[simp] theorem x_sPar3 {j l : Nat} : sPar3 i j l g e S = (g e S).to e (par3 i j l e) := rfl
@[simp] theorem x_par3 {j l : Nat} {x y z : D} : par3 i j l e [x, y, z] S = .nx (((e.set i (some x)).set j (some y)).set l (some z)) S := rfl
@[simp] theorem x_gN : gN i d e S = .ok (e.set i (some d)) S := rfl
@[simp] theorem x_gsN : gsN [] e S = .ok e S := rfl
@[simp] theorem x_gsC {gt : DG} {gs : DGs} {xs : List D} : gsC gt gs (d :: xs) e S = (gt d e S).bind fun e1 S1 => gs xs e1 S1 := rfl
@[simp] theorem x_gT {gs : DGs} {xs : List D} : gT n gs (.tup xs) e S = if xs.length = n then gs xs e S else .stuck := rfl
@[simp] theorem x_gSub2 : gSub2 f1 f2 d e S = (f1 e S).bind (gsK2 f2 d e) := rfl
@[simp] theorem x_gsK2 {x : D} : gsK2 f2 d e x S = (f2 e S).bind fun i S2 => gsK3 d x i e S2 := rfl
@[simp] theorem x_cMt {ty : Store → D → Bool} {gg : Store → D → List D → Rs D} : cMt ty gg f g e S = (f e S).bind (mtK ty gg g e) := rfl
@[simp] theorem x_mtK {ty : Store → D → Bool} {gg : Store → D → List D → Rs D} {x : D} : mtK ty gg g e x S = if ty S x = true then (g e S).bind (mtK2 gg x) else .stuck := rfl
@[simp] theorem x_mtK2 {gg : Store → D → List D → Rs D} {x : D} {xs : List D} : mtK2 gg x xs S = gg S x xs := rfl
@[simp] theorem x_sAugN {gg : Store → D → D → Rs D} : sAugN i f gg e S = match e[i]? with
  | some (some x) => (f e S).to e fun y S1 => (gg S1 x y).to e fun z S2 => .nx (e.set i (some z)) S2
  | _ => .stuck := rfl
@[simp] theorem x_cSl {l h : DOp} : cSl f l h e S = (f e S).bind fun x S1 => (l e S1).bind fun lo S2 => (h e S2).bind fun hi S3 => gSl S3 x lo hi := rfl
@[simp] theorem x_oNone : oNone e S = .ok none S := rfl
@[simp] theorem x_oSome : oSome f e S = (f e S).bind oInt := rfl
@[simp] theorem x_oInt {j : Int} : oInt (.int j) S = .ok (some j) S := rfl
@[simp] theorem x_iSeq : iSeq f e S = (f e S).bind srcOf := rfl
@[simp] theorem x_srcT {xs : List D} : srcOf (.tup xs) S = .ok (.fix xs) S := rfl
theorem x_srcL {xs : List D} (h : S[n]? = some (.lst xs)) : srcOf (.ref n) S = .ok (.live n) S := by
  show (match S[n]? with | some (.lst _) => Rs.ok (Src.live n) S | some (.ro _) => .ok (.live n) S | _ => .stuck) = _
  rw [h]
@[simp] theorem x_iEnm : iEnm g e S = (g e S).bind enumSrc := rfl
@[simp] theorem x_enumT {xs : List D} : enumSrc [.tup xs] S = .ok (.enum (.fix xs)) S := rfl
@[simp] theorem x_newK : cNewK e S = .ok (.ref S.length) (S ++ [.dk []]) := rfl
@[simp] theorem x_newN : cNewN e S = .ok (.ref S.length) (S ++ [.dn []]) := rfl
@[simp] theorem x_isiT {T : Ty} {xs : List D} : isiK T (.tup xs) S = .ok (.bl (Ty.isi .tuple T)) S := rfl
@[simp] theorem x_isiI {T : Ty} {j : Int} : isiK T (.int j) S = .ok (.bl (Ty.isi .int T)) S := rfl
@[simp] theorem x_isiN {T : Ty} : isiK T .non S = .ok (.bl (Ty.isi .non T)) S := rfl
@[simp] theorem x_isiB {T : Ty} {b : Bool} : isiK T (.bl b) S = .ok (.bl (Ty.isi .bool T)) S := rfl
@[simp] theorem x_tt : Ty.isi .tuple .tuple = true := rfl
@[simp] theorem x_it : Ty.isi .int .tuple = false := rfl
@[simp] theorem x_nt : Ty.isi .non .tuple = false := rfl
@[simp] theorem x_ii : Ty.isi .int .int = true := rfl
@[simp] theorem x_ib : Ty.isi .int .bool = false := rfl
-- operators
@[simp] theorem x_isN : gIs S .non .non = .ok (.bl true) S := rfl
@[simp] theorem x_isT {xs : List D} : gIs S (.tup xs) .non = .ok (.bl false) S := rfl
@[simp] theorem x_isR : gIs S (.ref n) .non = .ok (.bl false) S := rfl
@[simp] theorem x_isI {j : Int} : gIs S (.int j) .non = .ok (.bl false) S := rfl
@[simp] theorem x_isB {a b : Bool} : gIs S (.bl a) (.bl b) = .ok (.bl (decide (a = b))) S := rfl
@[simp] theorem x_notN : gNot S .non .non = .ok (.bl false) S := rfl
@[simp] theorem x_notT {xs : List D} : gNot S (.tup xs) .non = .ok (.bl true) S := rfl
@[simp] theorem x_notB {a b : Bool} : gNot S (.bl a) (.bl b) = .ok (.bl (!decide (a = b))) S := rfl
@[simp] theorem x_lt {a b : Int} : gLt S (.int a) (.int b) = .ok (.bl (decide (a < b))) S := rfl
@[simp] theorem x_le {a b : Int} : gLe S (.int a) (.int b) = .ok (.bl (decide (a ≤ b))) S := rfl
@[simp] theorem x_gt {a b : Int} : gGt S (.int a) (.int b) = .ok (.bl (decide (b < a))) S := rfl
@[simp] theorem x_ge {a b : Int} : gGe S (.int a) (.int b) = .ok (.bl (decide (b ≤ a))) S := rfl
@[simp] theorem x_eqI {a b : Int} : gEq S (.int a) (.int b) = .ok (.bl (a == b)) S := rfl
@[simp] theorem x_neI {a b : Int} : gNe S (.int a) (.int b) = .ok (.bl (!(a == b))) S := rfl
@[simp] theorem x_eqB {a b : Bool} : gEq S (.bl a) (.bl b) = .ok (.bl (a == b)) S := rfl
@[simp] theorem x_neB {a b : Bool} : gNe S (.bl a) (.bl b) = .ok (.bl (!(a == b))) S := rfl
@[simp] theorem x_addI {a b : Int} : gAdd S (.int a) (.int b) = .ok (.int (a + b)) S := rfl
@[simp] theorem x_subI {a b : Int} : gSub S (.int a) (.int b) = .ok (.int (a - b)) S := rfl
@[simp] theorem x_augI {a b : Int} : gAddI S (.int a) (.int b) = .ok (.int (a + b)) S := rfl
@[simp] theorem x_lenT {xs : List D} : gLen S [.tup xs] = .ok (.int xs.length) S := rfl
@[simp] theorem x_tupT {xs : List D} : gTuple S [.tup xs] = .ok (.tup xs) S := rfl
theorem at_some {α : Type} {xs : List α} {i : Nat} {x : α} (h : xs[i]? = some x) : atI xs (i : Int) = some x := atI_nat h
theorem x_ixT {xs : List D} {i : Nat} (h : xs[i]? = some d) : gIx S (.tup xs) (.int i) = .ok d S := by
  show (match atI xs (i : Int) with | some d => Rs.ok d S | none => .stuck) = _
  rw [at_some h]
@[simp] theorem x_ix0 {xs : List D} : gIx S (.tup (d :: xs)) (.int 0) = .ok d S := x_ixT (i := 0) rfl
@[simp] theorem x_ix1 {xs : List D} {a : D} : gIx S (.tup (a :: d :: xs)) (.int 1) = .ok d S := x_ixT (i := 1) rfl
@[simp] theorem x_ix2 {xs : List D} {a b : D} : gIx S (.tup (a :: b :: d :: xs)) (.int 2) = .ok d S := x_ixT (i := 2) rfl
theorem x_ixL {xs : List D} {i : Nat} (hn : S[n]? = some (.lst xs)) (h : xs[i]? = some d) : gIx S (.ref n) (.int i) = .ok d S := by
  dsimp only [gIx]
  rw [hn]
  dsimp only
  rw [at_some h]
theorem x_lenL {xs : List D} (hn : S[n]? = some (.lst xs)) : gLen S [.ref n] = .ok (.int xs.length) S := by
  dsimp only [gLen]
  rw [hn]
theorem x_tupL {xs : List D} (hn : S[n]? = some (.lst xs)) : gTuple S [.ref n] = .ok (.tup xs) S := by
  dsimp only [gTuple]
  rw [hn]
theorem x_allL {bs : List Bool} (hn : S[n]? = some (.lst (bs.map .bl))) : gAll S [.ref n] = .ok (.bl (bs.all id)) S := by
  show (match (seqOf S n).bind blsOf with | some bs => Rs.ok (D.bl (bs.all id)) S | none => .stuck) = _
  unfold seqOf
  rw [hn]
  show (match blsOf (bs.map .bl) with | some bs => Rs.ok (D.bl (bs.all id)) S | none => .stuck) = _
  rw [blsOf_map]
theorem x_appL {xs : List D} {y : D} (hn : S[n]? = some (.lst xs)) (hl : xs.length < 100000) : gApp S (.ref n) [y] = .ok .non (S.set n (.lst (xs ++ [y]))) := by
  show (match addTo n y S with | some S' => Rs.ok D.non S' | none => .stuck) = _
  unfold addTo
  rw [hn]
  dsimp only
  rw [if_pos hl]
theorem x_isLst {xs : List D} (hn : S[n]? = some (.lst xs)) : isLst S (.ref n) = true := by
  show (match S[n]? with | some (.lst _) => true | _ => false) = true
  rw [hn]
/-- what a def gives -/
theorem fn_of_rt {b : DS} {ds : List D} {S' : Store} (h : b (ds.map some ++ List.replicate (n - ds.length) none) S = .rt d S') : fnD n b ds S = .ok d S' := fn_rt h
end
end Dl

set_option Elab.async false
set_option linter.all false
set_option maxRecDepth 100000
set_option maxHeartbeats 4000000
namespace Dl
/-! ### comprehensions with two fors -/
theorem li_go {g : DG} {te : DE} {e0 : Env} {S1 : Store} {ds ys : List D} (hlen : ys.length = ds.length)
    (hx : ∀ (i : Nat) (d y : D) (S : Store), ds[i]? = some d → ys[i]? = some y → Pre S1 S → ∃ e1 S3, g d e0 S = .ok e1 S ∧ te e1 S = .ok y S3 ∧ Pre S S3) :
    ∀ (n i : Nat) (acc G : List D) (G : Store), i ≤ ds.length → ds.length < n + i → acc.length + (ds.length - i) < 100000 →
      ∃ G', lcI n (.fix ds) g kYes te S1.length e0 i (S1 ++ .lst acc :: G) = .ok () (S1 ++ .lst (acc ++ ys.drop i) :: G')
  | 0, i, _, _, _, h, h2, _ => by omega
  | n + 1, i, acc, z, G, h, h2, h3 => by
    unfold lcI
    rw [show (Src.fix ds).at (S1 ++ .lst acc :: G) i = ds[i]? from rfl]
    by_cases hi : i < ds.length
    · have e1 : ds[i]? = some ds[i] := List.getElem?_eq_getElem hi
      have hy : i < ys.length := by omega
      have e2 : ys[i]? = some ys[i] := List.getElem?_eq_getElem hy
      rw [e1]
      obtain ⟨en, S3, a, b, p⟩ := hx i _ _ (S1 ++ .lst acc :: G) e1 e2 ⟨_, rfl⟩
      obtain ⟨G3, e3⟩ : ∃ G3, S3 = S1 ++ .lst acc :: G3 := by
        obtain ⟨G', e'⟩ := p
        exact ⟨G ++ G', by rw [e']; simp⟩
      dsimp only
      rw [a]
      dsimp only [Rs.noX, Rs.bind, kYes]
      rw [if_pos rfl, b]
      dsimp only [Rs.noX, Rs.bind]
      have ad : addTo S1.length ys[i] S3 = some (S3.set S1.length (.lst (acc ++ [ys[i]]))) := by
        unfold addTo
        rw [e3, at_new]
        dsimp only
        rw [if_pos (by omega)]
      rw [ad]
      dsimp only
      have e4 : S3.set S1.length (.lst (acc ++ [ys[i]])) = S1 ++ .lst (acc ++ [ys[i]]) :: G3 := by rw [e3]; simp
      rw [e4]
      obtain ⟨G', r⟩ := li_go hlen hx n (i + 1) (acc ++ [ys[i]]) z G3 hi (by omega) (by rw [List.length_append, List.length_singleton]; omega)
      refine ⟨G', ?_⟩
      rw [r, List.append_assoc, List.drop_eq_getElem_cons hy]
      rfl
    · have e0 : ds[i]? = none := List.getElem?_eq_none (by omega)
      rw [e0]
      exact ⟨G, by rw [List.drop_eq_nil_of_le (by omega), List.append_nil]⟩
theorem lo_go {src : Src} {gt g1 : DG} {f1 : DI} {te : DE} {us1 : List Nat} {e0 : Env} {S1 : Store} {dss : List (D × List D × List D)} (hs : ∀ (S : Store) (i : Nat), Pre S1 S → src.at S i = (dss[i]?).map (·.1))
    (hx : ∀ (i : Nat) (p : D × List D × List D) (S : Store), dss[i]? = some p → Pre S1 S → ∃ e1, gt p.1 e0 S = .ok e1 S ∧ f1 e1 S = .ok (.fix p.2.1) S ∧ p.2.2.length = p.2.1.length ∧ ∀ (j : Nat) (d y : D) (S' : Store), p.2.1[j]? = some d → p.2.2[j]? = some y → Pre S1 S' → ∃ e2 S3, g1 d (wipeE e1 us1) S' = .ok e2 S' ∧ te e2 S' = .ok y S3 ∧ Pre S' S3)
    (hb : ((dss.map (·.2.2)).flatten).length < 100000) :
    ∀ (n i : Nat) (G : Store), i ≤ dss.length → dss.length < n + i → ∃ G', lcO n src gt kYes f1 g1 kYes te us1 S1.length e0 i (S1 ++ .lst ((dss.take i).map (·.2.2)).flatten :: G) = .ok (.ref S1.length) (S1 ++ .lst (dss.map (·.2.2)).flatten :: G')
  | 0, i, _, h, h2 => by omega
  | n + 1, i, G, h, h2 => by
    unfold lcO
    rw [hs _ i ⟨_, rfl⟩]
    by_cases hi : i < dss.length
    · have e1 : dss[i]? = some dss[i] := List.getElem?_eq_getElem hi
      rw [e1]
      obtain ⟨en, a, b, hl, c⟩ := hx i _ (S1 ++ .lst ((dss.take i).map (·.2.2)).flatten :: G) e1 ⟨_, rfl⟩
      dsimp only [Option.map]
      rw [a]
      dsimp only [Rs.noX, Rs.bind, kYes]
      rw [if_pos rfl, b]
      dsimp only [Rs.noX, Rs.bind]
      have split : (dss.take (i + 1)).map (·.2.2) = (dss.take i).map (·.2.2) ++ [dss[i].2.2] := by
        rw [List.take_add_one, e1, List.map_append]; rfl
      have fl : ((dss.take (i + 1)).map (·.2.2)).flatten = ((dss.take i).map (·.2.2)).flatten ++ dss[i].2.2 := by rw [split]; simp
      have le : (((dss.take (i + 1)).map (·.2.2)).flatten).length ≤ ((dss.map (·.2.2)).flatten).length := by
        have e : dss.map (·.2.2) = (dss.take (i + 1)).map (·.2.2) ++ (dss.drop (i + 1)).map (·.2.2) := by rw [← List.map_append, List.take_append_drop]
        rw [e, List.flatten_append, List.length_append]; omega
      rw [fl, List.length_append] at le
      obtain ⟨G', r⟩ := li_go (S1 := S1) hl c FUEL 0 ((dss.take i).map (·.2.2)).flatten [] G (Nat.zero_le _) (fuel_big (by omega)) (by omega)
      rw [r]
      dsimp only [Rs.bind]
      rw [List.drop_zero, ← fl]
      exact lo_go hs hx hb n (i + 1) G' hi (by omega)
    · have e0 : dss[i]? = none := List.getElem?_eq_none (by omega)
      rw [e0]
      refine ⟨G, ?_⟩
      rw [List.take_of_length_le (by omega)]
      rfl
theorem ev_lc2 {fi f1 : DI} {src : Src} {gt g1 : DG} {te : DE} {us us1 : List Nat} {e : Env} {S S1 : Store} {dss : List (D × List D × List D)} (h : fi e S = .ok src S1) (hs : ∀ (S : Store) (i : Nat), Pre S1 S → src.at S i = (dss[i]?).map (·.1))
    (hx : ∀ (i : Nat) (p : D × List D × List D) (S : Store), dss[i]? = some p → Pre S1 S → ∃ e1, gt p.1 (wipeE e us) S = .ok e1 S ∧ f1 e1 S = .ok (.fix p.2.1) S ∧ p.2.2.length = p.2.1.length ∧ ∀ (j : Nat) (d y : D) (S' : Store), p.2.1[j]? = some d → p.2.2[j]? = some y → Pre S1 S' → ∃ e2 S3, g1 d (wipeE e1 us1) S' = .ok e2 S' ∧ te e2 S' = .ok y S3 ∧ Pre S' S3)
    (hb : ((dss.map (·.2.2)).flatten).length < 100000) (hd : dss.length < 100000) :
    ∃ G, cLc2 fi gt kYes f1 g1 kYes te us us1 e S = .ok (.ref S1.length) (S1 ++ .lst (dss.map (·.2.2)).flatten :: G) := by
  unfold cLc2
  rw [h]
  exact lo_go hs hx hb FUEL 0 [] (Nat.zero_le _) (fuel_big hd)
end Dl

set_option Elab.async false
set_option linter.all false
set_option maxRecDepth 100000
set_option maxHeartbeats 4000000
/-! Machines of receivers in plain Lean: what they tell, the least one, its numbering. -/
namespace K33
/-- a told word: None, (), (0,), (1,) -/
inductive Wd where
  | n | e | z | o
instance : DecidableEq Wd := fun a b => by
  cases a <;> cases b <;> first | exact isTrue rfl | exact isFalse (fun h => by cases h)
abbrev Tl := Option (Wd × Nat)
abbrev Ms := List (List Tl)
def cell (m : Ms) (i s : Nat) : Tl := (m[i]?.bind fun r => r[s]?).join
/-- what is told of a row of signs -/
def out (m : Ms) : List Nat → Nat → Option (List Wd)
  | [], _ => some []
  | s :: r, i => match cell m i s with
    | some (w, k) => (out m r k).map (w :: ·)
    | none => none
def Sim (m : Ms) (i : Nat) (m' : Ms) (j : Nat) : Prop := ∀ r, out m r i = out m' r j
theorem Sim.refl (m : Ms) (i : Nat) : Sim m i m i := fun _ => rfl
theorem Sim.symm {m m' : Ms} {i j : Nat} (h : Sim m i m' j) : Sim m' j m i := fun r => (h r).symm
theorem Sim.trans {m m' m2 : Ms} {i j k : Nat} (h : Sim m i m' j) (g : Sim m' j m2 k) : Sim m i m2 k := fun r => (h r).trans (g r)
/-- two tells that go on so -/
def Go (R : Nat → Nat → Prop) : Tl → Tl → Prop
  | none, none => True
  | some (w, k), some (w', k') => w = w' ∧ R k k'
  | _, _ => False
theorem sim_of {m m' : Ms} (R : Nat → Nat → Prop) (h : ∀ i j, R i j → ∀ s, Go R (cell m i s) (cell m' j s)) : ∀ {i j : Nat}, R i j → Sim m i m' j := by
  have go : ∀ (r : List Nat) (i j : Nat), R i j → out m r i = out m' r j := by
    intro r
    induction r with
    | nil => intro i j _; rfl
    | cons s r ih =>
      intro i j hij
      have g := h i j hij s
      unfold out
      cases e : cell m i s with
      | none =>
        cases e' : cell m' j s with
        | none => rfl
        | some p => rw [e, e'] at g; exact g.elim
      | some p =>
        cases e' : cell m' j s with
        | none => rw [e, e'] at g; exact g.elim
        | some p' =>
          rw [e, e'] at g
          obtain ⟨w, k⟩ := p
          obtain ⟨w', k'⟩ := p'
          obtain ⟨rfl, hk⟩ := g
          dsimp only
          rw [ih k k' hk]
  exact fun {i j} hij r => go r i j hij
theorem sim_step {m m' : Ms} {i j : Nat} (h : Sim m i m' j) (s : Nat) : Go (fun k k' => Sim m k m' k') (cell m i s) (cell m' j s) := by
  have h1 := h [s]
  unfold out at h1
  cases e : cell m i s with
  | none =>
    cases e' : cell m' j s with
    | none => trivial
    | some p => rw [e, e'] at h1; obtain ⟨w, k⟩ := p; dsimp only [out] at h1; cases h1
  | some p =>
    obtain ⟨w, k⟩ := p
    cases e' : cell m' j s with
    | none => rw [e, e'] at h1; dsimp only [out] at h1; cases h1
    | some p' =>
      obtain ⟨w', k'⟩ := p'
      rw [e, e'] at h1
      dsimp only [out, Option.map] at h1
      have hw : w = w' := by injection h1 with h1; injection h1
      subst hw
      refine ⟨rfl, fun r => ?_⟩
      have h2 := h (s :: r)
      unfold out at h2
      rw [e, e'] at h2
      dsimp only at h2
      cases a : out m r k with
      | none =>
        cases b : out m' r k' with
        | none => rfl
        | some y => rw [a, b] at h2; cases h2
      | some x =>
        cases b : out m' r k' with
        | none => rw [a, b] at h2; cases h2
        | some y =>
          rw [a, b] at h2
          have h3 : w :: x = w :: y := Option.some.inj h2
          injection h3 with _ h3
          rw [h3]
/-- a right machine: three tells a row, that lead to rows -/
structure WF (m : Ms) : Prop where
  three : ∀ (i : Nat) (r : List Tl), m[i]? = some r → r.length = 3
  to : ∀ (i s : Nat) (w : Wd) (k : Nat), cell m i s = some (w, k) → k < m.length
theorem cell_row {m : Ms} {i s : Nat} {r : List Tl} {t : Tl} (h : m[i]? = some r) (g : r[s]? = some t) : cell m i s = t := by
  unfold cell
  rw [h]
  show (r[s]?).join = t
  rw [g]
  rfl
theorem cell_none {m : Ms} {i s : Nat} {r : List Tl} (h : m[i]? = some r) (g : r[s]? = none) : cell m i s = none := by
  unfold cell
  rw [h]
  show (r[s]?).join = none
  rw [g]
  rfl
theorem cell_out {m : Ms} {i s : Nat} (h : m[i]? = none) : cell m i s = none := by
  unfold cell
  rw [h]
  rfl
theorem cell_some {m : Ms} {i s : Nat} {p : Wd × Nat} (h : cell m i s = some p) : ∃ r, m[i]? = some r ∧ r[s]? = some (some p) := by
  unfold cell at h
  cases e : m[i]? with
  | none => rw [e] at h; cases h
  | some r =>
    rw [e] at h
    refine ⟨r, rfl, ?_⟩
    have h : (r[s]?).join = some p := h
    cases g : r[s]? with
    | none => rw [g] at h; cases h
    | some t => rw [g] at h; have h : t = some p := h; rw [h]
/-! ### places, and what comes first -/
section
variable {α : Type} [DecidableEq α]
def pos : List α → α → Nat
  | [], _ => 0
  | y :: r, x => if y = x then 0 else pos r x + 1
theorem pos_lt {x : α} : ∀ {l : List α}, x ∈ l → pos l x < l.length
  | [], h => absurd h List.not_mem_nil
  | y :: r, h => by
    unfold pos
    by_cases e : y = x
    · rw [if_pos e]; exact Nat.zero_lt_succ _
    · rw [if_neg e]
      rcases List.mem_cons.mp h with h | h
      · exact absurd h.symm e
      · exact Nat.succ_lt_succ (pos_lt h)
theorem pos_get {x : α} : ∀ {l : List α}, x ∈ l → l[pos l x]? = some x
  | [], h => absurd h List.not_mem_nil
  | y :: r, h => by
    unfold pos
    by_cases e : y = x
    · rw [if_pos e, e]; rfl
    · rw [if_neg e]
      rcases List.mem_cons.mp h with h | h
      · exact absurd h.symm e
      · rw [List.getElem?_cons_succ]; exact pos_get h
theorem pos_inj {l : List α} {x y : α} (hx : x ∈ l) (hy : y ∈ l) (h : pos l x = pos l y) : x = y := by
  have a := pos_get hx
  rw [h, pos_get hy] at a
  exact (Option.some.inj a).symm
theorem pos_at : ∀ {l : List α} {i : Nat} {x : α}, l.Nodup → l[i]? = some x → pos l x = i
  | [], _, _, _, h => by simp at h
  | y :: r, 0, x, _, h => by
    have e : y = x := by simpa using h
    unfold pos; rw [if_pos e]
  | y :: r, i + 1, x, nd, h => by
    have h : r[i]? = some x := by simpa using h
    have e : y ≠ x := fun e => (List.nodup_cons.mp nd).1 (by rw [e]; exact List.mem_of_getElem? h)
    unfold pos
    rw [if_neg e, pos_at (List.nodup_cons.mp nd).2 h]
theorem pos_app {x : α} : ∀ {l : List α} (r : List α), x ∈ l → pos (l ++ r) x = pos l x
  | [], _, h => absurd h List.not_mem_nil
  | y :: l, r, h => by
    rw [List.cons_append]
    unfold pos
    by_cases e : y = x
    · rw [if_pos e, if_pos e]
    · rw [if_neg e, if_neg e]
      rcases List.mem_cons.mp h with h | h
      · exact absurd h.symm e
      · rw [pos_app r h]
theorem pos_new {x : α} : ∀ {l : List α} (r : List α), x ∉ l → pos (l ++ x :: r) x = l.length
  | [], r, _ => by show (if x = x then 0 else _) = 0; rw [if_pos rfl]
  | y :: l, r, h => by
    have e : y ≠ x := fun e => h (by rw [e]; exact List.mem_cons_self ..)
    rw [List.cons_append]
    unfold pos
    rw [if_neg e, pos_new r fun z => h (List.mem_cons_of_mem _ z)]
    rfl
def push (l : List α) (x : α) : List α := if x ∈ l then l else l ++ [x]
theorem push_nodup {l : List α} {x : α} (h : l.Nodup) : (push l x).Nodup := by
  unfold push
  by_cases e : x ∈ l
  · rw [if_pos e]; exact h
  · rw [if_neg e]
    exact List.nodup_append.mpr ⟨h, List.nodup_cons.mpr ⟨List.not_mem_nil, List.nodup_nil⟩, fun a ha b hb => by
      rcases List.mem_cons.mp hb with rfl | hb
      · exact fun z => e (z ▸ ha)
      · exact absurd hb List.not_mem_nil⟩
theorem mem_push {l : List α} {x y : α} : y ∈ push l x ↔ y ∈ l ∨ y = x := by
  unfold push
  by_cases e : x ∈ l
  · rw [if_pos e]
    exact ⟨.inl, fun h => h.elim id fun h => h ▸ e⟩
  · rw [if_neg e]; simp
theorem push_pre (l : List α) (x : α) : ∃ r, push l x = l ++ r := by
  unfold push
  by_cases e : x ∈ l
  · exact ⟨[], by rw [if_pos e, List.append_nil]⟩
  · exact ⟨[x], by rw [if_neg e]⟩
/-- each once, in the order of their coming -/
def dd (a l : List α) : List α := l.foldl push a
theorem dd_nodup : ∀ (l : List α) {a : List α}, a.Nodup → (dd a l).Nodup
  | [], _, h => h
  | x :: l, a, h => dd_nodup l (a := push a x) (push_nodup h)
theorem mem_dd : ∀ (l : List α) {a : List α} {y : α}, y ∈ dd a l ↔ y ∈ a ∨ y ∈ l
  | [], a, y => by simp [dd]
  | x :: l, a, y => by
    show y ∈ dd (push a x) l ↔ _
    rw [mem_dd l, mem_push, List.mem_cons]
    exact or_assoc
theorem dd_pre : ∀ (l a : List α), ∃ r, dd a l = a ++ r
  | [], a => ⟨[], (List.append_nil a).symm⟩
  | x :: l, a => by
    obtain ⟨r1, e1⟩ := push_pre a x
    obtain ⟨r2, e2⟩ := dd_pre l (push a x)
    exact ⟨r1 ++ r2, by show dd (push a x) l = _; rw [e2, e1, List.append_assoc]⟩
end
/-- the numbers of what comes, in the order of its coming, come in order -/
theorem dd_num {α : Type} [DecidableEq α] {Z : List α} : ∀ (l a : List α), a.Nodup → dd a l = Z → dd (List.range a.length) (l.map (pos Z)) = List.range Z.length
  | [], a, _, h => by
    have h : a = Z := h
    rw [h]; rfl
  | x :: l, a, nd, h => by
    have h : dd (push a x) l = Z := h
    rw [List.map_cons]
    show dd (push (List.range a.length) (pos Z x)) _ = _
    obtain ⟨r, er⟩ := dd_pre l (push a x)
    rw [h] at er
    by_cases e : x ∈ a
    · have ep : push a x = a := by unfold push; rw [if_pos e]
      rw [ep] at h er
      have pz : pos Z x < a.length := by rw [er, pos_app r e]; exact pos_lt e
      have e2 : push (List.range a.length) (pos Z x) = List.range a.length := by unfold push; rw [if_pos (List.mem_range.mpr pz)]
      rw [e2]
      exact dd_num l a nd h
    · have ep : push a x = a ++ [x] := by unfold push; rw [if_neg e]
      rw [ep] at h er
      have pz : pos Z x = a.length := by rw [er, List.append_assoc]; exact pos_new r e
      have e2 : push (List.range a.length) (pos Z x) = List.range (a ++ [x]).length := by
        unfold push
        rw [if_neg (by rw [pz]; simp), pz, List.length_append, List.length_singleton, List.range_succ]
      rw [e2]
      exact dd_num l (a ++ [x]) (by have := push_nodup (x := x) nd; rw [ep] at this; exact this) h
/-- each once and below N: at most N -/
theorem few_below : ∀ (N : Nat) (l : List Nat), l.Nodup → (∀ x ∈ l, x < N) → l.length ≤ N
  | 0, [], _, _ => Nat.le_refl _
  | 0, x :: _, _, h => absurd (h x (List.mem_cons_self ..)) (Nat.not_lt_zero _)
  | N + 1, l, nd, h => by
    have ih := few_below N (l.erase N) (nd.erase N) fun x hx => by
      have a := h x (List.mem_of_mem_erase hx)
      have b : x ≠ N := fun e => by
        rw [e] at hx
        exact (List.Nodup.mem_erase_iff nd).mp hx |>.1 rfl
      omega
    by_cases hm : N ∈ l
    · rw [List.length_erase_of_mem hm] at ih
      have := List.length_pos_of_mem hm
      omega
    · rw [List.erase_of_not_mem hm] at ih
      omega
end K33

set_option Elab.async false
set_option linter.all false
set_option maxRecDepth 100000
set_option maxHeartbeats 4000000
namespace K33
/-! ### counting what is apart -/
section
variable {α β : Type} [DecidableEq α] [DecidableEq β] (f : α → β)
theorem dd_map : ∀ (l : List α) (a : List α) (b : List β), (∀ x ∈ a, f x ∈ b) →
    (dd b (l.map f)).length + a.length ≤ (dd a l).length + b.length ∧
    ((dd b (l.map f)).length + a.length = (dd a l).length + b.length → (∀ y ∈ b, ∃ x ∈ a, f x = y) → (∀ x ∈ a, ∀ y ∈ a, f x = f y → x = y) → ∀ x ∈ dd a l, ∀ y ∈ dd a l, f x = f y → x = y)
  | [], a, b, _ => ⟨by show b.length + a.length ≤ a.length + b.length; omega, fun _ _ h => h⟩
  | x :: l, a, b, hab => by
    rw [List.map_cons]
    show (dd (push b (f x)) (l.map f)).length + a.length ≤ (dd (push a x) l).length + b.length ∧
      ((dd (push b (f x)) (l.map f)).length + a.length = (dd (push a x) l).length + b.length → _ → _ → ∀ y ∈ dd (push a x) l, ∀ z ∈ dd (push a x) l, f y = f z → y = z)
    by_cases hx : x ∈ a
    · have e1 : push a x = a := by unfold push; rw [if_pos hx]
      have e2 : push b (f x) = b := by unfold push; rw [if_pos (hab x hx)]
      rw [e1, e2]
      exact dd_map l a b hab
    · have e1 : push a x = a ++ [x] := by unfold push; rw [if_neg hx]
      rw [e1]
      by_cases hf : f x ∈ b
      · have e2 : push b (f x) = b := by unfold push; rw [if_pos hf]
        rw [e2]
        have ih := (dd_map l (a ++ [x]) b (fun y hy => by
          rcases List.mem_append.mp hy with hy | hy
          · exact hab y hy
          · rw [List.mem_singleton.mp hy]; exact hf)).1
        rw [List.length_append, List.length_singleton] at ih
        exact ⟨by omega, fun h => by omega⟩
      · have e2 : push b (f x) = b ++ [f x] := by unfold push; rw [if_neg hf]
        rw [e2]
        obtain ⟨ih1, ih2⟩ := dd_map l (a ++ [x]) (b ++ [f x]) (fun y hy => by
          rcases List.mem_append.mp hy with hy | hy
          · exact List.mem_append_left _ (hab y hy)
          · rw [List.mem_singleton.mp hy]; simp)
        rw [List.length_append, List.length_append, List.length_singleton, List.length_singleton] at ih1 ih2
        refine ⟨by omega, fun h hb hi => ih2 (by omega) (fun y hy => ?_) fun y hy z hz e => ?_⟩
        · rcases List.mem_append.mp hy with hy | hy
          · obtain ⟨z, h1, h2⟩ := hb y hy
            exact ⟨z, List.mem_append_left _ h1, h2⟩
          · exact ⟨x, by simp, (List.mem_singleton.mp hy).symm⟩
        · rcases List.mem_append.mp hy with hy | hy
          · rcases List.mem_append.mp hz with hz | hz
            · exact hi y hy z hz e
            · rw [List.mem_singleton.mp hz] at e
              exact absurd (e ▸ hab y hy) hf
          · rw [List.mem_singleton.mp hy] at e
            rcases List.mem_append.mp hz with hz | hz
            · exact absurd (e.symm ▸ hab z hz) hf
            · rw [List.mem_singleton.mp hy, List.mem_singleton.mp hz]
end
theorem cnt_le {α β : Type} [DecidableEq α] [DecidableEq β] (f : α → β) (l : List α) : (dd [] (l.map f)).length ≤ (dd [] l).length := by
  have := (dd_map f l [] [] (fun _ h => absurd h List.not_mem_nil)).1
  simpa using this
theorem cnt_inj {α β : Type} [DecidableEq α] [DecidableEq β] (f : α → β) (l : List α) (h : (dd [] (l.map f)).length = (dd [] l).length) {x y : α} (hx : x ∈ l) (hy : y ∈ l) (e : f x = f y) : x = y := by
  refine (dd_map f l [] [] (fun _ h => absurd h List.not_mem_nil)).2 (by simpa using h) (fun _ h => absurd h List.not_mem_nil) (fun _ h => absurd h List.not_mem_nil) x ?_ y ?_ e
  · exact (mem_dd l).mpr (.inr hx)
  · exact (mem_dd l).mpr (.inr hy)
theorem dd_len {α : Type} [DecidableEq α] : ∀ (l a : List α), (dd a l).length ≤ a.length + l.length
  | [], a => Nat.le_refl _
  | x :: l, a => by
    show (dd (push a x) l).length ≤ _
    have h := dd_len l (push a x)
    have : (push a x).length ≤ a.length + 1 := by
      unfold push
      split
      · exact Nat.le_succ _
      · simp
    rw [List.length_cons]
    omega

/-! ### lots -/
def look (m : Ms) (L : List Nat) (i : Nat) : Nat × List Tl := (L.getD i 0, ((m[i]?).getD []).map (Option.map fun p => (p.1, L.getD p.2 0)))
def looks (m : Ms) (L : List Nat) : List (Nat × List Tl) := (List.range m.length).map (look m L)
def later (m : Ms) (L : List Nat) : List Nat := (looks m L).map (pos (dd [] (looks m L)))
theorem looks_len (m : Ms) (L : List Nat) : (looks m L).length = m.length := by unfold looks; simp
theorem later_len (m : Ms) (L : List Nat) : (later m L).length = m.length := by unfold later; rw [List.length_map, looks_len]
theorem later_get {m : Ms} {L : List Nat} {i : Nat} (hi : i < m.length) : (later m L).getD i 0 = pos (dd [] (looks m L)) (look m L i) := by
  unfold later
  rw [List.getD_eq_getElem?_getD, List.getElem?_map]
  have : (looks m L)[i]? = some (look m L i) := by unfold looks; rw [List.getElem?_map, List.getElem?_range hi]; rfl
  rw [this]; rfl
theorem look_mem {m : Ms} {L : List Nat} {i : Nat} (hi : i < m.length) : look m L i ∈ looks m L := by
  unfold looks
  exact List.mem_map.mpr ⟨i, List.mem_range.mpr hi, rfl⟩
theorem later_iff {m : Ms} {L : List Nat} {i j : Nat} (hi : i < m.length) (hj : j < m.length) : (later m L).getD i 0 = (later m L).getD j 0 ↔ look m L i = look m L j := by
  rw [later_get hi, later_get hj]
  refine ⟨fun h => pos_inj ((mem_dd _).mpr (.inr (look_mem hi))) ((mem_dd _).mpr (.inr (look_mem hj))) h, fun h => by rw [h]⟩
theorem later_num (m : Ms) (L : List Nat) : dd [] (later m L) = List.range (dd [] (looks m L)).length := dd_num (looks m L) [] List.nodup_nil rfl
/-- as coarse as what is told -/
structure Coarse (m : Ms) (L : List Nat) : Prop where
  len : L.length = m.length
  sim : ∀ i j, i < m.length → j < m.length → Sim m i m j → L.getD i 0 = L.getD j 0
theorem row_of {m : Ms} {i : Nat} (hi : i < m.length) : (m[i]?).getD [] = m[i] := by rw [List.getElem?_eq_getElem hi]; rfl
theorem look_sim {m : Ms} {L : List Nat} (hm : WF m) (hL : Coarse m L) {i j : Nat} (hi : i < m.length) (hj : j < m.length) (h : Sim m i m j) : look m L i = look m L j := by
  unfold look
  rw [hL.sim i j hi hj h]
  refine congrArg _ (List.ext_getElem? fun s => ?_)
  rw [List.getElem?_map, List.getElem?_map, row_of hi, row_of hj]
  have ei : m[i]? = some m[i] := List.getElem?_eq_getElem hi
  have ej : m[j]? = some m[j] := List.getElem?_eq_getElem hj
  have li := hm.three i _ ei
  have lj := hm.three j _ ej
  by_cases hs : s < 3
  · have a : (m[i])[s]? = some (m[i])[s] := List.getElem?_eq_getElem (by omega)
    have b : (m[j])[s]? = some (m[j])[s] := List.getElem?_eq_getElem (by omega)
    have g := sim_step h s
    rw [cell_row ei a, cell_row ej b] at g
    rw [a, b]
    have toi := hm.to i s
    have toj := hm.to j s
    rw [cell_row ei a] at toi
    rw [cell_row ej b] at toj
    cases x : (m[i])[s] with
    | none =>
      cases y : (m[j])[s] with
      | none => rfl
      | some q => rw [x, y] at g; exact g.elim
    | some p =>
      cases y : (m[j])[s] with
      | none => rw [x, y] at g; exact g.elim
      | some q =>
        rw [x, y] at g
        rw [x] at toi
        rw [y] at toj
        obtain ⟨w, k⟩ := p
        obtain ⟨w', k'⟩ := q
        obtain ⟨rfl, hk⟩ := g
        show some (some (w, L.getD k 0)) = some (some (w, L.getD k' 0))
        rw [hL.sim k k' (toi w k rfl) (toj w k' rfl) hk]
  · rw [List.getElem?_eq_none (by omega), List.getElem?_eq_none (by omega)]
theorem later_coarse {m : Ms} {L : List Nat} (hm : WF m) (hL : Coarse m L) : Coarse m (later m L) := ⟨later_len m L, fun i j hi hj h => (later_iff hi hj).mpr (look_sim hm hL hi hj h)⟩
theorem zero_coarse (m : Ms) : Coarse m (m.map fun _ => 0) := ⟨List.length_map .., fun i j hi hj _ => by simp [List.getD_eq_getElem?_getD, hi, hj]⟩
theorem fst_looks {m : Ms} {L : List Nat} (hl : L.length = m.length) : (looks m L).map (·.1) = L := by
  unfold looks
  rw [List.map_map]
  refine List.ext_getElem? fun i => ?_
  rw [List.getElem?_map]
  by_cases hi : i < m.length
  · rw [List.getElem?_range hi]
    show some (L.getD i 0) = L[i]?
    rw [List.getD_eq_getElem?_getD, List.getElem?_eq_getElem (by omega)]; rfl
  · rw [List.getElem?_eq_none (by simpa using hi), List.getElem?_eq_none (by omega)]; rfl
/-- what the refinement ends with -/
structure Lots (m : Ms) (L : List Nat) : Prop where
  len : L.length = m.length
  iff : ∀ i j, i < m.length → j < m.length → (L.getD i 0 = L.getD j 0 ↔ Sim m i m j)
  num : dd [] L = List.range (dd [] L).length
theorem lots_end {m : Ms} {L : List Nat} (hm : WF m) (hL : Coarse m L) (h : (dd [] (looks m L)).length = (dd [] L).length) : Lots m (later m L) := by
  refine ⟨later_len m L, fun i j hi hj => ⟨fun e => ?_, fun s => (later_coarse hm hL).sim i j hi hj s⟩, by rw [later_num, List.length_range]⟩
  have same : ∀ i j, i < m.length → j < m.length → L.getD i 0 = L.getD j 0 → look m L i = look m L j := fun i j hi hj e =>
    cnt_inj (·.1) (looks m L) (by rw [fst_looks hL.len]; exact h.symm) (look_mem hi) (look_mem hj) e
  refine sim_of (fun i j => i < m.length ∧ j < m.length ∧ look m L i = look m L j) (fun i j ⟨hi, hj, e⟩ s => ?_) ⟨hi, hj, (later_iff hi hj).mp e⟩
  have e2 : (look m L i).2[s]? = (look m L j).2[s]? := by rw [e]
  unfold look at e2
  dsimp only at e2
  rw [List.getElem?_map, List.getElem?_map, row_of hi, row_of hj] at e2
  have ei : m[i]? = some m[i] := List.getElem?_eq_getElem hi
  have ej : m[j]? = some m[j] := List.getElem?_eq_getElem hj
  have toi := hm.to i s
  have toj := hm.to j s
  cases a : (m[i])[s]? with
  | none =>
    cases b : (m[j])[s]? with
    | none => rw [cell_none ei a, cell_none ej b]; trivial
    | some q => rw [a, b] at e2; cases e2
  | some p =>
    cases b : (m[j])[s]? with
    | none => rw [a, b] at e2; cases e2
    | some q =>
      rw [a, b] at e2
      rw [cell_row ei a] at toi ⊢
      rw [cell_row ej b] at toj ⊢
      have e3 := Option.some.inj e2
      cases p with
      | none =>
        cases q with
        | none => trivial
        | some q => cases e3
      | some p =>
        cases q with
        | none => cases e3
        | some q =>
          obtain ⟨w, k⟩ := p
          obtain ⟨w', k'⟩ := q
          have e4 : (w, L.getD k 0) = (w', L.getD k' 0) := Option.some.inj e3
          have hw : w = w' := congrArg Prod.fst e4
          have hk : L.getD k 0 = L.getD k' 0 := congrArg Prod.snd e4
          exact ⟨hw, toi w k rfl, toj w' k' rfl, same k k' (toi w k rfl) (toj w' k' rfl) hk⟩
/-- or the lots grow more -/
theorem lots_more {m : Ms} {L : List Nat} (hl : L.length = m.length) (h : (dd [] (looks m L)).length ≠ (dd [] L).length) : (dd [] L).length < (dd [] (later m L)).length := by
  have a := cnt_le (·.1) (looks m L)
  rw [fst_looks hl] at a
  rw [later_num, List.length_range]
  omega

/-! ### the machine of the lots -/
def whole (m : Ms) (L : List Nat) : Ms := (List.range (dd [] L).length).map fun q => ((m[pos L q]?).getD []).map (Option.map fun p => (p.1, L.getD p.2 0))
/-- no two standings of it are alike -/
structure Rd (m : Ms) : Prop where
  wf : WF m
  one : ∀ i j, i < m.length → j < m.length → Sim m i m j → i = j
section
variable {m : Ms} {L : List Nat}
theorem Lots.lt (h : Lots m L) {i : Nat} (hi : i < m.length) : L.getD i 0 < (dd [] L).length := by
  have e : L.getD i 0 ∈ dd [] L := (mem_dd L).mpr (.inr (by rw [List.getD_eq_getElem?_getD, List.getElem?_eq_getElem (by rw [h.len]; exact hi)]; exact List.getElem_mem ..))
  rw [h.num] at e
  exact List.mem_range.mp e
theorem Lots.first (h : Lots m L) {q : Nat} (hq : q < (dd [] L).length) : pos L q < m.length ∧ L.getD (pos L q) 0 = q := by
  have e : q ∈ dd [] L := by rw [h.num]; exact List.mem_range.mpr hq
  rcases (mem_dd L).mp e with e | e
  · exact absurd e List.not_mem_nil
  · have := pos_lt e
    rw [h.len] at this
    exact ⟨this, by rw [List.getD_eq_getElem?_getD, pos_get e]; rfl⟩
theorem whole_len : (whole m L).length = (dd [] L).length := by unfold whole; simp
theorem cell_whole (h : Lots m L) {q s : Nat} (hq : q < (dd [] L).length) : cell (whole m L) q s = (cell m (pos L q) s).map fun p => (p.1, L.getD p.2 0) := by
  have hp := (h.first hq).1
  have e1 : (whole m L)[q]? = some ((m[pos L q]).map (Option.map fun p => (p.1, L.getD p.2 0))) := by
    unfold whole
    rw [List.getElem?_map, List.getElem?_range hq]
    show some (((m[pos L q]?).getD []).map (Option.map fun p => (p.1, L.getD p.2 0))) = _
    rw [row_of hp]
  have e2 : m[pos L q]? = some m[pos L q] := List.getElem?_eq_getElem hp
  cases a : (m[pos L q])[s]? with
  | none => rw [cell_none e2 a, cell_none e1 (by rw [List.getElem?_map, a]; rfl)]; rfl
  | some t => rw [cell_row e2 a, cell_row e1 (t := t.map fun p => (p.1, L.getD p.2 0)) (by rw [List.getElem?_map, a]; rfl)]
theorem whole_sim (hm : WF m) (h : Lots m L) {i : Nat} (hi : i < m.length) : Sim (whole m L) (L.getD i 0) m i := by
  refine sim_of (fun q i => i < m.length ∧ q = L.getD i 0) (fun q i ⟨hi, hq⟩ s => ?_) ⟨hi, rfl⟩
  subst hq
  rw [cell_whole h (h.lt hi)]
  obtain ⟨h1, h2⟩ := h.first (h.lt hi)
  have g := sim_step ((h.iff _ _ h1 hi).mp h2) s
  have to1 := hm.to (pos L (L.getD i 0)) s
  have to2 := hm.to i s
  cases a : cell m (pos L (L.getD i 0)) s with
  | none =>
    cases b : cell m i s with
    | none => trivial
    | some q => rw [a, b] at g; exact g.elim
  | some p =>
    cases b : cell m i s with
    | none => rw [a, b] at g; exact g.elim
    | some q =>
      rw [a, b] at g
      obtain ⟨w, k⟩ := p
      obtain ⟨w', k'⟩ := q
      obtain ⟨hw, hk⟩ := g
      exact ⟨hw, to2 w' k' b, (h.iff k k' (to1 w k a) (to2 w' k' b)).mpr hk⟩
theorem whole_rd (hm : WF m) (h : Lots m L) : Rd (whole m L) := by
  refine ⟨⟨fun i r e => ?_, fun i s w k e => ?_⟩, fun i j hi hj s => ?_⟩
  · have hi : i < (dd [] L).length := by rw [← whole_len (m := m)]; exact (List.getElem?_eq_some_iff.mp e).1
    unfold whole at e
    rw [List.getElem?_map, List.getElem?_range hi] at e
    have e : ((m[pos L i]?).getD []).map (Option.map fun p => (p.1, L.getD p.2 0)) = r := Option.some.inj e
    rw [← e, List.length_map, row_of (h.first hi).1]
    exact hm.three _ _ (List.getElem?_eq_getElem (h.first hi).1)
  · have hi : i < (dd [] L).length := by
      obtain ⟨r, a, _⟩ := cell_some e
      rw [← whole_len (m := m)]
      exact (List.getElem?_eq_some_iff.mp a).1
    rw [cell_whole h hi] at e
    cases a : cell m (pos L i) s with
    | none => rw [a] at e; cases e
    | some p =>
      rw [a] at e
      obtain ⟨w', k'⟩ := p
      have e : (w', L.getD k' 0) = (w, k) := Option.some.inj e
      have ek : L.getD k' 0 = k := congrArg Prod.snd e
      rw [← ek, whole_len]
      exact h.lt (hm.to _ _ _ _ a)
  · rw [whole_len] at hi hj
    obtain ⟨a1, a2⟩ := h.first hi
    obtain ⟨b1, b2⟩ := h.first hj
    have s1 := whole_sim hm h a1
    have s2 := whole_sim hm h b1
    rw [a2] at s1
    rw [b2] at s2
    have := (h.iff _ _ a1 b1).mpr ((s1.symm.trans s).trans s2)
    rw [a2, b2] at this
    exact this
end
end K33

set_option Elab.async false
set_option linter.all false
set_option maxRecDepth 100000
set_option maxHeartbeats 4000000
namespace K33
/-! ### what is come to -/
def stepRow (line : List Nat) (row : List Tl) : List Nat := row.foldl (fun l t => match t with
  | some p => push l p.2
  | none => l) line
inductive Bfs (m : Ms) : List Nat → Nat → List Nat → Prop where
  | stop {line : List Nat} {a : Nat} : line.length ≤ a → Bfs m line a line
  | go {line F : List Nat} {a i : Nat} {row : List Tl} : line[a]? = some i → m[i]? = some row → Bfs m (stepRow line row) (a + 1) F → Bfs m line a F
/-- the lines of two machines, alike -/
structure Al (m : Ms) (l : List Nat) (m' : Ms) (l' : List Nat) : Prop where
  len : l.length = l'.length
  sim : ∀ (i x y : Nat), l[i]? = some x → l'[i]? = some y → Sim m x m' y
  lt : ∀ x ∈ l, x < m.length
  lt' : ∀ x ∈ l', x < m'.length
  nd : l.Nodup
  nd' : l'.Nodup
section
variable {m m' : Ms} {l l' : List Nat} {k k' : Nat}
theorem Al.mem (h : Al m l m' l') (hr : Rd m') (hk' : k' < m'.length) (s : Sim m k m' k') (e : k ∈ l) : k' ∈ l' := by
  obtain ⟨i, hi⟩ := List.getElem?_of_mem e
  have hl : i < l'.length := by rw [← h.len]; exact (List.getElem?_eq_some_iff.mp hi).1
  have ej : l'[i]? = some l'[i] := List.getElem?_eq_getElem hl
  have := hr.one _ _ (h.lt' _ (List.mem_of_getElem? ej)) hk' ((h.sim i k _ hi ej).symm.trans s)
  rw [← this]
  exact List.mem_of_getElem? ej
theorem Al.swap (h : Al m l m' l') : Al m' l' m l := ⟨h.len.symm, fun i x y a b => (h.sim i y x b a).symm, h.lt', h.lt, h.nd', h.nd⟩
theorem Al.push (h : Al m l m' l') (hr : Rd m) (hr' : Rd m') (hk : k < m.length) (hk' : k' < m'.length) (s : Sim m k m' k') : Al m (K33.push l k) m' (K33.push l' k') := by
  by_cases e : k ∈ l
  · have e' := h.mem hr' hk' s e
    unfold K33.push
    rw [if_pos e, if_pos e']
    exact h
  · have e' : k' ∉ l' := fun z => e (h.swap.mem hr hk s.symm z)
    have n1 := push_nodup (x := k) h.nd
    have n2 := push_nodup (x := k') h.nd'
    have l1 : ∀ x ∈ K33.push l k, x < m.length := fun x hx => by
      rcases mem_push.mp hx with hx | hx
      · exact h.lt x hx
      · rw [hx]; exact hk
    have l2 : ∀ x ∈ K33.push l' k', x < m'.length := fun x hx => by
      rcases mem_push.mp hx with hx | hx
      · exact h.lt' x hx
      · rw [hx]; exact hk'
    refine ⟨?_, fun i x y a b => ?_, l1, l2, n1, n2⟩
    · unfold K33.push
      rw [if_neg e, if_neg e', List.length_append, List.length_append, h.len]; rfl
    · unfold K33.push at a b
      rw [if_neg e] at a
      rw [if_neg e'] at b
      by_cases hi : i < l.length
      · rw [List.getElem?_append_left hi] at a
        rw [List.getElem?_append_left (by rw [← h.len]; exact hi)] at b
        exact h.sim i x y a b
      · rw [List.getElem?_append_right (by omega)] at a
        rw [List.getElem?_append_right (by rw [← h.len]; omega)] at b
        rw [← h.len] at b
        cases z : i - l.length with
        | zero =>
          rw [z] at a b
          have a : k = x := by simpa using a
          have b : k' = y := by simpa using b
          rw [← a, ← b]; exact s
        | succ j => rw [z] at a; simp at a
/-- two rows, alike -/
inductive RowAl (m m' : Ms) : List Tl → List Tl → Prop where
  | nil : RowAl m m' [] []
  | cons {t t' : Tl} {r r' : List Tl} : Go (fun k k' => Sim m k m' k' ∧ k < m.length ∧ k' < m'.length) t t' → RowAl m m' r r' → RowAl m m' (t :: r) (t' :: r')
theorem Al.step (hr : Rd m) (hr' : Rd m') {r r' : List Tl} (g : RowAl m m' r r') : ∀ {l l' : List Nat}, Al m l m' l' → Al m (stepRow l r) m' (stepRow l' r') := by
  induction g with
  | nil => intro l l' h; exact h
  | @cons t t' r r' g _ ih =>
    intro l l' h
    cases t with
    | none =>
      cases t' with
      | none => exact ih h
      | some p => exact g.elim
    | some p =>
      cases t' with
      | none => exact g.elim
      | some q =>
        obtain ⟨w, k⟩ := p
        obtain ⟨w', k'⟩ := q
        obtain ⟨_, s, a, b⟩ := g
        exact ih (h.push hr hr' a b s)
theorem rowAl_of : ∀ {r r' : List Tl}, r.length = r'.length → (∀ (s : Nat) (t t' : Tl), r[s]? = some t → r'[s]? = some t' → Go (fun k k' => Sim m k m' k' ∧ k < m.length ∧ k' < m'.length) t t') → RowAl m m' r r'
  | [], [], _, _ => .nil
  | [], _ :: _, h, _ => by simp at h
  | _ :: _, [], h, _ => by simp at h
  | t :: r, t' :: r', h, g => .cons (g 0 t t' rfl rfl) (rowAl_of (by simpa using h) fun s a b x y => g (s + 1) a b (by simpa using x) (by simpa using y))
theorem row_al (hm : WF m) (hm' : WF m') {i j : Nat} (s : Sim m i m' j) {r r' : List Tl} (hi : m[i]? = some r) (hj : m'[j]? = some r') : RowAl m m' r r' := by
  refine rowAl_of ((hm.three i r hi).trans (hm'.three j r' hj).symm) fun q t t' a b => ?_
  have g := sim_step s q
  have t1 := hm.to i q
  have t2 := hm'.to j q
  rw [cell_row hi a] at g t1
  rw [cell_row hj b] at g t2
  cases t with
  | none =>
    cases t' with
    | none => trivial
    | some p => exact g.elim
  | some p =>
    cases t' with
    | none => exact g.elim
    | some p' => exact ⟨g.1, g.2, t1 _ _ rfl, t2 _ _ rfl⟩
/-- the two go on together -/
theorem bfs_lock (hr : Rd m) (hr' : Rd m') {l F : List Nat} {a : Nat} (h : Bfs m l a F) : ∀ {l' F' : List Nat}, Bfs m' l' a F' → Al m l m' l' → Al m F m' F' := by
  induction h with
  | @stop l a hs =>
    intro l' F' h' al
    cases h' with
    | stop _ => exact al
    | go e _ _ =>
      have := (List.getElem?_eq_some_iff.mp e).1
      rw [← al.len] at this
      omega
  | @go l F a i row e er _ ih =>
    intro l' F' h' al
    cases h' with
    | stop hs =>
      have := (List.getElem?_eq_some_iff.mp e).1
      rw [al.len] at this
      omega
    | go e' er' h' => exact ih h' (al.step hr hr' (row_al hr.wf hr'.wf (al.sim a _ _ e e') er er'))
/-- the line's first part stays, its end is closed -/
theorem step_pre : ∀ (r : List Tl) (l : List Nat), ∃ x, stepRow l r = l ++ x
  | [], l => ⟨[], (List.append_nil l).symm⟩
  | none :: r, l => step_pre r l
  | some p :: r, l => by
    obtain ⟨x, e⟩ := push_pre l p.2
    obtain ⟨y, e2⟩ := step_pre r (K33.push l p.2)
    exact ⟨x ++ y, by show stepRow (K33.push l p.2) r = _; rw [e2, e, List.append_assoc]⟩
theorem step_mem : ∀ (r : List Tl) (l : List Nat) (w : Wd) (k : Nat), some (w, k) ∈ r → k ∈ stepRow l r
  | [], _, _, _, h => absurd h List.not_mem_nil
  | t :: r, l, w, k, h0 => by
    rcases List.mem_cons.mp h0 with h | h2
    · subst h
      obtain ⟨y, e2⟩ := step_pre r (K33.push l k)
      show k ∈ stepRow (K33.push l k) r
      rw [e2]
      exact List.mem_append_left _ (mem_push.mpr (.inr rfl))
    · clear h0
      cases t with
      | none => exact step_mem r l w k h2
      | some p => exact step_mem r (K33.push l p.2) w k h2
theorem step_nodup : ∀ (r : List Tl) {l : List Nat}, l.Nodup → (stepRow l r).Nodup
  | [], _, h => h
  | none :: r, _, h => step_nodup r h
  | some p :: r, l, h => step_nodup r (l := K33.push l p.2) (push_nodup h)
theorem step_in : ∀ (r : List Tl) {l : List Nat} {N : Nat}, (∀ x ∈ l, x < N) → (∀ w k, some (w, k) ∈ r → k < N) → ∀ x ∈ stepRow l r, x < N
  | [], _, _, h, _ => h
  | none :: r, _, _, h, g => step_in r h fun w k z => g w k (List.mem_cons_of_mem _ z)
  | some p :: r, l, N, h, g => step_in r (l := K33.push l p.2) (fun x hx => by
      rcases mem_push.mp hx with hx | hx
      · exact h x hx
      · rw [hx]; exact g p.1 p.2 (List.mem_cons_self ..)) fun w k z => g w k (List.mem_cons_of_mem _ z)
theorem bfs_pre {l F : List Nat} {a : Nat} (h : Bfs m l a F) : ∃ x, F = l ++ x := by
  induction h with
  | stop _ => exact ⟨[], (List.append_nil _).symm⟩
  | @go l F a i row e er _ ih =>
    obtain ⟨x, ex⟩ := ih
    obtain ⟨y, ey⟩ := step_pre row l
    exact ⟨y ++ x, by rw [ex, ey, List.append_assoc]⟩
theorem bfs_nodup {l F : List Nat} {a : Nat} (h : Bfs m l a F) : l.Nodup → F.Nodup := by
  induction h with
  | stop _ => exact id
  | go _ _ _ ih => exact fun h => ih (step_nodup _ h)
theorem cell_mem {i : Nat} {r : List Tl} {w : Wd} {k : Nat} (h : m[i]? = some r) (g : some (w, k) ∈ r) : ∃ s, cell m i s = some (w, k) := by
  obtain ⟨s, e⟩ := List.getElem?_of_mem g
  exact ⟨s, cell_row h e⟩
theorem bfs_in (hm : WF m) {l F : List Nat} {a : Nat} (h : Bfs m l a F) : (∀ x ∈ l, x < m.length) → ∀ x ∈ F, x < m.length := by
  induction h with
  | stop _ => exact id
  | @go l F a i row e er _ ih => exact fun h => ih (step_in row h fun w k z => by
      obtain ⟨s, hs⟩ := cell_mem er z
      exact hm.to i s w k hs)
theorem bfs_closed {l F : List Nat} {a : Nat} (h : Bfs m l a F) : (∀ (j i s : Nat) (w : Wd) (k : Nat), j < a → l[j]? = some i → cell m i s = some (w, k) → k ∈ l) → ∀ (j i s : Nat) (w : Wd) (k : Nat), F[j]? = some i → cell m i s = some (w, k) → k ∈ F := by
  induction h with
  | @stop l a hs => exact fun h j i s w k e c => h j i s w k (by have := (List.getElem?_eq_some_iff.mp e).1; omega) e c
  | @go l F a i row e er _ ih =>
    intro h
    obtain ⟨x, ex⟩ := step_pre row l
    refine ih fun j i' s w k hj e' c => ?_
    rw [ex] at e'
    have ha := (List.getElem?_eq_some_iff.mp e).1
    rw [List.getElem?_append_left (by omega)] at e'
    by_cases hja : j < a
    · rw [ex]
      exact List.mem_append_left _ (h j i' s w k hja e' c)
    · have ej : j = a := by omega
      subst ej
      rw [e] at e'
      cases e'
      obtain ⟨r2, g1, g2⟩ := cell_some c
      rw [er] at g1
      cases g1
      exact step_mem row l w k (List.mem_of_getElem? g2)
end

/-! ### laid together -/
def rowIn (F : List Nat) (r : List Tl) : List Tl := r.map (Option.map fun p => (p.1, pos F p.2))
def laidRows (W : Ms) (F : List Nat) : Ms := F.map fun q => rowIn F ((W[q]?).getD [])
/-- W the machine of the lots, cs the begins' lots, F what is come to -/
structure Laid (m : Ms) (bs ns : List Nat) (R : Ms) : Prop where
  ex : ∃ (W : Ms) (cs F : List Nat), Rd W ∧ W.length ≤ m.length ∧ cs.length = bs.length ∧ (∀ (i b c : Nat), bs[i]? = some b → cs[i]? = some c → c < W.length ∧ Sim m b W c) ∧ Bfs W (dd [] cs) 0 F ∧ ns = cs.map (pos F) ∧ R = laidRows W F
section
variable {m m' : Ms}
theorem cell_laid {W : Ms} {F : List Nat} {q i s : Nat} (h : F[i]? = some q) : cell (laidRows W F) i s = (cell W q s).map fun p => (p.1, pos F p.2) := by
  have e1 : (laidRows W F)[i]? = some (rowIn F ((W[q]?).getD [])) := by unfold laidRows; rw [List.getElem?_map, h]; rfl
  cases e : W[q]? with
  | none =>
    rw [e] at e1
    rw [cell_out e, cell_none e1 (by rfl)]; rfl
  | some r =>
    rw [e] at e1
    have e1 : (laidRows W F)[i]? = some (rowIn F r) := e1
    cases a : r[s]? with
    | none => rw [cell_none e a, cell_none e1 (by unfold rowIn; rw [List.getElem?_map, a]; rfl)]; rfl
    | some t => rw [cell_row e a, cell_row e1 (t := t.map fun p => (p.1, pos F p.2)) (by unfold rowIn; rw [List.getElem?_map, a]; rfl)]
/-- the begins' line in two machines -/
theorem al_begins (hr : Rd m) (hr' : Rd m') : ∀ {cs cs' : List Nat} {l l' : List Nat}, cs.length = cs'.length → (∀ (i c c' : Nat), cs[i]? = some c → cs'[i]? = some c' → c < m.length ∧ c' < m'.length ∧ Sim m c m' c') → Al m l m' l' → Al m (dd l cs) m' (dd l' cs')
  | [], [], _, _, _, _, h => h
  | [], _ :: _, _, _, e, _, _ => by simp at e
  | _ :: _, [], _, _, e, _, _ => by simp at e
  | c :: cs, c' :: cs', l, l', e, g, h => by
    obtain ⟨a, b, s⟩ := g 0 c c' rfl rfl
    exact al_begins hr hr' (l := K33.push l c) (l' := K33.push l' c') (by simpa using e) (fun i x y p q => g (i + 1) x y (by simpa using p) (by simpa using q)) (h.push hr hr' a b s)
theorem al_nil : Al m [] m' [] := ⟨rfl, fun i x y a => by simp at a, fun x h => absurd h List.not_mem_nil, fun x h => absurd h List.not_mem_nil, List.nodup_nil, List.nodup_nil⟩
theorem Al.pos {l l' : List Nat} {k k' : Nat} (h : Al m l m' l') (hr' : Rd m') (hk' : k' < m'.length) (s : Sim m k m' k') (e : k ∈ l) : K33.pos l k = K33.pos l' k' := by
  have a := pos_get e
  have hl : K33.pos l k < l'.length := by rw [← h.len]; exact pos_lt e
  have ej : l'[K33.pos l k]? = some l'[K33.pos l k] := List.getElem?_eq_getElem hl
  have := hr'.one _ _ (h.lt' _ (List.mem_of_getElem? ej)) hk' ((h.sim _ k _ a ej).symm.trans s)
  rw [this] at ej
  exact (pos_at h.nd' ej).symm
structure LaidOk (m : Ms) (bs ns : List Nat) (R : Ms) : Prop where
  rd : Rd R
  len : R.length ≤ m.length
  nlen : ns.length = bs.length
  sim : ∀ (i b n : Nat), bs[i]? = some b → ns[i]? = some n → n < R.length ∧ Sim m b R n
  line : Bfs R (dd [] ns) 0 (List.range R.length)
theorem rowIn_len (F : List Nat) (r : List Tl) : (rowIn F r).length = r.length := List.length_map ..
theorem Laid.ok {bs ns : List Nat} {R : Ms} (h : Laid m bs ns R) : LaidOk m bs ns R := by
  obtain ⟨W, cs, F, hr, hl, hc, hs, hb, rfl, rfl⟩ := h.ex
  have nd : F.Nodup := bfs_nodup hb (dd_nodup cs List.nodup_nil)
  have clt : ∀ x ∈ cs, x < W.length := fun x hx => by
    obtain ⟨i, hi⟩ := List.getElem?_of_mem hx
    have hi2 : i < bs.length := by rw [← hc]; exact (List.getElem?_eq_some_iff.mp hi).1
    exact (hs i _ x (List.getElem?_eq_getElem hi2) hi).1
  have lt : ∀ x ∈ F, x < W.length := bfs_in hr.wf hb fun x hx => clt x (((mem_dd cs).mp hx).resolve_left List.not_mem_nil)
  have cl := bfs_closed hb fun j i s w k hj => absurd hj (Nat.not_lt_zero j)
  have cF : ∀ x ∈ cs, x ∈ F := fun x hx => by
    obtain ⟨y, e⟩ := bfs_pre hb
    rw [e]
    exact List.mem_append_left _ ((mem_dd cs).mpr (.inr hx))
  have len : (laidRows W F).length = F.length := by unfold laidRows; rw [List.length_map]
  -- each standing tells what its lot does
  have simF : ∀ (i q : Nat), F[i]? = some q → Sim (laidRows W F) i W q := fun i q hq => by
    refine sim_of (fun i q => F[i]? = some q) (fun i q h s => ?_) hq
    rw [cell_laid h]
    cases e : cell W q s with
    | none => trivial
    | some p =>
      obtain ⟨w, k⟩ := p
      exact ⟨rfl, pos_get (cl i q s w k h e)⟩
  have wf : WF (laidRows W F) := by
    refine ⟨fun i r e => ?_, fun i s w k e => ?_⟩
    · unfold laidRows at e
      rw [List.getElem?_map] at e
      cases a : F[i]? with
      | none => rw [a] at e; cases e
      | some q =>
        rw [a] at e
        have e : rowIn F ((W[q]?).getD []) = r := Option.some.inj e
        have hq := lt q (List.mem_of_getElem? a)
        rw [← e, rowIn_len, row_of hq]
        exact hr.wf.three q _ (List.getElem?_eq_getElem hq)
    · obtain ⟨r, a, _⟩ := cell_some e
      have hi : i < F.length := by rw [← len]; exact (List.getElem?_eq_some_iff.mp a).1
      have ei : F[i]? = some F[i] := List.getElem?_eq_getElem hi
      rw [cell_laid ei] at e
      cases b : cell W F[i] s with
      | none => rw [b] at e; cases e
      | some p =>
        rw [b] at e
        obtain ⟨w', k'⟩ := p
        have e : (w', K33.pos F k') = (w, k) := Option.some.inj e
        have ek : K33.pos F k' = k := congrArg Prod.snd e
        rw [← ek, len]
        exact pos_lt (cl i _ s w' k' ei b)
  have rd : Rd (laidRows W F) := ⟨wf, fun i j hi hj s => by
    rw [len] at hi hj
    have ei : F[i]? = some F[i] := List.getElem?_eq_getElem hi
    have ej : F[j]? = some F[j] := List.getElem?_eq_getElem hj
    have := hr.one _ _ (lt _ (List.mem_of_getElem? ei)) (lt _ (List.mem_of_getElem? ej)) (((simF i _ ei).symm.trans s).trans (simF j _ ej))
    rw [← this] at ej
    rw [← pos_at nd ei, ← pos_at nd ej]⟩
  refine ⟨rd, ?_, by rw [List.length_map, hc], fun i b n hb' hn => ?_, ?_⟩
  · rw [len]
    exact Nat.le_trans (few_below _ F nd lt) hl
  · rw [List.getElem?_map] at hn
    cases a : cs[i]? with
    | none => rw [a] at hn; cases hn
    | some c =>
      rw [a] at hn
      have hn : K33.pos F c = n := Option.some.inj hn
      have hm := cF c (List.mem_of_getElem? a)
      rw [← hn, len]
      exact ⟨pos_lt hm, (hs i b c hb' a).2.trans (simF _ c (pos_get hm)).symm⟩
  · -- the numbers come in order
    have go : ∀ {l G : List Nat} {a : Nat}, Bfs W l a G → G = F → Bfs (laidRows W F) (l.map (K33.pos F)) a (G.map (K33.pos F)) := by
      intro l G a hb2
      induction hb2 with
      | @stop l a h => intro _; exact .stop (by rw [List.length_map]; exact h)
      | @go l G a i row e er hb3 ih =>
        intro eG
        have pre : ∃ x, F = stepRow l row ++ x := by
          obtain ⟨x, ex⟩ := bfs_pre hb3
          exact ⟨x, by rw [← eG]; exact ex⟩
        obtain ⟨y, ey⟩ := step_pre row l
        obtain ⟨x, ex⟩ := pre
        have iF : i ∈ F := by
          rw [ex, ey]
          exact List.mem_append_left _ (List.mem_append_left _ (List.mem_of_getElem? e))
        have ei := pos_get iF
        have e1 : (laidRows W F)[K33.pos F i]? = some (rowIn F row) := by
          unfold laidRows
          rw [List.getElem?_map, ei]
          show some (rowIn F ((W[i]?).getD [])) = _
          rw [er]; rfl
        refine .go (i := K33.pos F i) (row := rowIn F row) (by rw [List.getElem?_map, e]; rfl) e1 ?_
        have push_map : ∀ (l : List Nat) (k : Nat), (∀ z ∈ l, z ∈ F) → k ∈ F → (K33.push l k).map (K33.pos F) = K33.push (l.map (K33.pos F)) (K33.pos F k) := fun l k hl hk => by
          unfold K33.push
          by_cases z : k ∈ l
          · rw [if_pos z, if_pos (List.mem_map.mpr ⟨k, z, rfl⟩)]
          · have z2 : K33.pos F k ∉ l.map (K33.pos F) := fun q => by
              obtain ⟨t, t1, t2⟩ := List.mem_map.mp q
              exact z (pos_inj (hl t t1) hk t2 ▸ t1)
            rw [if_neg z, if_neg z2, List.map_append]; rfl
        have step_map : ∀ (r : List Tl) (l : List Nat), (∀ z ∈ l, z ∈ F) → (∀ w k, some (w, k) ∈ r → k ∈ F) → (stepRow l r).map (K33.pos F) = stepRow (l.map (K33.pos F)) (rowIn F r) := by
          intro r
          induction r with
          | nil => intro l _ _; rfl
          | cons t r ihr =>
            intro l hl hk
            cases t with
            | none => exact ihr l hl fun w k z => hk w k (List.mem_cons_of_mem _ z)
            | some p =>
              have hp := hk p.1 p.2 (List.mem_cons_self ..)
              show (stepRow (K33.push l p.2) r).map (K33.pos F) = stepRow (K33.push (l.map (K33.pos F)) (K33.pos F p.2)) (rowIn F r)
              rw [← push_map l p.2 hl hp]
              refine ihr _ (fun z hz => ?_) fun w k z => hk w k (List.mem_cons_of_mem _ z)
              rcases mem_push.mp hz with hz | hz
              · exact hl z hz
              · rw [hz]; exact hp
        rw [← step_map row l (fun z hz => by rw [ex, ey]; exact List.mem_append_left _ (List.mem_append_left _ hz)) (fun w k z => by rw [ex]; exact List.mem_append_left _ (step_mem row l w k z))]
        exact ih eG
    have g := go hb rfl
    have e2 : F.map (K33.pos F) = List.range (laidRows W F).length := by
      rw [len]
      refine List.ext_getElem? fun i => ?_
      rw [List.getElem?_map]
      by_cases hi : i < F.length
      · rw [List.getElem?_eq_getElem hi, List.getElem?_range hi]
        show some (K33.pos F F[i]) = some i
        rw [pos_at nd (List.getElem?_eq_getElem hi)]
      · rw [List.getElem?_eq_none (by omega), List.getElem?_eq_none (by simpa using hi)]; rfl
    rw [e2] at g
    have e3 : ∀ (cs l : List Nat), (∀ z ∈ l, z ∈ F) → (∀ z ∈ cs, z ∈ F) → (dd l cs).map (K33.pos F) = dd (l.map (K33.pos F)) (cs.map (K33.pos F)) := by
      intro cs
      induction cs with
      | nil => intro l _ _; rfl
      | cons c cs ih =>
        intro l hl hc
        have hc0 := hc c (List.mem_cons_self ..)
        rw [List.map_cons]
        show (dd (K33.push l c) cs).map (K33.pos F) = dd (K33.push (l.map (K33.pos F)) (K33.pos F c)) _
        have : (K33.push l c).map (K33.pos F) = K33.push (l.map (K33.pos F)) (K33.pos F c) := by
          unfold K33.push
          by_cases z : c ∈ l
          · rw [if_pos z, if_pos (List.mem_map.mpr ⟨c, z, rfl⟩)]
          · have z2 : K33.pos F c ∉ l.map (K33.pos F) := fun q => by
              obtain ⟨t, t1, t2⟩ := List.mem_map.mp q
              exact z (pos_inj (hl t t1) hc0 t2 ▸ t1)
            rw [if_neg z, if_neg z2, List.map_append]; rfl
        rw [← this]
        refine ih _ (fun z hz => ?_) fun z hz => hc z (List.mem_cons_of_mem _ hz)
        rcases mem_push.mp hz with hz | hz
        · exact hl z hz
        · rw [hz]; exact hc0
    rw [e3 cs [] (fun z hz => absurd hz List.not_mem_nil) cF] at g
    exact g
/-- machines that tell the same are laid together the same -/
theorem laid_eq {bs bs' ns ns' : List Nat} {R R' : Ms} (h : Laid m bs ns R) (h' : Laid m' bs' ns' R') (hl : bs.length = bs'.length) (hs : ∀ (i b b' : Nat), bs[i]? = some b → bs'[i]? = some b' → Sim m b m' b') : ns = ns' ∧ R = R' := by
  obtain ⟨W, cs, F, hr, _, hc, hsW, hb, rfl, rfl⟩ := h.ex
  obtain ⟨W', cs', F', hr', _, hc', hsW', hb', rfl, rfl⟩ := h'.ex
  have lc : cs.length = cs'.length := by rw [hc, hc', hl]
  have sc : ∀ (i c c' : Nat), cs[i]? = some c → cs'[i]? = some c' → c < W.length ∧ c' < W'.length ∧ Sim W c W' c' := fun i c c' e e' => by
    have h1 : i < bs.length := by rw [← hc]; exact (List.getElem?_eq_some_iff.mp e).1
    have h2 : i < bs'.length := by rw [← hl]; exact h1
    obtain ⟨a1, a2⟩ := hsW i _ c (List.getElem?_eq_getElem h1) e
    obtain ⟨b1, b2⟩ := hsW' i _ c' (List.getElem?_eq_getElem h2) e'
    exact ⟨a1, b1, (a2.symm.trans (hs i _ _ (List.getElem?_eq_getElem h1) (List.getElem?_eq_getElem h2))).trans b2⟩
  have al : Al W F W' F' := bfs_lock hr hr' hb hb' (al_begins hr hr' lc sc al_nil)
  have cl := bfs_closed hb fun j i s w k hj => absurd hj (Nat.not_lt_zero j)
  have cF : ∀ x ∈ cs, x ∈ F := fun x hx => by
    obtain ⟨y, e⟩ := bfs_pre hb
    rw [e]
    exact List.mem_append_left _ ((mem_dd cs).mpr (.inr hx))
  constructor
  · refine List.ext_getElem? fun i => ?_
    rw [List.getElem?_map, List.getElem?_map]
    by_cases hi : i < cs.length
    · have e : cs[i]? = some cs[i] := List.getElem?_eq_getElem hi
      have e' : cs'[i]? = some (cs'[i]'(by omega)) := List.getElem?_eq_getElem _
      obtain ⟨_, b, s⟩ := sc i _ _ e e'
      rw [e, e']
      show some (K33.pos F _) = some (K33.pos F' _)
      rw [al.pos hr' b s (cF _ (List.mem_of_getElem? e))]
    · rw [List.getElem?_eq_none (by omega), List.getElem?_eq_none (by omega)]; rfl
  · unfold laidRows
    refine List.ext_getElem? fun i => ?_
    rw [List.getElem?_map, List.getElem?_map]
    by_cases hi : i < F.length
    · have e : F[i]? = some F[i] := List.getElem?_eq_getElem hi
      have e' : F'[i]? = some (F'[i]'(by rw [← al.len]; exact hi)) := List.getElem?_eq_getElem _
      rw [e, e']
      show some (rowIn F _) = some (rowIn F' _)
      have q1 := al.lt _ (List.mem_of_getElem? e)
      have q2 := al.lt' _ (List.mem_of_getElem? e')
      rw [row_of q1, row_of q2]
      have ra := row_al hr.wf hr'.wf (al.sim i _ _ e e') (List.getElem?_eq_getElem q1) (List.getElem?_eq_getElem q2)
      have inF : ∀ w k, some (w, k) ∈ W[F[i]] → k ∈ F := fun w k z => by
        obtain ⟨s, hs⟩ := cell_mem (List.getElem?_eq_getElem q1) z
        exact cl i _ s w k e hs
      have fin : ∀ {r r' : List Tl}, RowAl W W' r r' → (∀ w k, some (w, k) ∈ r → k ∈ F) → rowIn F r = rowIn F' r' := by
        intro r r' ra
        induction ra with
        | nil => intro _; rfl
        | @cons t t' r r' g _ ih =>
          intro hk
          have ih := ih fun w k z => hk w k (List.mem_cons_of_mem _ z)
          unfold rowIn at ih ⊢
          rw [List.map_cons, List.map_cons, ih]
          congr 1
          cases t with
          | none =>
            cases t' with
            | none => rfl
            | some p => exact g.elim
          | some p =>
            cases t' with
            | none => exact g.elim
            | some p' =>
              obtain ⟨w, k⟩ := p
              obtain ⟨w', k'⟩ := p'
              obtain ⟨rfl, s, _, b⟩ := g
              show some (w, K33.pos F k) = some (w, K33.pos F' k')
              rw [al.pos hr' b s (hk w k (List.mem_cons_self ..))]
      rw [fin ra inF]
    · rw [List.getElem?_eq_none (by omega), List.getElem?_eq_none (by rw [← al.len]; omega)]; rfl
end
end K33

set_option Elab.async false
set_option linter.all false
set_option maxRecDepth 100000
set_option maxHeartbeats 40000000
namespace K33
open PySem PySem.Spec L2 Dl
/-! ### the text by places -/
def top (i : Nat) : Stmt := PySem.Challenge.pw_hearwright_k33_least_machines.main.body.getD i (.Pass ⟨0, 0, 0, 0⟩)
abbrev s_is_integer : Stmt := top 5
abbrev n_is_integer : List Str := ["thing"]
abbrev s_is_count : Stmt := top 6
abbrev n_is_count : List Str := ["thing"]
abbrev s_is_bit : Stmt := top 7
abbrev n_is_bit : List Str := ["thing"]
abbrev s_is_told : Stmt := top 10
abbrev n_is_told : List Str := ["thing", "many", "bit"]
abbrev s_is_row : Stmt := top 11
abbrev n_is_row : List Str := ["thing", "many", "one"]
abbrev s_is_rows : Stmt := top 12
abbrev n_is_rows : List Str := ["thing", "row"]
abbrev s_is_sure : Stmt := top 13
abbrev n_is_sure : List Str := ["rows", "row", "one"]
abbrev s_come_to : Stmt := top 15
abbrev n_come_to : List Str := ["rows", "begins", "line", "met", "begin", "at", "told"]
abbrev s_is_both : Stmt := top 14
abbrev n_is_both : List Str := ["thing", "at", "one", "begin"]
abbrev s_looks_of : Stmt := top 16
abbrev n_looks_of : List Str := ["rows", "lots", "found", "number", "row", "some", "told"]
abbrev s_lots_of : Stmt := top 17
abbrev n_lots_of : List Str := ["rows", "lots", "looks", "numbers", "look", "later", "_row", "lot"]
abbrev s_laid_together : Stmt := top 18
abbrev n_laid_together : List Str := ["rows", "begins", "lots", "firsts", "number", "lot", "told", "whole", "order", "numbers", "found", "first", "begin", "one"]
abbrev s_least_of : Stmt := top 19
abbrev n_least_of : List Str := ["rows"]
abbrev s_least_both : Stmt := top 20
abbrev n_least_both : List Str := ["both", "begins", "rows"]
abbrev s_are_standings_alike : Stmt := top 21
abbrev n_are_standings_alike : List Str := ["rows", "one", "other", "lots", "at"]
abbrev s_unlike_at : Stmt := top 24
abbrev n_unlike_at : List Str := ["one", "other", "sign"]
abbrev s_first_parting : Stmt := top 25
abbrev n_first_parting : List Str := ["one", "other", "line", "met", "at", "mine", "its", "row", "sign", "what", "two"]
abbrev s__law_bag : Stmt := top 27
abbrev n__law_bag : List Str := ["script", "cell"]
abbrev s__law_take : Stmt := top 28
abbrev n__law_take : List Str := ["bag", "many", "cell", "stirred", "value", "first", "second"]
abbrev s__law_some : Stmt := top 29
abbrev n__law_some : List Str := ["bag", "things"]
abbrev s__law_alike : Stmt := top 30
abbrev n__law_alike : List Str := ["found", "due"]
abbrev s__law_machine : Stmt := top 31
abbrev n__law_machine : List Str := ["bag", "many", "rows", "lap", "row", "sign"]
abbrev s__law_unsure : Stmt := top 33
abbrev n__law_unsure : List Str := ["bag", "rows", "found", "row", "one"]
abbrev s__law_parted : Stmt := top 34
abbrev n__law_parted : List Str := ["rows", "one", "other", "line", "met", "at", "mine", "its"]
abbrev s__law_otherwise : Stmt := top 35
abbrev n__law_otherwise : List Str := ["bag", "rows", "many", "found", "lap", "row", "one"]
abbrev s_law : Stmt := top 36
abbrev n_law : List Str := ["script", "bag", "turn", "rows", "sure", "few", "other", "one", "its", "lap", "begins", "both", "its_begin", "start", "bad", "row"]
/-! ### what it does, on data -/
def k_SIGNS_alike : D := .tup [.int 0, .int 1, .int 2]
def k_SIGNS_least : D := .tup [.int 0, .int 1, .int 2]
def catch0 (k : Nat) : Option Bool := if k = 0 then some true else none
def den_is_integer : DS := (sRet (cAnd (cIsi .int (cV 0)) (cNot (cIsi .bool (cV 0)))))
def F_is_integer : Fn := fnD 1 den_is_integer
def den_is_count (F_is_integer : Fn) : DS := (sRet (cAnd (cFn 1 F_is_integer (aC (cV 0) aN)) (cOp2 gGe (cV 0) (cC (.int 0)))))
def F_is_count : Fn := fnD 1 (den_is_count F_is_integer)
def den_is_bit (F_is_integer : Fn) : DS := (sRet (cAnd (cFn 1 F_is_integer (aC (cV 0) aN)) (cChain gLe gLe (cC (.int 0)) (cV 0) (cC (.int 1)))))
def F_is_bit : Fn := fnD 1 (den_is_bit F_is_integer)
def den_is_told (F_is_bit F_is_count : Fn) : DS := (sSeq (sIf (kB (cOp2 gIs (cV 0) (cC .non))) (sRet (cC (.bl true))) sNext) (sSeq (sIf (kOr (kNot (kB (cIsi .tuple (cV 0)))) (kOr (kB (cOp2 gNe (cCall gLen (aC (cV 0) aN)) (cC (.int 2)))) (kOr (kNot (kB (cFn 1 F_is_count (aC (cOp2 gIx (cV 0) (cC (.int 1))) aN)))) (kB (cOp2 gGe (cOp2 gIx (cV 0) (cC (.int 1))) (cV 1)))))) (sRet (cC (.bl false))) sNext) (sRet (cOr (cOp2 gIs (cOp2 gIx (cV 0) (cC (.int 0))) (cC .non)) (cAnd (cIsi .tuple (cOp2 gIx (cV 0) (cC (.int 0)))) (cCall gAll (aC (cLc (iSeq (cOp2 gIx (cV 0) (cC (.int 0)))) (gN 2) kYes (cFn 1 F_is_bit (aC (cV 2) aN)) [2]) aN)))))))
def F_is_told : Fn := fnD 3 (den_is_told F_is_bit F_is_count)
def den_is_row (F_is_told : Fn) : DS := (sRet (cAnd (cIsi .tuple (cV 0)) (cAnd (cOp2 gEq (cCall gLen (aC (cV 0) aN)) (cCall gLen (aC (cC k_SIGNS_least) aN))) (cCall gAll (aC (cLc (iSeq (cV 0)) (gN 2) kYes (cFn 2 F_is_told (aC (cV 2) (aC (cV 1) aN))) [2]) aN)))))
def F_is_row : Fn := fnD 3 (den_is_row F_is_told)
def den_is_rows (F_is_row : Fn) : DS := (sRet (cAnd (cIsi .tuple (cV 0)) (cAnd (cOp2 gNe (cV 0) (cTup aN)) (cCall gAll (aC (cLc (iSeq (cV 0)) (gN 1) kYes (cFn 2 F_is_row (aC (cV 1) (aC (cCall gLen (aC (cV 0) aN)) aN))) [1]) aN)))))
def F_is_rows : Fn := fnD 2 (den_is_rows F_is_row)
def den_is_sure : DS := (sRet (cCall gAll (aC (cLc2 (iSeq (cV 0)) (gN 1) kYes (iSeq (cV 1)) (gN 2) kYes (cOr (cOp2 gIs (cV 2) (cC .non)) (cOp2 gNot (cOp2 gIx (cV 2) (cC (.int 0))) (cC .non))) [1, 2] [2]) aN)))
def F_is_sure : Fn := fnD 3 den_is_sure
def den_come_to : DS := (sSeq (sPar 2 3 (aC (cLst aN) (aC cNewK aN))) (sSeq (sFor (iSeq (cV 1)) (gN 4) (sIf (kB (cOp2 gNin (cV 4) (cV 3))) (sSeq (sAsgG (cC (.bl true)) (gSub2 (cV 3) (cV 4))) (sDrop (cMt isLst gApp (cV 2) (aC (cV 4) aN)))) sNext)) (sSeq (sSet 5 (cC (.int 0))) (sSeq (sWhile (kB (cOp2 gLt (cV 5) (cCall gLen (aC (cV 2) aN)))) (sSeq (sFor (iSeq (cOp2 gIx (cV 0) (cOp2 gIx (cV 2) (cV 5)))) (gN 6) (sIf (kAnd (kB (cOp2 gNot (cV 6) (cC .non))) (kB (cOp2 gNin (cOp2 gIx (cV 6) (cC (.int 1))) (cV 3)))) (sSeq (sAsgG (cC (.bl true)) (gSub2 (cV 3) (cOp2 gIx (cV 6) (cC (.int 1))))) (sDrop (cMt isLst gApp (cV 2) (aC (cOp2 gIx (cV 6) (cC (.int 1))) aN)))) sNext)) (sAugN 5 (cC (.int 1)) gAddI))) (sRet (cV 2))))))
def F_come_to : Fn := fnD 7 den_come_to
def den_is_both (F_come_to F_is_count F_is_rows : Fn) : DS := (sSeq (sIf (kOr (kNot (kB (cIsi .tuple (cV 0)))) (kOr (kB (cOp2 gNe (cCall gLen (aC (cV 0) aN)) (cC (.int 3)))) (kNot (kB (cFn 1 F_is_rows (aC (cOp2 gIx (cV 0) (cC (.int 2))) aN)))))) (sRet (cC (.bl false))) sNext) (sSeq (sIf (kNot (kB (cCall gAll (aC (cLc (iSeq (cSl (cV 0) oNone (oSome (cC (.int 2))))) (gN 3) kYes (cAnd (cFn 1 F_is_count (aC (cV 3) aN)) (cOp2 gLt (cV 3) (cCall gLen (aC (cOp2 gIx (cV 0) (cC (.int 2))) aN)))) [3]) aN)))) (sRet (cC (.bl false))) sNext) (sRet (cCall gAll (aC (cLc2 (iSeq (cFn 2 F_come_to (aC (cOp2 gIx (cV 0) (cC (.int 2))) (aC (cSl (cV 0) oNone (oSome (cC (.int 1)))) aN)))) (gN 1) kYes (iSeq (cOp2 gIx (cOp2 gIx (cV 0) (cC (.int 2))) (cV 1))) (gN 2) kYes (cOr (cOp2 gIs (cV 2) (cC .non)) (cOp2 gNot (cOp2 gIx (cV 2) (cC (.int 0))) (cC .non))) [1, 2] [2]) aN)))))
def F_is_both : Fn := fnD 4 (den_is_both F_come_to F_is_count F_is_rows)
def den_looks_of : DS := (sSeq (sSet 2 (cLst aN)) (sSeq (sFor (iEnm (aC (cV 0) aN)) (gT 2 (gsC (gN 3) (gsC (gN 4) gsN))) (sSeq (sSet 5 (cLc (iSeq (cV 4)) (gN 6) kYes (cIfE (kB (cOp2 gIs (cV 6) (cC .non))) (cC .non) (cTup (aC (cOp2 gIx (cV 6) (cC (.int 0))) (aC (cOp2 gIx (cV 1) (cOp2 gIx (cV 6) (cC (.int 1)))) aN)))) [6])) (sDrop (cMt isLst gApp (cV 2) (aC (cTup (aC (cOp2 gIx (cV 1) (cV 3)) (aC (cCall gTuple (aC (cV 5) aN)) aN))) aN))))) (sRet (cV 2))))
def F_looks_of : Fn := fnD 7 den_looks_of
def den_lots_of (F_looks_of : Fn) : DS := (sSeq (sSet 1 (cLc (iSeq (cV 0)) (gN 6) kYes (cC (.int 0)) [6])) (sWhile (kB (cC (.bl true))) (sSeq (sSet 2 (cFn 2 F_looks_of (aC (cV 0) (aC (cV 1) aN)))) (sSeq (sSet 3 cNewN) (sSeq (sFor (iSeq (cV 2)) (gN 4) (sDrop (cSetd isDn (cV 3) (cV 4) (cCall gLen (aC (cV 3) aN))))) (sSeq (sSet 5 (cLc (iSeq (cV 2)) (gN 4) kYes (cOp2 gIx (cV 3) (cV 4)) [4])) (sSeq (sIf (kB (cOp2 gEq (cCall gLen (aC (cV 3) aN)) (cCall gLen (aC (cDc (iSeq (cV 1)) (gN 7) kYes (cV 7) (cC (.bl true)) [7]) aN)))) (sRet (cCall gTuple (aC (cV 5) aN))) sNext) (sSet 1 (cV 5)))))))))
def F_lots_of : Fn := fnD 8 (den_lots_of F_looks_of)
def den_laid_together (F_come_to F_lots_of : Fn) : DS := (sSeq (sSet 2 (cFn 1 F_lots_of (aC (cV 0) aN))) (sSeq (sSet 3 cNewK) (sSeq (sFor (iEnm (aC (cV 2) aN)) (gT 2 (gsC (gN 4) (gsC (gN 5) gsN))) (sDrop (cSetd isDk (cV 3) (cV 5) (cV 4)))) (sSeq (sSet 6 (cLock 3 (cDc (iItm (cV 3)) (gT 2 (gsC (gN 5) (gsC (gN 11) gsN))) kYes (cV 5) (cOp2 gIx (cV 0) (cV 11)) [5, 11]))) (sSeq (sSet 7 (cLc (iSeq (cCall gSorted (aC (cV 6) aN))) (gN 5) kYes (cCall gTuple (aC (cLc (iSeq (cOp2 gIx (cV 6) (cV 5))) (gN 13) kYes (cIfE (kB (cOp2 gIs (cV 13) (cC .non))) (cC .non) (cTup (aC (cOp2 gIx (cV 13) (cC (.int 0))) (aC (cOp2 gIx (cV 2) (cOp2 gIx (cV 13) (cC (.int 1)))) aN)))) [13]) aN)) [5])) (sSeq (sSet 8 (cFn 2 F_come_to (aC (cV 7) (aC (cLc (iSeq (cV 1)) (gN 12) kYes (cOp2 gIx (cV 2) (cV 12)) [12]) aN)))) (sSeq (sSet 9 (cDc (iEnm (aC (cV 8) aN)) (gT 2 (gsC (gN 4) (gsC (gN 5) gsN))) kYes (cV 5) (cV 4) [4, 5])) (sSeq (sSet 10 (cLst aN)) (sSeq (sFor (iSeq (cV 8)) (gN 5) (sDrop (cMt isLst gApp (cV 10) (aC (cCall gTuple (aC (cLc (iSeq (cOp2 gIx (cV 7) (cV 5))) (gN 13) kYes (cIfE (kB (cOp2 gIs (cV 13) (cC .non))) (cC .non) (cTup (aC (cOp2 gIx (cV 13) (cC (.int 0))) (aC (cOp2 gIx (cV 9) (cOp2 gIx (cV 13) (cC (.int 1)))) aN)))) [13]) aN)) aN)))) (sRet (cTup (aC (cCall gTuple (aC (cLc (iSeq (cV 1)) (gN 12) kYes (cOp2 gIx (cV 9) (cOp2 gIx (cV 2) (cV 12))) [12]) aN)) (aC (cCall gTuple (aC (cV 10) aN)) aN)))))))))))))
def F_laid_together : Fn := fnD 14 (den_laid_together F_come_to F_lots_of)
def den_least_of (F_laid_together F_is_rows : Fn) : DS := (sSeq (sIf (kNot (kB (cFn 1 F_is_rows (aC (cV 0) aN)))) (sRaise 0) sNext) (sRet (cOp2 gIx (cFn 2 F_laid_together (aC (cV 0) (aC (cTup (aC (cC (.int 0)) aN)) aN))) (cC (.int 1)))))
def F_least_of : Fn := fnD 1 (den_least_of F_laid_together F_is_rows)
def den_least_both (F_laid_together F_is_both : Fn) : DS := (sSeq (sIf (kNot (kB (cFn 1 F_is_both (aC (cV 0) aN)))) (sRaise 0) sNext) (sSeq (sAsgG (cFn 2 F_laid_together (aC (cOp2 gIx (cV 0) (cC (.int 2))) (aC (cSl (cV 0) oNone (oSome (cC (.int 2)))) aN))) (gT 2 (gsC (gN 1) (gsC (gN 2) gsN)))) (sRet (cTup (aSt (cV 1) (aC (cV 2) aN))))))
def F_least_both : Fn := fnD 3 (den_least_both F_laid_together F_is_both)
def den_are_standings_alike (F_lots_of F_is_count F_is_rows : Fn) : DS := (sSeq (sIf (kOr (kNot (kB (cFn 1 F_is_rows (aC (cV 0) aN)))) (kNot (kB (cCall gAll (aC (cLc (iSeq (cTup (aC (cV 1) (aC (cV 2) aN)))) (gN 4) kYes (cAnd (cFn 1 F_is_count (aC (cV 4) aN)) (cOp2 gLt (cV 4) (cCall gLen (aC (cV 0) aN)))) [4]) aN))))) (sRaise 0) sNext) (sSeq (sSet 3 (cFn 1 F_lots_of (aC (cV 0) aN))) (sRet (cOp2 gEq (cOp2 gIx (cV 3) (cV 1)) (cOp2 gIx (cV 3) (cV 2))))))
def F_are_standings_alike : Fn := fnD 5 (den_are_standings_alike F_lots_of F_is_count F_is_rows)
def den_unlike_at : DS := (sSeq (sIf (kB (cOp2 gNe (cOp2 gIs (cOp2 gIx (cV 0) (cV 2)) (cC .non)) (cOp2 gIs (cOp2 gIx (cV 1) (cV 2)) (cC .non)))) (sRet (cC (.str [104, 101, 97, 114, 100]))) sNext) (sSeq (sIf (kAnd (kB (cOp2 gNot (cOp2 gIx (cV 0) (cV 2)) (cC .non))) (kB (cOp2 gNe (cOp2 gIx (cOp2 gIx (cV 0) (cV 2)) (cC (.int 0))) (cOp2 gIx (cOp2 gIx (cV 1) (cV 2)) (cC (.int 0)))))) (sRet (cC (.str [116, 111, 108, 100]))) sNext) (sRet (cC .non))))
def F_unlike_at : Fn := fnD 3 den_unlike_at
def den_first_parting (F_unlike_at F_is_rows : Fn) : DS := (sSeq (sIf (kOr (kNot (kB (cFn 1 F_is_rows (aC (cV 0) aN)))) (kNot (kB (cFn 1 F_is_rows (aC (cV 1) aN))))) (sRaise 0) sNext) (sSeq (sPar3 2 3 4 (aC (cLst (aC (cTup (aC (cTup (aC (cC (.int 0)) (aC (cC (.int 0)) aN))) (aC (cTup aN) aN))) aN)) (aC (cDsp (cTup (aC (cC (.int 0)) (aC (cC (.int 0)) aN))) (cC (.bl true))) (aC (cC (.int 0)) aN)))) (sSeq (sWhile (kB (cOp2 gLt (cV 4) (cCall gLen (aC (cV 2) aN)))) (sSeq (sAsgG (cOp2 gIx (cV 2) (cV 4)) (gT 2 (gsC (gT 2 (gsC (gN 5) (gsC (gN 6) gsN))) (gsC (gN 7) gsN)))) (sSeq (sFor (iSeq (cC k_SIGNS_alike)) (gN 8) (sSeq (sSet 9 (cFn 3 F_unlike_at (aC (cOp2 gIx (cV 0) (cV 5)) (aC (cOp2 gIx (cV 1) (cV 6)) (aC (cV 8) aN))))) (sSeq (sIf (kB (cOp2 gNot (cV 9) (cC .non))) (sRet (cTup (aC (cV 9) (aC (cTup (aSt (cV 7) (aC (cV 8) aN))) aN)))) sNext) (sIf (kB (cOp2 gNot (cOp2 gIx (cOp2 gIx (cV 0) (cV 5)) (cV 8)) (cC .non))) (sSeq (sSet 10 (cTup (aC (cOp2 gIx (cOp2 gIx (cOp2 gIx (cV 0) (cV 5)) (cV 8)) (cC (.int 1))) (aC (cOp2 gIx (cOp2 gIx (cOp2 gIx (cV 1) (cV 6)) (cV 8)) (cC (.int 1))) aN)))) (sIf (kB (cOp2 gNin (cV 10) (cV 3))) (sSeq (sAsgG (cC (.bl true)) (gSub2 (cV 3) (cV 10))) (sDrop (cMt isLst gApp (cV 2) (aC (cTup (aC (cV 10) (aC (cTup (aSt (cV 7) (aC (cV 8) aN))) aN))) aN)))) sNext)) sNext)))) (sAugN 4 (cC (.int 1)) gAddI)))) (sRet (cC .non)))))
def F_first_parting : Fn := fnD 11 (den_first_parting F_unlike_at F_is_rows)
def den__law_bag : DS := (sRet (cLst (aC (cC (.int 0)) (aC (cC (.int 1234567891)) (aC (cC (.int 0)) (aC (cLc (iSeq (cSl (cV 0) oNone (oSome (cC (.int 63))))) (gN 1) kYes (cCall gAbs (aC (cV 1) aN)) [1]) aN))))))
def F__law_bag : Fn := fnD 2 den__law_bag
def den__law_take : DS := (sSeq (sIf (kB (cOp2 gEq (cOp2 gIx (cV 0) (cC (.int 0))) (cC (.int 0)))) (sSeq (sSet 2 (cOp2 gIx (cOp2 gAdd (cSl (cOp2 gIx (cV 0) (cC (.int 3))) (oSome (cOp2 gIx (cV 0) (cC (.int 2)))) oNone) (cLst (aC (cC (.int 0)) aN))) (cC (.int 0)))) (sSeq (sAugS (cV 0) (cC (.int 2)) (cC (.int 1)) gAddI) (sSeq (sIf (kB (cOp2 gGe (cV 2) (cOp2 gPow (cC (.int 10)) (cC (.int 18))))) (sAsgG (cV 2) (gSub2 (cV 0) (cC (.int 0)))) sNext) (sSeq (sSet 3 (cOp2 gAdd (cOp2 gAdd (cOp2 gMul (cOp2 gIx (cV 0) (cC (.int 1))) (cC (.int 48271))) (cOp2 gMod (cCall gInt (aC (cV 2) aN)) (cC (.int 2147483647)))) (cOp2 gMul (cC (.int 7919)) (cOp2 gIx (cV 0) (cC (.int 2)))))) (sAsgG (cOp2 gMod (cCall gInt (aC (cV 3) aN)) (cC (.int 2147483647))) (gSub2 (cV 0) (cC (.int 1)))))))) sNext) (sSeq (sIf (kB (cOp2 gGt (cOp2 gIx (cV 0) (cC (.int 0))) (cC (.int 0)))) (sSeq (sSet 4 (cOp2 gMod (cCall gInt (aC (cOp2 gIx (cV 0) (cC (.int 0))) aN)) (cV 1))) (sSeq (sAsgG (cOp2 gDiv (cCall gInt (aC (cOp2 gIx (cV 0) (cC (.int 0))) aN)) (cV 1)) (gSub2 (cV 0) (cC (.int 0)))) (sRet (cV 4)))) sNext) (sSeq (sSet 5 (cOp2 gMod (cCall gInt (aC (cOp2 gMul (cOp2 gAdd (cOp2 gIx (cV 0) (cC (.int 1))) (cC (.int 1))) (cC (.int 39373))) aN)) (cC (.int 1000000007)))) (sSeq (sSet 6 (cOp2 gMod (cCall gInt (aC (cOp2 gMul (cOp2 gMod (cCall gInt (aC (cOp2 gMul (cV 5) (cV 5)) aN)) (cC (.int 998244353))) (cC (.int 30011))) aN)) (cC (.int 998244353)))) (sRet (cOp2 gMod (cCall gInt (aC (cOp2 gDiv (cV 6) (cC (.int 7))) aN)) (cV 1)))))))
def F__law_take : Fn := fnD 7 den__law_take
def den__law_some (F__law_take : Fn) : DS := (sRet (cOp2 gIx (cV 1) (cFn 2 F__law_take (aC (cV 0) (aC (cCall gLen (aC (cV 1) aN)) aN)))))
def F__law_some : Fn := fnD 2 (den__law_some F__law_take)
def den__law_alike : DS := (sRet (cAnd (cOp2 gEqS (cCall gRepr (aC (cV 0) aN)) (cCall gRepr (aC (cV 1) aN))) (cOp2 gEq (cV 0) (cV 1))))
def F__law_alike : Fn := fnD 2 den__law_alike
def den__law_machine (F__law_take F__law_some : Fn) : DS := (sSeq (sSet 2 (cLst aN)) (sSeq (sFor (iRg1 (aC (cV 1) aN)) (gN 3) (sSeq (sSet 4 (cLst aN)) (sSeq (sFor (iRg1 (aC (cC (.int 3)) aN)) (gN 5) (sDrop (cMt isLst gApp (cV 4) (aC (cIfE (kB (cOp2 gEq (cFn 2 F__law_take (aC (cV 0) (aC (cC (.int 3)) aN))) (cC (.int 0)))) (cC .non) (cTup (aC (cFn 2 F__law_some (aC (cV 0) (aC (cLst (aC (cTup aN) (aC (cTup (aC (cC (.int 0)) aN)) (aC (cTup (aC (cC (.int 1)) aN)) (aC (cTup (aC (cC (.int 0)) aN)) aN))))) aN))) (aC (cFn 2 F__law_take (aC (cV 0) (aC (cV 1) aN))) aN)))) aN)))) (sDrop (cMt isLst gApp (cV 2) (aC (cCall gTuple (aC (cV 4) aN)) aN)))))) (sRet (cCall gTuple (aC (cV 2) aN)))))
def F__law_machine : Fn := fnD 6 (den__law_machine F__law_take F__law_some)
def den__law_unsure (F__law_take : Fn) : DS := (sSeq (sSet 2 (cLst aN)) (sSeq (sFor (iSeq (cV 1)) (gN 3) (sDrop (cMt isLst gApp (cV 2) (aC (cCall gTuple (aC (cLc (iSeq (cV 3)) (gN 4) kYes (cIfE (kOr (kB (cOp2 gIs (cV 4) (cC .non))) (kB (cOp2 gGt (cFn 2 F__law_take (aC (cV 0) (aC (cC (.int 4)) aN))) (cC (.int 0))))) (cV 4) (cTup (aC (cC .non) (aC (cOp2 gIx (cV 4) (cC (.int 1))) aN)))) [4]) aN)) aN)))) (sRet (cCall gTuple (aC (cV 2) aN)))))
def F__law_unsure : Fn := fnD 5 (den__law_unsure F__law_take)
def den__law_parted : DS := (sSeq (sPar3 3 4 5 (aC (cLst (aC (cTup (aC (cV 1) (aC (cV 2) aN))) aN)) (aC (cDsp (cTup (aC (cV 1) (aC (cV 2) aN))) (cC (.bl true))) (aC (cC (.int 0)) aN)))) (sSeq (sWhile (kB (cOp2 gLt (cV 5) (cCall gLen (aC (cV 3) aN)))) (sSeq (sFor (iZip (aC (cOp2 gIx (cV 0) (cOp2 gIx (cOp2 gIx (cV 3) (cV 5)) (cC (.int 0)))) (aC (cOp2 gIx (cV 0) (cOp2 gIx (cOp2 gIx (cV 3) (cV 5)) (cC (.int 1)))) aN))) (gT 2 (gsC (gN 6) (gsC (gN 7) gsN))) (sSeq (sIf (kOr (kB (cOp2 gNe (cOp2 gIs (cV 6) (cC .non)) (cOp2 gIs (cV 7) (cC .non)))) (kAnd (kB (cOp2 gNot (cV 6) (cC .non))) (kB (cOp2 gNe (cOp2 gIx (cV 6) (cC (.int 0))) (cOp2 gIx (cV 7) (cC (.int 0))))))) (sRet (cC (.bl true))) sNext) (sIf (kAnd (kB (cOp2 gNot (cV 6) (cC .non))) (kB (cOp2 gNin (cTup (aC (cOp2 gIx (cV 6) (cC (.int 1))) (aC (cOp2 gIx (cV 7) (cC (.int 1))) aN))) (cV 4)))) (sSeq (sAsgG (cC (.bl true)) (gSub2 (cV 4) (cTup (aC (cOp2 gIx (cV 6) (cC (.int 1))) (aC (cOp2 gIx (cV 7) (cC (.int 1))) aN))))) (sDrop (cMt isLst gApp (cV 3) (aC (cTup (aC (cOp2 gIx (cV 6) (cC (.int 1))) (aC (cOp2 gIx (cV 7) (cC (.int 1))) aN))) aN)))) sNext))) (sAugN 5 (cC (.int 1)) gAddI))) (sRet (cC (.bl false)))))
def F__law_parted : Fn := fnD 8 den__law_parted
def den__law_otherwise (F__law_take : Fn) : DS := (sSeq (sAsgG (cTup (aC (cCall gLen (aC (cV 1) aN)) (aC (cLst aN) aN))) (gT 2 (gsC (gN 2) (gsC (gN 3) gsN)))) (sSeq (sFor (iRg1 (aC (cC (.int 2)) aN)) (gN 4) (sFor (iSeq (cV 1)) (gN 5) (sDrop (cMt isLst gApp (cV 3) (aC (cCall gTuple (aC (cLc (iSeq (cV 5)) (gN 6) kYes (cIfE (kB (cOp2 gIs (cV 6) (cC .non))) (cC .non) (cTup (aC (cOp2 gIx (cV 6) (cC (.int 0))) (aC (cOp2 gAdd (cOp2 gIx (cV 6) (cC (.int 1))) (cOp2 gMul (cV 2) (cFn 2 F__law_take (aC (cV 0) (aC (cC (.int 2)) aN))))) aN)))) [6]) aN)) aN))))) (sRet (cOp2 gAdd (cCall gTuple (aC (cV 3) aN)) (cTup (aC (cTup (aC (cC .non) (aC (cTup (aC (cTup (aC (cC (.int 0)) aN)) (aC (cC (.int 0)) aN))) (aC (cC .non) aN)))) aN))))))
def F__law_otherwise : Fn := fnD 7 (den__law_otherwise F__law_take)
def den_law (F_least_of F_is_both F_is_rows F__law_parted F_least_both F__law_take F_are_standings_alike F__law_alike F_come_to F_first_parting F_is_sure F__law_otherwise F__law_unsure F__law_machine F__law_bag : Fn) : DS := (sSeq (sSet 1 (cFn 1 F__law_bag (aC (cV 0) aN))) (sSeq (sFor (iRg1 (aC (cC (.int 6)) aN)) (gN 2) (sSeq (sSet 3 (cFn 2 F__law_machine (aC (cV 1) (aC (cOp2 gAdd (cC (.int 1)) (cFn 2 F__law_take (aC (cV 1) (aC (cC (.int 5)) aN)))) aN)))) (sSeq (sSet 4 (cV 3)) (sSeq (sSet 3 (cIfE (kB (cOp2 gEq (cFn 2 F__law_take (aC (cV 1) (aC (cC (.int 2)) aN))) (cC (.int 0)))) (cFn 2 F__law_unsure (aC (cV 1) (aC (cV 3) aN))) (cV 3))) (sSeq (sPar 5 6 (aC (cFn 1 F_least_of (aC (cV 3) aN)) (aC (cFn 2 F__law_otherwise (aC (cV 1) (aC (cV 3) aN))) aN))) (sSeq (sIf (kNot (kB (cFn 2 F__law_alike (aC (cLst (aC (cFn 1 F_is_rows (aC (cV 3) aN)) (aC (cFn 1 F_is_rows (aC (cV 5) aN)) (aC (cFn 1 F_is_sure (aC (cV 4) aN)) (aC (cFn 1 F_least_of (aC (cV 6) aN)) (aC (cFn 1 F_least_of (aC (cV 5) aN)) (aC (cFn 2 F_first_parting (aC (cV 5) (aC (cV 3) aN))) aN))))))) (aC (cLst (aC (cC (.bl true)) (aC (cC (.bl true)) (aC (cC (.bl true)) (aC (cV 5) (aC (cV 5) (aC (cC .non) aN))))))) aN))))) (sRet (cC (.bl false))) sNext) (sSeq (sIf (kB (cOp2 gNe (cFn 2 F_come_to (aC (cV 5) (aC (cTup (aC (cC (.int 0)) aN)) aN))) (cLrg (cCall gLen (aC (cV 5) aN))))) (sRet (cC (.bl false))) sNext) (sSeq (sFor (iRg1 (aC (cCall gLen (aC (cV 5) aN)) aN)) (gN 7) (sFor (iRg1 (aC (cV 7) aN)) (gN 8) (sIf (kOr (kNot (kB (cFn 3 F__law_parted (aC (cV 5) (aC (cV 7) (aC (cV 8) aN)))))) (kB (cOp2 gNot (cFn 3 F_are_standings_alike (aC (cV 5) (aC (cV 7) (aC (cV 8) aN)))) (cC (.bl false))))) (sRet (cC (.bl false))) sNext))) (sSeq (sFor (iRg1 (aC (cC (.int 4)) aN)) (gN 9) (sSeq (sPar 7 8 (aC (cFn 2 F__law_take (aC (cV 1) (aC (cCall gLen (aC (cV 3) aN)) aN))) (aC (cFn 2 F__law_take (aC (cV 1) (aC (cCall gLen (aC (cV 3) aN)) aN))) aN))) (sIf (kNot (kB (cFn 2 F__law_alike (aC (cFn 3 F_are_standings_alike (aC (cV 3) (aC (cV 7) (aC (cV 8) aN)))) (aC (cNot (cFn 3 F__law_parted (aC (cV 3) (aC (cV 7) (aC (cV 8) aN))))) aN))))) (sRet (cC (.bl false))) sNext))) (sSeq (sSet 10 (cTup (aC (cFn 2 F__law_take (aC (cV 1) (aC (cCall gLen (aC (cV 4) aN)) aN))) (aC (cFn 2 F__law_take (aC (cV 1) (aC (cCall gLen (aC (cV 4) aN)) aN))) aN)))) (sSeq (sSet 11 (cFn 1 F_least_both (aC (cOp2 gAdd (cV 10) (cTup (aC (cV 4) aN))) aN))) (sSeq (sIf (kOr (kB (cOp2 gNot (cFn 1 F_is_both (aC (cV 11) aN)) (cC (.bl true)))) (kOr (kB (cOp2 gNe (cOp2 gIx (cV 11) (cC (.int 0))) (cC (.int 0)))) (kOr (kB (cOp2 gGt (cOp2 gIx (cV 11) (cC (.int 1))) (cOp2 gSub (cCall gLen (aC (cOp2 gIx (cV 11) (cC (.int 2))) aN)) (cC (.int 1))))) (kB (cOp2 gNe (cFn 1 F_least_both (aC (cV 11) aN)) (cV 11)))))) (sRet (cC (.bl false))) sNext) (sSeq (sFor (iZip (aC (cSl (cV 11) oNone (oSome (cC (.int 2)))) (aC (cV 10) aN))) (gT 2 (gsC (gN 12) (gsC (gN 13) gsN))) (sIf (kB (cFn 3 F__law_parted (aC (cOp2 gAdd (cOp2 gIx (cV 11) (cC (.int 2))) (cCall gTuple (aC (cLc (iSeq (cV 4)) (gN 15) kYes (cCall gTuple (aC (cLc (iSeq (cV 15)) (gN 7) kYes (cIfE (kB (cOp2 gIs (cV 7) (cC .non))) (cC .non) (cTup (aC (cOp2 gIx (cV 7) (cC (.int 0))) (aC (cOp2 gAdd (cOp2 gIx (cV 7) (cC (.int 1))) (cCall gLen (aC (cOp2 gIx (cV 11) (cC (.int 2))) aN))) aN)))) [7]) aN)) [15]) aN))) (aC (cV 12) (aC (cOp2 gAdd (cV 13) (cCall gLen (aC (cOp2 gIx (cV 11) (cC (.int 2))) aN))) aN))))) (sRet (cC (.bl false))) sNext)) (sSeq (sSet 14 (cLst (aC (cC .non) (aC (cTup aN) (aC (cLst (aC (cV 5) aN)) (aC (cOp2 gAdd (cV 5) (cTup (aC (cTup (aC (cC .non) (aC (cC .non) aN))) aN))) (aC (cOp2 gAdd (cV 5) (cTup (aC (cTup (aC (cC .non) (aC (cC .non) (aC (cTup (aC (cTup (aC (cC (.int 2)) aN)) (aC (cC (.int 0)) aN))) aN)))) aN))) (aC (cOp2 gAdd (cV 5) (cTup (aC (cTup (aC (cC .non) (aC (cC .non) (aC (cTup (aC (cTup (aC (cC (.int 0)) aN)) (aC (cOp2 gAdd (cCall gLen (aC (cV 5) aN)) (cC (.int 1))) aN))) aN)))) aN))) (aC (cTup (aC (cC (.int 0)) (aC (cC (.int 0)) aN))) aN))))))))) (sSeq (sIf (kOr (kB (cOp2 gNe (cLc (iSeq (cV 14)) (gN 7) (kB (cOp2 gNot (cFn 1 F_is_rows (aC (cV 7) aN)) (cC (.bl false)))) (cV 7) [7]) (cLst aN))) (kB (cOp2 gNot (cFn 1 F_is_both (aC (cTup (aC (cC (.int 0)) (aC (cCall gLen (aC (cV 5) aN)) (aC (cV 5) aN)))) aN)) (cC (.bl false))))) (sRet (cC (.bl false))) sNext) (sTry catch0 (sSeq (sDrop (cFn 1 F_least_of (aC (cTup aN) aN))) (sRet (cC (.bl false)))) sNext)))))))))))))))) (sRet (cC (.bl true)))))
def F_law : Fn := fnD 16 (den_law F_least_of F_is_both F_is_rows F__law_parted F_least_both F__law_take F_are_standings_alike F__law_alike F_come_to F_first_parting F_is_sure F__law_otherwise F__law_unsure F__law_machine F__law_bag)
/-! ### that the text does it -/
theorem b_abs : bootBuiltins (Str.ofString "abs") = some (.builtin "abs") := by decide +kernel
theorem b_all : bootBuiltins (Str.ofString "all") = some (.builtin "all") := by decide +kernel
theorem b_bool : bootBuiltins (Str.ofString "bool") = some (.type "bool") := by decide +kernel
theorem b_enumerate : bootBuiltins (Str.ofString "enumerate") = some (.type "enumerate") := by decide +kernel
theorem b_int : bootBuiltins (Str.ofString "int") = some (.type "int") := by decide +kernel
theorem b_isinstance : bootBuiltins (Str.ofString "isinstance") = some (.builtin "isinstance") := by decide +kernel
theorem b_len : bootBuiltins (Str.ofString "len") = some (.builtin "len") := by decide +kernel
theorem b_list : bootBuiltins (Str.ofString "list") = some (.type "list") := by decide +kernel
theorem b_range : bootBuiltins (Str.ofString "range") = some (.type "range") := by decide +kernel
theorem b_repr : bootBuiltins (Str.ofString "repr") = some (.builtin "repr") := by decide +kernel
theorem b_sorted : bootBuiltins (Str.ofString "sorted") = some (.builtin "sorted") := by decide +kernel
theorem b_tuple : bootBuiltins (Str.ofString "tuple") = some (.type "tuple") := by decide +kernel
theorem b_zip : bootBuiltins (Str.ofString "zip") = some (.type "zip") := by decide +kernel
structure Txt (c : Ct) (mg : Str → Option Value) (A : Str → Addr) (D : Str → FuncData) : Prop where
  n_abs : mg "abs" = none
  n_all : mg "all" = none
  n_bool : mg "bool" = none
  n_enumerate : mg "enumerate" = none
  n_int : mg "int" = none
  n_isinstance : mg "isinstance" = none
  n_len : mg "len" = none
  n_list : mg "list" = none
  n_range : mg "range" = none
  n_repr : mg "repr" = none
  n_sorted : mg "sorted" = none
  n_tuple : mg "tuple" = none
  n_zip : mg "zip" = none
  g_SIGNS_alike : mg "SIGNS_alike" = some (.ref (A "SIGNS_alike"))
  r_SIGNS_alike : ∀ m k H, Rep c.K m k H k_SIGNS_alike (.ref (A "SIGNS_alike"))
  g_SIGNS_least : mg "SIGNS_least" = some (.ref (A "SIGNS_least"))
  r_SIGNS_least : ∀ m k H, Rep c.K m k H k_SIGNS_least (.ref (A "SIGNS_least"))
  f_is_integer : Fun c.K "is_integer" "is_integer" s_is_integer (A "is_integer") (D "is_integer")
  m_is_integer : mg "is_integer" = some (.ref (A "is_integer"))
  k_is_integer : PySem.W.keepIn c.K (.ref (A "is_integer")) = true
  b_is_integer : Binds c.K (D "is_integer") ["thing"] []
  f_is_count : Fun c.K "is_count" "is_count" s_is_count (A "is_count") (D "is_count")
  m_is_count : mg "is_count" = some (.ref (A "is_count"))
  k_is_count : PySem.W.keepIn c.K (.ref (A "is_count")) = true
  b_is_count : Binds c.K (D "is_count") ["thing"] []
  f_is_bit : Fun c.K "is_bit" "is_bit" s_is_bit (A "is_bit") (D "is_bit")
  m_is_bit : mg "is_bit" = some (.ref (A "is_bit"))
  k_is_bit : PySem.W.keepIn c.K (.ref (A "is_bit")) = true
  b_is_bit : Binds c.K (D "is_bit") ["thing"] []
  f_is_told : Fun c.K "is_told" "is_told" s_is_told (A "is_told") (D "is_told")
  m_is_told : mg "is_told" = some (.ref (A "is_told"))
  k_is_told : PySem.W.keepIn c.K (.ref (A "is_told")) = true
  b_is_told : Binds c.K (D "is_told") ["thing", "many"] []
  f_is_row : Fun c.K "is_row" "is_row" s_is_row (A "is_row") (D "is_row")
  m_is_row : mg "is_row" = some (.ref (A "is_row"))
  k_is_row : PySem.W.keepIn c.K (.ref (A "is_row")) = true
  b_is_row : Binds c.K (D "is_row") ["thing", "many"] []
  f_is_rows : Fun c.K "is_rows" "is_rows" s_is_rows (A "is_rows") (D "is_rows")
  m_is_rows : mg "is_rows" = some (.ref (A "is_rows"))
  k_is_rows : PySem.W.keepIn c.K (.ref (A "is_rows")) = true
  b_is_rows : Binds c.K (D "is_rows") ["thing"] []
  f_is_sure : Fun c.K "is_sure" "is_sure" s_is_sure (A "is_sure") (D "is_sure")
  m_is_sure : mg "is_sure" = some (.ref (A "is_sure"))
  k_is_sure : PySem.W.keepIn c.K (.ref (A "is_sure")) = true
  b_is_sure : Binds c.K (D "is_sure") ["rows"] []
  f_come_to : Fun c.K "come_to" "come_to" s_come_to (A "come_to") (D "come_to")
  m_come_to : mg "come_to" = some (.ref (A "come_to"))
  k_come_to : PySem.W.keepIn c.K (.ref (A "come_to")) = true
  b_come_to : Binds c.K (D "come_to") ["rows", "begins"] []
  f_is_both : Fun c.K "is_both" "is_both" s_is_both (A "is_both") (D "is_both")
  m_is_both : mg "is_both" = some (.ref (A "is_both"))
  k_is_both : PySem.W.keepIn c.K (.ref (A "is_both")) = true
  b_is_both : Binds c.K (D "is_both") ["thing"] []
  f_looks_of : Fun c.K "looks_of" "looks_of" s_looks_of (A "looks_of") (D "looks_of")
  m_looks_of : mg "looks_of" = some (.ref (A "looks_of"))
  k_looks_of : PySem.W.keepIn c.K (.ref (A "looks_of")) = true
  b_looks_of : Binds c.K (D "looks_of") ["rows", "lots"] []
  f_lots_of : Fun c.K "lots_of" "lots_of" s_lots_of (A "lots_of") (D "lots_of")
  m_lots_of : mg "lots_of" = some (.ref (A "lots_of"))
  k_lots_of : PySem.W.keepIn c.K (.ref (A "lots_of")) = true
  b_lots_of : Binds c.K (D "lots_of") ["rows"] []
  f_laid_together : Fun c.K "laid_together" "laid_together" s_laid_together (A "laid_together") (D "laid_together")
  m_laid_together : mg "laid_together" = some (.ref (A "laid_together"))
  k_laid_together : PySem.W.keepIn c.K (.ref (A "laid_together")) = true
  b_laid_together : Binds c.K (D "laid_together") ["rows", "begins"] []
  f_least_of : Fun c.K "least_of" "least_of" s_least_of (A "least_of") (D "least_of")
  m_least_of : mg "least_of" = some (.ref (A "least_of"))
  k_least_of : PySem.W.keepIn c.K (.ref (A "least_of")) = true
  b_least_of : Binds c.K (D "least_of") ["rows"] []
  f_least_both : Fun c.K "least_both" "least_both" s_least_both (A "least_both") (D "least_both")
  m_least_both : mg "least_both" = some (.ref (A "least_both"))
  k_least_both : PySem.W.keepIn c.K (.ref (A "least_both")) = true
  b_least_both : Binds c.K (D "least_both") ["both"] []
  f_are_standings_alike : Fun c.K "are_standings_alike" "are_standings_alike" s_are_standings_alike (A "are_standings_alike") (D "are_standings_alike")
  m_are_standings_alike : mg "are_standings_alike" = some (.ref (A "are_standings_alike"))
  k_are_standings_alike : PySem.W.keepIn c.K (.ref (A "are_standings_alike")) = true
  b_are_standings_alike : Binds c.K (D "are_standings_alike") ["rows", "one", "other"] []
  f_unlike_at : Fun c.K "unlike_at" "unlike_at" s_unlike_at (A "unlike_at") (D "unlike_at")
  m_unlike_at : mg "unlike_at" = some (.ref (A "unlike_at"))
  k_unlike_at : PySem.W.keepIn c.K (.ref (A "unlike_at")) = true
  b_unlike_at : Binds c.K (D "unlike_at") ["one", "other", "sign"] []
  f_first_parting : Fun c.K "first_parting" "first_parting" s_first_parting (A "first_parting") (D "first_parting")
  m_first_parting : mg "first_parting" = some (.ref (A "first_parting"))
  k_first_parting : PySem.W.keepIn c.K (.ref (A "first_parting")) = true
  b_first_parting : Binds c.K (D "first_parting") ["one", "other"] []
  f__law_bag : Fun c.K "_law_bag" "_law_bag" s__law_bag (A "_law_bag") (D "_law_bag")
  m__law_bag : mg "_law_bag" = some (.ref (A "_law_bag"))
  k__law_bag : PySem.W.keepIn c.K (.ref (A "_law_bag")) = true
  b__law_bag : Binds c.K (D "_law_bag") ["script"] []
  f__law_take : Fun c.K "_law_take" "_law_take" s__law_take (A "_law_take") (D "_law_take")
  m__law_take : mg "_law_take" = some (.ref (A "_law_take"))
  k__law_take : PySem.W.keepIn c.K (.ref (A "_law_take")) = true
  b__law_take : Binds c.K (D "_law_take") ["bag", "many"] []
  f__law_some : Fun c.K "_law_some" "_law_some" s__law_some (A "_law_some") (D "_law_some")
  m__law_some : mg "_law_some" = some (.ref (A "_law_some"))
  k__law_some : PySem.W.keepIn c.K (.ref (A "_law_some")) = true
  b__law_some : Binds c.K (D "_law_some") ["bag", "things"] []
  f__law_alike : Fun c.K "_law_alike" "_law_alike" s__law_alike (A "_law_alike") (D "_law_alike")
  m__law_alike : mg "_law_alike" = some (.ref (A "_law_alike"))
  k__law_alike : PySem.W.keepIn c.K (.ref (A "_law_alike")) = true
  b__law_alike : Binds c.K (D "_law_alike") ["found", "due"] []
  f__law_machine : Fun c.K "_law_machine" "_law_machine" s__law_machine (A "_law_machine") (D "_law_machine")
  m__law_machine : mg "_law_machine" = some (.ref (A "_law_machine"))
  k__law_machine : PySem.W.keepIn c.K (.ref (A "_law_machine")) = true
  b__law_machine : Binds c.K (D "_law_machine") ["bag", "many"] []
  f__law_unsure : Fun c.K "_law_unsure" "_law_unsure" s__law_unsure (A "_law_unsure") (D "_law_unsure")
  m__law_unsure : mg "_law_unsure" = some (.ref (A "_law_unsure"))
  k__law_unsure : PySem.W.keepIn c.K (.ref (A "_law_unsure")) = true
  b__law_unsure : Binds c.K (D "_law_unsure") ["bag", "rows"] []
  f__law_parted : Fun c.K "_law_parted" "_law_parted" s__law_parted (A "_law_parted") (D "_law_parted")
  m__law_parted : mg "_law_parted" = some (.ref (A "_law_parted"))
  k__law_parted : PySem.W.keepIn c.K (.ref (A "_law_parted")) = true
  b__law_parted : Binds c.K (D "_law_parted") ["rows", "one", "other"] []
  f__law_otherwise : Fun c.K "_law_otherwise" "_law_otherwise" s__law_otherwise (A "_law_otherwise") (D "_law_otherwise")
  m__law_otherwise : mg "_law_otherwise" = some (.ref (A "_law_otherwise"))
  k__law_otherwise : PySem.W.keepIn c.K (.ref (A "_law_otherwise")) = true
  b__law_otherwise : Binds c.K (D "_law_otherwise") ["bag", "rows"] []
  f_law : Fun c.K "law" "law" s_law (A "law") (D "law")
  m_law : mg "law" = some (.ref (A "law"))
  k_law : PySem.W.keepIn c.K (.ref (A "law")) = true
  b_law : Binds c.K (D "law") ["script"] []
  m_Nothing : mg "Nothing" = some (.ref (A "Nothing"))
  k_Nothing : PySem.W.keepIn c.K (.ref (A "Nothing")) = true
  x_Nothing : PySem.W.excIn c.K (A "Nothing") [.type "ValueError", .type "Exception", .type "BaseException", .type "object"] "ValueError.__new__" = true
  y_Nothing : PySem.W.subIn c.K (.ref (A "Nothing")) (.type "BaseException") = some true
  z_Nothing : PySem.W.typeIn c.K (.ref (A "Nothing")) = some (.type "type")
  c_Nothing : c.exc 0 = A "Nothing"
  t_Nothing : PySem.W.exmOne c.K (.ref (A "Nothing")) (.ref (A "Nothing")) = some true
theorem Txt.cat {c : Ct} {mg : Str → Option Value} {A : Str → Addr} {D : Str → FuncData} (T : Txt c mg A D) : ∀ k b, catch0 k = some b → PySem.W.exmOne c.K (.ref (c.exc k)) (.ref (A "Nothing")) = some b := fun k b h => by
  unfold catch0 at h
  by_cases hk : k = 0
  · rw [if_pos hk] at h
    cases h
    subst hk
    rw [T.c_Nothing]
    exact T.t_Nothing
  · rw [if_neg hk] at h
    cases h
theorem names_own {X : Cx} {x : Str} {v : Value} (hm : X.mg x = some v) (hg : X.env.kindOf x = some .globalImplicit) (hd : (x == ("__debug__" : Str)) = false := by decide) : Names X x v := ⟨hg, hd, .inl hm⟩
theorem sc_is_integer : FnScope n_is_integer ["thing"] (defScope s_is_integer) := ⟨rfl, rfl, rfl, by decide +kernel, rfl, by decide +kernel, by decide +kernel⟩
theorem sc_is_count : FnScope n_is_count ["thing"] (defScope s_is_count) := ⟨rfl, rfl, rfl, by decide +kernel, rfl, by decide +kernel, by decide +kernel⟩
theorem sc_is_bit : FnScope n_is_bit ["thing"] (defScope s_is_bit) := ⟨rfl, rfl, rfl, by decide +kernel, rfl, by decide +kernel, by decide +kernel⟩
theorem sc_is_told : FnScope n_is_told ["thing", "many"] (defScope s_is_told) := ⟨rfl, rfl, rfl, by decide +kernel, rfl, by decide +kernel, by decide +kernel⟩
theorem sc_is_row : FnScope n_is_row ["thing", "many"] (defScope s_is_row) := ⟨rfl, rfl, rfl, by decide +kernel, rfl, by decide +kernel, by decide +kernel⟩
theorem sc_is_rows : FnScope n_is_rows ["thing"] (defScope s_is_rows) := ⟨rfl, rfl, rfl, by decide +kernel, rfl, by decide +kernel, by decide +kernel⟩
theorem sc_is_sure : FnScope n_is_sure ["rows"] (defScope s_is_sure) := ⟨rfl, rfl, rfl, by decide +kernel, rfl, by decide +kernel, by decide +kernel⟩
theorem sc_come_to : FnScope n_come_to ["rows", "begins"] (defScope s_come_to) := ⟨rfl, rfl, rfl, by decide +kernel, rfl, by decide +kernel, by decide +kernel⟩
theorem sc_is_both : FnScope n_is_both ["thing"] (defScope s_is_both) := ⟨rfl, rfl, rfl, by decide +kernel, rfl, by decide +kernel, by decide +kernel⟩
theorem sc_looks_of : FnScope n_looks_of ["rows", "lots"] (defScope s_looks_of) := ⟨rfl, rfl, rfl, by decide +kernel, rfl, by decide +kernel, by decide +kernel⟩
theorem sc_lots_of : FnScope n_lots_of ["rows"] (defScope s_lots_of) := ⟨rfl, rfl, rfl, by decide +kernel, rfl, by decide +kernel, by decide +kernel⟩
theorem sc_laid_together : FnScope n_laid_together ["rows", "begins"] (defScope s_laid_together) := ⟨rfl, rfl, rfl, by decide +kernel, rfl, by decide +kernel, by decide +kernel⟩
theorem sc_least_of : FnScope n_least_of ["rows"] (defScope s_least_of) := ⟨rfl, rfl, rfl, by decide +kernel, rfl, by decide +kernel, by decide +kernel⟩
theorem sc_least_both : FnScope n_least_both ["both"] (defScope s_least_both) := ⟨rfl, rfl, rfl, by decide +kernel, rfl, by decide +kernel, by decide +kernel⟩
theorem sc_are_standings_alike : FnScope n_are_standings_alike ["rows", "one", "other"] (defScope s_are_standings_alike) := ⟨rfl, rfl, rfl, by decide +kernel, rfl, by decide +kernel, by decide +kernel⟩
theorem sc_unlike_at : FnScope n_unlike_at ["one", "other", "sign"] (defScope s_unlike_at) := ⟨rfl, rfl, rfl, by decide +kernel, rfl, by decide +kernel, by decide +kernel⟩
theorem sc_first_parting : FnScope n_first_parting ["one", "other"] (defScope s_first_parting) := ⟨rfl, rfl, rfl, by decide +kernel, rfl, by decide +kernel, by decide +kernel⟩
theorem sc__law_bag : FnScope n__law_bag ["script"] (defScope s__law_bag) := ⟨rfl, rfl, rfl, by decide +kernel, rfl, by decide +kernel, by decide +kernel⟩
theorem sc__law_take : FnScope n__law_take ["bag", "many"] (defScope s__law_take) := ⟨rfl, rfl, rfl, by decide +kernel, rfl, by decide +kernel, by decide +kernel⟩
theorem sc__law_some : FnScope n__law_some ["bag", "things"] (defScope s__law_some) := ⟨rfl, rfl, rfl, by decide +kernel, rfl, by decide +kernel, by decide +kernel⟩
theorem sc__law_alike : FnScope n__law_alike ["found", "due"] (defScope s__law_alike) := ⟨rfl, rfl, rfl, by decide +kernel, rfl, by decide +kernel, by decide +kernel⟩
theorem sc__law_machine : FnScope n__law_machine ["bag", "many"] (defScope s__law_machine) := ⟨rfl, rfl, rfl, by decide +kernel, rfl, by decide +kernel, by decide +kernel⟩
theorem sc__law_unsure : FnScope n__law_unsure ["bag", "rows"] (defScope s__law_unsure) := ⟨rfl, rfl, rfl, by decide +kernel, rfl, by decide +kernel, by decide +kernel⟩
theorem sc__law_parted : FnScope n__law_parted ["rows", "one", "other"] (defScope s__law_parted) := ⟨rfl, rfl, rfl, by decide +kernel, rfl, by decide +kernel, by decide +kernel⟩
theorem sc__law_otherwise : FnScope n__law_otherwise ["bag", "rows"] (defScope s__law_otherwise) := ⟨rfl, rfl, rfl, by decide +kernel, rfl, by decide +kernel, by decide +kernel⟩
theorem sc_law : FnScope n_law ["script"] (defScope s_law) := ⟨rfl, rfl, rfl, by decide +kernel, rfl, by decide +kernel, by decide +kernel⟩
section
variable {w : World} {c : Ct} {mg : Str → Option Value} {base : Heap} {A : Str → Addr} {D : Str → FuncData}
theorem ok_is_integer (T : Txt c mg A D) : FnG c.P c.w c.K mg base 1 (A "is_integer") (D "is_integer") ["thing"] (spD c 1 F_is_integer) := by
  refine fnG (k := 0) T.f_is_integer sc_is_integer fun cdv AA outer s H E hr hgd => ?_
  have hu := hr.units
  have tk := takesG (P := c.P) (w := c.w) (K := c.K) (mg := mg) (base := base) (N := n_is_integer) (qual := "is_integer") (scope := defScope s_is_integer) (f := A "is_integer") (cdv := cdv) (A := AA) (outer := outer) (s := s) (H := H) (E := E)
  have ps := passesG (P := c.P) (w := c.w) (K := c.K) (mg := mg) (base := base) (N := n_is_integer) (qual := "is_integer") (scope := defScope s_is_integer) (f := A "is_integer") (cdv := cdv) (A := AA) (outer := outer) (s := s) (H := H) (E := E)
  exact (s_one (s_ret (d_and (d_isi .int (dv 0) (by rfl) T.n_isinstance b_isinstance (by rfl) T.n_int b_int (by intro z; cases z)) (d_one (d_not (d_isi .bool (dv 0) (by rfl) T.n_isinstance b_isinstance (by rfl) T.n_bool b_bool (by intro z; cases z)))))))
theorem ok_is_count (T : Txt c mg A D) (G_is_integer : FnG c.P c.w c.K mg base 1 (A "is_integer") (D "is_integer") ["thing"] (spD c 1 F_is_integer)) : FnG c.P c.w c.K mg base 2 (A "is_count") (D "is_count") ["thing"] (spD c 1 F_is_count) := by
  refine fnG (k := 1) T.f_is_count sc_is_count fun cdv AA outer s H E hr hgd => ?_
  have G_is_integer := G_is_integer.mono (k := 1) (by decide)
  have hu := hr.units
  have tk := takesG (P := c.P) (w := c.w) (K := c.K) (mg := mg) (base := base) (N := n_is_count) (qual := "is_count") (scope := defScope s_is_count) (f := A "is_count") (cdv := cdv) (A := AA) (outer := outer) (s := s) (H := H) (E := E)
  have ps := passesG (P := c.P) (w := c.w) (K := c.K) (mg := mg) (base := base) (N := n_is_count) (qual := "is_count") (scope := defScope s_is_count) (f := A "is_count") (cdv := cdv) (A := AA) (outer := outer) (s := s) (H := H) (E := E)
  exact (s_one (s_ret (d_and (d_callG G_is_integer (hr.mono (by decide)) hgd (by rfl) T.m_is_integer T.k_is_integer T.b_is_integer tk (da_cons (dv 0) da_nil)) (d_one (d_cmp op_ge od_ge (dv 0) d_int (nomark _))))))
theorem ok_is_bit (T : Txt c mg A D) (G_is_integer : FnG c.P c.w c.K mg base 1 (A "is_integer") (D "is_integer") ["thing"] (spD c 1 F_is_integer)) : FnG c.P c.w c.K mg base 2 (A "is_bit") (D "is_bit") ["thing"] (spD c 1 F_is_bit) := by
  refine fnG (k := 1) T.f_is_bit sc_is_bit fun cdv AA outer s H E hr hgd => ?_
  have G_is_integer := G_is_integer.mono (k := 1) (by decide)
  have hu := hr.units
  have tk := takesG (P := c.P) (w := c.w) (K := c.K) (mg := mg) (base := base) (N := n_is_bit) (qual := "is_bit") (scope := defScope s_is_bit) (f := A "is_bit") (cdv := cdv) (A := AA) (outer := outer) (s := s) (H := H) (E := E)
  have ps := passesG (P := c.P) (w := c.w) (K := c.K) (mg := mg) (base := base) (N := n_is_bit) (qual := "is_bit") (scope := defScope s_is_bit) (f := A "is_bit") (cdv := cdv) (A := AA) (outer := outer) (s := s) (H := H) (E := E)
  exact (s_one (s_ret (d_and (d_callG G_is_integer (hr.mono (by decide)) hgd (by rfl) T.m_is_integer T.k_is_integer T.b_is_integer tk (da_cons (dv 0) da_nil)) (d_one (d_chain op_le od_le op_le od_le d_int (dv 0) d_int)))))
theorem ok_is_told (T : Txt c mg A D) (G_is_bit : FnG c.P c.w c.K mg base 2 (A "is_bit") (D "is_bit") ["thing"] (spD c 1 F_is_bit)) (G_is_count : FnG c.P c.w c.K mg base 2 (A "is_count") (D "is_count") ["thing"] (spD c 1 F_is_count)) : FnG c.P c.w c.K mg base 3 (A "is_told") (D "is_told") ["thing", "many"] (spD c 2 F_is_told) := by
  refine fnG (k := 2) T.f_is_told sc_is_told fun cdv AA outer s H E hr hgd => ?_
  have G_is_bit := G_is_bit.mono (k := 2) (by decide)
  have G_is_count := G_is_count.mono (k := 2) (by decide)
  have hu := hr.units
  have tk := takesG (P := c.P) (w := c.w) (K := c.K) (mg := mg) (base := base) (N := n_is_told) (qual := "is_told") (scope := defScope s_is_told) (f := A "is_told") (cdv := cdv) (A := AA) (outer := outer) (s := s) (H := H) (E := E)
  have ps := passesG (P := c.P) (w := c.w) (K := c.K) (mg := mg) (base := base) (N := n_is_told) (qual := "is_told") (scope := defScope s_is_told) (f := A "is_told") (cdv := cdv) (A := AA) (outer := outer) (s := s) (H := H) (E := E)
  exact (s_cons (s_if (k_cmp op_isAll od_is (dv 0) d_non (nomark _)) (s_one (s_ret d_bl)) s_nil) (s_cons (s_if (PW.pt (k_or (k_not (k_val (d_isi .tuple (dv 0) (by rfl) T.n_isinstance b_isinstance (by rfl) T.n_tuple b_tuple (by intro z; cases z)))) (k_or (k_cmp (op_neD hu) od_ne (d_callB call_len_all ol_len (by rfl) T.n_len b_len (da_cons (dv 0) da_nil)) d_int (nomark _)) (k_or (k_not (k_val (d_callG G_is_count (hr.mono (by decide)) hgd (by rfl) T.m_is_count T.k_is_count T.b_is_count tk (da_cons (d_ix (ix_all hu) od_ix (dv 0) d_int) da_nil)))) (k_one_or (k_cmp op_ge od_ge (d_ix (ix_all hu) od_ix (dv 0) d_int) (dv 1) (nomark _))))))) (s_one (s_ret d_bl)) s_nil) (s_one (s_ret (d_or (d_cmp op_isAll od_is (d_ix (ix_all hu) od_ix (dv 0) d_int) d_non (nomark _)) (d_one (d_and (d_isi .tuple (d_ix (ix_all hu) od_ix (dv 0) d_int) (by rfl) T.n_isinstance b_isinstance (by rfl) T.n_tuple b_tuple (by intro z; cases z)) (d_one (d_callB (cr_all rfl) ol_all (by rfl) T.n_all b_all (da_cons (d_lc rfl sc_is_told.nd (i_seq (d_ix (ix_all hu) od_ix (dv 0) d_int)) (own := [(Str.ofString "bit", 2)]) (by show BlkOk n_is_told (defScope s_is_told) _ _; exact ⟨rfl, by decide +kernel, by decide +kernel, by decide +kernel, by decide +kernel⟩) (fun _ _ _ _ _ => (g_name (i := 2) sc_is_told.nd rfl (by first | exact .inl rfl | exact .inr rfl))) (fun _ _ _ _ _ => k_yes) (fun _ _ _ _ _ => (d_callG G_is_bit (hr.mono (by decide)) hgd (by rfl) T.m_is_bit T.k_is_bit T.b_is_bit takes0 (da_cons (dv 2) da_nil)))) da_nil))))))))))
theorem ok_is_row (T : Txt c mg A D) (G_is_told : FnG c.P c.w c.K mg base 3 (A "is_told") (D "is_told") ["thing", "many"] (spD c 2 F_is_told)) : FnG c.P c.w c.K mg base 4 (A "is_row") (D "is_row") ["thing", "many"] (spD c 2 F_is_row) := by
  refine fnG (k := 3) T.f_is_row sc_is_row fun cdv AA outer s H E hr hgd => ?_
  have G_is_told := G_is_told.mono (k := 3) (by decide)
  have hu := hr.units
  have tk := takesG (P := c.P) (w := c.w) (K := c.K) (mg := mg) (base := base) (N := n_is_row) (qual := "is_row") (scope := defScope s_is_row) (f := A "is_row") (cdv := cdv) (A := AA) (outer := outer) (s := s) (H := H) (E := E)
  have ps := passesG (P := c.P) (w := c.w) (K := c.K) (mg := mg) (base := base) (N := n_is_row) (qual := "is_row") (scope := defScope s_is_row) (f := A "is_row") (cdv := cdv) (A := AA) (outer := outer) (s := s) (H := H) (E := E)
  exact (s_one (s_ret (d_and (d_isi .tuple (dv 0) (by rfl) T.n_isinstance b_isinstance (by rfl) T.n_tuple b_tuple (by intro z; cases z)) (d_and (d_cmp (op_eqD hu) od_eq (d_callB call_len_all ol_len (by rfl) T.n_len b_len (da_cons (dv 0) da_nil)) (d_callB call_len_all ol_len (by rfl) T.n_len b_len (da_cons (d_globT (by rfl) T.g_SIGNS_least T.r_SIGNS_least) da_nil)) (nomark _)) (d_one (d_callB (cr_all rfl) ol_all (by rfl) T.n_all b_all (da_cons (d_lc rfl sc_is_row.nd (i_seq (dv 0)) (own := [(Str.ofString "one", 2)]) (by show BlkOk n_is_row (defScope s_is_row) _ _; exact ⟨rfl, by decide +kernel, by decide +kernel, by decide +kernel, by decide +kernel⟩) (fun _ _ _ _ _ => (g_name (i := 2) sc_is_row.nd rfl (by first | exact .inl rfl | exact .inr rfl))) (fun _ _ _ _ _ => k_yes) (fun _ _ _ _ _ => (d_callG G_is_told (hr.mono (by decide)) hgd (by rfl) T.m_is_told T.k_is_told T.b_is_told takes0 (da_cons (dv 2) (da_cons (dv 1) da_nil))))) da_nil)))))))
theorem ok_is_rows (T : Txt c mg A D) (G_is_row : FnG c.P c.w c.K mg base 4 (A "is_row") (D "is_row") ["thing", "many"] (spD c 2 F_is_row)) : FnG c.P c.w c.K mg base 5 (A "is_rows") (D "is_rows") ["thing"] (spD c 1 F_is_rows) := by
  refine fnG (k := 4) T.f_is_rows sc_is_rows fun cdv AA outer s H E hr hgd => ?_
  have G_is_row := G_is_row.mono (k := 4) (by decide)
  have hu := hr.units
  have tk := takesG (P := c.P) (w := c.w) (K := c.K) (mg := mg) (base := base) (N := n_is_rows) (qual := "is_rows") (scope := defScope s_is_rows) (f := A "is_rows") (cdv := cdv) (A := AA) (outer := outer) (s := s) (H := H) (E := E)
  have ps := passesG (P := c.P) (w := c.w) (K := c.K) (mg := mg) (base := base) (N := n_is_rows) (qual := "is_rows") (scope := defScope s_is_rows) (f := A "is_rows") (cdv := cdv) (A := AA) (outer := outer) (s := s) (H := H) (E := E)
  exact (s_one (s_ret (d_and (d_isi .tuple (dv 0) (by rfl) T.n_isinstance b_isinstance (by rfl) T.n_tuple b_tuple (by intro z; cases z)) (d_and (d_cmp (op_neD hu) od_ne (dv 0) (d_tup da_nil) (nomark _)) (d_one (d_callB (cr_all rfl) ol_all (by rfl) T.n_all b_all (da_cons (d_lc rfl sc_is_rows.nd (i_seq (dv 0)) (own := [(Str.ofString "row", 1)]) (by show BlkOk n_is_rows (defScope s_is_rows) _ _; exact ⟨rfl, by decide +kernel, by decide +kernel, by decide +kernel, by decide +kernel⟩) (fun _ _ _ _ _ => (g_name (i := 1) sc_is_rows.nd rfl (by first | exact .inl rfl | exact .inr rfl))) (fun _ _ _ _ _ => k_yes) (fun _ _ _ _ _ => (d_callG G_is_row (hr.mono (by decide)) hgd (by rfl) T.m_is_row T.k_is_row T.b_is_row takes0 (da_cons (dv 1) (da_cons (d_callB call_len_all ol_len (by rfl) T.n_len b_len (da_cons (dv 0) da_nil)) da_nil))))) da_nil)))))))
theorem ok_is_sure (T : Txt c mg A D) : FnG c.P c.w c.K mg base 1 (A "is_sure") (D "is_sure") ["rows"] (spD c 1 F_is_sure) := by
  refine fnG (k := 0) T.f_is_sure sc_is_sure fun cdv AA outer s H E hr hgd => ?_
  have hu := hr.units
  have tk := takesG (P := c.P) (w := c.w) (K := c.K) (mg := mg) (base := base) (N := n_is_sure) (qual := "is_sure") (scope := defScope s_is_sure) (f := A "is_sure") (cdv := cdv) (A := AA) (outer := outer) (s := s) (H := H) (E := E)
  have ps := passesG (P := c.P) (w := c.w) (K := c.K) (mg := mg) (base := base) (N := n_is_sure) (qual := "is_sure") (scope := defScope s_is_sure) (f := A "is_sure") (cdv := cdv) (A := AA) (outer := outer) (s := s) (H := H) (E := E)
  exact (s_one (s_ret (d_callB (cr_all rfl) ol_all (by rfl) T.n_all b_all (da_cons (d_lc2 (us1 := [2]) rfl sc_is_sure.nd (i_seq (dv 0)) (own := [(Str.ofString "row", 1), (Str.ofString "one", 2)]) (by show BlkOk n_is_sure (defScope s_is_sure) _ _; exact ⟨rfl, by decide +kernel, by decide +kernel, by decide +kernel, by decide +kernel⟩) (by decide) (fun _ _ _ _ _ => (g_name (i := 1) sc_is_sure.nd rfl (by first | exact .inl rfl | exact .inr rfl))) (fun _ _ _ _ _ => k_yes) (fun _ _ _ _ _ => (i_seq (dv 1))) (fun _ _ _ _ _ => (g_name (i := 2) sc_is_sure.nd rfl (by first | exact .inl rfl | exact .inr rfl))) (fun _ _ _ _ _ => k_yes) (fun _ _ _ _ _ => (d_or (d_cmp op_isAll od_is (dv 2) d_non (nomark _)) (d_one (d_cmp op_notAll od_not (d_ix (ix_all hu) od_ix (dv 2) d_int) d_non (nomark _)))))) da_nil))))
theorem ok_come_to (T : Txt c mg A D) : FnG c.P c.w c.K mg base 1 (A "come_to") (D "come_to") ["rows", "begins"] (spD c 2 F_come_to) := by
  refine fnG (k := 0) T.f_come_to sc_come_to fun cdv AA outer s H E hr hgd => ?_
  have hu := hr.units
  have tk := takesG (P := c.P) (w := c.w) (K := c.K) (mg := mg) (base := base) (N := n_come_to) (qual := "come_to") (scope := defScope s_come_to) (f := A "come_to") (cdv := cdv) (A := AA) (outer := outer) (s := s) (H := H) (E := E)
  have ps := passesG (P := c.P) (w := c.w) (K := c.K) (mg := mg) (base := base) (N := n_come_to) (qual := "come_to") (scope := defScope s_come_to) (f := A "come_to") (cdv := cdv) (A := AA) (outer := outer) (s := s) (H := H) (E := E)
  exact (s_cons (s_par (i := 2) (j := 3) rfl sc_come_to.nd rfl rfl (by decide) rfl rfl (da_cons (d_lst da_nil) (da_cons d_newK da_nil)) (by rfl)) (s_cons (s_for (us := [4]) ps rfl (i_seq (dv 1)) (g_name (i := 4) sc_come_to.nd rfl (by first | exact .inl rfl | exact .inr rfl)) (s_one (s_if (k_cmp (op_ninAll hu) od_nin (dv 4) (dv 3) (by with_unfolding_all rfl)) (s_cons (s_asg d_bl (us := []) (g_sub (W := W0) hu (dv 3) (dv 4))) (s_one (s_expr (d_mt PySem.F.plainAttrs_list PySem.F.slot_list_append PySem.F.type_list_append mt_append om_app ty_lst (dv 2) (da_cons (dv 4) da_nil))))) s_nil))) (s_cons (s_set (i := 5) sc_come_to.nd rfl (by first | exact .inl rfl | exact .inr rfl) d_int) (s_cons (s_while ps (k_cmp op_lt od_lt (dv 5) (d_callB call_len_all ol_len (by rfl) T.n_len b_len (da_cons (dv 2) da_nil)) (nomark _)) (s_cons (s_for (us := [6]) ps rfl (i_seq (d_ix (ix_all hu) od_ix (dv 0) (d_ix (ix_all hu) od_ix (dv 2) (dv 5)))) (g_name (i := 6) sc_come_to.nd rfl (by first | exact .inl rfl | exact .inr rfl)) (s_one (s_if (PW.pt (k_and (k_cmp op_notAll od_not (dv 6) d_non (nomark _)) (k_one_and (k_cmp (op_ninAll hu) od_nin (d_ix (ix_all hu) od_ix (dv 6) d_int) (dv 3) (by with_unfolding_all rfl))))) (s_cons (s_asg d_bl (us := []) (g_sub (W := W0) hu (dv 3) (d_ix (ix_all hu) od_ix (dv 6) d_int))) (s_one (s_expr (d_mt PySem.F.plainAttrs_list PySem.F.slot_list_append PySem.F.type_list_append mt_append om_app ty_lst (dv 2) (da_cons (d_ix (ix_all hu) od_ix (dv 6) d_int) da_nil))))) s_nil))) (s_one (s_aug (i := 5) sc_come_to.nd rfl (by first | exact .inl rfl | exact .inr rfl) d_int ip_add od_addI)))) (s_one (s_ret (dv 2)))))))
theorem ok_is_both (T : Txt c mg A D) (G_come_to : FnG c.P c.w c.K mg base 1 (A "come_to") (D "come_to") ["rows", "begins"] (spD c 2 F_come_to)) (G_is_count : FnG c.P c.w c.K mg base 2 (A "is_count") (D "is_count") ["thing"] (spD c 1 F_is_count)) (G_is_rows : FnG c.P c.w c.K mg base 5 (A "is_rows") (D "is_rows") ["thing"] (spD c 1 F_is_rows)) : FnG c.P c.w c.K mg base 6 (A "is_both") (D "is_both") ["thing"] (spD c 1 F_is_both) := by
  refine fnG (k := 5) T.f_is_both sc_is_both fun cdv AA outer s H E hr hgd => ?_
  have G_come_to := G_come_to.mono (k := 5) (by decide)
  have G_is_count := G_is_count.mono (k := 5) (by decide)
  have G_is_rows := G_is_rows.mono (k := 5) (by decide)
  have hu := hr.units
  have tk := takesG (P := c.P) (w := c.w) (K := c.K) (mg := mg) (base := base) (N := n_is_both) (qual := "is_both") (scope := defScope s_is_both) (f := A "is_both") (cdv := cdv) (A := AA) (outer := outer) (s := s) (H := H) (E := E)
  have ps := passesG (P := c.P) (w := c.w) (K := c.K) (mg := mg) (base := base) (N := n_is_both) (qual := "is_both") (scope := defScope s_is_both) (f := A "is_both") (cdv := cdv) (A := AA) (outer := outer) (s := s) (H := H) (E := E)
  exact (s_cons (s_if (PW.pt (k_or (k_not (k_val (d_isi .tuple (dv 0) (by rfl) T.n_isinstance b_isinstance (by rfl) T.n_tuple b_tuple (by intro z; cases z)))) (k_or (k_cmp (op_neD hu) od_ne (d_callB call_len_all ol_len (by rfl) T.n_len b_len (da_cons (dv 0) da_nil)) d_int (nomark _)) (k_one_or (k_not (k_val (d_callG G_is_rows (hr.mono (by decide)) hgd (by rfl) T.m_is_rows T.k_is_rows T.b_is_rows tk (da_cons (d_ix (ix_all hu) od_ix (dv 0) d_int) da_nil)))))))) (s_one (s_ret d_bl)) s_nil) (s_cons (s_if (k_not (k_val (d_callB (cr_all rfl) ol_all (by rfl) T.n_all b_all (da_cons (d_lc rfl sc_is_both.nd (i_seq (d_slice (dv 0) o_none (o_some d_int))) (own := [(Str.ofString "begin", 3)]) (by show BlkOk n_is_both (defScope s_is_both) _ _; exact ⟨rfl, by decide +kernel, by decide +kernel, by decide +kernel, by decide +kernel⟩) (fun _ _ _ _ _ => (g_name (i := 3) sc_is_both.nd rfl (by first | exact .inl rfl | exact .inr rfl))) (fun _ _ _ _ _ => k_yes) (fun _ _ _ _ _ => (d_and (d_callG G_is_count (hr.mono (by decide)) hgd (by rfl) T.m_is_count T.k_is_count T.b_is_count takes0 (da_cons (dv 3) da_nil)) (d_one (d_cmp op_lt od_lt (dv 3) (d_callB call_len_all ol_len (by rfl) T.n_len b_len (da_cons (d_ix (ix_all hu) od_ix (dv 0) d_int) da_nil)) (nomark _)))))) da_nil)))) (s_one (s_ret d_bl)) s_nil) (s_one (s_ret (d_callB (cr_all rfl) ol_all (by rfl) T.n_all b_all (da_cons (d_lc2 (us1 := [2]) rfl sc_is_both.nd (i_seq (d_callG G_come_to (hr.mono (by decide)) hgd (by rfl) T.m_come_to T.k_come_to T.b_come_to tk (da_cons (d_ix (ix_all hu) od_ix (dv 0) d_int) (da_cons (d_slice (dv 0) o_none (o_some d_int)) da_nil)))) (own := [(Str.ofString "at", 1), (Str.ofString "one", 2)]) (by show BlkOk n_is_both (defScope s_is_both) _ _; exact ⟨rfl, by decide +kernel, by decide +kernel, by decide +kernel, by decide +kernel⟩) (by decide) (fun _ _ _ _ _ => (g_name (i := 1) sc_is_both.nd rfl (by first | exact .inl rfl | exact .inr rfl))) (fun _ _ _ _ _ => k_yes) (fun _ _ _ _ _ => (i_seq (d_ix (ix_all hu) od_ix (d_ix (ix_all hu) od_ix (dv 0) d_int) (dv 1)))) (fun _ _ _ _ _ => (g_name (i := 2) sc_is_both.nd rfl (by first | exact .inl rfl | exact .inr rfl))) (fun _ _ _ _ _ => k_yes) (fun _ _ _ _ _ => (d_or (d_cmp op_isAll od_is (dv 2) d_non (nomark _)) (d_one (d_cmp op_notAll od_not (d_ix (ix_all hu) od_ix (dv 2) d_int) d_non (nomark _)))))) da_nil))))))
theorem ok_looks_of (T : Txt c mg A D) : FnG c.P c.w c.K mg base 1 (A "looks_of") (D "looks_of") ["rows", "lots"] (spD c 2 F_looks_of) := by
  refine fnG (k := 0) T.f_looks_of sc_looks_of fun cdv AA outer s H E hr hgd => ?_
  have hu := hr.units
  have tk := takesG (P := c.P) (w := c.w) (K := c.K) (mg := mg) (base := base) (N := n_looks_of) (qual := "looks_of") (scope := defScope s_looks_of) (f := A "looks_of") (cdv := cdv) (A := AA) (outer := outer) (s := s) (H := H) (E := E)
  have ps := passesG (P := c.P) (w := c.w) (K := c.K) (mg := mg) (base := base) (N := n_looks_of) (qual := "looks_of") (scope := defScope s_looks_of) (f := A "looks_of") (cdv := cdv) (A := AA) (outer := outer) (s := s) (H := H) (E := E)
  exact (s_cons (s_set (i := 2) sc_looks_of.nd rfl (by first | exact .inl rfl | exact .inr rfl) (d_lst da_nil)) (s_cons (s_for (us := [3, 4]) ps rfl (i_enum (by rfl) T.n_enumerate (da_cons (dv 0) da_nil)) (g_tup rfl (gs_cons (g_name (i := 3) sc_looks_of.nd rfl (by first | exact .inl rfl | exact .inr rfl)) (gs_cons (g_name (i := 4) sc_looks_of.nd rfl (by first | exact .inl rfl | exact .inr rfl)) gs_nil))) (s_cons (s_setLc (i := 5) rfl sc_looks_of.nd rfl rfl (sw_true rfl rfl rfl rfl) (i_seq (dv 4)) (own := [(Str.ofString "told", 6)]) (by show BlkOk n_looks_of (defScope s_looks_of) _ _; exact ⟨rfl, by decide +kernel, by decide +kernel, by decide +kernel, by decide +kernel⟩) (fun _ _ _ _ _ => (g_name (i := 6) sc_looks_of.nd rfl (by first | exact .inl rfl | exact .inr rfl))) (fun _ _ _ _ _ => k_yes) (fun _ _ _ _ _ => (d_ifE (k_cmp op_isAll od_is (dv 6) d_non (nomark _)) d_non (d_tup (da_cons (d_ix (ix_all hu) od_ix (dv 6) d_int) (da_cons (d_ix (ix_all hu) od_ix (dv 1) (d_ix (ix_all hu) od_ix (dv 6) d_int)) da_nil)))))) (s_one (s_expr (d_mt PySem.F.plainAttrs_list PySem.F.slot_list_append PySem.F.type_list_append mt_append om_app ty_lst (dv 2) (da_cons (d_tup (da_cons (d_ix (ix_all hu) od_ix (dv 1) (dv 3)) (da_cons (d_callTy call_tuple_of ol_tuple (by rfl) T.n_tuple b_tuple (da_cons (dv 5) da_nil)) da_nil))) da_nil)))))) (s_one (s_ret (dv 2)))))
theorem ok_lots_of (T : Txt c mg A D) (G_looks_of : FnG c.P c.w c.K mg base 1 (A "looks_of") (D "looks_of") ["rows", "lots"] (spD c 2 F_looks_of)) : FnG c.P c.w c.K mg base 2 (A "lots_of") (D "lots_of") ["rows"] (spD c 1 F_lots_of) := by
  refine fnG (k := 1) T.f_lots_of sc_lots_of fun cdv AA outer s H E hr hgd => ?_
  have G_looks_of := G_looks_of.mono (k := 1) (by decide)
  have hu := hr.units
  have tk := takesG (P := c.P) (w := c.w) (K := c.K) (mg := mg) (base := base) (N := n_lots_of) (qual := "lots_of") (scope := defScope s_lots_of) (f := A "lots_of") (cdv := cdv) (A := AA) (outer := outer) (s := s) (H := H) (E := E)
  have ps := passesG (P := c.P) (w := c.w) (K := c.K) (mg := mg) (base := base) (N := n_lots_of) (qual := "lots_of") (scope := defScope s_lots_of) (f := A "lots_of") (cdv := cdv) (A := AA) (outer := outer) (s := s) (H := H) (E := E)
  exact (s_cons (s_setLc (i := 1) rfl sc_lots_of.nd rfl rfl (sw_true rfl rfl rfl rfl) (i_seq (dv 0)) (own := [(Str.ofString "_row", 6)]) (by show BlkOk n_lots_of (defScope s_lots_of) _ _; exact ⟨rfl, by decide +kernel, by decide +kernel, by decide +kernel, by decide +kernel⟩) (fun _ _ _ _ _ => (g_name (i := 6) sc_lots_of.nd rfl (by first | exact .inl rfl | exact .inr rfl))) (fun _ _ _ _ _ => k_yes) (fun _ _ _ _ _ => d_int)) (s_one (s_while ps (k_val d_bl) (s_cons (s_set (i := 2) sc_lots_of.nd rfl (by first | exact .inl rfl | exact .inr rfl) (d_callG G_looks_of (hr.mono (by decide)) hgd (by rfl) T.m_looks_of T.k_looks_of T.b_looks_of tk (da_cons (dv 0) (da_cons (dv 1) da_nil)))) (s_cons (s_set (i := 3) sc_lots_of.nd rfl (by first | exact .inl rfl | exact .inr rfl) d_newN) (s_cons (s_for (us := [4]) ps rfl (i_seq (dv 2)) (g_name (i := 4) sc_lots_of.nd rfl (by first | exact .inl rfl | exact .inr rfl)) (s_one (s_expr (d_setdN hu (dv 3) (dv 4) (d_callB call_len_all ol_len (by rfl) T.n_len b_len (da_cons (dv 3) da_nil)) ⟨rfl, rfl, rfl, rfl⟩)))) (s_cons (s_setLc (i := 5) rfl sc_lots_of.nd rfl rfl (sw_true rfl rfl rfl rfl) (i_seq (dv 2)) (own := [(Str.ofString "look", 4)]) (by show BlkOk n_lots_of (defScope s_lots_of) _ _; exact ⟨rfl, by decide +kernel, by decide +kernel, by decide +kernel, by decide +kernel⟩) (fun _ _ _ _ _ => (g_name (i := 4) sc_lots_of.nd rfl (by first | exact .inl rfl | exact .inr rfl))) (fun _ _ _ _ _ => k_yes) (fun _ _ _ _ _ => (d_ix (ix_all hu) od_ix (dv 3) (dv 4)))) (s_cons (s_if (k_cmp (op_eqD hu) od_eq (d_callB call_len_all ol_len (by rfl) T.n_len b_len (da_cons (dv 3) da_nil)) (d_callB call_len_all ol_len (by rfl) T.n_len b_len (da_cons (d_dc rfl sc_lots_of.nd (i_seq (dv 1)) (own := [(Str.ofString "lot", 7)]) (by show BlkOk n_lots_of (defScope s_lots_of) _ _; exact ⟨rfl, by decide +kernel, by decide +kernel, by decide +kernel, by decide +kernel⟩) (fun _ _ _ _ _ => (g_name (i := 7) sc_lots_of.nd rfl (by first | exact .inl rfl | exact .inr rfl))) (fun _ _ _ _ _ => k_yes) (fun _ _ _ _ _ => (dv 7)) (fun _ _ _ _ _ => d_bl)) da_nil)) (nomark _)) (s_one (s_ret (d_callTy call_tuple_of ol_tuple (by rfl) T.n_tuple b_tuple (da_cons (dv 5) da_nil)))) s_nil) (s_one (s_set (i := 1) sc_lots_of.nd rfl (by first | exact .inl rfl | exact .inr rfl) (dv 5)))))))))))
theorem ok_laid_together (T : Txt c mg A D) (G_come_to : FnG c.P c.w c.K mg base 1 (A "come_to") (D "come_to") ["rows", "begins"] (spD c 2 F_come_to)) (G_lots_of : FnG c.P c.w c.K mg base 2 (A "lots_of") (D "lots_of") ["rows"] (spD c 1 F_lots_of)) : FnG c.P c.w c.K mg base 3 (A "laid_together") (D "laid_together") ["rows", "begins"] (spD c 2 F_laid_together) := by
  refine fnG (k := 2) T.f_laid_together sc_laid_together fun cdv AA outer s H E hr hgd => ?_
  have G_come_to := G_come_to.mono (k := 2) (by decide)
  have G_lots_of := G_lots_of.mono (k := 2) (by decide)
  have hu := hr.units
  have tk := takesG (P := c.P) (w := c.w) (K := c.K) (mg := mg) (base := base) (N := n_laid_together) (qual := "laid_together") (scope := defScope s_laid_together) (f := A "laid_together") (cdv := cdv) (A := AA) (outer := outer) (s := s) (H := H) (E := E)
  have ps := passesG (P := c.P) (w := c.w) (K := c.K) (mg := mg) (base := base) (N := n_laid_together) (qual := "laid_together") (scope := defScope s_laid_together) (f := A "laid_together") (cdv := cdv) (A := AA) (outer := outer) (s := s) (H := H) (E := E)
  exact (s_cons (s_set (i := 2) sc_laid_together.nd rfl (by first | exact .inl rfl | exact .inr rfl) (d_callG G_lots_of (hr.mono (by decide)) hgd (by rfl) T.m_lots_of T.k_lots_of T.b_lots_of tk (da_cons (dv 0) da_nil))) (s_cons (s_set (i := 3) sc_laid_together.nd rfl (by first | exact .inl rfl | exact .inr rfl) d_newK) (s_cons (s_for (us := [4, 5]) ps rfl (i_enum (by rfl) T.n_enumerate (da_cons (dv 2) da_nil)) (g_tup rfl (gs_cons (g_name (i := 4) sc_laid_together.nd rfl (by first | exact .inl rfl | exact .inr rfl)) (gs_cons (g_name (i := 5) sc_laid_together.nd rfl (by first | exact .inl rfl | exact .inr rfl)) gs_nil))) (s_one (s_expr (d_setdK (dv 3) (dv 5) (dv 4) ⟨rfl, rfl, rfl, rfl⟩)))) (s_cons (s_set (i := 6) sc_laid_together.nd rfl (by first | exact .inl rfl | exact .inr rfl) (d_lock 3 (d_dc rfl sc_laid_together.nd (i_items (dv 3)) (own := [(Str.ofString "lot", 5), (Str.ofString "first", 11)]) (by show BlkOk n_laid_together (defScope s_laid_together) _ _; exact ⟨rfl, by decide +kernel, by decide +kernel, by decide +kernel, by decide +kernel⟩) (fun _ _ _ _ _ => (g_tup rfl (gs_cons (g_name (i := 5) sc_laid_together.nd rfl (by first | exact .inl rfl | exact .inr rfl)) (gs_cons (g_name (i := 11) sc_laid_together.nd rfl (by first | exact .inl rfl | exact .inr rfl)) gs_nil)))) (fun _ _ _ _ _ => k_yes) (fun _ _ _ _ _ => (dv 5)) (fun _ _ _ _ _ => (d_ix (ix_all hu) od_ix (dv 0) (dv 11)))))) (s_cons (s_setLc (i := 7) rfl sc_laid_together.nd rfl rfl (sw_true rfl rfl rfl rfl) (i_seq (d_callB (call_sortedDI rfl) ol_sorted (by rfl) T.n_sorted b_sorted (da_cons (dv 6) da_nil))) (own := [(Str.ofString "lot", 5)]) (by show BlkOk n_laid_together (defScope s_laid_together) _ _; exact ⟨rfl, by decide +kernel, by decide +kernel, by decide +kernel, by decide +kernel⟩) (fun _ _ _ _ _ => (g_name (i := 5) sc_laid_together.nd rfl (by first | exact .inl rfl | exact .inr rfl))) (fun _ _ _ _ _ => k_yes) (fun _ _ _ _ _ => (d_callTy call_tuple_of ol_tuple (by rfl) T.n_tuple b_tuple (da_cons (d_lc rfl sc_laid_together.nd (i_seq (d_ix (ix_all hu) od_ix (dv 6) (dv 5))) (own := [(Str.ofString "one", 13)]) (by show BlkOk n_laid_together _ _ _; exact ⟨rfl, by decide +kernel, by decide +kernel, by (show FreeIn _ _; repeat (first | exact fr_nil | refine fr_skip (by decide) ?_ | refine fr_take (by first | exact .inl rfl | exact .inr rfl) ?_)), by decide +kernel⟩) (fun _ _ _ _ _ => (g_name (i := 13) sc_laid_together.nd rfl (by first | exact .inl rfl | exact .inr rfl))) (fun _ _ _ _ _ => k_yes) (fun _ _ _ _ _ => (d_ifE (k_cmp op_isAll od_is (dv 13) d_non (nomark _)) d_non (d_tup (da_cons (d_ix (ix_all hu) od_ix (dv 13) d_int) (da_cons (d_ix (ix_all hu) od_ix (dv 2) (d_ix (ix_all hu) od_ix (dv 13) d_int)) da_nil)))))) da_nil)))) (s_cons (s_set (i := 8) sc_laid_together.nd rfl (by first | exact .inl rfl | exact .inr rfl) (d_callG G_come_to (hr.mono (by decide)) hgd (by rfl) T.m_come_to T.k_come_to T.b_come_to tk (da_cons (dv 7) (da_cons (d_lc rfl sc_laid_together.nd (i_seq (dv 1)) (own := [(Str.ofString "begin", 12)]) (by show BlkOk n_laid_together (defScope s_laid_together) _ _; exact ⟨rfl, by decide +kernel, by decide +kernel, by decide +kernel, by decide +kernel⟩) (fun _ _ _ _ _ => (g_name (i := 12) sc_laid_together.nd rfl (by first | exact .inl rfl | exact .inr rfl))) (fun _ _ _ _ _ => k_yes) (fun _ _ _ _ _ => (d_ix (ix_all hu) od_ix (dv 2) (dv 12)))) da_nil)))) (s_cons (s_set (i := 9) sc_laid_together.nd rfl (by first | exact .inl rfl | exact .inr rfl) (d_dc rfl sc_laid_together.nd (i_enum (by rfl) T.n_enumerate (da_cons (dv 8) da_nil)) (own := [(Str.ofString "number", 4), (Str.ofString "lot", 5)]) (by show BlkOk n_laid_together (defScope s_laid_together) _ _; exact ⟨rfl, by decide +kernel, by decide +kernel, by decide +kernel, by decide +kernel⟩) (fun _ _ _ _ _ => (g_tup rfl (gs_cons (g_name (i := 4) sc_laid_together.nd rfl (by first | exact .inl rfl | exact .inr rfl)) (gs_cons (g_name (i := 5) sc_laid_together.nd rfl (by first | exact .inl rfl | exact .inr rfl)) gs_nil)))) (fun _ _ _ _ _ => k_yes) (fun _ _ _ _ _ => (dv 5)) (fun _ _ _ _ _ => (dv 4)))) (s_cons (s_set (i := 10) sc_laid_together.nd rfl (by first | exact .inl rfl | exact .inr rfl) (d_lst da_nil)) (s_cons (s_for (us := [5]) ps rfl (i_seq (dv 8)) (g_name (i := 5) sc_laid_together.nd rfl (by first | exact .inl rfl | exact .inr rfl)) (s_one (s_expr (d_mt PySem.F.plainAttrs_list PySem.F.slot_list_append PySem.F.type_list_append mt_append om_app ty_lst (dv 10) (da_cons (d_callTy call_tuple_of ol_tuple (by rfl) T.n_tuple b_tuple (da_cons (d_lc rfl sc_laid_together.nd (i_seq (d_ix (ix_all hu) od_ix (dv 7) (dv 5))) (own := [(Str.ofString "one", 13)]) (by show BlkOk n_laid_together (defScope s_laid_together) _ _; exact ⟨rfl, by decide +kernel, by decide +kernel, by decide +kernel, by decide +kernel⟩) (fun _ _ _ _ _ => (g_name (i := 13) sc_laid_together.nd rfl (by first | exact .inl rfl | exact .inr rfl))) (fun _ _ _ _ _ => k_yes) (fun _ _ _ _ _ => (d_ifE (k_cmp op_isAll od_is (dv 13) d_non (nomark _)) d_non (d_tup (da_cons (d_ix (ix_all hu) od_ix (dv 13) d_int) (da_cons (d_ix (ix_all hu) od_ix (dv 9) (d_ix (ix_all hu) od_ix (dv 13) d_int)) da_nil)))))) da_nil)) da_nil))))) (s_one (s_ret (d_tup (da_cons (d_callTy call_tuple_of ol_tuple (by rfl) T.n_tuple b_tuple (da_cons (d_lc rfl sc_laid_together.nd (i_seq (dv 1)) (own := [(Str.ofString "begin", 12)]) (by show BlkOk n_laid_together (defScope s_laid_together) _ _; exact ⟨rfl, by decide +kernel, by decide +kernel, by decide +kernel, by decide +kernel⟩) (fun _ _ _ _ _ => (g_name (i := 12) sc_laid_together.nd rfl (by first | exact .inl rfl | exact .inr rfl))) (fun _ _ _ _ _ => k_yes) (fun _ _ _ _ _ => (d_ix (ix_all hu) od_ix (dv 9) (d_ix (ix_all hu) od_ix (dv 2) (dv 12))))) da_nil)) (da_cons (d_callTy call_tuple_of ol_tuple (by rfl) T.n_tuple b_tuple (da_cons (dv 10) da_nil)) da_nil))))))))))))))
theorem ok_least_of (T : Txt c mg A D) (G_laid_together : FnG c.P c.w c.K mg base 3 (A "laid_together") (D "laid_together") ["rows", "begins"] (spD c 2 F_laid_together)) (G_is_rows : FnG c.P c.w c.K mg base 5 (A "is_rows") (D "is_rows") ["thing"] (spD c 1 F_is_rows)) : FnG c.P c.w c.K mg base 6 (A "least_of") (D "least_of") ["rows"] (spD c 1 F_least_of) := by
  refine fnG (k := 5) T.f_least_of sc_least_of fun cdv AA outer s H E hr hgd => ?_
  have G_laid_together := G_laid_together.mono (k := 5) (by decide)
  have G_is_rows := G_is_rows.mono (k := 5) (by decide)
  have hu := hr.units
  have tk := takesG (P := c.P) (w := c.w) (K := c.K) (mg := mg) (base := base) (N := n_least_of) (qual := "least_of") (scope := defScope s_least_of) (f := A "least_of") (cdv := cdv) (A := AA) (outer := outer) (s := s) (H := H) (E := E)
  have ps := passesG (P := c.P) (w := c.w) (K := c.K) (mg := mg) (base := base) (N := n_least_of) (qual := "least_of") (scope := defScope s_least_of) (f := A "least_of") (cdv := cdv) (A := AA) (outer := outer) (s := s) (H := H) (E := E)
  exact (s_cons (s_if (k_not (k_val (d_callG G_is_rows (hr.mono (by decide)) hgd (by rfl) T.m_is_rows T.k_is_rows T.b_is_rows tk (da_cons (dv 0) da_nil)))) (s_one (s_raise0 0 rfl tk PySem.F.excBase_ValueError T.x_Nothing T.m_Nothing T.k_Nothing (raises_own T.y_Nothing T.z_Nothing) T.c_Nothing (by rfl))) s_nil) (s_one (s_ret (d_ix (ix_all hu) od_ix (d_callG G_laid_together (hr.mono (by decide)) hgd (by rfl) T.m_laid_together T.k_laid_together T.b_laid_together tk (da_cons (dv 0) (da_cons (d_tup (da_cons d_int da_nil)) da_nil))) d_int))))
theorem ok_least_both (T : Txt c mg A D) (G_laid_together : FnG c.P c.w c.K mg base 3 (A "laid_together") (D "laid_together") ["rows", "begins"] (spD c 2 F_laid_together)) (G_is_both : FnG c.P c.w c.K mg base 6 (A "is_both") (D "is_both") ["thing"] (spD c 1 F_is_both)) : FnG c.P c.w c.K mg base 7 (A "least_both") (D "least_both") ["both"] (spD c 1 F_least_both) := by
  refine fnG (k := 6) T.f_least_both sc_least_both fun cdv AA outer s H E hr hgd => ?_
  have G_laid_together := G_laid_together.mono (k := 6) (by decide)
  have G_is_both := G_is_both.mono (k := 6) (by decide)
  have hu := hr.units
  have tk := takesG (P := c.P) (w := c.w) (K := c.K) (mg := mg) (base := base) (N := n_least_both) (qual := "least_both") (scope := defScope s_least_both) (f := A "least_both") (cdv := cdv) (A := AA) (outer := outer) (s := s) (H := H) (E := E)
  have ps := passesG (P := c.P) (w := c.w) (K := c.K) (mg := mg) (base := base) (N := n_least_both) (qual := "least_both") (scope := defScope s_least_both) (f := A "least_both") (cdv := cdv) (A := AA) (outer := outer) (s := s) (H := H) (E := E)
  exact (s_cons (s_if (k_not (k_val (d_callG G_is_both (hr.mono (by decide)) hgd (by rfl) T.m_is_both T.k_is_both T.b_is_both tk (da_cons (dv 0) da_nil)))) (s_one (s_raise0 0 rfl tk PySem.F.excBase_ValueError T.x_Nothing T.m_Nothing T.k_Nothing (raises_own T.y_Nothing T.z_Nothing) T.c_Nothing (by rfl))) s_nil) (s_cons (s_asg (d_callG G_laid_together (hr.mono (by decide)) hgd (by rfl) T.m_laid_together T.k_laid_together T.b_laid_together tk (da_cons (d_ix (ix_all hu) od_ix (dv 0) d_int) (da_cons (d_slice (dv 0) o_none (o_some d_int)) da_nil))) (us := [1, 2]) (g_tup rfl (gs_cons (g_name (i := 1) sc_least_both.nd rfl (by first | exact .inl rfl | exact .inr rfl)) (gs_cons (g_name (i := 2) sc_least_both.nd rfl (by first | exact .inl rfl | exact .inr rfl)) gs_nil)))) (s_one (s_ret (d_tup (da_star (dv 1) (da_cons (dv 2) da_nil)))))))
theorem ok_are_standings_alike (T : Txt c mg A D) (G_lots_of : FnG c.P c.w c.K mg base 2 (A "lots_of") (D "lots_of") ["rows"] (spD c 1 F_lots_of)) (G_is_count : FnG c.P c.w c.K mg base 2 (A "is_count") (D "is_count") ["thing"] (spD c 1 F_is_count)) (G_is_rows : FnG c.P c.w c.K mg base 5 (A "is_rows") (D "is_rows") ["thing"] (spD c 1 F_is_rows)) : FnG c.P c.w c.K mg base 6 (A "are_standings_alike") (D "are_standings_alike") ["rows", "one", "other"] (spD c 3 F_are_standings_alike) := by
  refine fnG (k := 5) T.f_are_standings_alike sc_are_standings_alike fun cdv AA outer s H E hr hgd => ?_
  have G_lots_of := G_lots_of.mono (k := 5) (by decide)
  have G_is_count := G_is_count.mono (k := 5) (by decide)
  have G_is_rows := G_is_rows.mono (k := 5) (by decide)
  have hu := hr.units
  have tk := takesG (P := c.P) (w := c.w) (K := c.K) (mg := mg) (base := base) (N := n_are_standings_alike) (qual := "are_standings_alike") (scope := defScope s_are_standings_alike) (f := A "are_standings_alike") (cdv := cdv) (A := AA) (outer := outer) (s := s) (H := H) (E := E)
  have ps := passesG (P := c.P) (w := c.w) (K := c.K) (mg := mg) (base := base) (N := n_are_standings_alike) (qual := "are_standings_alike") (scope := defScope s_are_standings_alike) (f := A "are_standings_alike") (cdv := cdv) (A := AA) (outer := outer) (s := s) (H := H) (E := E)
  exact (s_cons (s_if (PW.pt (k_or (k_not (k_val (d_callG G_is_rows (hr.mono (by decide)) hgd (by rfl) T.m_is_rows T.k_is_rows T.b_is_rows tk (da_cons (dv 0) da_nil)))) (k_one_or (k_not (k_val (d_callB (cr_all rfl) ol_all (by rfl) T.n_all b_all (da_cons (d_lc rfl sc_are_standings_alike.nd (i_seq (d_tup (da_cons (dv 1) (da_cons (dv 2) da_nil)))) (own := [(Str.ofString "at", 4)]) (by show BlkOk n_are_standings_alike (defScope s_are_standings_alike) _ _; exact ⟨rfl, by decide +kernel, by decide +kernel, by decide +kernel, by decide +kernel⟩) (fun _ _ _ _ _ => (g_name (i := 4) sc_are_standings_alike.nd rfl (by first | exact .inl rfl | exact .inr rfl))) (fun _ _ _ _ _ => k_yes) (fun _ _ _ _ _ => (d_and (d_callG G_is_count (hr.mono (by decide)) hgd (by rfl) T.m_is_count T.k_is_count T.b_is_count takes0 (da_cons (dv 4) da_nil)) (d_one (d_cmp op_lt od_lt (dv 4) (d_callB call_len_all ol_len (by rfl) T.n_len b_len (da_cons (dv 0) da_nil)) (nomark _)))))) da_nil))))))) (s_one (s_raise0 0 rfl tk PySem.F.excBase_ValueError T.x_Nothing T.m_Nothing T.k_Nothing (raises_own T.y_Nothing T.z_Nothing) T.c_Nothing (by rfl))) s_nil) (s_cons (s_set (i := 3) sc_are_standings_alike.nd rfl (by first | exact .inl rfl | exact .inr rfl) (d_callG G_lots_of (hr.mono (by decide)) hgd (by rfl) T.m_lots_of T.k_lots_of T.b_lots_of tk (da_cons (dv 0) da_nil))) (s_one (s_ret (d_cmp (op_eqD hu) od_eq (d_ix (ix_all hu) od_ix (dv 3) (dv 1)) (d_ix (ix_all hu) od_ix (dv 3) (dv 2)) (nomark _))))))
theorem ok_unlike_at (T : Txt c mg A D) : FnG c.P c.w c.K mg base 1 (A "unlike_at") (D "unlike_at") ["one", "other", "sign"] (spD c 3 F_unlike_at) := by
  refine fnG (k := 0) T.f_unlike_at sc_unlike_at fun cdv AA outer s H E hr hgd => ?_
  have hu := hr.units
  have tk := takesG (P := c.P) (w := c.w) (K := c.K) (mg := mg) (base := base) (N := n_unlike_at) (qual := "unlike_at") (scope := defScope s_unlike_at) (f := A "unlike_at") (cdv := cdv) (A := AA) (outer := outer) (s := s) (H := H) (E := E)
  have ps := passesG (P := c.P) (w := c.w) (K := c.K) (mg := mg) (base := base) (N := n_unlike_at) (qual := "unlike_at") (scope := defScope s_unlike_at) (f := A "unlike_at") (cdv := cdv) (A := AA) (outer := outer) (s := s) (H := H) (E := E)
  exact (s_cons (s_if (k_cmp (op_neD hu) od_ne (d_cmp op_isAll od_is (d_ix (ix_all hu) od_ix (dv 0) (dv 2)) d_non (nomark _)) (d_cmp op_isAll od_is (d_ix (ix_all hu) od_ix (dv 1) (dv 2)) d_non (nomark _)) (nomark _)) (s_one (s_ret (d_str (by decide +kernel)))) s_nil) (s_cons (s_if (PW.pt (k_and (k_cmp op_notAll od_not (d_ix (ix_all hu) od_ix (dv 0) (dv 2)) d_non (nomark _)) (k_one_and (k_cmp (op_neD hu) od_ne (d_ix (ix_all hu) od_ix (d_ix (ix_all hu) od_ix (dv 0) (dv 2)) d_int) (d_ix (ix_all hu) od_ix (d_ix (ix_all hu) od_ix (dv 1) (dv 2)) d_int) (nomark _))))) (s_one (s_ret (d_str (by decide +kernel)))) s_nil) (s_one (s_ret d_non))))
theorem ok_first_parting (T : Txt c mg A D) (G_unlike_at : FnG c.P c.w c.K mg base 1 (A "unlike_at") (D "unlike_at") ["one", "other", "sign"] (spD c 3 F_unlike_at)) (G_is_rows : FnG c.P c.w c.K mg base 5 (A "is_rows") (D "is_rows") ["thing"] (spD c 1 F_is_rows)) : FnG c.P c.w c.K mg base 6 (A "first_parting") (D "first_parting") ["one", "other"] (spD c 2 F_first_parting) := by
  refine fnG (k := 5) T.f_first_parting sc_first_parting fun cdv AA outer s H E hr hgd => ?_
  have G_unlike_at := G_unlike_at.mono (k := 5) (by decide)
  have G_is_rows := G_is_rows.mono (k := 5) (by decide)
  have hu := hr.units
  have tk := takesG (P := c.P) (w := c.w) (K := c.K) (mg := mg) (base := base) (N := n_first_parting) (qual := "first_parting") (scope := defScope s_first_parting) (f := A "first_parting") (cdv := cdv) (A := AA) (outer := outer) (s := s) (H := H) (E := E)
  have ps := passesG (P := c.P) (w := c.w) (K := c.K) (mg := mg) (base := base) (N := n_first_parting) (qual := "first_parting") (scope := defScope s_first_parting) (f := A "first_parting") (cdv := cdv) (A := AA) (outer := outer) (s := s) (H := H) (E := E)
  exact (s_cons (s_if (PW.pt (k_or (k_not (k_val (d_callG G_is_rows (hr.mono (by decide)) hgd (by rfl) T.m_is_rows T.k_is_rows T.b_is_rows tk (da_cons (dv 0) da_nil)))) (k_one_or (k_not (k_val (d_callG G_is_rows (hr.mono (by decide)) hgd (by rfl) T.m_is_rows T.k_is_rows T.b_is_rows tk (da_cons (dv 1) da_nil))))))) (s_one (s_raise0 0 rfl tk PySem.F.excBase_ValueError T.x_Nothing T.m_Nothing T.k_Nothing (raises_own T.y_Nothing T.z_Nothing) T.c_Nothing (by rfl))) s_nil) (s_cons (s_par3 (i := 2) (j := 3) (l := 4) rfl sc_first_parting.nd rfl rfl rfl (by decide) (by decide) (by decide) rfl rfl rfl (da_cons (d_lst (da_cons (d_tup (da_cons (d_tup (da_cons d_int (da_cons d_int da_nil))) (da_cons (d_tup da_nil) da_nil))) da_nil)) (da_cons (d_dsp hu (d_tup (da_cons d_int (da_cons d_int da_nil))) d_bl) (da_cons d_int da_nil))) (by rfl)) (s_cons (s_while ps (k_cmp op_lt od_lt (dv 4) (d_callB call_len_all ol_len (by rfl) T.n_len b_len (da_cons (dv 2) da_nil)) (nomark _)) (s_cons (s_asg (d_ix (ix_all hu) od_ix (dv 2) (dv 4)) (us := [7, 5, 6]) (g_tup rfl (gs_cons (g_tup rfl (gs_cons (g_name (i := 5) sc_first_parting.nd rfl (by first | exact .inl rfl | exact .inr rfl)) (gs_cons (g_name (i := 6) sc_first_parting.nd rfl (by first | exact .inl rfl | exact .inr rfl)) gs_nil))) (gs_cons (g_name (i := 7) sc_first_parting.nd rfl (by first | exact .inl rfl | exact .inr rfl)) gs_nil)))) (s_cons (s_for (us := [8]) ps rfl (i_seq (d_globT (by rfl) T.g_SIGNS_alike T.r_SIGNS_alike)) (g_name (i := 8) sc_first_parting.nd rfl (by first | exact .inl rfl | exact .inr rfl)) (s_cons (s_set (i := 9) sc_first_parting.nd rfl (by first | exact .inl rfl | exact .inr rfl) (d_callG G_unlike_at (hr.mono (by decide)) hgd (by rfl) T.m_unlike_at T.k_unlike_at T.b_unlike_at tk (da_cons (d_ix (ix_all hu) od_ix (dv 0) (dv 5)) (da_cons (d_ix (ix_all hu) od_ix (dv 1) (dv 6)) (da_cons (dv 8) da_nil))))) (s_cons (s_if (k_cmp op_notAll od_not (dv 9) d_non (nomark _)) (s_one (s_ret (d_tup (da_cons (dv 9) (da_cons (d_tup (da_star (dv 7) (da_cons (dv 8) da_nil))) da_nil))))) s_nil) (s_one (s_if (k_cmp op_notAll od_not (d_ix (ix_all hu) od_ix (d_ix (ix_all hu) od_ix (dv 0) (dv 5)) (dv 8)) d_non (nomark _)) (s_cons (s_set (i := 10) sc_first_parting.nd rfl (by first | exact .inl rfl | exact .inr rfl) (d_tup (da_cons (d_ix (ix_all hu) od_ix (d_ix (ix_all hu) od_ix (d_ix (ix_all hu) od_ix (dv 0) (dv 5)) (dv 8)) d_int) (da_cons (d_ix (ix_all hu) od_ix (d_ix (ix_all hu) od_ix (d_ix (ix_all hu) od_ix (dv 1) (dv 6)) (dv 8)) d_int) da_nil)))) (s_one (s_if (k_cmp (op_ninAll hu) od_nin (dv 10) (dv 3) (by with_unfolding_all rfl)) (s_cons (s_asg d_bl (us := []) (g_sub (W := W0) hu (dv 3) (dv 10))) (s_one (s_expr (d_mt PySem.F.plainAttrs_list PySem.F.slot_list_append PySem.F.type_list_append mt_append om_app ty_lst (dv 2) (da_cons (d_tup (da_cons (dv 10) (da_cons (d_tup (da_star (dv 7) (da_cons (dv 8) da_nil))) da_nil))) da_nil))))) s_nil))) s_nil))))) (s_one (s_aug (i := 4) sc_first_parting.nd rfl (by first | exact .inl rfl | exact .inr rfl) d_int ip_add od_addI))))) (s_one (s_ret d_non)))))
theorem ok__law_bag (T : Txt c mg A D) : FnG c.P c.w c.K mg base 1 (A "_law_bag") (D "_law_bag") ["script"] (spD c 1 F__law_bag) := by
  refine fnG (k := 0) T.f__law_bag sc__law_bag fun cdv AA outer s H E hr hgd => ?_
  have hu := hr.units
  have tk := takesG (P := c.P) (w := c.w) (K := c.K) (mg := mg) (base := base) (N := n__law_bag) (qual := "_law_bag") (scope := defScope s__law_bag) (f := A "_law_bag") (cdv := cdv) (A := AA) (outer := outer) (s := s) (H := H) (E := E)
  have ps := passesG (P := c.P) (w := c.w) (K := c.K) (mg := mg) (base := base) (N := n__law_bag) (qual := "_law_bag") (scope := defScope s__law_bag) (f := A "_law_bag") (cdv := cdv) (A := AA) (outer := outer) (s := s) (H := H) (E := E)
  exact (s_one (s_ret (d_lst (da_cons d_int (da_cons d_int (da_cons d_int (da_cons (d_lc rfl sc__law_bag.nd (i_seq (d_slice (dv 0) o_none (o_some d_int))) (own := [(Str.ofString "cell", 1)]) (by show BlkOk n__law_bag (defScope s__law_bag) _ _; exact ⟨rfl, by decide +kernel, by decide +kernel, by decide +kernel, by decide +kernel⟩) (fun _ _ _ _ _ => (g_name (i := 1) sc__law_bag.nd rfl (by first | exact .inl rfl | exact .inr rfl))) (fun _ _ _ _ _ => k_yes) (fun _ _ _ _ _ => (d_callB call_abs ol_abs (by rfl) T.n_abs b_abs (da_cons (dv 1) da_nil)))) da_nil)))))))
theorem ok__law_take (T : Txt c mg A D) : FnG c.P c.w c.K mg base 1 (A "_law_take") (D "_law_take") ["bag", "many"] (spD c 2 F__law_take) := by
  refine fnG (k := 0) T.f__law_take sc__law_take fun cdv AA outer s H E hr hgd => ?_
  have hu := hr.units
  have tk := takesG (P := c.P) (w := c.w) (K := c.K) (mg := mg) (base := base) (N := n__law_take) (qual := "_law_take") (scope := defScope s__law_take) (f := A "_law_take") (cdv := cdv) (A := AA) (outer := outer) (s := s) (H := H) (E := E)
  have ps := passesG (P := c.P) (w := c.w) (K := c.K) (mg := mg) (base := base) (N := n__law_take) (qual := "_law_take") (scope := defScope s__law_take) (f := A "_law_take") (cdv := cdv) (A := AA) (outer := outer) (s := s) (H := H) (E := E)
  exact (s_cons (s_if (k_cmp (op_eqD hu) od_eq (d_ix (ix_all hu) od_ix (dv 0) d_int) d_int (nomark _)) (s_cons (s_set (i := 2) sc__law_take.nd rfl (by first | exact .inl rfl | exact .inr rfl) (d_ix (ix_all hu) od_ix (d_op op_addAll od_add (d_slice (d_ix (ix_all hu) od_ix (dv 0) d_int) (o_some (d_ix (ix_all hu) od_ix (dv 0) d_int)) o_none) (d_lst (da_cons d_int da_nil))) d_int)) (s_cons (s_augS hu (dv 0) d_int d_int ip_add od_addI) (s_cons (s_if (k_cmp op_ge od_ge (dv 2) (d_op op_pow od_pow d_int d_int) (nomark _)) (s_one (s_asg (dv 2) (us := []) (g_sub (W := W0) hu (dv 0) d_int))) s_nil) (s_cons (s_set (i := 3) sc__law_take.nd rfl (by first | exact .inl rfl | exact .inr rfl) (d_op op_addAll od_add (d_op op_addAll od_add (d_op op_mul od_mul (d_ix (ix_all hu) od_ix (dv 0) d_int) d_int) (d_op op_mod od_mod (d_callTy call_int1 ol_int (by rfl) T.n_int b_int (da_cons (dv 2) da_nil)) d_int)) (d_op op_mul od_mul d_int (d_ix (ix_all hu) od_ix (dv 0) d_int)))) (s_one (s_asg (d_op op_mod od_mod (d_callTy call_int1 ol_int (by rfl) T.n_int b_int (da_cons (dv 3) da_nil)) d_int) (us := []) (g_sub (W := W0) hu (dv 0) d_int))))))) s_nil) (s_cons (s_if (k_cmp op_gt od_gt (d_ix (ix_all hu) od_ix (dv 0) d_int) d_int (nomark _)) (s_cons (s_set (i := 4) sc__law_take.nd rfl (by first | exact .inl rfl | exact .inr rfl) (d_op op_mod od_mod (d_callTy call_int1 ol_int (by rfl) T.n_int b_int (da_cons (d_ix (ix_all hu) od_ix (dv 0) d_int) da_nil)) (dv 1))) (s_cons (s_asg (d_op op_fdiv od_div (d_callTy call_int1 ol_int (by rfl) T.n_int b_int (da_cons (d_ix (ix_all hu) od_ix (dv 0) d_int) da_nil)) (dv 1)) (us := []) (g_sub (W := W0) hu (dv 0) d_int)) (s_one (s_ret (dv 4))))) s_nil) (s_cons (s_set (i := 5) sc__law_take.nd rfl (by first | exact .inl rfl | exact .inr rfl) (d_op op_mod od_mod (d_callTy call_int1 ol_int (by rfl) T.n_int b_int (da_cons (d_op op_mul od_mul (d_op op_addAll od_add (d_ix (ix_all hu) od_ix (dv 0) d_int) d_int) d_int) da_nil)) d_int)) (s_cons (s_set (i := 6) sc__law_take.nd rfl (by first | exact .inl rfl | exact .inr rfl) (d_op op_mod od_mod (d_callTy call_int1 ol_int (by rfl) T.n_int b_int (da_cons (d_op op_mul od_mul (d_op op_mod od_mod (d_callTy call_int1 ol_int (by rfl) T.n_int b_int (da_cons (d_op op_mul od_mul (dv 5) (dv 5)) da_nil)) d_int) d_int) da_nil)) d_int)) (s_one (s_ret (d_op op_mod od_mod (d_callTy call_int1 ol_int (by rfl) T.n_int b_int (da_cons (d_op op_fdiv od_div (dv 6) d_int) da_nil)) (dv 1))))))))
theorem ok__law_some (T : Txt c mg A D) (G__law_take : FnG c.P c.w c.K mg base 1 (A "_law_take") (D "_law_take") ["bag", "many"] (spD c 2 F__law_take)) : FnG c.P c.w c.K mg base 2 (A "_law_some") (D "_law_some") ["bag", "things"] (spD c 2 F__law_some) := by
  refine fnG (k := 1) T.f__law_some sc__law_some fun cdv AA outer s H E hr hgd => ?_
  have G__law_take := G__law_take.mono (k := 1) (by decide)
  have hu := hr.units
  have tk := takesG (P := c.P) (w := c.w) (K := c.K) (mg := mg) (base := base) (N := n__law_some) (qual := "_law_some") (scope := defScope s__law_some) (f := A "_law_some") (cdv := cdv) (A := AA) (outer := outer) (s := s) (H := H) (E := E)
  have ps := passesG (P := c.P) (w := c.w) (K := c.K) (mg := mg) (base := base) (N := n__law_some) (qual := "_law_some") (scope := defScope s__law_some) (f := A "_law_some") (cdv := cdv) (A := AA) (outer := outer) (s := s) (H := H) (E := E)
  exact (s_one (s_ret (d_ix (ix_all hu) od_ix (dv 1) (d_callG G__law_take (hr.mono (by decide)) hgd (by rfl) T.m__law_take T.k__law_take T.b__law_take tk (da_cons (dv 0) (da_cons (d_callB call_len_all ol_len (by rfl) T.n_len b_len (da_cons (dv 1) da_nil)) da_nil))))))
theorem ok__law_alike (T : Txt c mg A D) : FnG c.P c.w c.K mg base 1 (A "_law_alike") (D "_law_alike") ["found", "due"] (spD c 2 F__law_alike) := by
  refine fnG (k := 0) T.f__law_alike sc__law_alike fun cdv AA outer s H E hr hgd => ?_
  have hu := hr.units
  have tk := takesG (P := c.P) (w := c.w) (K := c.K) (mg := mg) (base := base) (N := n__law_alike) (qual := "_law_alike") (scope := defScope s__law_alike) (f := A "_law_alike") (cdv := cdv) (A := AA) (outer := outer) (s := s) (H := H) (E := E)
  have ps := passesG (P := c.P) (w := c.w) (K := c.K) (mg := mg) (base := base) (N := n__law_alike) (qual := "_law_alike") (scope := defScope s__law_alike) (f := A "_law_alike") (cdv := cdv) (A := AA) (outer := outer) (s := s) (H := H) (E := E)
  exact (s_one (s_ret (d_and (d_cmp op_eq od_eqS (d_callB (call_reprD hu hgd) ol_repr (by rfl) T.n_repr b_repr (da_cons (dv 0) da_nil)) (d_callB (call_reprD hu hgd) ol_repr (by rfl) T.n_repr b_repr (da_cons (dv 1) da_nil)) (nomark _)) (d_one (d_cmp (op_eqD hu) od_eq (dv 0) (dv 1) (nomark _))))))
theorem ok__law_machine (T : Txt c mg A D) (G__law_take : FnG c.P c.w c.K mg base 1 (A "_law_take") (D "_law_take") ["bag", "many"] (spD c 2 F__law_take)) (G__law_some : FnG c.P c.w c.K mg base 2 (A "_law_some") (D "_law_some") ["bag", "things"] (spD c 2 F__law_some)) : FnG c.P c.w c.K mg base 3 (A "_law_machine") (D "_law_machine") ["bag", "many"] (spD c 2 F__law_machine) := by
  refine fnG (k := 2) T.f__law_machine sc__law_machine fun cdv AA outer s H E hr hgd => ?_
  have G__law_take := G__law_take.mono (k := 2) (by decide)
  have G__law_some := G__law_some.mono (k := 2) (by decide)
  have hu := hr.units
  have tk := takesG (P := c.P) (w := c.w) (K := c.K) (mg := mg) (base := base) (N := n__law_machine) (qual := "_law_machine") (scope := defScope s__law_machine) (f := A "_law_machine") (cdv := cdv) (A := AA) (outer := outer) (s := s) (H := H) (E := E)
  have ps := passesG (P := c.P) (w := c.w) (K := c.K) (mg := mg) (base := base) (N := n__law_machine) (qual := "_law_machine") (scope := defScope s__law_machine) (f := A "_law_machine") (cdv := cdv) (A := AA) (outer := outer) (s := s) (H := H) (E := E)
  exact (s_cons (s_set (i := 2) sc__law_machine.nd rfl (by first | exact .inl rfl | exact .inr rfl) (d_lst da_nil)) (s_cons (s_for (us := [3]) ps rfl (i_range1 (by rfl) T.n_range (da_cons (dv 1) da_nil)) (g_name (i := 3) sc__law_machine.nd rfl (by first | exact .inl rfl | exact .inr rfl)) (s_cons (s_set (i := 4) sc__law_machine.nd rfl (by first | exact .inl rfl | exact .inr rfl) (d_lst da_nil)) (s_cons (s_for (us := [5]) ps rfl (i_range1 (by rfl) T.n_range (da_cons d_int da_nil)) (g_name (i := 5) sc__law_machine.nd rfl (by first | exact .inl rfl | exact .inr rfl)) (s_one (s_expr (d_mt PySem.F.plainAttrs_list PySem.F.slot_list_append PySem.F.type_list_append mt_append om_app ty_lst (dv 4) (da_cons (d_ifE (k_cmp (op_eqD hu) od_eq (d_callG G__law_take (hr.mono (by decide)) hgd (by rfl) T.m__law_take T.k__law_take T.b__law_take tk (da_cons (dv 0) (da_cons d_int da_nil))) d_int (nomark _)) d_non (d_tup (da_cons (d_callG G__law_some (hr.mono (by decide)) hgd (by rfl) T.m__law_some T.k__law_some T.b__law_some tk (da_cons (dv 0) (da_cons (d_lst (da_cons (d_tup da_nil) (da_cons (d_tup (da_cons d_int da_nil)) (da_cons (d_tup (da_cons d_int da_nil)) (da_cons (d_tup (da_cons d_int da_nil)) da_nil))))) da_nil))) (da_cons (d_callG G__law_take (hr.mono (by decide)) hgd (by rfl) T.m__law_take T.k__law_take T.b__law_take tk (da_cons (dv 0) (da_cons (dv 1) da_nil))) da_nil)))) da_nil))))) (s_one (s_expr (d_mt PySem.F.plainAttrs_list PySem.F.slot_list_append PySem.F.type_list_append mt_append om_app ty_lst (dv 2) (da_cons (d_callTy call_tuple_of ol_tuple (by rfl) T.n_tuple b_tuple (da_cons (dv 4) da_nil)) da_nil))))))) (s_one (s_ret (d_callTy call_tuple_of ol_tuple (by rfl) T.n_tuple b_tuple (da_cons (dv 2) da_nil))))))
theorem ok__law_unsure (T : Txt c mg A D) (G__law_take : FnG c.P c.w c.K mg base 1 (A "_law_take") (D "_law_take") ["bag", "many"] (spD c 2 F__law_take)) : FnG c.P c.w c.K mg base 2 (A "_law_unsure") (D "_law_unsure") ["bag", "rows"] (spD c 2 F__law_unsure) := by
  refine fnG (k := 1) T.f__law_unsure sc__law_unsure fun cdv AA outer s H E hr hgd => ?_
  have G__law_take := G__law_take.mono (k := 1) (by decide)
  have hu := hr.units
  have tk := takesG (P := c.P) (w := c.w) (K := c.K) (mg := mg) (base := base) (N := n__law_unsure) (qual := "_law_unsure") (scope := defScope s__law_unsure) (f := A "_law_unsure") (cdv := cdv) (A := AA) (outer := outer) (s := s) (H := H) (E := E)
  have ps := passesG (P := c.P) (w := c.w) (K := c.K) (mg := mg) (base := base) (N := n__law_unsure) (qual := "_law_unsure") (scope := defScope s__law_unsure) (f := A "_law_unsure") (cdv := cdv) (A := AA) (outer := outer) (s := s) (H := H) (E := E)
  exact (s_cons (s_set (i := 2) sc__law_unsure.nd rfl (by first | exact .inl rfl | exact .inr rfl) (d_lst da_nil)) (s_cons (s_for (us := [3]) ps rfl (i_seq (dv 1)) (g_name (i := 3) sc__law_unsure.nd rfl (by first | exact .inl rfl | exact .inr rfl)) (s_one (s_expr (d_mt PySem.F.plainAttrs_list PySem.F.slot_list_append PySem.F.type_list_append mt_append om_app ty_lst (dv 2) (da_cons (d_callTy call_tuple_of ol_tuple (by rfl) T.n_tuple b_tuple (da_cons (d_lc rfl sc__law_unsure.nd (i_seq (dv 3)) (own := [(Str.ofString "one", 4)]) (by show BlkOk n__law_unsure (defScope s__law_unsure) _ _; exact ⟨rfl, by decide +kernel, by decide +kernel, by decide +kernel, by decide +kernel⟩) (fun _ _ _ _ _ => (g_name (i := 4) sc__law_unsure.nd rfl (by first | exact .inl rfl | exact .inr rfl))) (fun _ _ _ _ _ => k_yes) (fun _ _ _ _ _ => (d_ifE (PW.pt (k_or (k_cmp op_isAll od_is (dv 4) d_non (nomark _)) (k_one_or (k_cmp op_gt od_gt (d_callG G__law_take (hr.mono (by decide)) hgd (by rfl) T.m__law_take T.k__law_take T.b__law_take takes0 (da_cons (dv 0) (da_cons d_int da_nil))) d_int (nomark _))))) (dv 4) (d_tup (da_cons d_non (da_cons (d_ix (ix_all hu) od_ix (dv 4) d_int) da_nil)))))) da_nil)) da_nil))))) (s_one (s_ret (d_callTy call_tuple_of ol_tuple (by rfl) T.n_tuple b_tuple (da_cons (dv 2) da_nil))))))
theorem ok__law_parted (T : Txt c mg A D) : FnG c.P c.w c.K mg base 1 (A "_law_parted") (D "_law_parted") ["rows", "one", "other"] (spD c 3 F__law_parted) := by
  refine fnG (k := 0) T.f__law_parted sc__law_parted fun cdv AA outer s H E hr hgd => ?_
  have hu := hr.units
  have tk := takesG (P := c.P) (w := c.w) (K := c.K) (mg := mg) (base := base) (N := n__law_parted) (qual := "_law_parted") (scope := defScope s__law_parted) (f := A "_law_parted") (cdv := cdv) (A := AA) (outer := outer) (s := s) (H := H) (E := E)
  have ps := passesG (P := c.P) (w := c.w) (K := c.K) (mg := mg) (base := base) (N := n__law_parted) (qual := "_law_parted") (scope := defScope s__law_parted) (f := A "_law_parted") (cdv := cdv) (A := AA) (outer := outer) (s := s) (H := H) (E := E)
  exact (s_cons (s_par3 (i := 3) (j := 4) (l := 5) rfl sc__law_parted.nd rfl rfl rfl (by decide) (by decide) (by decide) rfl rfl rfl (da_cons (d_lst (da_cons (d_tup (da_cons (dv 1) (da_cons (dv 2) da_nil))) da_nil)) (da_cons (d_dsp hu (d_tup (da_cons (dv 1) (da_cons (dv 2) da_nil))) d_bl) (da_cons d_int da_nil))) (by rfl)) (s_cons (s_while ps (k_cmp op_lt od_lt (dv 5) (d_callB call_len_all ol_len (by rfl) T.n_len b_len (da_cons (dv 3) da_nil)) (nomark _)) (s_cons (s_for (us := [6, 7]) ps rfl (i_zip (by rfl) T.n_zip (da_cons (d_ix (ix_all hu) od_ix (dv 0) (d_ix (ix_all hu) od_ix (d_ix (ix_all hu) od_ix (dv 3) (dv 5)) d_int)) (da_cons (d_ix (ix_all hu) od_ix (dv 0) (d_ix (ix_all hu) od_ix (d_ix (ix_all hu) od_ix (dv 3) (dv 5)) d_int)) da_nil))) (g_tup rfl (gs_cons (g_name (i := 6) sc__law_parted.nd rfl (by first | exact .inl rfl | exact .inr rfl)) (gs_cons (g_name (i := 7) sc__law_parted.nd rfl (by first | exact .inl rfl | exact .inr rfl)) gs_nil))) (s_cons (s_if (PW.pt (k_or (k_cmp (op_neD hu) od_ne (d_cmp op_isAll od_is (dv 6) d_non (nomark _)) (d_cmp op_isAll od_is (dv 7) d_non (nomark _)) (nomark _)) (k_one_or (PW.pt (k_and (k_cmp op_notAll od_not (dv 6) d_non (nomark _)) (k_one_and (k_cmp (op_neD hu) od_ne (d_ix (ix_all hu) od_ix (dv 6) d_int) (d_ix (ix_all hu) od_ix (dv 7) d_int) (nomark _)))))))) (s_one (s_ret d_bl)) s_nil) (s_one (s_if (PW.pt (k_and (k_cmp op_notAll od_not (dv 6) d_non (nomark _)) (k_one_and (k_cmp (op_ninAll hu) od_nin (d_tup (da_cons (d_ix (ix_all hu) od_ix (dv 6) d_int) (da_cons (d_ix (ix_all hu) od_ix (dv 7) d_int) da_nil))) (dv 4) (by with_unfolding_all rfl))))) (s_cons (s_asg d_bl (us := []) (g_sub (W := W0) hu (dv 4) (d_tup (da_cons (d_ix (ix_all hu) od_ix (dv 6) d_int) (da_cons (d_ix (ix_all hu) od_ix (dv 7) d_int) da_nil))))) (s_one (s_expr (d_mt PySem.F.plainAttrs_list PySem.F.slot_list_append PySem.F.type_list_append mt_append om_app ty_lst (dv 3) (da_cons (d_tup (da_cons (d_ix (ix_all hu) od_ix (dv 6) d_int) (da_cons (d_ix (ix_all hu) od_ix (dv 7) d_int) da_nil))) da_nil))))) s_nil)))) (s_one (s_aug (i := 5) sc__law_parted.nd rfl (by first | exact .inl rfl | exact .inr rfl) d_int ip_add od_addI)))) (s_one (s_ret d_bl))))
theorem ok__law_otherwise (T : Txt c mg A D) (G__law_take : FnG c.P c.w c.K mg base 1 (A "_law_take") (D "_law_take") ["bag", "many"] (spD c 2 F__law_take)) : FnG c.P c.w c.K mg base 2 (A "_law_otherwise") (D "_law_otherwise") ["bag", "rows"] (spD c 2 F__law_otherwise) := by
  refine fnG (k := 1) T.f__law_otherwise sc__law_otherwise fun cdv AA outer s H E hr hgd => ?_
  have G__law_take := G__law_take.mono (k := 1) (by decide)
  have hu := hr.units
  have tk := takesG (P := c.P) (w := c.w) (K := c.K) (mg := mg) (base := base) (N := n__law_otherwise) (qual := "_law_otherwise") (scope := defScope s__law_otherwise) (f := A "_law_otherwise") (cdv := cdv) (A := AA) (outer := outer) (s := s) (H := H) (E := E)
  have ps := passesG (P := c.P) (w := c.w) (K := c.K) (mg := mg) (base := base) (N := n__law_otherwise) (qual := "_law_otherwise") (scope := defScope s__law_otherwise) (f := A "_law_otherwise") (cdv := cdv) (A := AA) (outer := outer) (s := s) (H := H) (E := E)
  exact (s_cons (s_asg (d_tup (da_cons (d_callB call_len_all ol_len (by rfl) T.n_len b_len (da_cons (dv 1) da_nil)) (da_cons (d_lst da_nil) da_nil))) (us := [2, 3]) (g_tup rfl (gs_cons (g_name (i := 2) sc__law_otherwise.nd rfl (by first | exact .inl rfl | exact .inr rfl)) (gs_cons (g_name (i := 3) sc__law_otherwise.nd rfl (by first | exact .inl rfl | exact .inr rfl)) gs_nil)))) (s_cons (s_for (us := [4]) ps rfl (i_range1 (by rfl) T.n_range (da_cons d_int da_nil)) (g_name (i := 4) sc__law_otherwise.nd rfl (by first | exact .inl rfl | exact .inr rfl)) (s_one (s_for (us := [5]) ps rfl (i_seq (dv 1)) (g_name (i := 5) sc__law_otherwise.nd rfl (by first | exact .inl rfl | exact .inr rfl)) (s_one (s_expr (d_mt PySem.F.plainAttrs_list PySem.F.slot_list_append PySem.F.type_list_append mt_append om_app ty_lst (dv 3) (da_cons (d_callTy call_tuple_of ol_tuple (by rfl) T.n_tuple b_tuple (da_cons (d_lc rfl sc__law_otherwise.nd (i_seq (dv 5)) (own := [(Str.ofString "one", 6)]) (by show BlkOk n__law_otherwise (defScope s__law_otherwise) _ _; exact ⟨rfl, by decide +kernel, by decide +kernel, by decide +kernel, by decide +kernel⟩) (fun _ _ _ _ _ => (g_name (i := 6) sc__law_otherwise.nd rfl (by first | exact .inl rfl | exact .inr rfl))) (fun _ _ _ _ _ => k_yes) (fun _ _ _ _ _ => (d_ifE (k_cmp op_isAll od_is (dv 6) d_non (nomark _)) d_non (d_tup (da_cons (d_ix (ix_all hu) od_ix (dv 6) d_int) (da_cons (d_op op_addAll od_add (d_ix (ix_all hu) od_ix (dv 6) d_int) (d_op op_mul od_mul (dv 2) (d_callG G__law_take (hr.mono (by decide)) hgd (by rfl) T.m__law_take T.k__law_take T.b__law_take takes0 (da_cons (dv 0) (da_cons d_int da_nil))))) da_nil)))))) da_nil)) da_nil))))))) (s_one (s_ret (d_op op_addAll od_add (d_callTy call_tuple_of ol_tuple (by rfl) T.n_tuple b_tuple (da_cons (dv 3) da_nil)) (d_tup (da_cons (d_tup (da_cons d_non (da_cons (d_tup (da_cons (d_tup (da_cons d_int da_nil)) (da_cons d_int da_nil))) (da_cons d_non da_nil)))) da_nil)))))))
theorem ok_law (T : Txt c mg A D) (G_least_of : FnG c.P c.w c.K mg base 6 (A "least_of") (D "least_of") ["rows"] (spD c 1 F_least_of)) (G_is_both : FnG c.P c.w c.K mg base 6 (A "is_both") (D "is_both") ["thing"] (spD c 1 F_is_both)) (G_is_rows : FnG c.P c.w c.K mg base 5 (A "is_rows") (D "is_rows") ["thing"] (spD c 1 F_is_rows)) (G__law_parted : FnG c.P c.w c.K mg base 1 (A "_law_parted") (D "_law_parted") ["rows", "one", "other"] (spD c 3 F__law_parted)) (G_least_both : FnG c.P c.w c.K mg base 7 (A "least_both") (D "least_both") ["both"] (spD c 1 F_least_both)) (G__law_take : FnG c.P c.w c.K mg base 1 (A "_law_take") (D "_law_take") ["bag", "many"] (spD c 2 F__law_take)) (G_are_standings_alike : FnG c.P c.w c.K mg base 6 (A "are_standings_alike") (D "are_standings_alike") ["rows", "one", "other"] (spD c 3 F_are_standings_alike)) (G__law_alike : FnG c.P c.w c.K mg base 1 (A "_law_alike") (D "_law_alike") ["found", "due"] (spD c 2 F__law_alike)) (G_come_to : FnG c.P c.w c.K mg base 1 (A "come_to") (D "come_to") ["rows", "begins"] (spD c 2 F_come_to)) (G_first_parting : FnG c.P c.w c.K mg base 6 (A "first_parting") (D "first_parting") ["one", "other"] (spD c 2 F_first_parting)) (G_is_sure : FnG c.P c.w c.K mg base 1 (A "is_sure") (D "is_sure") ["rows"] (spD c 1 F_is_sure)) (G__law_otherwise : FnG c.P c.w c.K mg base 2 (A "_law_otherwise") (D "_law_otherwise") ["bag", "rows"] (spD c 2 F__law_otherwise)) (G__law_unsure : FnG c.P c.w c.K mg base 2 (A "_law_unsure") (D "_law_unsure") ["bag", "rows"] (spD c 2 F__law_unsure)) (G__law_machine : FnG c.P c.w c.K mg base 3 (A "_law_machine") (D "_law_machine") ["bag", "many"] (spD c 2 F__law_machine)) (G__law_bag : FnG c.P c.w c.K mg base 1 (A "_law_bag") (D "_law_bag") ["script"] (spD c 1 F__law_bag)) : FnG c.P c.w c.K mg base 8 (A "law") (D "law") ["script"] (spD c 1 F_law) := by
  refine fnG (k := 7) T.f_law sc_law fun cdv AA outer s H E hr hgd => ?_
  have G_least_of := G_least_of.mono (k := 7) (by decide)
  have G_is_both := G_is_both.mono (k := 7) (by decide)
  have G_is_rows := G_is_rows.mono (k := 7) (by decide)
  have G__law_parted := G__law_parted.mono (k := 7) (by decide)
  have G_least_both := G_least_both.mono (k := 7) (by decide)
  have G__law_take := G__law_take.mono (k := 7) (by decide)
  have G_are_standings_alike := G_are_standings_alike.mono (k := 7) (by decide)
  have G__law_alike := G__law_alike.mono (k := 7) (by decide)
  have G_come_to := G_come_to.mono (k := 7) (by decide)
  have G_first_parting := G_first_parting.mono (k := 7) (by decide)
  have G_is_sure := G_is_sure.mono (k := 7) (by decide)
  have G__law_otherwise := G__law_otherwise.mono (k := 7) (by decide)
  have G__law_unsure := G__law_unsure.mono (k := 7) (by decide)
  have G__law_machine := G__law_machine.mono (k := 7) (by decide)
  have G__law_bag := G__law_bag.mono (k := 7) (by decide)
  have hu := hr.units
  have tk := takesG (P := c.P) (w := c.w) (K := c.K) (mg := mg) (base := base) (N := n_law) (qual := "law") (scope := defScope s_law) (f := A "law") (cdv := cdv) (A := AA) (outer := outer) (s := s) (H := H) (E := E)
  have ps := passesG (P := c.P) (w := c.w) (K := c.K) (mg := mg) (base := base) (N := n_law) (qual := "law") (scope := defScope s_law) (f := A "law") (cdv := cdv) (A := AA) (outer := outer) (s := s) (H := H) (E := E)
  exact (s_cons (s_set (i := 1) sc_law.nd rfl (by first | exact .inl rfl | exact .inr rfl) (d_callG G__law_bag (hr.mono (by decide)) hgd (by rfl) T.m__law_bag T.k__law_bag T.b__law_bag tk (da_cons (dv 0) da_nil))) (s_cons (s_for (us := [2]) ps rfl (i_range1 (by rfl) T.n_range (da_cons d_int da_nil)) (g_name (i := 2) sc_law.nd rfl (by first | exact .inl rfl | exact .inr rfl)) (s_cons (s_set (i := 3) sc_law.nd rfl (by first | exact .inl rfl | exact .inr rfl) (d_callG G__law_machine (hr.mono (by decide)) hgd (by rfl) T.m__law_machine T.k__law_machine T.b__law_machine tk (da_cons (dv 1) (da_cons (d_op op_addAll od_add d_int (d_callG G__law_take (hr.mono (by decide)) hgd (by rfl) T.m__law_take T.k__law_take T.b__law_take tk (da_cons (dv 1) (da_cons d_int da_nil)))) da_nil)))) (s_cons (s_set (i := 4) sc_law.nd rfl (by first | exact .inl rfl | exact .inr rfl) (dv 3)) (s_cons (s_set (i := 3) sc_law.nd rfl (by first | exact .inl rfl | exact .inr rfl) (d_ifE (k_cmp (op_eqD hu) od_eq (d_callG G__law_take (hr.mono (by decide)) hgd (by rfl) T.m__law_take T.k__law_take T.b__law_take tk (da_cons (dv 1) (da_cons d_int da_nil))) d_int (nomark _)) (d_callG G__law_unsure (hr.mono (by decide)) hgd (by rfl) T.m__law_unsure T.k__law_unsure T.b__law_unsure tk (da_cons (dv 1) (da_cons (dv 3) da_nil))) (dv 3))) (s_cons (s_par (i := 5) (j := 6) rfl sc_law.nd rfl rfl (by decide) rfl rfl (da_cons (d_callG G_least_of (hr.mono (by decide)) hgd (by rfl) T.m_least_of T.k_least_of T.b_least_of tk (da_cons (dv 3) da_nil)) (da_cons (d_callG G__law_otherwise (hr.mono (by decide)) hgd (by rfl) T.m__law_otherwise T.k__law_otherwise T.b__law_otherwise tk (da_cons (dv 1) (da_cons (dv 3) da_nil))) da_nil)) (by rfl)) (s_cons (s_if (k_not (k_val (d_callG G__law_alike (hr.mono (by decide)) hgd (by rfl) T.m__law_alike T.k__law_alike T.b__law_alike tk (da_cons (d_lst (da_cons (d_callG G_is_rows (hr.mono (by decide)) hgd (by rfl) T.m_is_rows T.k_is_rows T.b_is_rows tk (da_cons (dv 3) da_nil)) (da_cons (d_callG G_is_rows (hr.mono (by decide)) hgd (by rfl) T.m_is_rows T.k_is_rows T.b_is_rows tk (da_cons (dv 5) da_nil)) (da_cons (d_callG G_is_sure (hr.mono (by decide)) hgd (by rfl) T.m_is_sure T.k_is_sure T.b_is_sure tk (da_cons (dv 4) da_nil)) (da_cons (d_callG G_least_of (hr.mono (by decide)) hgd (by rfl) T.m_least_of T.k_least_of T.b_least_of tk (da_cons (dv 6) da_nil)) (da_cons (d_callG G_least_of (hr.mono (by decide)) hgd (by rfl) T.m_least_of T.k_least_of T.b_least_of tk (da_cons (dv 5) da_nil)) (da_cons (d_callG G_first_parting (hr.mono (by decide)) hgd (by rfl) T.m_first_parting T.k_first_parting T.b_first_parting tk (da_cons (dv 5) (da_cons (dv 3) da_nil))) da_nil))))))) (da_cons (d_lst (da_cons d_bl (da_cons d_bl (da_cons d_bl (da_cons (dv 5) (da_cons (dv 5) (da_cons d_non da_nil))))))) da_nil))))) (s_one (s_ret d_bl)) s_nil) (s_cons (s_if (k_cmp (op_neD hu) od_ne (d_callG G_come_to (hr.mono (by decide)) hgd (by rfl) T.m_come_to T.k_come_to T.b_come_to tk (da_cons (dv 5) (da_cons (d_tup (da_cons d_int da_nil)) da_nil))) (d_listRg rfl (by rfl) T.n_list (by rfl) T.n_range (d_callB call_len_all ol_len (by rfl) T.n_len b_len (da_cons (dv 5) da_nil))) (nomark _)) (s_one (s_ret d_bl)) s_nil) (s_cons (s_for (us := [7]) ps rfl (i_range1 (by rfl) T.n_range (da_cons (d_callB call_len_all ol_len (by rfl) T.n_len b_len (da_cons (dv 5) da_nil)) da_nil)) (g_name (i := 7) sc_law.nd rfl (by first | exact .inl rfl | exact .inr rfl)) (s_one (s_for (us := [8]) ps rfl (i_range1 (by rfl) T.n_range (da_cons (dv 7) da_nil)) (g_name (i := 8) sc_law.nd rfl (by first | exact .inl rfl | exact .inr rfl)) (s_one (s_if (PW.pt (k_or (k_not (k_val (d_callG G__law_parted (hr.mono (by decide)) hgd (by rfl) T.m__law_parted T.k__law_parted T.b__law_parted tk (da_cons (dv 5) (da_cons (dv 7) (da_cons (dv 8) da_nil)))))) (k_one_or (k_cmp op_notAll od_not (d_callG G_are_standings_alike (hr.mono (by decide)) hgd (by rfl) T.m_are_standings_alike T.k_are_standings_alike T.b_are_standings_alike tk (da_cons (dv 5) (da_cons (dv 7) (da_cons (dv 8) da_nil)))) d_bl (nomark _))))) (s_one (s_ret d_bl)) s_nil))))) (s_cons (s_for (us := [9]) ps rfl (i_range1 (by rfl) T.n_range (da_cons d_int da_nil)) (g_name (i := 9) sc_law.nd rfl (by first | exact .inl rfl | exact .inr rfl)) (s_cons (s_par (i := 7) (j := 8) rfl sc_law.nd rfl rfl (by decide) rfl rfl (da_cons (d_callG G__law_take (hr.mono (by decide)) hgd (by rfl) T.m__law_take T.k__law_take T.b__law_take tk (da_cons (dv 1) (da_cons (d_callB call_len_all ol_len (by rfl) T.n_len b_len (da_cons (dv 3) da_nil)) da_nil))) (da_cons (d_callG G__law_take (hr.mono (by decide)) hgd (by rfl) T.m__law_take T.k__law_take T.b__law_take tk (da_cons (dv 1) (da_cons (d_callB call_len_all ol_len (by rfl) T.n_len b_len (da_cons (dv 3) da_nil)) da_nil))) da_nil)) (by rfl)) (s_one (s_if (k_not (k_val (d_callG G__law_alike (hr.mono (by decide)) hgd (by rfl) T.m__law_alike T.k__law_alike T.b__law_alike tk (da_cons (d_callG G_are_standings_alike (hr.mono (by decide)) hgd (by rfl) T.m_are_standings_alike T.k_are_standings_alike T.b_are_standings_alike tk (da_cons (dv 3) (da_cons (dv 7) (da_cons (dv 8) da_nil)))) (da_cons (d_not (d_callG G__law_parted (hr.mono (by decide)) hgd (by rfl) T.m__law_parted T.k__law_parted T.b__law_parted tk (da_cons (dv 3) (da_cons (dv 7) (da_cons (dv 8) da_nil))))) da_nil))))) (s_one (s_ret d_bl)) s_nil)))) (s_cons (s_set (i := 10) sc_law.nd rfl (by first | exact .inl rfl | exact .inr rfl) (d_tup (da_cons (d_callG G__law_take (hr.mono (by decide)) hgd (by rfl) T.m__law_take T.k__law_take T.b__law_take tk (da_cons (dv 1) (da_cons (d_callB call_len_all ol_len (by rfl) T.n_len b_len (da_cons (dv 4) da_nil)) da_nil))) (da_cons (d_callG G__law_take (hr.mono (by decide)) hgd (by rfl) T.m__law_take T.k__law_take T.b__law_take tk (da_cons (dv 1) (da_cons (d_callB call_len_all ol_len (by rfl) T.n_len b_len (da_cons (dv 4) da_nil)) da_nil))) da_nil)))) (s_cons (s_set (i := 11) sc_law.nd rfl (by first | exact .inl rfl | exact .inr rfl) (d_callG G_least_both (hr.mono (by decide)) hgd (by rfl) T.m_least_both T.k_least_both T.b_least_both tk (da_cons (d_op op_addAll od_add (dv 10) (d_tup (da_cons (dv 4) da_nil))) da_nil))) (s_cons (s_if (PW.pt (k_or (k_cmp op_notAll od_not (d_callG G_is_both (hr.mono (by decide)) hgd (by rfl) T.m_is_both T.k_is_both T.b_is_both tk (da_cons (dv 11) da_nil)) d_bl (nomark _)) (k_or (k_cmp (op_neD hu) od_ne (d_ix (ix_all hu) od_ix (dv 11) d_int) d_int (nomark _)) (k_or (k_cmp op_gt od_gt (d_ix (ix_all hu) od_ix (dv 11) d_int) (d_op op_sub od_sub (d_callB call_len_all ol_len (by rfl) T.n_len b_len (da_cons (d_ix (ix_all hu) od_ix (dv 11) d_int) da_nil)) d_int) (nomark _)) (k_one_or (k_cmp (op_neD hu) od_ne (d_callG G_least_both (hr.mono (by decide)) hgd (by rfl) T.m_least_both T.k_least_both T.b_least_both tk (da_cons (dv 11) da_nil)) (dv 11) (nomark _))))))) (s_one (s_ret d_bl)) s_nil) (s_cons (s_for (us := [12, 13]) ps rfl (i_zip (by rfl) T.n_zip (da_cons (d_slice (dv 11) o_none (o_some d_int)) (da_cons (dv 10) da_nil))) (g_tup rfl (gs_cons (g_name (i := 12) sc_law.nd rfl (by first | exact .inl rfl | exact .inr rfl)) (gs_cons (g_name (i := 13) sc_law.nd rfl (by first | exact .inl rfl | exact .inr rfl)) gs_nil))) (s_one (s_if (k_val (d_callG G__law_parted (hr.mono (by decide)) hgd (by rfl) T.m__law_parted T.k__law_parted T.b__law_parted tk (da_cons (d_op op_addAll od_add (d_ix (ix_all hu) od_ix (dv 11) d_int) (d_callTy call_tuple_of ol_tuple (by rfl) T.n_tuple b_tuple (da_cons (d_lc rfl sc_law.nd (i_seq (dv 4)) (own := [(Str.ofString "row", 15)]) (by show BlkOk n_law (defScope s_law) _ _; exact ⟨rfl, by decide +kernel, by decide +kernel, by decide +kernel, by decide +kernel⟩) (fun _ _ _ _ _ => (g_name (i := 15) sc_law.nd rfl (by first | exact .inl rfl | exact .inr rfl))) (fun _ _ _ _ _ => k_yes) (fun _ _ _ _ _ => (d_callTy call_tuple_of ol_tuple (by rfl) T.n_tuple b_tuple (da_cons (d_lc rfl sc_law.nd (i_seq (dv 15)) (own := [(Str.ofString "one", 7)]) (by show BlkOk n_law _ _ _; exact ⟨rfl, by decide +kernel, by decide +kernel, by (show FreeIn _ _; repeat (first | exact fr_nil | refine fr_skip (by decide) ?_ | refine fr_take (by first | exact .inl rfl | exact .inr rfl) ?_)), by decide +kernel⟩) (fun _ _ _ _ _ => (g_name (i := 7) sc_law.nd rfl (by first | exact .inl rfl | exact .inr rfl))) (fun _ _ _ _ _ => k_yes) (fun _ _ _ _ _ => (d_ifE (k_cmp op_isAll od_is (dv 7) d_non (nomark _)) d_non (d_tup (da_cons (d_ix (ix_all hu) od_ix (dv 7) d_int) (da_cons (d_op op_addAll od_add (d_ix (ix_all hu) od_ix (dv 7) d_int) (d_callB call_len_all ol_len (by rfl) T.n_len b_len (da_cons (d_ix (ix_all hu) od_ix (dv 11) d_int) da_nil))) da_nil)))))) da_nil)))) da_nil))) (da_cons (dv 12) (da_cons (d_op op_addAll od_add (dv 13) (d_callB call_len_all ol_len (by rfl) T.n_len b_len (da_cons (d_ix (ix_all hu) od_ix (dv 11) d_int) da_nil))) da_nil))))) (s_one (s_ret d_bl)) s_nil))) (s_cons (s_set (i := 14) sc_law.nd rfl (by first | exact .inl rfl | exact .inr rfl) (d_lst (da_cons d_non (da_cons (d_tup da_nil) (da_cons (d_lst (da_cons (dv 5) da_nil)) (da_cons (d_op op_addAll od_add (dv 5) (d_tup (da_cons (d_tup (da_cons d_non (da_cons d_non da_nil))) da_nil))) (da_cons (d_op op_addAll od_add (dv 5) (d_tup (da_cons (d_tup (da_cons d_non (da_cons d_non (da_cons (d_tup (da_cons (d_tup (da_cons d_int da_nil)) (da_cons d_int da_nil))) da_nil)))) da_nil))) (da_cons (d_op op_addAll od_add (dv 5) (d_tup (da_cons (d_tup (da_cons d_non (da_cons d_non (da_cons (d_tup (da_cons (d_tup (da_cons d_int da_nil)) (da_cons (d_op op_addAll od_add (d_callB call_len_all ol_len (by rfl) T.n_len b_len (da_cons (dv 5) da_nil)) d_int) da_nil))) da_nil)))) da_nil))) (da_cons (d_tup (da_cons d_int (da_cons d_int da_nil))) da_nil))))))))) (s_cons (s_if (PW.pt (k_or (k_cmp (op_neD hu) od_ne (d_lc rfl sc_law.nd (i_seq (dv 14)) (own := [(Str.ofString "one", 7)]) (by show BlkOk n_law (defScope s_law) _ _; exact ⟨rfl, by decide +kernel, by decide +kernel, by decide +kernel, by decide +kernel⟩) (fun _ _ _ _ _ => (g_name (i := 7) sc_law.nd rfl (by first | exact .inl rfl | exact .inr rfl))) (fun _ _ _ _ _ => (k_only (k_cmp op_notAll od_not (d_callG G_is_rows (hr.mono (by decide)) hgd (by rfl) T.m_is_rows T.k_is_rows T.b_is_rows takes0 (da_cons (dv 7) da_nil)) d_bl (nomark _)))) (fun _ _ _ _ _ => (dv 7))) (d_lst da_nil) (nomark _)) (k_one_or (k_cmp op_notAll od_not (d_callG G_is_both (hr.mono (by decide)) hgd (by rfl) T.m_is_both T.k_is_both T.b_is_both tk (da_cons (d_tup (da_cons d_int (da_cons (d_callB call_len_all ol_len (by rfl) T.n_len b_len (da_cons (dv 5) da_nil)) (da_cons (dv 5) da_nil)))) da_nil)) d_bl (nomark _))))) (s_one (s_ret d_bl)) s_nil) (s_one (s_try (cat := catch0) rfl rfl (names_own T.m_Nothing (by rfl)) tk T.cat (fun W pn xe tk ps => (s_cons (s_expr (d_callG G_least_of (hr.mono (by decide)) hgd (by rfl) T.m_least_of T.k_least_of T.b_least_of tk (da_cons (d_tup da_nil) da_nil))) (s_one (s_ret d_bl)))) (fun a oe cls d pn _ _ => (s_one s_pass))))))))))))))))))) (s_one (s_ret d_bl))))
end
end K33

set_option Elab.async false
set_option linter.all false
set_option maxRecDepth 100000
set_option maxHeartbeats 4000000
namespace K33
open Dl
def Wd.d : Wd → D
  | .n => .non
  | .e => .tup []
  | .z => .tup [.int 0]
  | .o => .tup [.int 1]
def tD : Tl → D
  | none => .non
  | some p => .tup [p.1.d, .int p.2]
def rD (r : List Tl) : D := .tup (r.map tD)
def mD (m : Ms) : D := .tup (m.map rD)
theorem is_int (i : Int) : Ev F_is_integer [.int i] (.bl true) := ⟨rfl, rfl, _, rfl⟩
theorem is_cnt (i : Nat) : Ev F_is_count [.int i] (.bl true) := ⟨rfl, rfl, [], fn_of_rt (by
  simp [den_is_count, (is_int i).run])⟩
theorem is_bit0 : Ev F_is_bit [.int 0] (.bl true) := ⟨rfl, rfl, _, rfl⟩
theorem is_bit1 : Ev F_is_bit [.int 1] (.bl true) := ⟨rfl, rfl, _, rfl⟩
theorem is_bit2 : Ev F_is_bit [.int 2] (.bl false) := ⟨rfl, rfl, _, rfl⟩
def toldB (t : Tl) (M : Nat) : Bool := match t with
  | none => true
  | some p => decide (p.2 < M)
theorem is_told_ev (t : Tl) (M : Nat) : Ev F_is_told [tD t, .int M] (.bl (toldB t M)) := by
  cases t with
  | none => exact ⟨rfl, rfl, _, rfl⟩
  | some p =>
    obtain ⟨w, k⟩ := p
    refine ⟨by cases w <;> rfl, rfl, ?_⟩
    by_cases hk : k < M
    · have hk2 : ¬ ((M : Int) ≤ (k : Int)) := by omega
      have e1 : toldB (some (w, k)) M = true := decide_eq_true hk
      rw [e1]
      cases w with
      | n =>
        refine ⟨[], fn_of_rt ?_⟩
        simp [den_is_told, (is_cnt k).run, tD, Wd.d, hk2]
      | e =>
        refine ⟨[.lst []], fn_of_rt ?_⟩
        simp [den_is_told, (is_cnt k).run, tD, Wd.d, hk2]
        rfl
      | z =>
        refine ⟨[.lst [.bl true]], fn_of_rt ?_⟩
        simp [den_is_told, (is_cnt k).run, tD, Wd.d, hk2]
        rfl
      | o =>
        refine ⟨[.lst [.bl true]], fn_of_rt ?_⟩
        simp [den_is_told, (is_cnt k).run, tD, Wd.d, hk2]
        rfl
    · have hk2 : ((M : Int) ≤ (k : Int)) := by omega
      have e1 : toldB (some (w, k)) M = false := decide_eq_false hk
      rw [e1]
      refine ⟨[], fn_of_rt ?_⟩
      cases w <;> simp [den_is_told, (is_cnt k).run, tD, Wd.d, hk2]
end K33

set_option Elab.async false
set_option linter.all false
set_option maxRecDepth 100000
set_option maxHeartbeats 4000000
namespace K33
open Dl
theorem pureL_of : ∀ {ds : List D}, (∀ d ∈ ds, d.pure = true) → D.pureL ds = true
  | [], _ => rfl
  | d :: ds, h => by
    unfold D.pureL
    rw [h d (List.mem_cons_self ..), pureL_of fun x hx => h x (List.mem_cons_of_mem _ hx)]; rfl
theorem fineL_of : ∀ {ds : List D}, (∀ d ∈ ds, d.fine = true) → D.fineL ds = true
  | [], _ => rfl
  | d :: ds, h => by
    unfold D.fineL
    rw [h d (List.mem_cons_self ..), fineL_of fun x hx => h x (List.mem_cons_of_mem _ hx)]; rfl
theorem deepL_of {k : Nat} : ∀ {ds : List D}, (∀ d ∈ ds, d.deep ≤ k) → D.deepL ds ≤ k
  | [], _ => Nat.zero_le _
  | d :: ds, h => by
    unfold D.deepL
    exact Nat.max_le.mpr ⟨h d (List.mem_cons_self ..), deepL_of fun x hx => h x (List.mem_cons_of_mem _ hx)⟩
theorem tD_pure (t : Tl) : (tD t).pure = true := by
  cases t with
  | none => rfl
  | some p => obtain ⟨w, k⟩ := p; cases w <;> rfl
theorem tD_fine (t : Tl) : (tD t).fine = true := by
  cases t with
  | none => rfl
  | some p => obtain ⟨w, k⟩ := p; cases w <;> rfl
theorem tD_deep (t : Tl) : (tD t).deep ≤ 2 := by
  cases t with
  | none => exact Nat.zero_le _
  | some p =>
    obtain ⟨w, k⟩ := p
    cases w <;> simp [tD, Wd.d, D.deep, D.deepL]
theorem rD_pure (r : List Tl) : (rD r).pure = true := by
  show D.pureL _ = true
  refine pureL_of fun d hd => ?_
  obtain ⟨t, _, rfl⟩ := List.mem_map.mp hd
  exact tD_pure t
theorem rD_fine (r : List Tl) : (rD r).fine = true := by
  show D.fineL _ = true
  refine fineL_of fun d hd => ?_
  obtain ⟨t, _, rfl⟩ := List.mem_map.mp hd
  exact tD_fine t
theorem rD_deep (r : List Tl) : (rD r).deep ≤ 3 := by
  show D.deepL _ + 1 ≤ 3
  have := deepL_of (k := 2) (ds := r.map tD) fun d hd => by
    obtain ⟨t, _, rfl⟩ := List.mem_map.mp hd
    exact tD_deep t
  omega
theorem mD_pure (m : Ms) : (mD m).pure = true := by
  show D.pureL _ = true
  refine pureL_of fun d hd => ?_
  obtain ⟨t, _, rfl⟩ := List.mem_map.mp hd
  exact rD_pure t
theorem mD_fine (m : Ms) : (mD m).fine = true := by
  show D.fineL _ = true
  refine fineL_of fun d hd => ?_
  obtain ⟨t, _, rfl⟩ := List.mem_map.mp hd
  exact rD_fine t
theorem mD_deep (m : Ms) : (mD m).deep ≤ 4 := by
  show D.deepL _ + 1 ≤ 4
  have := deepL_of (k := 3) (ds := m.map rD) fun d hd => by
    obtain ⟨t, _, rfl⟩ := List.mem_map.mp hd
    exact rD_deep t
  omega
theorem good_of {d : D} (h : d.fine = true) (g : d.deep ≤ 60) : d.good = true := Bool.and_eq_true_iff.mpr ⟨h, decide_eq_true g⟩
theorem mD_good (m : Ms) : (mD m).good = true := good_of (mD_fine m) (Nat.le_trans (mD_deep m) (by decide))
/-- t != () -/
theorem ne_nil {S : Store} {ds : List D} (h : (D.tup ds).good = true) : gNe S (.tup ds) (.tup []) = .ok (.bl (!ds.isEmpty)) S := by
  have e : eqB S (.tup ds) (.tup []) = some (D.eq (.tup ds) (.tup [])) := by
    show (if (D.tup ds).good = true ∧ (D.tup []).good = true then some (if false = false then D.eq (.tup ds) (.tup []) else false) else none) = _
    rw [if_pos ⟨h, rfl⟩, if_pos rfl]
  unfold gNe
  rw [e]
  cases ds <;> rfl
/-! ### is_row, is_rows -/
theorem is_row_ev {ds : List D} {bs : List Bool} {M : Nat} (h3 : ds.length = 3) (hl : bs.length = ds.length) (hp : D.pureL ds = true) (h : ∀ (i : Nat) (d : D) (b : Bool), ds[i]? = some d → bs[i]? = some b → Ev F_is_told [d, .int M] (.bl b)) :
    Ev F_is_row [.tup ds, .int M] (.bl (bs.all id)) := by
  refine ⟨by show (D.pureL ds && _) = true; rw [hp]; rfl, rfl, ?_⟩
  obtain ⟨G, hG⟩ := ev_lc (fi := iSeq (cV 0)) (gt := gN 2) (te := cFn 2 F_is_told (aC (cV 2) (aC (cV 1) aN))) (us := [2]) (e := [some (.tup ds), some (.int M), none]) (S := []) (S1 := []) (ds := ds) (ys := bs.map D.bl) (src := .fix ds)
    rfl (by simpa using hl) (by omega) (src_fix _) (fun i d y S hd hy _ => by
      rw [List.getElem?_map] at hy
      cases e : bs[i]? with
      | none => rw [e] at hy; cases hy
      | some b =>
        rw [e] at hy
        cases hy
        exact ⟨_, S, rfl, by simp [wipeE, (h i d b hd e).run S], Pre.refl _⟩)
  refine ⟨_, fn_of_rt (S' := [] ++ .lst (bs.map D.bl) :: G) ?_⟩
  have ha := x_allL (S := [] ++ .lst (bs.map D.bl) :: G) (n := ([] : Store).length) (bs := bs) at_new
  simp [den_is_row, k_SIGNS_least, h3, hG] at ha ⊢
  rw [ha]
  rfl
theorem is_row_len {ds : List D} {M : Nat} (h3 : ds.length ≠ 3) (hp : D.pureL ds = true) : Ev F_is_row [.tup ds, .int M] (.bl false) := by
  refine ⟨by show (D.pureL ds && _) = true; rw [hp]; rfl, rfl, [], fn_of_rt ?_⟩
  have e : ((ds.length : Int) == 3) = false := by simp; omega
  simp [den_is_row, k_SIGNS_least, e]
theorem is_row_no {d : D} {M : Nat} (hp : d.pure = true) (h : isiK .tuple d [] = .ok (.bl false) []) : Ev F_is_row [d, .int M] (.bl false) := by
  refine ⟨by show (D.pure d && _) = true; rw [hp]; rfl, rfl, [], fn_of_rt ?_⟩
  simp [den_is_row, h]
theorem is_rows_ev {ds : List D} {bs : List Bool} (h0 : ds ≠ []) (hb : ds.length < 100000) (hl : bs.length = ds.length) (hp : D.pureL ds = true) (hg : (D.tup ds).good = true) (h : ∀ (i : Nat) (d : D) (b : Bool), ds[i]? = some d → bs[i]? = some b → Ev F_is_row [d, .int ds.length] (.bl b)) :
    Ev F_is_rows [.tup ds] (.bl (bs.all id)) := by
  refine ⟨by show (D.pureL ds && _) = true; rw [hp]; rfl, rfl, ?_⟩
  obtain ⟨G, hG⟩ := ev_lc (fi := iSeq (cV 0)) (gt := gN 1) (te := cFn 2 F_is_row (aC (cV 1) (aC (cCall gLen (aC (cV 0) aN)) aN))) (us := [1]) (e := [some (.tup ds), none]) (S := []) (S1 := []) (ds := ds) (ys := bs.map D.bl) (src := .fix ds)
    rfl (by simpa using hl) hb (src_fix _) (fun i d y S hd hy _ => by
      rw [List.getElem?_map] at hy
      cases e : bs[i]? with
      | none => rw [e] at hy; cases hy
      | some b =>
        rw [e] at hy
        cases hy
        exact ⟨_, S, rfl, by simp [wipeE, (h i d b hd e).run S], Pre.refl _⟩)
  refine ⟨_, fn_of_rt (S' := [] ++ .lst (bs.map D.bl) :: G) ?_⟩
  have ha := x_allL (S := [] ++ .lst (bs.map D.bl) :: G) (n := ([] : Store).length) (bs := bs) at_new
  have hn := ne_nil (S := []) hg
  have e0 : ds.isEmpty = false := by cases ds with | nil => exact absurd rfl h0 | cons _ _ => rfl
  rw [e0] at hn
  simp [den_is_rows, hn, hG] at ha ⊢
  rw [ha]
  rfl
theorem all_true {bs : List Bool} (h : ∀ b ∈ bs, b = true) : bs.all id = true := List.all_eq_true.mpr fun b hb => h b hb
/-- a right machine is taken -/
theorem is_rows_ok {m : Ms} (hm : WF m) (h0 : m ≠ []) (hb : m.length < 100000) : Ev F_is_rows [mD m] (.bl true) := by
  have := is_rows_ev (ds := m.map rD) (bs := m.map fun _ => true) (by simpa using h0) (by simpa using hb) (by simp) (by have := mD_pure m; exact this) (mD_good m) (fun i d b hd hb' => by
    rw [List.getElem?_map] at hd hb'
    cases e : m[i]? with
    | none => rw [e] at hd; cases hd
    | some r =>
      rw [e] at hd hb'
      cases hd
      cases hb'
      have h3 := hm.three i r e
      have := is_row_ev (ds := r.map tD) (bs := r.map fun _ => true) (M := m.length) (by simpa using h3) (by simp) (rD_pure r) (fun s d b hd hb2 => by
        rw [List.getElem?_map] at hd hb2
        cases e2 : r[s]? with
        | none => rw [e2] at hd; cases hd
        | some t =>
          rw [e2] at hd hb2
          cases hd
          cases hb2
          have ht := is_told_ev t m.length
          have : toldB t m.length = true := by
            cases t with
            | none => rfl
            | some p => exact decide_eq_true (hm.to i s p.1 p.2 (cell_row e e2))
          rw [this] at ht
          exact ht)
      rw [all_true (by simp)] at this
      rw [List.length_map]
      exact this)
  rw [all_true (by simp)] at this
  exact this
end K33

set_option Elab.async false
set_option linter.all false
set_option maxRecDepth 100000
set_option maxHeartbeats 4000000
namespace K33
open Dl
def nsD (l : List Nat) : List D := l.map fun (k : Nat) => D.int k
def metD (l : List Nat) : List (D × D) := l.map fun (k : Nat) => (D.int k, D.bl true)
theorem nsD_len (l : List Nat) : (nsD l).length = l.length := List.length_map ..
theorem nsD_get {l : List Nat} {i k : Nat} (h : l[i]? = some k) : (nsD l)[i]? = some (D.int k) := by unfold nsD; rw [List.getElem?_map, h]; rfl
theorem metD_at (k : Nat) : ∀ l : List Nat, atB D.keq (metD l) (.int k) = if k ∈ l then some (.bl true) else none
  | [] => rfl
  | x :: l => by
    show (if D.keq (.int x) (.int k) = true then some (D.bl true) else atB D.keq (metD l) (.int k)) = _
    rw [metD_at k l]
    have e : D.keq (.int x) (.int k) = decide (x = k) := by
      show ((x : Int) == (k : Int)) = decide (x = k)
      by_cases h : x = k
      · subst h; simp
      · rw [decide_eq_false h]; simp; omega
    rw [e]
    by_cases h : x = k
    · subst h; simp
    · have h2 : ¬ k = x := fun z => h z.symm
      simp [h, h2]
theorem metD_len (l : List Nat) : (metD l).length = l.length := List.length_map ..
theorem metD_put {l : List Nat} {k : Nat} (h : k ∉ l) : setB D.keq (metD l) (.int k) (.bl true) = metD (l ++ [k]) := by
  unfold setB
  rw [metD_at, if_neg h, if_neg (by simp)]
  unfold metD
  rw [List.map_append]
  rfl
section
variable {S : Store} {l : List Nat} {k : Nat} {X Y X2 Y2 : DO} {e : Env}
theorem two_0 : (S ++ [X, Y])[S.length]? = some X := by simp
theorem two_1 : (S ++ [X, Y])[S.length + 1]? = some Y := by simp
theorem set_0 : (S ++ [X, Y]).set S.length X2 = S ++ [X2, Y] := by simp
theorem set_1 : (S ++ [X, Y]).set (S.length + 1) Y2 = S ++ [X, Y2] := by simp
theorem nin_eval : gNin (S ++ [X, .dk (metD l)]) (.int k) (.ref (S.length + 1)) = .ok (.bl (!decide (k ∈ l))) (S ++ [X, .dk (metD l)]) := by
  have h : inB (S ++ [X, .dk (metD l)]) (.int k) (.ref (S.length + 1)) = some (decide (k ∈ l)) := by
    dsimp only [inB]
    rw [two_1]
    show some (atB D.keq (metD l) (.int k)).isSome = _
    rw [metD_at]
    by_cases hk : k ∈ l
    · rw [if_pos hk, decide_eq_true hk]; rfl
    · rw [if_neg hk, decide_eq_false hk]; rfl
  unfold gNin
  rw [h]
theorem setk_eval (h : k ∉ l) (hl : l.length < 100000) : gsK3 (.bl true) (.ref (S.length + 1)) (.int k) e (S ++ [X, .dk (metD l)]) = .ok e (S ++ [X, .dk (metD (l ++ [k]))]) := by
  have g : gSet (S ++ [X, .dk (metD l)]) (.ref (S.length + 1)) (.int k) (.bl true) = some (S ++ [X, .dk (metD (l ++ [k]))]) := by
    dsimp only [gSet]
    rw [two_1]
    dsimp only [dctPut]
    rw [two_1]
    show (if (metD l).length < 100000 then some _ else none) = _
    rw [if_pos (by rw [metD_len]; exact hl), metD_put h, set_1]
  unfold gsK3
  rw [g]
theorem app_eval (hl : l.length < 100000) : gApp (S ++ [.lst (nsD l), Y]) (.ref S.length) [.int k] = .ok .non (S ++ [.lst (nsD (l ++ [k])), Y]) := by
  rw [x_appL two_0 (by rw [nsD_len]; exact hl), set_0]
  unfold nsD
  rw [List.map_append]
  rfl
theorem isl_eval {xs : List D} : isLst (S ++ [.lst xs, Y]) (.ref S.length) = true := x_isLst two_0
end
/-- come_to -/
theorem come_to_ev {W : Ms} {bs : List Nat} {R B : D} {S : Store} {sB : Src} (hW : WF W) (hb : ∀ b ∈ bs, b < W.length) (hl : W.length ≤ 1000) (hbl : bs.length ≤ 1000)
    (hR : ∀ (X Y : DO) (i : Nat) (r : List Tl), W[i]? = some r → gIx (S ++ [X, Y]) R (.int i) = .ok (rD r) (S ++ [X, Y]))
    (hB : ∀ X Y : DO, srcOf B (S ++ [X, Y]) = .ok sB (S ++ [X, Y])) (hsB : ∀ (X Y : DO) (i : Nat), sB.at (S ++ [X, Y]) i = (nsD bs)[i]?) :
    ∃ F, Bfs W (dd [] bs) 0 F ∧ F_come_to [R, B] S = .ok (.ref S.length) (S ++ [.lst (nsD F), .dk (metD F)]) := by
  have small : ∀ l : List Nat, l.Nodup → (∀ x ∈ l, x < W.length) → l.length ≤ W.length := fun l nd h => few_below _ l nd h
  -- the begins
  have st0 : sPar 2 3 (aC (cLst aN) (aC cNewK aN)) [some R, some B, none, none, none, none, none] S = .nx [some R, some B, some (.ref S.length), some (.ref (S.length + 1)), none, none, none] (S ++ [.lst (nsD []), .dk (metD [])]) := by
    simp [nsD, metD]
  obtain ⟨e1, S1, st1, l1, x4, hl1, he1, hS1⟩ := ev_forN (fi := iSeq (cV 1)) (gt := gN 4) (u := sIf (kB (cOp2 gNin (cV 4) (cV 3))) (sSeq (sAsgG (cC (.bl true)) (gSub2 (cV 3) (cV 4))) (sDrop (cMt isLst gApp (cV 2) (aC (cV 4) aN)))) sNext)
    (e := [some R, some B, some (.ref S.length), some (.ref (S.length + 1)), none, none, none]) (S := S ++ [.lst (nsD []), .dk (metD [])]) (S1 := S ++ [.lst (nsD []), .dk (metD [])]) (src := sB) bs.length
    (fun i e S' => ∃ (l : List Nat) (x4 : Option D), l = dd [] (bs.take i) ∧ e = [some R, some B, some (.ref S.length), some (.ref (S.length + 1)), x4, none, none] ∧ S' = S ++ [.lst (nsD l), .dk (metD l)])
    (by simp [hB]) (by omega) ⟨[], none, rfl, rfl, rfl⟩ (fun e S' ⟨l, x4, _, _, eS⟩ => by rw [eS, hsB]; exact List.getElem?_eq_none (by rw [nsD_len]; omega)) (fun i e S' hi ⟨l, x4, hl, he, hS⟩ => by
      subst he hS
      have eb : bs[i]? = some bs[i] := List.getElem?_eq_getElem hi
      have nx : dd [] (bs.take (i + 1)) = push l bs[i] := by
        rw [List.take_add_one, eb, hl]
        unfold dd
        rw [List.foldl_append]; rfl
      have nd : l.Nodup := by rw [hl]; exact dd_nodup _ List.nodup_nil
      have lt : ∀ x ∈ l, x < W.length := fun x hx => by
        rw [hl] at hx
        exact hb x (List.mem_of_mem_take (((mem_dd _).mp hx).resolve_left List.not_mem_nil))
      have sl := small l nd lt
      by_cases hm : bs[i] ∈ l
      · refine ⟨.int bs[i], [some R, some B, some (.ref S.length), some (.ref (S.length + 1)), some (.int bs[i]), none, none], S ++ [.lst (nsD l), .dk (metD l)], [some R, some B, some (.ref S.length), some (.ref (S.length + 1)), some (.int bs[i]), none, none], S ++ [.lst (nsD l), .dk (metD l)], by rw [hsB]; exact nsD_get eb, by simp, ?_, l, _, ?_, rfl, rfl⟩
        · simp [nin_eval, hm]
        · rw [nx]; unfold push; rw [if_pos hm]
      · refine ⟨.int bs[i], [some R, some B, some (.ref S.length), some (.ref (S.length + 1)), some (.int bs[i]), none, none], S ++ [.lst (nsD l), .dk (metD l)], [some R, some B, some (.ref S.length), some (.ref (S.length + 1)), some (.int bs[i]), none, none], S ++ [.lst (nsD (l ++ [bs[i]])), .dk (metD (l ++ [bs[i]]))], by rw [hsB]; exact nsD_get eb, by simp, ?_, l ++ [bs[i]], _, ?_, rfl, rfl⟩
        · simp [nin_eval, hm, setk_eval hm (show l.length < 100000 by omega), app_eval (show l.length < 100000 by omega), isl_eval]
        · rw [nx]; unfold push; rw [if_neg hm])
  subst he1 hS1
  rw [List.take_length] at hl1
  subst hl1
  -- the line is gone through
  obtain ⟨e2, S2, st2, F, a2, y4, y6, hF, he2, hS2⟩ := ev_whileN (t := kB (cOp2 gLt (cV 5) (cCall gLen (aC (cV 2) aN)))) (u := sSeq (sFor (iSeq (cOp2 gIx (cV 0) (cOp2 gIx (cV 2) (cV 5)))) (gN 6) (sIf (kAnd (kB (cOp2 gNot (cV 6) (cC .non))) (kB (cOp2 gNin (cOp2 gIx (cV 6) (cC (.int 1))) (cV 3)))) (sSeq (sAsgG (cC (.bl true)) (gSub2 (cV 3) (cOp2 gIx (cV 6) (cC (.int 1))))) (sDrop (cMt isLst gApp (cV 2) (aC (cOp2 gIx (cV 6) (cC (.int 1))) aN)))) sNext)) (sAugN 5 (cC (.int 1)) gAddI))
    (e := [some R, some B, some (.ref S.length), some (.ref (S.length + 1)), x4, some (.int 0), none]) (S := S ++ [.lst (nsD (dd [] bs)), .dk (metD (dd [] bs))])
    (Q := fun e S' => ∃ (F : List Nat) (a : Nat) (x4 x6 : Option D), Bfs W (dd [] bs) 0 F ∧ e = [some R, some B, some (.ref S.length), some (.ref (S.length + 1)), x4, some (.int a), x6] ∧ S' = S ++ [.lst (nsD F), .dk (metD F)]) W.length
    (fun m e S' => ∃ (l : List Nat) (a : Nat) (x4 x6 : Option D), (∀ F, Bfs W l a F → Bfs W (dd [] bs) 0 F) ∧ l.Nodup ∧ (∀ x ∈ l, x < W.length) ∧ a ≤ l.length ∧ m + a = W.length ∧ e = [some R, some B, some (.ref S.length), some (.ref (S.length + 1)), x4, some (.int a), x6] ∧ S' = S ++ [.lst (nsD l), .dk (metD l)])
    (by omega) ⟨dd [] bs, 0, x4, none, fun _ h => h, dd_nodup _ List.nodup_nil, fun x hx => hb x (((mem_dd _).mp hx).resolve_left List.not_mem_nil), Nat.zero_le _, rfl, rfl, rfl⟩
    (fun m e S' ⟨l, a, x4, x6, hF, nd, lt, al, hm, he, hS⟩ => by
      subst he hS
      have sl := small l nd lt
      have len : gLen (S ++ [.lst (nsD l), .dk (metD l)]) [.ref S.length] = .ok (.int l.length) (S ++ [.lst (nsD l), .dk (metD l)]) := by rw [x_lenL two_0, nsD_len]
      by_cases ha : l.length ≤ a
      · refine .inl ⟨S ++ [.lst (nsD l), .dk (metD l)], ?_, l, a, x4, x6, hF l (.stop ha), rfl, rfl⟩
        have : ¬ ((a : Int) < (l.length : Int)) := by omega
        simp [len, this]
      · have ha2 : a < l.length := by omega
        have ei : l[a]? = some l[a] := List.getElem?_eq_getElem ha2
        have iW := lt _ (List.mem_of_getElem? ei)
        have er : W[l[a]]? = some W[l[a]] := List.getElem?_eq_getElem iW
        have h3 := hW.three _ _ er
        have c1 : ((a : Int) < (l.length : Int)) := by omega
        have ix2 : gIx (S ++ [.lst (nsD l), .dk (metD l)]) (.ref S.length) (.int a) = .ok (.int l[a]) (S ++ [.lst (nsD l), .dk (metD l)]) := x_ixL two_0 (nsD_get ei)
        obtain ⟨e3, S3, st3, l3, y6, hl3, he3, hS3⟩ := ev_forN (fi := iSeq (cOp2 gIx (cV 0) (cOp2 gIx (cV 2) (cV 5)))) (gt := gN 6) (u := sIf (kAnd (kB (cOp2 gNot (cV 6) (cC .non))) (kB (cOp2 gNin (cOp2 gIx (cV 6) (cC (.int 1))) (cV 3)))) (sSeq (sAsgG (cC (.bl true)) (gSub2 (cV 3) (cOp2 gIx (cV 6) (cC (.int 1))))) (sDrop (cMt isLst gApp (cV 2) (aC (cOp2 gIx (cV 6) (cC (.int 1))) aN)))) sNext)
          (e := [some R, some B, some (.ref S.length), some (.ref (S.length + 1)), x4, some (.int a), x6]) (S := S ++ [.lst (nsD l), .dk (metD l)]) (S1 := S ++ [.lst (nsD l), .dk (metD l)]) (src := .fix ((W[l[a]]).map tD)) (W[l[a]]).length
          (fun i e S' => ∃ (l3 : List Nat) (y6 : Option D), l3 = stepRow l ((W[l[a]]).take i) ∧ e = [some R, some B, some (.ref S.length), some (.ref (S.length + 1)), x4, some (.int a), y6] ∧ S' = S ++ [.lst (nsD l3), .dk (metD l3)])
          (by simp [ix2, hR _ _ _ _ er, rD]) (by omega) ⟨l, x6, rfl, rfl, rfl⟩ (fun e S' _ => by show ((W[l[a]]).map tD)[_]? = none; exact List.getElem?_eq_none (by simp))
          (fun i e S' hi ⟨l3, y6, hl3, he, hS⟩ => by
            subst he hS
            have et : (W[l[a]])[i]? = some (W[l[a]])[i] := List.getElem?_eq_getElem hi
            have nx : stepRow l ((W[l[a]]).take (i + 1)) = match (W[l[a]])[i] with
                | some p => push l3 p.2
                | none => l3 := by
              rw [List.take_add_one, et, hl3]
              unfold stepRow
              rw [List.foldl_append]; rfl
            have inr : ∀ w k, some (w, k) ∈ (W[l[a]]).take i → k < W.length := fun w k z => by
              obtain ⟨s, hs⟩ := cell_mem er (List.mem_of_mem_take z)
              exact hW.to _ s w k hs
            have nd3 : l3.Nodup := by rw [hl3]; exact step_nodup _ nd
            have lt3 : ∀ x ∈ l3, x < W.length := by rw [hl3]; exact step_in _ lt inr
            have sl3 := small l3 nd3 lt3
            cases t : (W[l[a]])[i] with
            | none =>
              rw [t] at nx et
              refine ⟨.non, [some R, some B, some (.ref S.length), some (.ref (S.length + 1)), x4, some (.int a), some .non], S ++ [.lst (nsD l3), .dk (metD l3)], [some R, some B, some (.ref S.length), some (.ref (S.length + 1)), x4, some (.int a), some .non], S ++ [.lst (nsD l3), .dk (metD l3)], ?_, by simp, by simp, l3, _, nx.symm, rfl, rfl⟩
              show ((W[l[a]]).map tD)[i]? = some D.non
              rw [List.getElem?_map, et]; rfl
            | some p =>
              obtain ⟨w, k⟩ := p
              rw [t] at nx et
              have src : (Src.fix ((W[l[a]]).map tD)).at (S ++ [.lst (nsD l3), .dk (metD l3)]) i = some (.tup [w.d, .int k]) := by
                show ((W[l[a]]).map tD)[i]? = _
                rw [List.getElem?_map, et]; rfl
              by_cases hm : k ∈ l3
              · refine ⟨.tup [w.d, .int k], [some R, some B, some (.ref S.length), some (.ref (S.length + 1)), x4, some (.int a), some (.tup [w.d, .int k])], S ++ [.lst (nsD l3), .dk (metD l3)], [some R, some B, some (.ref S.length), some (.ref (S.length + 1)), x4, some (.int a), some (.tup [w.d, .int k])], S ++ [.lst (nsD l3), .dk (metD l3)], src, by simp, ?_, l3, _, ?_, rfl, rfl⟩
                · simp [nin_eval, hm]
                · rw [nx]; show l3 = push l3 k; unfold push; rw [if_pos hm]
              · refine ⟨.tup [w.d, .int k], [some R, some B, some (.ref S.length), some (.ref (S.length + 1)), x4, some (.int a), some (.tup [w.d, .int k])], S ++ [.lst (nsD l3), .dk (metD l3)], [some R, some B, some (.ref S.length), some (.ref (S.length + 1)), x4, some (.int a), some (.tup [w.d, .int k])], S ++ [.lst (nsD (l3 ++ [k])), .dk (metD (l3 ++ [k]))], src, by simp, ?_, l3 ++ [k], _, ?_, rfl, rfl⟩
                · simp [nin_eval, hm, setk_eval hm (show l3.length < 100000 by omega), app_eval (show l3.length < 100000 by omega), isl_eval]
                · rw [nx]; show l3 ++ [k] = push l3 k; unfold push; rw [if_neg hm])
        subst he3 hS3
        rw [List.take_length] at hl3
        refine .inr ⟨S ++ [.lst (nsD l), .dk (metD l)], [some R, some B, some (.ref S.length), some (.ref (S.length + 1)), x4, some (.int (a + 1 : Nat)), y6], S ++ [.lst (nsD l3), .dk (metD l3)], m - 1, ?_, ?_, by omega, l3, a + 1, x4, y6, fun F h => hF F (.go ei er (by rw [← hl3]; exact h)), ?_, ?_, ?_, by omega, rfl, rfl⟩
        · simp [len, c1]
        · rw [ev_seq st3]
          simp
        · rw [hl3]; exact step_nodup _ nd
        · rw [hl3]
          exact step_in _ lt fun w k z => by
            obtain ⟨s, hs⟩ := cell_mem er z
            exact hW.to _ s w k hs
        · obtain ⟨y, ey⟩ := step_pre W[l[a]] l
          rw [hl3, ey, List.length_append]; omega)
  subst he2 hS2
  refine ⟨F, hF, fn_of_rt ?_⟩
  show den_come_to [some R, some B, none, none, none, none, none] S = _
  unfold den_come_to
  rw [ev_seq st0, ev_seq st1, ev_seq (ev_set (d := .int 0) rfl)]
  show sSeq _ _ [some R, some B, some (.ref S.length), some (.ref (S.length + 1)), x4, some (.int 0), none] _ = _
  rw [ev_seq st2]
  simp
end K33

set_option Elab.async false
set_option linter.all false
set_option maxRecDepth 100000
set_option maxHeartbeats 4000000
namespace Dl
open PySem PySem.Spec L2
theorem x_enumL {S : Store} {n : Nat} {xs : List D} (h : S[n]? = some (.lst xs)) : enumSrc [.ref n] S = .ok (.enum (.live n)) S := by
  show (match seqOf S n with | some _ => Rs.ok (Src.enum (.live n)) S | none => .stuck) = _
  unfold seqOf
  rw [h]
theorem at_enum {s : Src} {S : Store} {i : Nat} {d : D} (h : s.at S i = some d) : (Src.enum s).at S i = some (.tup [.int i, d]) := by
  show (match s.at S i with | some d => some (D.tup [.int i, d]) | none => none) = _
  rw [h]
theorem at_enumN {s : Src} {S : Store} {i : Nat} (h : s.at S i = none) : (Src.enum s).at S i = none := by
  show (match s.at S i with | some d => some (D.tup [.int i, d]) | none => none) = _
  rw [h]
def enums : List D → Nat → List D
  | [], _ => []
  | d :: r, i => .tup [.int i, d] :: enums r (i + 1)
theorem enums_get : ∀ (ds : List D) (k i : Nat), (enums ds k)[i]? = (ds[i]?).map fun d => .tup [.int (k + i : Nat), d]
  | [], k, i => by simp [enums]
  | d :: r, k, 0 => rfl
  | d :: r, k, i + 1 => by
    show (enums r (k + 1))[i]? = _
    rw [enums_get r (k + 1) i, List.getElem?_cons_succ]
    congr 1
    funext d
    rw [show k + 1 + i = k + (i + 1) from by omega]
theorem enums_len : ∀ (ds : List D) (k : Nat), (enums ds k).length = ds.length
  | [], _ => rfl
  | d :: r, k => by
    show (enums r (k + 1)).length + 1 = r.length + 1
    rw [enums_len r (k + 1)]
theorem src_enum {s : Src} {S1 : Store} {ds : List D} (h : ∀ (S : Store) (i : Nat), Pre S1 S → s.at S i = ds[i]?) : ∀ (S : Store) (i : Nat), Pre S1 S → (Src.enum s).at S i = (enums ds 0)[i]? := fun S i p => by
  rw [enums_get]
  have := h S i p
  cases e : ds[i]? with
  | none => rw [e] at this; rw [at_enumN this]; rfl
  | some d => rw [e] at this; rw [at_enum this]; simp
/-! ### {k: v for .. in ..} -/
theorem dc_go {src : Src} {gt : DG} {tk tv : DE} {e0 : Env} {S1 : Store} {ds : List D} (A : Nat → List (D × D)) (hb : ds.length < 100000)
    (hs : ∀ (S : Store) (i : Nat), Pre S1 S → src.at S i = ds[i]?)
    (hx : ∀ (i : Nat) (d : D) (S : Store), ds[i]? = some d → Pre S1 S → ∃ e1 k v S3, gt d e0 S = .ok e1 S ∧ tk e1 S = .ok k S ∧ tv e1 S = .ok v S3 ∧ Pre S S3 ∧ (dkey k).isSome = true ∧ setB D.keq (A i) k v = A (i + 1) ∧ (A i).length < 100000) :
    ∀ (n i : Nat) (S : Store), i ≤ ds.length → ds.length < n + i → (∃ G, S = S1 ++ .dk (A i) :: G) → ∃ G, dcD n src gt kYes tk tv S1.length e0 i S = .ok (.ref S1.length) (S1 ++ .dk (A ds.length) :: G)
  | 0, i, _, h, h2, _ => by omega
  | n + 1, i, S, h, h2, ⟨G, e⟩ => by
    have pS : Pre S1 S := ⟨_, e⟩
    unfold dcD
    rw [hs S i pS]
    by_cases hi : i < ds.length
    · have e1 : ds[i]? = some ds[i] := List.getElem?_eq_getElem hi
      rw [e1]
      obtain ⟨en, k, v, S3, a, b, c, p3, hk, hA, hl⟩ := hx i _ S e1 pS
      dsimp only
      rw [a]
      dsimp only [Rs.noX, Rs.bind, kYes]
      rw [if_pos rfl, b]
      dsimp only [Rs.noX, Rs.bind]
      rw [c]
      dsimp only [Rs.noX, Rs.bind]
      obtain ⟨G3, e3⟩ : ∃ G3, S3 = S1 ++ .dk (A i) :: G3 := by
        obtain ⟨G', e'⟩ := p3
        exact ⟨G ++ G', by rw [e', e]; simp⟩
      have at3 : S3[S1.length]? = some (.dk (A i)) := by rw [e3]; simp
      have pt : putTo S1.length k v S3 = some (S3.set S1.length (.dk (A (i + 1)))) := by
        unfold putTo
        rw [at3]
        dsimp only
        unfold dctPut
        rw [at3]
        dsimp only
        cases q : dkey k with
        | none => rw [q] at hk; exact Bool.noConfusion hk
        | some q => dsimp only; rw [if_pos hl, hA]
      rw [pt]
      dsimp only
      refine dc_go A hb hs hx n (i + 1) _ hi (by omega) ⟨G3, ?_⟩
      rw [e3]
      simp
    · have e0 : ds[i]? = none := List.getElem?_eq_none (by omega)
      rw [e0]
      have : i = ds.length := by omega
      subst this
      exact ⟨G, by rw [e]⟩
theorem ev_dc {fi : DI} {src : Src} {gt : DG} {tk tv : DE} {us : List Nat} {e : Env} {S S1 : Store} {ds : List D} (A : Nat → List (D × D)) (h : fi e S = .ok src S1) (hb : ds.length < 100000) (h0 : A 0 = [])
    (hs : ∀ (S : Store) (i : Nat), Pre S1 S → src.at S i = ds[i]?)
    (hx : ∀ (i : Nat) (d : D) (S : Store), ds[i]? = some d → Pre S1 S → ∃ e1 k v S3, gt d (wipeE e us) S = .ok e1 S ∧ tk e1 S = .ok k S ∧ tv e1 S = .ok v S3 ∧ Pre S S3 ∧ (dkey k).isSome = true ∧ setB D.keq (A i) k v = A (i + 1) ∧ (A i).length < 100000) :
    ∃ G, cDc fi gt kYes tk tv us e S = .ok (.ref S1.length) (S1 ++ .dk (A ds.length) :: G) := by
  unfold cDc
  rw [h]
  exact dc_go A hb hs hx FUEL 0 _ (Nat.zero_le _) (fuel_big hb) ⟨[], by rw [h0]⟩
theorem x_lenK {S : Store} {n : Nat} {kvs : List (D × D)} (hn : S[n]? = some (.dk kvs)) : gLen S [.ref n] = .ok (.int kvs.length) S := by
  dsimp only [gLen]
  rw [hn]
theorem x_lenN {S : Store} {n : Nat} {kvs : List (D × D)} (hn : S[n]? = some (.dn kvs)) : gLen S [.ref n] = .ok (.int kvs.length) S := by
  dsimp only [gLen]
  rw [hn]
/-! ### a numbering -/
section
variable {α : Type} [DecidableEq α] {eq : D → D → Bool} {enc : α → D}
def numB (enc : α → D) : Nat → List α → List (D × D)
  | _, [] => []
  | k, x :: r => (enc x, .int k) :: numB enc (k + 1) r
theorem numB_len : ∀ (k : Nat) (l : List α), (numB enc k l).length = l.length
  | _, [] => rfl
  | k, x :: r => by
    show (numB enc (k + 1) r).length + 1 = r.length + 1
    rw [numB_len]
theorem numB_app (x : α) : ∀ (k : Nat) (l : List α), numB enc k (l ++ [x]) = numB enc k l ++ [(enc x, .int (k + l.length : Nat))]
  | k, [] => rfl
  | k, y :: l => by
    show (enc y, D.int k) :: numB enc (k + 1) (l ++ [x]) = (enc y, D.int k) :: (numB enc (k + 1) l ++ [(enc x, .int (k + (l.length + 1) : Nat))])
    rw [numB_app x (k + 1) l, show k + 1 + l.length = k + (l.length + 1) from by omega]
theorem numB_at (h : ∀ a b : α, eq (enc a) (enc b) = decide (a = b)) (x : α) : ∀ (k : Nat) (l : List α), atB eq (numB enc k l) (enc x) = if x ∈ l then some (.int (k + K33.pos l x : Nat)) else none
  | k, [] => rfl
  | k, y :: l => by
    show (if eq (enc y) (enc x) = true then some (D.int k) else atB eq (numB enc (k + 1) l) (enc x)) = _
    rw [h]
    by_cases e : y = x
    · rw [if_pos (decide_eq_true e), if_pos (by rw [e]; simp)]
      unfold K33.pos
      rw [if_pos e]; simp
    · rw [if_neg (by simpa using e), numB_at h x (k + 1) l]
      by_cases m : x ∈ l
      · rw [if_pos m, if_pos (List.mem_cons_of_mem _ m)]
        have ep : K33.pos (y :: l) x = K33.pos l x + 1 := by
          show (if y = x then 0 else K33.pos l x + 1) = _
          rw [if_neg e]
        rw [ep, show k + 1 + K33.pos l x = k + (K33.pos l x + 1) from by omega]
      · rw [if_neg m, if_neg (by simp [m, Ne.symm e])]
theorem numB_put (h : ∀ a b : α, eq (enc a) (enc b) = decide (a = b)) {x : α} {l : List α} (hx : x ∉ l) : setB eq (numB enc 0 l) (enc x) (.int l.length) = numB enc 0 (l ++ [x]) := by
  unfold setB
  rw [numB_at h, if_neg hx, if_neg (by simp), numB_app]
  simp
end
end Dl
namespace K33
open PySem PySem.Spec Dl
def lkD (p : Nat × List Tl) : D := .tup [.int p.1, rD p.2]
theorem wd_inj {a b : Wd} (h : a.d.nk = b.d.nk) : a = b := by cases a <;> cases b <;> first | rfl | (simp [Wd.d, D.nk, D.nkL] at h)
theorem tD_inj {a b : Tl} (h : (tD a).nk = (tD b).nk) : a = b := by
  cases a with
  | none =>
    cases b with
    | none => rfl
    | some q => simp [tD, D.nk] at h
  | some p =>
    cases b with
    | none => simp [tD, D.nk] at h
    | some q =>
      obtain ⟨w, k⟩ := p
      obtain ⟨w', k'⟩ := q
      simp [tD, D.nk, D.nkL] at h
      rw [wd_inj h.1, Int.ofNat_inj.mp h.2]
theorem rDL_inj : ∀ {a b : List Tl}, D.nkL (a.map tD) = D.nkL (b.map tD) → a = b
  | [], [], _ => rfl
  | [], _ :: _, h => by simp [D.nkL] at h
  | _ :: _, [], h => by simp [D.nkL] at h
  | x :: a, y :: b, h => by
    rw [List.map_cons, List.map_cons] at h
    unfold D.nkL at h
    injection h with h1 h2
    rw [tD_inj h1, rDL_inj h2]
theorem rD_inj {a b : List Tl} (h : (rD a).nk = (rD b).nk) : a = b := by
  unfold rD D.nk at h
  injection h with h
  exact rDL_inj h
theorem lkD_inj {a b : Nat × List Tl} (h : (lkD a).nk = (lkD b).nk) : a = b := by
  obtain ⟨k, r⟩ := a
  obtain ⟨k', r'⟩ := b
  simp only [lkD, D.nk, D.nkL] at h
  injection h with h
  injection h with h1 h2
  injection h1 with h1
  injection h2 with h2
  rw [rD_inj h2]
  congr 1
  exact Int.ofNat_inj.mp h1
theorem lk_eq (a b : Nat × List Tl) : D.neq (lkD a) (lkD b) = decide (a = b) := by
  unfold D.neq
  rw [← NestedKey.decide_eq]
  by_cases h : a = b
  · subst h; simp
  · rw [decide_eq_false h, decide_eq_false fun e => h (lkD_inj e)]
theorem int_keq (a b : Nat) : D.keq (.int a) (.int b) = decide (a = b) := by
  show ((a : Int) == (b : Int)) = decide (a = b)
  by_cases h : a = b
  · subst h; simp
  · rw [decide_eq_false h]; simp; omega
theorem lkD_pure (p : Nat × List Tl) : (lkD p).pure = true := by
  show (true && ((rD p.2).pure && true)) = true
  rw [rD_pure]; rfl
theorem lkD_deep (p : Nat × List Tl) : (lkD p).deep ≤ 8 := by
  have := rD_deep p.2
  show Nat.max (D.deep (.int p.1)) (Nat.max (rD p.2).deep 0) + 1 ≤ 8
  have e0 : D.deep (.int p.1) = 0 := rfl
  rw [e0]
  simp only [Nat.max_def]
  split <;> split <;> omega
theorem metD_push (l : List Nat) (k : Nat) : setB D.keq (metD l) (.int k) (.bl true) = metD (push l k) := by
  unfold push
  by_cases h : k ∈ l
  · rw [if_pos h]
    unfold setB
    rw [metD_at, if_pos h]
    rw [if_pos (show (some (D.bl true)).isSome = true from rfl)]
    clear h
    induction l with
    | nil => rfl
    | cons x l ih =>
      show (if D.keq (.int x) (.int k) = true then ((D.int x, D.bl true) : D × D) else (.int x, .bl true)) :: setM D.keq (.int k) (.bl true) (metD l) = (.int x, .bl true) :: metD l
      rw [ih, ite_self]
  · rw [if_neg h]
    exact metD_put h
end K33

set_option Elab.async false
set_option linter.all false
set_option maxRecDepth 100000
set_option maxHeartbeats 4000000
namespace K33
open Dl
/-- a row, its standings named by a list of numbers -/
def via (L : List Nat) (r : List Tl) : List Tl := r.map (Option.map fun p => (p.1, L.getD p.2 0))
theorem look_eq {m : Ms} {L : List Nat} {i : Nat} (hi : i < m.length) : look m L i = (L.getD i 0, via L m[i]) := by
  unfold look via
  rw [row_of hi]
theorem nsD_getD {L : List Nat} {k : Nat} (h : k < L.length) : (nsD L)[k]? = some (D.int (L.getD k 0)) := by
  have e : L[k]? = some L[k] := List.getElem?_eq_getElem h
  rw [nsD_get e, List.getD_eq_getElem?_getD, e]; rfl
/-- [None if told is None else (told[0], xs[told[1]]) for told in row] -/
theorem via_go {r : List Tl} {L : List Nat} {S : Store} {e : Env} {a b : Nat} {X : D} {fx : DE}
    (hr : ∀ w k, some (w, k) ∈ r → k < L.length) (h3 : r.length < 100000) (ha : cV a e S = .ok (rD r) S)
    (hw : ∀ o S', cV b ((wipeE e [b]).set b (some o)) S' = .ok o S')
    (hx : ∀ (o : D) (S' : Store), Pre S S' → fx ((wipeE e [b]).set b (some o)) S' = .ok X S')
    (hX : ∀ (S' : Store) (k : Nat), Pre S S' → k < L.length → gIx S' X (.int k) = .ok (.int (L.getD k 0)) S') :
    ∃ G, cLc (iSeq (cV a)) (gN b) kYes (cIfE (kB (cOp2 gIs (cV b) (cC .non))) (cC .non) (cTup (aC (cOp2 gIx (cV b) (cC (.int 0))) (aC (cOp2 gIx fx (cOp2 gIx (cV b) (cC (.int 1)))) aN)))) [b] e S
      = .ok (.ref S.length) (S ++ .lst ((via L r).map tD) :: G) := by
  refine ev_lc (src := .fix (r.map tD)) (ds := r.map tD) (by rw [x_iSeq, ha]; rfl) (by unfold via; simp) (by simpa using h3) (src_fix S) fun i d y S' hd hy p => ?_
  unfold via at hy
  rw [List.map_map, List.getElem?_map] at hy
  rw [List.getElem?_map] at hd
  cases et : r[i]? with
  | none => rw [et] at hd; cases hd
  | some t =>
    rw [et] at hd hy
    have hd := Option.some.inj hd
    have hy := Option.some.inj hy
    subst hd hy
    cases t with
    | none =>
      refine ⟨_, S', rfl, ?_, Pre.refl _⟩
      simp [hw, tD]
    | some p2 =>
      obtain ⟨w, k⟩ := p2
      have hk := hr w k (List.mem_of_getElem? et)
      refine ⟨_, S', rfl, ?_, Pre.refl _⟩
      simp [hw, tD, hx _ S' p, hX S' k p hk]
theorem ix_list {S : Store} {n k : Nat} {L : List Nat} (hn : S[n]? = some (.lst (nsD L))) (hk : k < L.length) : gIx S (.ref n) (.int k) = .ok (.int (L.getD k 0)) S := x_ixL hn (nsD_getD hk)
theorem looks_ev {m : Ms} {L : List Nat} {S : Store} {n : Nat} (hm : WF m) (hb : m.length ≤ 1000) (hl : L.length = m.length) (hn : S[n]? = some (.lst (nsD L))) :
    ∃ G, F_looks_of [mD m, .ref n] S = .ok (.ref S.length) (S ++ .lst ((looks m L).map lkD) :: G) := by
  obtain ⟨e1, S1, st1, x3, x4, x5, G, he, hS⟩ := ev_forN (fi := iEnm (aC (cV 0) aN)) (gt := gT 2 (gsC (gN 3) (gsC (gN 4) gsN)))
    (u := sSeq (sSet 5 (cLc (iSeq (cV 4)) (gN 6) kYes (cIfE (kB (cOp2 gIs (cV 6) (cC .non))) (cC .non) (cTup (aC (cOp2 gIx (cV 6) (cC (.int 0))) (aC (cOp2 gIx (cV 1) (cOp2 gIx (cV 6) (cC (.int 1)))) aN)))) [6])) (sDrop (cMt isLst gApp (cV 2) (aC (cTup (aC (cOp2 gIx (cV 1) (cV 3)) (aC (cCall gTuple (aC (cV 5) aN)) aN))) aN))))
    (e := [some (mD m), some (.ref n), some (.ref S.length), none, none, none, none]) (S := S ++ [.lst []]) (S1 := S ++ [.lst []]) (src := .enum (.fix (m.map rD))) m.length
    (fun i e S' => ∃ (x3 x4 x5 : Option D) (G : Store), e = [some (mD m), some (.ref n), some (.ref S.length), x3, x4, x5, none] ∧ S' = S ++ .lst (((looks m L).take i).map lkD) :: G)
    (by simp [mD]) (by omega) ⟨none, none, none, [], rfl, rfl⟩ (fun e S' _ => at_enumN (by show (m.map rD)[_]? = none; exact List.getElem?_eq_none (by simp))) (fun i e S' hi ⟨x3, x4, x5, G, he, hS⟩ => by
      subst he
      have hn2 : S'[n]? = some (.lst (nsD L)) := by rw [hS]; exact Pre.get ⟨_, rfl⟩ hn
      have er : m[i]? = some m[i] := List.getElem?_eq_getElem hi
      obtain ⟨G2, r2⟩ := via_go (r := m[i]) (L := L) (S := S') (e := [some (mD m), some (.ref n), some (.ref S.length), some (.int i), some (rD m[i]), x5, none]) (a := 4) (b := 6) (X := .ref n) (fx := cV 1)
        (fun w k z => by
          obtain ⟨s, hs⟩ := cell_mem er z
          rw [hl]
          exact hm.to i s w k hs)
        (by rw [hm.three _ _ er]; omega) (by simp) (fun o S' => by simp [wipeE]) (fun o S' _ => by simp [wipeE]) (fun S2 k p hk => ix_list (p.get hn2) hk)
      have at0 : (S' ++ .lst ((via L m[i]).map tD) :: G2)[S.length]? = some (.lst (((looks m L).take i).map lkD)) := by rw [hS]; simp
      have lk : (looks m L)[i]? = some (L.getD i 0, via L m[i]) := by
        unfold looks
        rw [List.getElem?_map, List.getElem?_range hi, ← look_eq hi]; rfl
      have small : (((looks m L).take i).map lkD).length < 100000 := by
        rw [List.length_map, List.length_take, looks_len]; omega
      refine ⟨.tup [.int i, rD m[i]], [some (mD m), some (.ref n), some (.ref S.length), some (.int i), some (rD m[i]), x5, none], S', [some (mD m), some (.ref n), some (.ref S.length), some (.int i), some (rD m[i]), some (.ref S'.length), none], S ++ .lst (((looks m L).take (i + 1)).map lkD) :: (G ++ .lst ((via L m[i]).map tD) :: G2), at_enum (by show (m.map rD)[i]? = _; rw [List.getElem?_map, er]; rfl), by simp, ?_, _, _, _, _, rfl, rfl⟩
      rw [ev_seq (ev_set r2)]
      have i1 := ix_list (Pre.get (S' := S' ++ .lst ((via L m[i]).map tD) :: G2) ⟨_, rfl⟩ hn2) (show i < L.length by omega)
      have i2 := x_tupL (S := S' ++ .lst ((via L m[i]).map tD) :: G2) (n := S'.length) at_new
      simp [i1, i2, x_isLst at0, x_appL at0 small]
      rw [hS]
      simp [List.take_add_one, lk, lkD, rD])
  subst he hS
  refine ⟨G, fn_of_rt ?_⟩
  show den_looks_of [some (mD m), some (.ref n), none, none, none, none, none] S = _
  unfold den_looks_of
  rw [ev_seq (ev_set (ev_lst rfl (Nat.zero_le _)))]
  show sSeq _ _ [some (mD m), some (.ref n), some (.ref S.length), none, none, none, none] _ = _
  rw [ev_seq st1]
  have : (looks m L).take m.length = looks m L := List.take_of_length_le (by rw [looks_len]; exact Nat.le_refl _)
  simp [this]
end K33

set_option Elab.async false
set_option linter.all false
set_option maxRecDepth 100000
set_option maxHeartbeats 4000000
namespace K33
open Dl
theorem pureL_ref {n : Nat} {d : D} : D.pureL [d, .ref n] = false := by
  show (d.pure && (false && true)) = false
  cases d.pure <;> rfl
theorem setd_eval {T G : Store} {l : List (Nat × List Tl)} {x : Nat × List Tl} {e : Env} {f fk : DE} (hf : f e (T ++ .dn (numB lkD 0 l) :: G) = .ok (.ref T.length) (T ++ .dn (numB lkD 0 l) :: G)) (hk : fk e (T ++ .dn (numB lkD 0 l) :: G) = .ok (lkD x) (T ++ .dn (numB lkD 0 l) :: G)) (hl : l.length < 100000) :
    ∃ d, cSetd isDn f fk (cCall gLen (aC f aN)) e (T ++ .dn (numB lkD 0 l) :: G) = .ok d (T ++ .dn (numB lkD 0 (push l x)) :: G) := by
  have at0 : (T ++ .dn (numB lkD 0 l) :: G)[T.length]? = some (.dn (numB lkD 0 l)) := by simp
  have is0 : isDn (T ++ .dn (numB lkD 0 l) :: G) (.ref T.length) = true := by
    dsimp only [isDn]
    rw [at0]
  have pr : D.pure (.tup [.int x.1, rD x.2]) = true ∧ D.deep (.tup [.int x.1, rD x.2]) ≤ 8 := ⟨lkD_pure x, lkD_deep x⟩
  have gt : dctGet (T ++ .dn (numB lkD 0 l) :: G) T.length (lkD x) = some (if x ∈ l then some (.int (pos l x : Nat)) else none) := by
    dsimp only [dctGet, lkD]
    rw [at0]
    dsimp only
    rw [if_pos pr]
    have := numB_at lk_eq x 0 l
    dsimp only [lkD] at this
    rw [this, Nat.zero_add]
    by_cases h : x ∈ l
    · rw [if_pos h, if_pos h]
    · rw [if_neg h, if_neg h]
  have pt : dctPut (T ++ .dn (numB lkD 0 l) :: G) T.length (lkD x) (.int l.length) = some (T ++ .dn (setB D.neq (numB lkD 0 l) (lkD x) (.int l.length)) :: G) := by
    dsimp only [dctPut, lkD]
    rw [at0]
    dsimp only
    rw [if_pos ⟨pr, by rw [numB_len]; exact hl⟩]
    simp
  unfold cSetd
  rw [hf]
  show ∃ d, sdK isDn fk (cCall gLen (aC f aN)) e (.ref T.length) (T ++ .dn (numB lkD 0 l) :: G) = _
  unfold sdK
  rw [if_pos is0, hk]
  show ∃ d, sdK2 (cCall gLen (aC f aN)) e (.ref T.length) (lkD x) (T ++ .dn (numB lkD 0 l) :: G) = _
  unfold sdK2
  have ln : cCall gLen (aC f aN) e (T ++ .dn (numB lkD 0 l) :: G) = .ok (.int l.length) (T ++ .dn (numB lkD 0 l) :: G) := by
    simp [hf, x_lenN at0, numB_len]
  rw [ln]
  show ∃ d, sdK3 (.ref T.length) (lkD x) (.int l.length) (T ++ .dn (numB lkD 0 l) :: G) = _
  unfold sdK3
  dsimp only
  rw [gt, pt]
  unfold push
  by_cases h : x ∈ l
  · rw [if_pos h, if_pos h]
    exact ⟨_, rfl⟩
  · rw [if_neg h, if_neg h, numB_put lk_eq h]
    exact ⟨_, rfl⟩
theorem numN_ix {T G : Store} {l : List (Nat × List Tl)} {x : Nat × List Tl} (h : x ∈ l) : gIx (T ++ .dn (numB lkD 0 l) :: G) (.ref T.length) (lkD x) = .ok (.int (pos l x : Nat)) (T ++ .dn (numB lkD 0 l) :: G) := by
  have at0 : (T ++ .dn (numB lkD 0 l) :: G)[T.length]? = some (.dn (numB lkD 0 l)) := by simp
  have pr : D.pure (.tup [.int x.1, rD x.2]) = true ∧ D.deep (.tup [.int x.1, rD x.2]) ≤ 8 := ⟨lkD_pure x, lkD_deep x⟩
  have := numB_at lk_eq x 0 l
  rw [if_pos h, Nat.zero_add] at this
  dsimp only [gIx, lkD]
  rw [at0]
  dsimp only
  dsimp only [lkD] at this
  rw [this]
  dsimp only
  rw [if_pos pr]
theorem lots_ev {m : Ms} (hm : WF m) (hb : m.length ≤ 1000) : ∃ L, Lots m L ∧ Ev F_lots_of [mD m] (.tup (nsD L)) := by
  obtain ⟨G0, z0⟩ := ev_lc (fi := iSeq (cV 0)) (gt := gN 6) (te := cC (.int 0)) (us := [6]) (e := [some (mD m), none, none, none, none, none, none, none]) (S := []) (S1 := []) (src := .fix (m.map rD)) (ds := m.map rD) (ys := nsD (m.map fun _ => 0)) (by simp [mD]) (by unfold nsD; simp) (by simp; omega) (src_fix []) (fun i d y S' hd hy p => by
    refine ⟨_, S', rfl, ?_, Pre.refl _⟩
    unfold nsD at hy
    rw [List.map_map, List.getElem?_map] at hy
    cases q : m[i]? with
    | none => rw [q] at hy; cases hy
    | some r => rw [q] at hy; cases hy; rfl)
  have big : ∀ L, (dd [] L).length ≤ L.length := fun L => by have := dd_len L ([] : List Nat); simpa using this
  have step := ev_whileR (t := kB (cC (.bl true))) (u := sSeq (sSet 2 (cFn 2 F_looks_of (aC (cV 0) (aC (cV 1) aN)))) (sSeq (sSet 3 cNewN) (sSeq (sFor (iSeq (cV 2)) (gN 4) (sDrop (cSetd isDn (cV 3) (cV 4) (cCall gLen (aC (cV 3) aN))))) (sSeq (sSet 5 (cLc (iSeq (cV 2)) (gN 4) kYes (cOp2 gIx (cV 3) (cV 4)) [4])) (sSeq (sIf (kB (cOp2 gEq (cCall gLen (aC (cV 3) aN)) (cCall gLen (aC (cDc (iSeq (cV 1)) (gN 7) kYes (cV 7) (cC (.bl true)) [7]) aN)))) (sRet (cCall gTuple (aC (cV 5) aN))) sNext) (sSet 1 (cV 5)))))))
    (e := [some (mD m), some (.ref 0), none, none, none, none, none, none]) (S := .lst (nsD (m.map fun _ => 0)) :: G0)
    (Q := fun _ _ => False) (R := fun d S' => ∃ L, Lots m L ∧ d = .tup (nsD L)) (m.length - (dd [] (m.map fun _ => 0)).length)
    (fun k e S' => ∃ (L : List Nat) (n : Nat) (x2 x3 x4 x5 : Option D), Coarse m L ∧ S'[n]? = some (.lst (nsD L)) ∧ k + (dd [] L).length = m.length ∧ e = [some (mD m), some (.ref n), x2, x3, x4, x5, none, none])
    (by omega) ⟨m.map fun _ => 0, 0, none, none, none, none, zero_coarse m, rfl, by have := big (m.map fun _ => 0); rw [List.length_map] at this; omega, rfl⟩
    (fun k e S' ⟨L, n, x2, x3, x4, x5, hL, hn, hk, he⟩ => by
      subst he
      right
      refine ⟨S', rfl, ?_⟩
      obtain ⟨G, r1⟩ := looks_ev (S := S') (n := n) hm hb hL.len hn
      have st1 : sSet 2 (cFn 2 F_looks_of (aC (cV 0) (aC (cV 1) aN))) [some (mD m), some (.ref n), x2, x3, x4, x5, none, none] S' = .nx [some (mD m), some (.ref n), some (.ref S'.length), x3, x4, x5, none, none] (S' ++ .lst ((looks m L).map lkD) :: G) := by
        simp [runF_ref pureL_ref, r1]
      obtain ⟨T, hT⟩ : ∃ T, T = S' ++ .lst ((looks m L).map lkD) :: G := ⟨_, rfl⟩
      rw [← hT] at st1
      have atT : T[S'.length]? = some (.lst ((looks m L).map lkD)) := by rw [hT]; simp
      have hnT : T[n]? = some (.lst (nsD L)) := by rw [hT]; exact Pre.get ⟨_, rfl⟩ hn
      have llen : ((looks m L).map lkD).length < 100000 := by rw [List.length_map, looks_len]; omega
      obtain ⟨e3, S3, st3, y4, he3, hS3⟩ := ev_forN (fi := iSeq (cV 2)) (gt := gN 4) (u := sDrop (cSetd isDn (cV 3) (cV 4) (cCall gLen (aC (cV 3) aN))))
        (e := [some (mD m), some (.ref n), some (.ref S'.length), some (.ref T.length), x4, x5, none, none]) (S := T ++ [.dn []]) (S1 := T ++ [.dn []]) (src := .live S'.length) m.length
        (fun i e S => ∃ y4 : Option D, e = [some (mD m), some (.ref n), some (.ref S'.length), some (.ref T.length), y4, x5, none, none] ∧ S = T ++ [.dn (numB lkD 0 (dd [] ((looks m L).take i)))])
        (by simp; rw [x_srcL (Pre.get ⟨_, rfl⟩ atT)]) (by omega) ⟨x4, rfl, rfl⟩
        (fun e S ⟨y4, _, hS⟩ => by rw [hS, src_live (S1 := T) atT _ _ ⟨_, rfl⟩]; exact List.getElem?_eq_none (by rw [List.length_map, looks_len]; exact Nat.le_refl _))
        (fun i e S hi ⟨y4, he, hS⟩ => by
          subst he hS
          have el : (looks m L)[i]? = some (look m L i) := by unfold looks; rw [List.getElem?_map, List.getElem?_range hi]; rfl
          have sml : (dd [] ((looks m L).take i)).length < 100000 := by
            have := dd_len ((looks m L).take i) []
            rw [List.length_take] at this
            simp at this
            omega
          have nx : dd [] ((looks m L).take (i + 1)) = push (dd [] ((looks m L).take i)) (look m L i) := by
            rw [List.take_add_one, el]
            unfold dd
            rw [List.foldl_append]; rfl
          obtain ⟨d, sd⟩ := setd_eval (T := T) (G := []) (l := dd [] ((looks m L).take i)) (x := look m L i) (e := [some (mD m), some (.ref n), some (.ref S'.length), some (.ref T.length), some (lkD (look m L i)), x5, none, none]) (f := cV 3) (fk := cV 4) (by simp) (by simp) sml
          refine ⟨lkD (look m L i), _, _, _, _, ?_, rfl, ev_drop sd, some (lkD (look m L i)), rfl, by rw [nx]⟩
          rw [src_live (S1 := T) atT _ _ ⟨_, rfl⟩, List.getElem?_map, el]; rfl)
      subst he3 hS3
      have tk : (looks m L).take m.length = looks m L := List.take_of_length_le (by rw [looks_len]; exact Nat.le_refl _)
      rw [tk] at st3
      obtain ⟨T2, hT2⟩ : ∃ T2, T2 = T ++ [.dn (numB lkD 0 (dd [] (looks m L)))] := ⟨_, rfl⟩
      obtain ⟨G4, r4⟩ := ev_lc (fi := iSeq (cV 2)) (gt := gN 4) (te := cOp2 gIx (cV 3) (cV 4)) (us := [4]) (e := [some (mD m), some (.ref n), some (.ref S'.length), some (.ref T.length), y4, x5, none, none]) (S := T2) (S1 := T2) (src := .live S'.length) (ds := (looks m L).map lkD) (ys := nsD (later m L))
        (by rw [hT2]; simp; rw [x_srcL (Pre.get ⟨_, rfl⟩ atT)]) (by unfold nsD later; simp) llen (src_live (by rw [hT2]; exact Pre.get ⟨_, rfl⟩ atT)) (fun i d y S2 hd hy p => by
          rw [List.getElem?_map] at hd
          unfold nsD later at hy
          rw [List.map_map, List.getElem?_map] at hy
          cases el : (looks m L)[i]? with
          | none => rw [el] at hd; cases hd
          | some x =>
            rw [el] at hd hy
            cases hd
            cases hy
            have mx : x ∈ dd [] (looks m L) := (mem_dd _).mpr (.inr (List.mem_of_getElem? el))
            refine ⟨_, S2, rfl, ?_, Pre.refl _⟩
            obtain ⟨G5, e5⟩ := p
            have e6 : S2 = T ++ .dn (numB lkD 0 (dd [] (looks m L))) :: G5 := by rw [e5, hT2]; simp
            have := numN_ix (T := T) (G := G5) mx
            simp [wipeE]
            rw [e6, this])
      obtain ⟨T3, hT3⟩ : ∃ T3, T3 = T2 ++ .lst (nsD (later m L)) :: G4 := ⟨_, rfl⟩
      rw [← hT3] at r4
      have at3 : T3[T2.length]? = some (.lst (nsD (later m L))) := by rw [hT3]; simp
      have atn : T3[T.length]? = some (.dn (numB lkD 0 (dd [] (looks m L)))) := by rw [hT3, hT2]; simp
      have hnT3 : T3[n]? = some (.lst (nsD L)) := by
        rw [hT3, hT2, List.append_assoc]
        exact Pre.get ⟨_, rfl⟩ hnT
      obtain ⟨G6, r6⟩ := ev_dc (fi := iSeq (cV 1)) (gt := gN 7) (tk := cV 7) (tv := cC (.bl true)) (us := [7]) (e := [some (mD m), some (.ref n), some (.ref S'.length), some (.ref T.length), y4, some (.ref T2.length), none, none]) (S := T3) (S1 := T3) (src := .live n) (ds := nsD L) (fun i => metD (dd [] (L.take i)))
        (by simp; rw [x_srcL hnT3]) (by rw [nsD_len, hL.len]; omega) rfl (src_live hnT3) (fun i d S2 hd p => by
          unfold nsD at hd
          rw [List.getElem?_map] at hd
          cases el : L[i]? with
          | none => rw [el] at hd; cases hd
          | some x =>
            rw [el] at hd
            cases hd
            refine ⟨_, .int x, .bl true, S2, rfl, by simp [wipeE], rfl, Pre.refl _, rfl, ?_, ?_⟩
            · rw [metD_push, List.take_add_one, el]
              unfold dd
              rw [List.foldl_append]; rfl
            · rw [metD_len]
              have := big (L.take i)
              rw [List.length_take, hL.len] at this
              omega)
      have tkL : L.take (nsD L).length = L := List.take_of_length_le (by rw [nsD_len]; exact Nat.le_refl _)
      rw [tkL] at r6
      have l6 := x_lenK (S := T3 ++ .dk (metD (dd [] L)) :: G6) (n := T3.length) (kvs := metD (dd [] L)) (by simp)
      rw [metD_len] at l6
      have l5 := x_lenN atn
      rw [numB_len] at l5
      have tp := x_tupL (S := T3 ++ .dk (metD (dd [] L)) :: G6) (n := T2.length) (Pre.get ⟨_, rfl⟩ at3)
      rw [ev_seq st1]
      rw [ev_seq (ev_set (f := cNewN) (d := .ref T.length) (S1 := T ++ [.dn []]) rfl)]
      show (∃ e2 S2 m2, sSeq _ _ [some (mD m), some (.ref n), some (.ref S'.length), some (.ref T.length), x4, x5, none, none] _ = .nx e2 S2 ∧ _) ∨ ∃ d S2, sSeq _ _ [some (mD m), some (.ref n), some (.ref S'.length), some (.ref T.length), x4, x5, none, none] _ = .rt d S2 ∧ _
      rw [ev_seq st3, ← hT2, ev_seq (ev_set r4)]
      by_cases hc : (dd [] (looks m L)).length = (dd [] L).length
      · right
        have hc2 : (((dd [] (looks m L)).length : Int) == ((dd [] L).length : Int)) = true := by rw [hc]; simp
        refine ⟨.tup (nsD (later m L)), T3 ++ .dk (metD (dd [] L)) :: G6, ?_, later m L, lots_end hm hL hc, rfl⟩
        simp [l5, r6, l6, hc2, hc, tp]
      · left
        have hc2 : (((dd [] (looks m L)).length : Int) == ((dd [] L).length : Int)) = false := by simp; omega
        have gr := lots_more hL.len hc
        have gb := big (later m L)
        rw [later_len] at gb
        refine ⟨[some (mD m), some (.ref T2.length), some (.ref S'.length), some (.ref T.length), y4, some (.ref T2.length), none, none], T3 ++ .dk (metD (dd [] L)) :: G6, m.length - (dd [] (later m L)).length, ?_, by omega, later m L, T2.length, _, _, _, _, later_coarse hm hL, Pre.get ⟨_, rfl⟩ at3, by omega, rfl⟩
        simp [l5, r6, l6, hc2])
  rcases step with ⟨_, _, _, h⟩ | ⟨d, S', r, L, hL, rfl⟩
  · exact h.elim
  · refine ⟨L, hL, ⟨by show ((mD m).pure && true) = true; rw [mD_pure]; rfl, by
      show D.pureL (nsD L) = true
      exact pureL_of fun d hd => by
        obtain ⟨k, _, rfl⟩ := List.mem_map.mp hd
        rfl, S', fn_of_rt ?_⟩⟩
    show den_lots_of F_looks_of [some (mD m), none, none, none, none, none, none, none] [] = _
    unfold den_lots_of
    rw [ev_seq (ev_set z0)]
    exact r
end K33

set_option Elab.async false
set_option linter.all false
set_option maxRecDepth 100000
set_option maxHeartbeats 4000000
namespace K33
open Dl
/-! ### dicts with keys of numbers -/
def funB (f : Nat → D) (l : List Nat) : List (D × D) := l.map fun (q : Nat) => (D.int q, f q)
section
variable {f : Nat → D} {l : List Nat} {k : Nat} {S T G : Store}
theorem funB_len : (funB f l).length = l.length := List.length_map ..
theorem funB_at : ∀ l : List Nat, atB D.keq (funB f l) (.int k) = if k ∈ l then some (f k) else none
  | [] => rfl
  | x :: l => by
    show (if D.keq (.int x) (.int k) = true then some (f x) else atB D.keq (funB f l) (.int k)) = _
    rw [funB_at l, int_keq]
    by_cases h : x = k
    · subst h; simp
    · have h2 : ¬ k = x := fun z => h z.symm
      simp [h, h2]
theorem funB_put (h : k ∉ l) : setB D.keq (funB f l) (.int k) (f k) = funB f (l ++ [k]) := by
  unfold setB
  rw [funB_at, if_neg h, if_neg (by simp)]
  unfold funB
  rw [List.map_append]
  rfl
theorem at_mid {o : DO} : (T ++ o :: G)[T.length]? = some o := by simp
theorem funB_ix {n : Nat} (hn : S[n]? = some (.dk (funB f l))) (h : k ∈ l) : gIx S (.ref n) (.int k) = .ok (f k) S := by
  dsimp only [gIx]
  rw [hn]
  dsimp only [dkey]
  rw [funB_at, if_pos h]
theorem setd_dk {e : Env} {ff fk fv : DE} {v : D} (hf : ff e (T ++ .dk (funB f l) :: G) = .ok (.ref T.length) (T ++ .dk (funB f l) :: G)) (hk : fk e (T ++ .dk (funB f l) :: G) = .ok (.int k) (T ++ .dk (funB f l) :: G)) (hv : fv e (T ++ .dk (funB f l) :: G) = .ok v (T ++ .dk (funB f l) :: G)) (hl : l.length < 100000) (he : k ∉ l → v = f k) :
    ∃ d, cSetd isDk ff fk fv e (T ++ .dk (funB f l) :: G) = .ok d (T ++ .dk (funB f (push l k)) :: G) := by
  have is0 : isDk (T ++ .dk (funB f l) :: G) (.ref T.length) = true := by
    dsimp only [isDk]
    rw [at_mid]
  have gt : dctGet (T ++ .dk (funB f l) :: G) T.length (.int k) = some (if k ∈ l then some (f k) else none) := by
    dsimp only [dctGet]
    rw [at_mid]
    dsimp only [dkey]
    rw [funB_at]
  have pt : dctPut (T ++ .dk (funB f l) :: G) T.length (.int k) v = some (T ++ .dk (setB D.keq (funB f l) (.int k) v) :: G) := by
    dsimp only [dctPut]
    rw [at_mid]
    dsimp only [dkey]
    rw [if_pos (by rw [funB_len]; exact hl)]
    simp
  unfold cSetd
  rw [hf]
  show ∃ d, sdK isDk fk fv e (.ref T.length) (T ++ .dk (funB f l) :: G) = _
  unfold sdK
  rw [if_pos is0, hk]
  show ∃ d, sdK2 fv e (.ref T.length) (.int k) (T ++ .dk (funB f l) :: G) = _
  unfold sdK2
  rw [hv]
  show ∃ d, sdK3 (.ref T.length) (.int k) v (T ++ .dk (funB f l) :: G) = _
  unfold sdK3
  dsimp only
  rw [gt, pt]
  unfold push
  by_cases h : k ∈ l
  · rw [if_pos h, if_pos h]
    exact ⟨_, rfl⟩
  · rw [if_neg h, if_neg h, he h, funB_put h]
    exact ⟨_, rfl⟩
theorem intKeys_fun : ∀ l : List Nat, intKeys (funB f l) = some (l.map fun (q : Nat) => (q : Int))
  | [] => rfl
  | x :: l => by
    show (intKeys (funB f l)).map ((x : Int) :: ·) = _
    rw [intKeys_fun l]; rfl
theorem sort_range (c : Nat) : sortI ((List.range c).map fun (q : Nat) => (q : Int)) = (List.range c).map fun (q : Nat) => (q : Int) := by
  refine sorted_one (sortI_perm _) (sortI_le _) ?_
  rw [List.pairwise_map]
  exact List.Pairwise.imp (fun h => by omega) (List.pairwise_lt_range (n := c))
theorem sorted_ev {n c : Nat} (hn : S[n]? = some (.dk (funB f (List.range c)))) (hc : c < 64) : gSorted S [.ref n] = .ok (.ref S.length) (S ++ [.lst (nsD (List.range c))]) := by
  dsimp only [gSorted]
  rw [hn]
  dsimp only
  rw [intKeys_fun]
  dsimp only
  rw [if_pos (by simpa using hc), sort_range, List.map_map]
  rfl
theorem pairs_fun : ∀ l : List Nat, pairsD (funB f l) = l.map fun (q : Nat) => D.tup [.int q, f q]
  | [] => rfl
  | x :: l => by
    show D.tup [.int x, f x] :: pairsD (funB f l) = _
    rw [pairs_fun l]; rfl
end
/-! ### rows named by a function -/
def viaF (g : Nat → Nat) (r : List Tl) : List Tl := r.map (Option.map fun p => (p.1, g p.2))
theorem viaF_go {r : List Tl} {g : Nat → Nat} {S : Store} {e : Env} {b : Nat} {X : D} {fx fa : DE}
    (h3 : r.length < 100000) (ha : fa e S = .ok (rD r) S)
    (hw : ∀ o S', cV b ((wipeE e [b]).set b (some o)) S' = .ok o S')
    (hx : ∀ (o : D) (S' : Store), Pre S S' → fx ((wipeE e [b]).set b (some o)) S' = .ok X S')
    (hX : ∀ (S' : Store) (w : Wd) (k : Nat), Pre S S' → some (w, k) ∈ r → gIx S' X (.int k) = .ok (.int (g k)) S') :
    ∃ G, cLc (iSeq fa) (gN b) kYes (cIfE (kB (cOp2 gIs (cV b) (cC .non))) (cC .non) (cTup (aC (cOp2 gIx (cV b) (cC (.int 0))) (aC (cOp2 gIx fx (cOp2 gIx (cV b) (cC (.int 1)))) aN)))) [b] e S
      = .ok (.ref S.length) (S ++ .lst ((viaF g r).map tD) :: G) := by
  refine ev_lc (src := .fix (r.map tD)) (ds := r.map tD) (by rw [x_iSeq, ha]; rfl) (by unfold viaF; simp) (by simpa using h3) (src_fix S) fun i d y S' hd hy p => ?_
  unfold viaF at hy
  rw [List.map_map, List.getElem?_map] at hy
  rw [List.getElem?_map] at hd
  cases et : r[i]? with
  | none => rw [et] at hd; cases hd
  | some t =>
    rw [et] at hd hy
    have hd := Option.some.inj hd
    have hy := Option.some.inj hy
    subst hd hy
    cases t with
    | none =>
      refine ⟨_, S', rfl, ?_, Pre.refl _⟩
      simp [hw, tD]
    | some p2 =>
      obtain ⟨w, k⟩ := p2
      have hk := List.mem_of_getElem? et
      refine ⟨_, S', rfl, ?_, Pre.refl _⟩
      simp [hw, tD, hx _ S' p, hX S' w k p hk]
theorem pureL_ref2 {a b : Nat} : D.pureL [.ref a, .ref b] = false := rfl
theorem nsD_pure (l : List Nat) : D.pureL (nsD l) = true := pureL_of fun d hd => by
  obtain ⟨k, _, rfl⟩ := List.mem_map.mp hd
  rfl
end K33

set_option Elab.async false
set_option linter.all false
set_option maxRecDepth 100000
set_option maxHeartbeats 8000000
namespace K33
open Dl
theorem pos_take {L : List Nat} {i k : Nat} (h : L[i]? = some k) (n : k ∉ dd [] (L.take i)) : pos L k = i := by
  have e : L = L.take i ++ k :: L.drop (i + 1) := by
    have hi : i < L.length := (List.getElem?_eq_some_iff.mp h).1
    have e1 := List.drop_eq_getElem_cons hi
    rw [List.getElem?_eq_getElem hi] at h
    have h := Option.some.inj h
    rw [h] at e1
    rw [← e1, List.take_append_drop]
  have m : k ∉ L.take i := fun z => n ((mem_dd _).mpr (.inr z))
  have hi : i < L.length := (List.getElem?_eq_some_iff.mp h).1
  have := pos_new (L.drop (i + 1)) m
  rw [← e] at this
  rw [this, List.length_take]
  omega
theorem laid_run {m : Ms} {bs : List Nat} (S : Store) (hm : WF m) (hb : m.length ≤ 63) (hbs : ∀ b ∈ bs, b < m.length) (hbl : bs.length ≤ 1000) :
    ∃ ns R T, Laid m bs ns R ∧ F_laid_together [mD m, .tup (nsD bs)] S = .ok (.tup [.tup (nsD ns), mD R]) T := by
  obtain ⟨L, hL, eL⟩ := lots_ev hm (by omega)
  obtain ⟨c, hc⟩ : ∃ c, c = (dd [] L).length := ⟨_, rfl⟩
  have hr : dd [] L = List.range c := by rw [hc]; exact hL.num
  have cl : c ≤ m.length := by
    have := dd_len L ([] : List Nat)
    rw [hc, ← hL.len]
    simpa using this
  -- lots
  have st1 : sSet 2 (cFn 1 F_lots_of (aC (cV 0) aN)) [some (mD m), some (.tup (nsD bs)), none, none, none, none, none, none, none, none, none, none, none, none] S = .nx [some (mD m), some (.tup (nsD bs)), some (.tup (nsD L)), none, none, none, none, none, none, none, none, none, none, none] S := by
    simp [eL.run]
  have st2 : sSet 3 cNewK [some (mD m), some (.tup (nsD bs)), some (.tup (nsD L)), none, none, none, none, none, none, none, none, none, none, none] S = .nx [some (mD m), some (.tup (nsD bs)), some (.tup (nsD L)), some (.ref S.length), none, none, none, none, none, none, none, none, none, none] (S ++ [.dk []]) := by
    simp
  -- firsts
  obtain ⟨e3, S3, st3, y4, y5, he3, hS3⟩ := ev_forN (fi := iEnm (aC (cV 2) aN)) (gt := gT 2 (gsC (gN 4) (gsC (gN 5) gsN))) (u := sDrop (cSetd isDk (cV 3) (cV 5) (cV 4)))
    (e := [some (mD m), some (.tup (nsD bs)), some (.tup (nsD L)), some (.ref S.length), none, none, none, none, none, none, none, none, none, none]) (S := S ++ [.dk []]) (S1 := S ++ [.dk []]) (src := .enum (.fix (nsD L))) L.length
    (fun i e S' => ∃ (y4 y5 : Option D), e = [some (mD m), some (.tup (nsD bs)), some (.tup (nsD L)), some (.ref S.length), y4, y5, none, none, none, none, none, none, none, none] ∧ S' = S ++ .dk (funB (fun q => .int (pos L q : Nat)) (dd [] (L.take i))) :: [])
    (by simp) (by rw [hL.len]; omega) ⟨none, none, rfl, rfl⟩ (fun e S' _ => at_enumN (by show (nsD L)[_]? = none; exact List.getElem?_eq_none (by rw [nsD_len]; exact Nat.le_refl _)))
    (fun i e S' hi ⟨y4, y5, he, hS⟩ => by
      subst he hS
      have el : L[i]? = some L[i] := List.getElem?_eq_getElem hi
      have nx : dd [] (L.take (i + 1)) = push (dd [] (L.take i)) L[i] := by
        rw [List.take_add_one, el]
        unfold dd
        rw [List.foldl_append]; rfl
      have sml : (dd [] (L.take i)).length < 100000 := by
        have := dd_len (L.take i) ([] : List Nat)
        rw [List.length_take, hL.len] at this
        simp at this
        omega
      obtain ⟨d, sd⟩ := setd_dk (T := S) (G := []) (f := fun q => .int (pos L q : Nat)) (l := dd [] (L.take i)) (k := L[i]) (e := [some (mD m), some (.tup (nsD bs)), some (.tup (nsD L)), some (.ref S.length), some (.int i), some (.int L[i]), none, none, none, none, none, none, none, none]) (ff := cV 3) (fk := cV 5) (fv := cV 4) (v := .int i) (by simp) (by simp) (by simp) sml (fun n => by rw [pos_take el n])
      refine ⟨.tup [.int i, .int L[i]], _, _, _, _, at_enum (by show (nsD L)[i]? = _; exact nsD_get el), by simp, ev_drop sd, some (.int i), some (.int L[i]), rfl, by rw [nx]⟩)
  subst he3 hS3
  rw [List.take_length, hr] at st3
  have R3 : ∀ (q : Nat) , q < c → pos L q < m.length := fun q hq => (hL.first (by rw [← hc]; exact hq)).1
  -- told
  obtain ⟨fs, hfs⟩ : ∃ fs, fs = funB (fun q => .int (pos L q : Nat)) (List.range c) := ⟨_, rfl⟩
  rw [← hfs] at st3
  obtain ⟨told, htold⟩ : ∃ told : Nat → D, told = fun q => rD ((m[pos L q]?).getD []) := ⟨_, rfl⟩
  obtain ⟨G4, r4⟩ := ev_dc (fi := iItm (cV 3)) (gt := gT 2 (gsC (gN 5) (gsC (gN 11) gsN))) (tk := cV 5) (tv := cOp2 gIx (cV 0) (cV 11)) (us := [5, 11])
    (e := [some (mD m), some (.tup (nsD bs)), some (.tup (nsD L)), some (.ref S.length), y4, y5, none, none, none, none, none, none, none, none]) (S := S ++ [.fk fs]) (S1 := S ++ [.fk fs]) (src := .fix (pairsD fs)) (ds := pairsD fs) (fun i => funB told (List.range i))
    (by
      have : (S ++ [DO.fk fs])[S.length]? = some (.fk fs) := by simp
      simp [iItm, itmSrc]) (by rw [hfs, pairs_fun]; simp; omega) rfl (src_fix _) (fun i d S2 hd p => by
      rw [hfs, pairs_fun, List.getElem?_map] at hd
      by_cases hi : i < c
      · rw [List.getElem?_range hi] at hd
        have hd := Option.some.inj hd
        subst hd
        have ix : gIx S2 (mD m) (.int (pos L i : Nat)) = .ok (told i) S2 := by
          refine x_ixT ?_
          obtain ⟨r, er⟩ : ∃ r, m[pos L i]? = some r := ⟨_, List.getElem?_eq_getElem (R3 i hi)⟩
          rw [List.getElem?_map, htold]
          dsimp only
          rw [er]; rfl
        refine ⟨_, .int i, told i, S2, by simp [wipeE]; rfl, by simp, by simp [ix], Pre.refl _, rfl, ?_, by rw [funB_len, List.length_range]; omega⟩
        rw [funB_put (by simp), List.range_succ]
      · rw [List.getElem?_eq_none (by simp; omega)] at hd
        cases hd)
  have pl : (pairsD fs).length = c := by rw [hfs, pairs_fun]; simp
  rw [pl] at r4
  obtain ⟨T4, hT4⟩ : ∃ T4, T4 = S ++ .dk fs :: .dk (funB told (List.range c)) :: G4 := ⟨_, rfl⟩
  have st4 : sSet 6 (cLock 3 (cDc (iItm (cV 3)) (gT 2 (gsC (gN 5) (gsC (gN 11) gsN))) kYes (cV 5) (cOp2 gIx (cV 0) (cV 11)) [5, 11])) [some (mD m), some (.tup (nsD bs)), some (.tup (nsD L)), some (.ref S.length), y4, y5, none, none, none, none, none, none, none, none] (S ++ [.dk fs])
      = .nx [some (mD m), some (.tup (nsD bs)), some (.tup (nsD L)), some (.ref S.length), y4, y5, some (.ref (S.length + 1)), none, none, none, none, none, none, none] T4 := by
    have e1 : (S ++ [DO.dk fs])[S.length]? = some (.dk fs) := by simp
    have e2 : (S ++ [DO.dk fs]).set S.length (.fk fs) = S ++ [.fk fs] := by simp
    refine (ev_set (d := .ref (S.length + 1)) (S1 := T4) ?_).trans rfl
    unfold cLock
    dsimp only [List.getElem?_cons_succ, List.getElem?_cons_zero]
    rw [e1]
    dsimp only
    rw [e2, r4]
    dsimp only [unlockR]
    rw [hT4]
    simp
  have at4 : T4[S.length + 1]? = some (.dk (funB told (List.range c))) := by rw [hT4]; simp
  -- whole
  obtain ⟨T5, hT5⟩ : ∃ T5, T5 = T4 ++ [.lst (nsD (List.range c))] := ⟨_, rfl⟩
  have at5 : T5[T4.length]? = some (.lst (nsD (List.range c))) := by rw [hT5]; simp
  have ix4 : ∀ (S' : Store) (q : Nat), Pre T5 S' → q < c → gIx S' (.ref (S.length + 1)) (.int q) = .ok (told q) S' := fun S' q p hq => by
    refine funB_ix (p.get ?_) (List.mem_range.mpr hq)
    rw [hT5]
    exact Pre.get ⟨_, rfl⟩ at4
  obtain ⟨G5, r5⟩ := ev_lc (fi := iSeq (cCall gSorted (aC (cV 6) aN))) (gt := gN 5) (te := cCall gTuple (aC (cLc (iSeq (cOp2 gIx (cV 6) (cV 5))) (gN 13) kYes (cIfE (kB (cOp2 gIs (cV 13) (cC .non))) (cC .non) (cTup (aC (cOp2 gIx (cV 13) (cC (.int 0))) (aC (cOp2 gIx (cV 2) (cOp2 gIx (cV 13) (cC (.int 1)))) aN)))) [13]) aN)) (us := [5])
    (e := [some (mD m), some (.tup (nsD bs)), some (.tup (nsD L)), some (.ref S.length), y4, y5, some (.ref (S.length + 1)), none, none, none, none, none, none, none]) (S := T4) (S1 := T5) (src := .live T4.length) (ds := nsD (List.range c)) (ys := (whole m L).map rD)
    (by
      have := sorted_ev at4 (show c < 64 by omega)
      simp [this]
      rw [← hT5, x_srcL at5]) (by rw [List.length_map, nsD_len, List.length_range, whole_len, hc]) (by rw [nsD_len, List.length_range]; omega) (src_live at5) (fun i d y S2 hd hy p => by
      by_cases hi : i < c
      · unfold nsD at hd
        rw [List.getElem?_map, List.getElem?_range hi] at hd
        have hd := Option.some.inj hd
        subst hd
        unfold whole at hy
        rw [← hc, List.map_map, List.getElem?_map, List.getElem?_range hi] at hy
        have hy := Option.some.inj hy
        subst hy
        obtain ⟨r, er⟩ : ∃ r, m[pos L i]? = some r := ⟨_, List.getElem?_eq_getElem (R3 i hi)⟩
        have et : told i = rD r := by rw [htold]; dsimp only; rw [er]; rfl
        obtain ⟨G6, r6⟩ := viaF_go (r := r) (g := fun k => L.getD k 0) (S := S2) (e := [some (mD m), some (.tup (nsD bs)), some (.tup (nsD L)), some (.ref S.length), y4, some (.int i), some (.ref (S.length + 1)), none, none, none, none, none, none, none]) (b := 13) (X := .tup (nsD L)) (fx := cV 2) (fa := cOp2 gIx (cV 6) (cV 5))
          (by rw [hm.three _ _ er]; omega) (by simp [ix4 S2 i p hi, et]) (fun o S' => by simp [wipeE]) (fun o S' _ => by simp [wipeE]) (fun S' w k _ hk => by
            obtain ⟨s, hs⟩ := cell_mem er hk
            exact x_ixT (nsD_getD (by rw [hL.len]; exact hm.to _ s w k hs)))
        refine ⟨_, S2 ++ .lst ((viaF (fun k => L.getD k 0) r).map tD) :: G6, rfl, ?_, ⟨_, rfl⟩⟩
        refine (ev_tuple_of r6 at_new).trans ?_
        show Rs.ok _ _ = Rs.ok (rD (((m[pos L i]?).getD []).map (Option.map fun p => (p.1, L.getD p.2 0)))) _
        rw [er]
        rfl
      · rw [List.getElem?_eq_none (by rw [nsD_len, List.length_range]; omega)] at hd
        cases hd)
  obtain ⟨W, hW⟩ : ∃ W, W = whole m L := ⟨_, rfl⟩
  rw [← hW] at r5
  have Wrd : Rd W := by rw [hW]; exact whole_rd hm hL
  have Wl : W.length = c := by rw [hW, whole_len, hc]
  obtain ⟨T6, hT6⟩ : ∃ T6, T6 = T5 ++ .lst (W.map rD) :: G5 := ⟨_, rfl⟩
  rw [← hT6] at r5
  have at6 : T6[T5.length]? = some (.lst (W.map rD)) := by rw [hT6]; simp
  -- what is come to
  obtain ⟨cs, hcs⟩ : ∃ cs, cs = bs.map fun b => L.getD b 0 := ⟨_, rfl⟩
  have csl : cs.length = bs.length := by rw [hcs, List.length_map]
  obtain ⟨G7, r7⟩ := ev_lc (fi := iSeq (cV 1)) (gt := gN 12) (te := cOp2 gIx (cV 2) (cV 12)) (us := [12])
    (e := [some (mD m), some (.tup (nsD bs)), some (.tup (nsD L)), some (.ref S.length), y4, y5, some (.ref (S.length + 1)), some (.ref T5.length), none, none, none, none, none, none]) (S := T6) (S1 := T6) (src := .fix (nsD bs)) (ds := nsD bs) (ys := nsD cs)
    (by simp) (by rw [nsD_len, nsD_len, csl]) (by rw [nsD_len]; omega) (src_fix _) (fun i d y S2 hd hy p => by
      cases eb : bs[i]? with
      | none => rw [List.getElem?_eq_none (by rw [nsD_len]; have := List.getElem?_eq_none_iff.mp eb; omega)] at hd; cases hd
      | some b =>
        rw [nsD_get eb] at hd
        have hd := Option.some.inj hd
        subst hd
        have ec : cs[i]? = some (L.getD b 0) := by rw [hcs, List.getElem?_map, eb]; rfl
        rw [nsD_get ec] at hy
        have hy := Option.some.inj hy
        subst hy
        have ix : gIx S2 (.tup (nsD L)) (.int b) = .ok (.int (L.getD b 0)) S2 := x_ixT (nsD_getD (by rw [hL.len]; exact hbs b (List.mem_of_getElem? eb)))
        refine ⟨_, S2, rfl, ?_, Pre.refl _⟩
        simp [wipeE, ix])
  obtain ⟨T7, hT7⟩ : ∃ T7, T7 = T6 ++ .lst (nsD cs) :: G7 := ⟨_, rfl⟩
  rw [← hT7] at r7
  have at7 : T7[T6.length]? = some (.lst (nsD cs)) := by rw [hT7]; simp
  have at7w : T7[T5.length]? = some (.lst (W.map rD)) := by rw [hT7]; exact Pre.get ⟨_, rfl⟩ at6
  have csW : ∀ x ∈ cs, x < W.length := fun x hx => by
    rw [hcs] at hx
    obtain ⟨b, hb2, rfl⟩ := List.mem_map.mp hx
    rw [Wl, hc]
    exact hL.lt (hbs b hb2)
  obtain ⟨F, hF, r8⟩ := come_to_ev (W := W) (bs := cs) (R := .ref T5.length) (B := .ref T6.length) (S := T7) (sB := .live T6.length) Wrd.wf csW (by omega) (by omega)
    (fun X Y i r h => x_ixL (Pre.get ⟨_, rfl⟩ at7w) (by rw [List.getElem?_map, h]; rfl)) (fun X Y => x_srcL (Pre.get ⟨_, rfl⟩ at7)) (fun X Y i => src_live at7 _ _ ⟨_, rfl⟩)
  have Fnd : F.Nodup := bfs_nodup hF (dd_nodup cs List.nodup_nil)
  have Flt : ∀ x ∈ F, x < W.length := bfs_in Wrd.wf hF fun x hx => csW x (((mem_dd cs).mp hx).resolve_left List.not_mem_nil)
  have Fcl := bfs_closed hF fun j i s w k hj => absurd hj (Nat.not_lt_zero j)
  have Fcs : ∀ x ∈ cs, x ∈ F := fun x hx => by
    obtain ⟨y, e⟩ := bfs_pre hF
    rw [e]
    exact List.mem_append_left _ ((mem_dd cs).mpr (.inr hx))
  have Fl : F.length ≤ W.length := few_below _ F Fnd Flt
  obtain ⟨T8, hT8⟩ : ∃ T8, T8 = T7 ++ [.lst (nsD F), .dk (metD F)] := ⟨_, rfl⟩
  rw [← hT8] at r8
  have at8 : T8[T7.length]? = some (.lst (nsD F)) := by rw [hT8]; simp
  have st8 : sSet 8 (cFn 2 F_come_to (aC (cV 7) (aC (cLc (iSeq (cV 1)) (gN 12) kYes (cOp2 gIx (cV 2) (cV 12)) [12]) aN))) [some (mD m), some (.tup (nsD bs)), some (.tup (nsD L)), some (.ref S.length), y4, y5, some (.ref (S.length + 1)), some (.ref T5.length), none, none, none, none, none, none] T6
      = .nx [some (mD m), some (.tup (nsD bs)), some (.tup (nsD L)), some (.ref S.length), y4, y5, some (.ref (S.length + 1)), some (.ref T5.length), some (.ref T7.length), none, none, none, none, none] T8 := by
    simp [r7, runF_ref pureL_ref2, r8]
  -- numbers
  obtain ⟨num, hnum⟩ : ∃ num : Nat → D, num = fun q => .int (pos F q : Nat) := ⟨_, rfl⟩
  obtain ⟨G9, r9⟩ := ev_dc (fi := iEnm (aC (cV 8) aN)) (gt := gT 2 (gsC (gN 4) (gsC (gN 5) gsN))) (tk := cV 5) (tv := cV 4) (us := [4, 5])
    (e := [some (mD m), some (.tup (nsD bs)), some (.tup (nsD L)), some (.ref S.length), y4, y5, some (.ref (S.length + 1)), some (.ref T5.length), some (.ref T7.length), none, none, none, none, none]) (S := T8) (S1 := T8) (src := .enum (.live T7.length)) (ds := enums (nsD F) 0) (fun i => funB num (F.take i))
    (by simp; rw [x_enumL at8]) (by rw [enums_len, nsD_len]; omega) rfl (src_enum (src_live at8)) (fun i d S2 hd p => by
      rw [enums_get] at hd
      cases eb : F[i]? with
      | none => rw [List.getElem?_eq_none (by rw [nsD_len]; have := List.getElem?_eq_none_iff.mp eb; omega)] at hd; cases hd
      | some q =>
        rw [nsD_get eb] at hd
        have hd := Option.some.inj hd
        subst hd
        have hp : pos F q = i := pos_at Fnd eb
        have hn : q ∉ F.take i := fun z => by
          obtain ⟨j, hj⟩ := List.getElem?_of_mem z
          rw [List.getElem?_take] at hj
          split at hj
          · have := pos_at Fnd hj
            omega
          · cases hj
        refine ⟨_, .int q, num q, S2, by simp [wipeE]; rfl, by simp, by simp [hnum, hp], Pre.refl _, rfl, ?_, by rw [funB_len, List.length_take]; omega⟩
        rw [funB_put hn, List.take_add_one, eb]
        rfl)
  rw [enums_len, nsD_len, List.take_length] at r9
  obtain ⟨T9, hT9⟩ : ∃ T9, T9 = T8 ++ .dk (funB num F) :: G9 := ⟨_, rfl⟩
  rw [← hT9] at r9
  have at9 : T9[T8.length]? = some (.dk (funB num F)) := by rw [hT9]; simp
  have at9f : T9[T7.length]? = some (.lst (nsD F)) := by rw [hT9]; exact Pre.get ⟨_, rfl⟩ at8
  have at9w : T9[T5.length]? = some (.lst (W.map rD)) := by
    rw [hT9, hT8, List.append_assoc]
    exact Pre.get ⟨_, rfl⟩ at7w
  -- found
  obtain ⟨e10, S10, st10, z5, G10, he10, hS10⟩ := ev_forN (fi := iSeq (cV 8)) (gt := gN 5) (u := sDrop (cMt isLst gApp (cV 10) (aC (cCall gTuple (aC (cLc (iSeq (cOp2 gIx (cV 7) (cV 5))) (gN 13) kYes (cIfE (kB (cOp2 gIs (cV 13) (cC .non))) (cC .non) (cTup (aC (cOp2 gIx (cV 13) (cC (.int 0))) (aC (cOp2 gIx (cV 9) (cOp2 gIx (cV 13) (cC (.int 1)))) aN)))) [13]) aN)) aN)))
    (e := [some (mD m), some (.tup (nsD bs)), some (.tup (nsD L)), some (.ref S.length), y4, y5, some (.ref (S.length + 1)), some (.ref T5.length), some (.ref T7.length), some (.ref T8.length), some (.ref T9.length), none, none, none]) (S := T9 ++ [.lst []]) (S1 := T9 ++ [.lst []]) (src := .live T7.length) F.length
    (fun i e S' => ∃ (z5 : Option D) (G : Store), e = [some (mD m), some (.tup (nsD bs)), some (.tup (nsD L)), some (.ref S.length), y4, z5, some (.ref (S.length + 1)), some (.ref T5.length), some (.ref T7.length), some (.ref T8.length), some (.ref T9.length), none, none, none] ∧ S' = T9 ++ .lst (((laidRows W F).take i).map rD) :: G)
    (by simp; rw [x_srcL (Pre.get ⟨_, rfl⟩ at9f)]) (by omega) ⟨y5, [], rfl, rfl⟩
    (fun e S' ⟨z5, G, _, hS⟩ => by rw [hS, src_live (S1 := T9) at9f _ _ ⟨_, rfl⟩]; exact List.getElem?_eq_none (by rw [nsD_len]; exact Nat.le_refl _))
    (fun i e S' hi ⟨z5, G, he, hS⟩ => by
      subst he
      obtain ⟨q, eq⟩ : ∃ q, F[i]? = some q := ⟨_, List.getElem?_eq_getElem hi⟩
      have hq := Flt q (List.mem_of_getElem? eq)
      obtain ⟨r, er⟩ : ∃ r, W[q]? = some r := ⟨_, List.getElem?_eq_getElem hq⟩
      have pS : Pre T9 S' := ⟨_, hS⟩
      have ixw : gIx S' (.ref T5.length) (.int q) = .ok (rD r) S' := x_ixL (pS.get at9w) (by rw [List.getElem?_map, er]; rfl)
      obtain ⟨G6, r6⟩ := viaF_go (r := r) (g := pos F) (S := S') (e := [some (mD m), some (.tup (nsD bs)), some (.tup (nsD L)), some (.ref S.length), y4, some (.int q), some (.ref (S.length + 1)), some (.ref T5.length), some (.ref T7.length), some (.ref T8.length), some (.ref T9.length), none, none, none]) (b := 13) (X := .ref T8.length) (fx := cV 9) (fa := cOp2 gIx (cV 7) (cV 5))
        (by rw [Wrd.wf.three _ _ er]; omega) (by simp [ixw]) (fun o S' => by simp [wipeE]) (fun o S' _ => by simp [wipeE]) (fun S2 w k p hk => by
          obtain ⟨s, hs⟩ := cell_mem er hk
          have := funB_ix ((pS.trans p).get at9) (Fcl i q s w k eq hs)
          rw [this, hnum])
      have lr : (laidRows W F)[i]? = some (viaF (pos F) r) := by unfold laidRows; rw [List.getElem?_map, eq]; show some (rowIn F ((W[q]?).getD [])) = _; rw [er]; rfl
      have at0 : (S' ++ .lst ((viaF (pos F) r).map tD) :: G6)[T9.length]? = some (.lst (((laidRows W F).take i).map rD)) := by rw [hS]; simp
      have small : (((laidRows W F).take i).map rD).length < 100000 := by
        rw [List.length_map, List.length_take]
        omega
      have tp := x_tupL (S := S' ++ .lst ((viaF (pos F) r).map tD) :: G6) (n := S'.length) at_new
      refine ⟨.int q, [some (mD m), some (.tup (nsD bs)), some (.tup (nsD L)), some (.ref S.length), y4, some (.int q), some (.ref (S.length + 1)), some (.ref T5.length), some (.ref T7.length), some (.ref T8.length), some (.ref T9.length), none, none, none], S', [some (mD m), some (.tup (nsD bs)), some (.tup (nsD L)), some (.ref S.length), y4, some (.int q), some (.ref (S.length + 1)), some (.ref T5.length), some (.ref T7.length), some (.ref T8.length), some (.ref T9.length), none, none, none], T9 ++ .lst (((laidRows W F).take (i + 1)).map rD) :: (G ++ .lst ((viaF (pos F) r).map tD) :: G6), ?_, by simp, ?_, _, _, rfl, rfl⟩
      · rw [src_live at9f _ _ pS]; exact nsD_get eq
      · have is0 : isLst S' (.ref T9.length) = true := x_isLst (xs := ((laidRows W F).take i).map rD) (by rw [hS]; simp)
        simp [is0, r6, tp, x_appL at0 small]
        rw [hS]
        simp [List.take_add_one, lr, rD])
  subst he10 hS10
  have lrl : (laidRows W F).length = F.length := by unfold laidRows; rw [List.length_map]
  rw [List.take_of_length_le (by rw [lrl]; exact Nat.le_refl _)] at st10
  obtain ⟨T10, hT10⟩ : ∃ T10, T10 = T9 ++ .lst ((laidRows W F).map rD) :: G10 := ⟨_, rfl⟩
  rw [← hT10] at st10
  have at10 : T10[T9.length]? = some (.lst ((laidRows W F).map rD)) := by rw [hT10]; simp
  have p10 : Pre T9 T10 := ⟨_, hT10⟩
  obtain ⟨G11, r11⟩ := ev_lc (fi := iSeq (cV 1)) (gt := gN 12) (te := cOp2 gIx (cV 9) (cOp2 gIx (cV 2) (cV 12))) (us := [12])
    (e := [some (mD m), some (.tup (nsD bs)), some (.tup (nsD L)), some (.ref S.length), y4, z5, some (.ref (S.length + 1)), some (.ref T5.length), some (.ref T7.length), some (.ref T8.length), some (.ref T9.length), none, none, none]) (S := T10) (S1 := T10) (src := .fix (nsD bs)) (ds := nsD bs) (ys := nsD (cs.map (pos F)))
    (by simp) (by rw [nsD_len, nsD_len, List.length_map, csl]) (by rw [nsD_len]; omega) (src_fix _) (fun i d y S2 hd hy p => by
      cases eb : bs[i]? with
      | none => rw [List.getElem?_eq_none (by rw [nsD_len]; have := List.getElem?_eq_none_iff.mp eb; omega)] at hd; cases hd
      | some b =>
        rw [nsD_get eb] at hd
        have hd := Option.some.inj hd
        subst hd
        have ec : cs[i]? = some (L.getD b 0) := by rw [hcs, List.getElem?_map, eb]; rfl
        have ec2 : (cs.map (pos F))[i]? = some (pos F (L.getD b 0)) := by rw [List.getElem?_map, ec]; rfl
        rw [nsD_get ec2] at hy
        have hy := Option.some.inj hy
        subst hy
        have ix : gIx S2 (.tup (nsD L)) (.int b) = .ok (.int (L.getD b 0)) S2 := x_ixT (nsD_getD (by rw [hL.len]; exact hbs b (List.mem_of_getElem? eb)))
        have ix2 : gIx S2 (.ref T8.length) (.int (L.getD b 0)) = .ok (.int (pos F (L.getD b 0))) S2 := by
          rw [funB_ix ((p10.trans p).get at9) (Fcs _ (List.mem_of_getElem? ec)), hnum]
        refine ⟨_, S2, rfl, ?_, Pre.refl _⟩
        simp only [List.getD_eq_getElem?_getD] at ix ix2 ⊢
        simp [wipeE, ix, ix2])
  have tp1 := x_tupL (S := T10 ++ .lst (nsD (cs.map (pos F))) :: G11) (n := T10.length) at_new
  have tp2 := x_tupL (S := T10 ++ .lst (nsD (cs.map (pos F))) :: G11) (n := T9.length) (Pre.get ⟨_, rfl⟩ at10)
  refine ⟨cs.map (pos F), laidRows W F, T10 ++ .lst (nsD (cs.map (pos F))) :: G11, ⟨W, cs, F, Wrd, by omega, csl, fun i b k hb2 hk => ?_, hF, rfl, rfl⟩, fn_of_rt ?_⟩
  · rw [hcs, List.getElem?_map, hb2] at hk
    have hk := Option.some.inj hk
    subst hk
    have lt := hbs b (List.mem_of_getElem? hb2)
    exact ⟨by rw [Wl, hc]; exact hL.lt lt, by rw [hW]; exact (whole_sim hm hL lt).symm⟩
  · show den_laid_together F_come_to F_lots_of [some (mD m), some (.tup (nsD bs)), none, none, none, none, none, none, none, none, none, none, none, none] S = _
    unfold den_laid_together
    rw [ev_seq st1, ev_seq st2, ev_seq st3, ev_seq st4, ev_seq (ev_set r5)]
    show sSeq _ _ [some (mD m), some (.tup (nsD bs)), some (.tup (nsD L)), some (.ref S.length), y4, y5, some (.ref (S.length + 1)), some (.ref T5.length), none, none, none, none, none, none] _ = _
    rw [ev_seq st8, ev_seq (ev_set r9)]
    show sSeq _ _ [some (mD m), some (.tup (nsD bs)), some (.tup (nsD L)), some (.ref S.length), y4, y5, some (.ref (S.length + 1)), some (.ref T5.length), some (.ref T7.length), some (.ref T8.length), none, none, none, none] _ = _
    rw [ev_seq (ev_set (d := .ref T9.length) (S1 := T9 ++ [.lst []]) rfl)]
    show sSeq _ _ [some (mD m), some (.tup (nsD bs)), some (.tup (nsD L)), some (.ref S.length), y4, y5, some (.ref (S.length + 1)), some (.ref T5.length), some (.ref T7.length), some (.ref T8.length), some (.ref T9.length), none, none, none] _ = _
    rw [ev_seq st10]
    show _ = Re.rt (.tup [.tup (nsD (cs.map (pos F))), .tup ((laidRows W F).map rD)]) _
    simp [r11, tp1, tp2]
theorem laid_ev {m : Ms} {bs : List Nat} (hm : WF m) (hb : m.length ≤ 63) (hbs : ∀ b ∈ bs, b < m.length) (hbl : bs.length ≤ 1000) :
    ∃ ns R, Laid m bs ns R ∧ Ev F_laid_together [mD m, .tup (nsD bs)] (.tup [.tup (nsD ns), mD R]) := by
  obtain ⟨ns, R, T, h, e⟩ := laid_run (bs := bs) [] hm hb hbs hbl
  exact ⟨ns, R, h, by simp [D.pureL, D.pure, mD_pure, nsD_pure], by simp [D.pureL, D.pure, mD_pure, nsD_pure], T, e⟩
end K33

set_option Elab.async false
set_option linter.all false
set_option maxRecDepth 100000
set_option maxHeartbeats 8000000
namespace K33
open Dl
theorem eq_int {S : Store} {a b : Int} : gEq S (.int a) (.int b) = .ok (.bl (a == b)) S := rfl
/-- a machine that the library may be handed -/
structure Mach (m : Ms) : Prop where
  wf : WF m
  ne : m ≠ []
  few : m.length ≤ 63
theorem Mach.rows {m : Ms} (h : Mach m) : Ev F_is_rows [mD m] (.bl true) := is_rows_ok h.wf h.ne (by have := h.few; omega)
theorem Mach.pos {m : Ms} (h : Mach m) : 0 < m.length := List.length_pos_iff.mpr h.ne
theorem least_of_ev {m : Ms} (h : Mach m) : ∃ ns R, Laid m [0] ns R ∧ Ev F_least_of [mD m] (mD R) := by
  obtain ⟨ns, R, hL, e⟩ := laid_ev (bs := [0]) h.wf h.few (fun b hb => by rw [List.mem_singleton.mp hb]; exact h.pos) (by simp)
  refine ⟨ns, R, hL, by simp [D.pureL, mD_pure], mD_pure R, [], fn_of_rt ?_⟩
  have e2 := e.run []
  have : D.tup (nsD [0]) = .tup [.int 0] := rfl
  rw [this] at e2
  have e3 : runF F_is_rows [] [mD m] = .ok (.bl true) [] := h.rows.run []
  simp [den_least_of, e3, e2]
theorem least_of_exc (S : Store) : runF F_least_of S [.tup []] = .exc 0 S := by
  refine runF_exc (T := []) rfl ?_ S
  have : F_is_rows [.tup []] [] = .ok (.bl false) [] := by
    refine fn_of_rt ?_
    have := ne_nil (S := []) (ds := []) rfl
    simp [den_is_rows, this]
  have e : runF F_is_rows [] [.tup []] = .ok (.bl false) [] := Ev.run ⟨rfl, rfl, _, this⟩ []
  refine fn_exc (e := [some (.tup [])]) ?_
  simp [den_least_of, e]
/-! ### sure -/
def Sure (m : Ms) : Prop := ∀ (i s : Nat) (w : Wd) (k : Nat), cell m i s = some (w, k) → w ≠ .n
theorem sure_row {m : Ms} (h : Sure m) {i : Nat} {r : List Tl} (e : m[i]? = some r) : ∀ t ∈ r, ∀ w k, t = some (w, k) → w ≠ .n := fun t ht w k q => by
  subst q
  obtain ⟨s, hs⟩ := cell_mem e ht
  exact h i s w k hs
theorem sure_lc {m : Ms} (hm : WF m) (hs : Sure m) (hb : m.length ≤ 1000) {is : List Nat} (hi : ∀ i ∈ is, i < m.length) (hil : is.length ≤ 1000) {fi f1 : DI} {src : Src} {e : Env} {S S1 : Store} {b : Nat} {us us1 : List Nat} {enc : Nat → D} {gt : DG} (h : fi e S = .ok src S1)
    (hsrc : ∀ (S : Store) (i : Nat), Pre S1 S → src.at S i = (is[i]?).map enc)
    (hg : ∀ (i : Nat) (S : Store), i < m.length → Pre S1 S → ∃ e1, gt (enc i) (wipeE e us) S = .ok e1 S ∧ f1 e1 S = .ok (.fix (((m[i]?).getD []).map tD)) S ∧ ∀ o S', cV b ((wipeE e1 us1).set b (some o)) S' = .ok o S') :
    ∃ G, cLc2 fi gt kYes f1 (gN b) kYes (cOr (cOp2 gIs (cV b) (cC .non)) (cOp2 gNot (cOp2 gIx (cV b) (cC (.int 0))) (cC .non))) us us1 e S = .ok (.ref S1.length) (S1 ++ .lst ((List.replicate (3 * is.length) true).map D.bl) :: G) := by
  have len3 : ∀ i ∈ is, ((m[i]?).getD []).length = 3 := fun i z => by
    rw [List.getElem?_eq_getElem (hi i z)]
    exact hm.three i _ (List.getElem?_eq_getElem (hi i z))
  have fl : ((is.map fun i => (enc i, ((m[i]?).getD []).map tD, ((m[i]?).getD []).map fun _ => D.bl true)).map (·.2.2)).flatten = (List.replicate (3 * is.length) true).map D.bl := by
    clear h hsrc hg hil hi
    induction is with
    | nil => rfl
    | cons i is ih =>
      rw [List.map_cons, List.map_cons, List.flatten_cons, ih (fun j hj => len3 j (List.mem_cons_of_mem _ hj))]
      have h3 := len3 i (List.mem_cons_self ..)
      have : ((m[i]?).getD []).map (fun _ => D.bl true) = [.bl true, .bl true, .bl true] := by
        match (m[i]?).getD [], h3 with
        | [a, b, c], _ => rfl
      show ((m[i]?).getD []).map (fun _ => D.bl true) ++ _ = _
      rw [this, List.length_cons, show 3 * (is.length + 1) = 3 * is.length + 1 + 1 + 1 from by omega]
      rfl
  obtain ⟨G, r⟩ := ev_lc2 (fi := fi) (f1 := f1) (src := src) (gt := gt) (g1 := gN b) (te := cOr (cOp2 gIs (cV b) (cC .non)) (cOp2 gNot (cOp2 gIx (cV b) (cC (.int 0))) (cC .non))) (us := us) (us1 := us1) (e := e) (S := S) (S1 := S1)
    (dss := is.map fun i => (enc i, ((m[i]?).getD []).map tD, ((m[i]?).getD []).map fun _ => D.bl true)) h (fun S i p => by rw [hsrc S i p, List.getElem?_map]; cases is[i]? <;> rfl)
    (fun i p S hp pre => by
      rw [List.getElem?_map] at hp
      cases ei : is[i]? with
      | none => rw [ei] at hp; cases hp
      | some q =>
        rw [ei] at hp
        have hp := Option.some.inj hp
        subst hp
        have hq := hi q (List.mem_of_getElem? ei)
        obtain ⟨e1, a1, a2, a3⟩ := hg q S hq pre
        refine ⟨e1, a1, a2, by simp, fun j d y S' hd hy pre2 => ?_⟩
        have er : m[q]? = some m[q] := List.getElem?_eq_getElem hq
        rw [List.getElem?_map] at hd hy
        cases et : ((m[q]?).getD [])[j]? with
        | none => rw [et] at hd; cases hd
        | some t =>
          rw [et] at hd hy
          have hd := Option.some.inj hd
          have hy := Option.some.inj hy
          subst hd hy
          refine ⟨_, S', rfl, ?_, Pre.refl _⟩
          rw [er] at et
          have st := sure_row hs er t (List.mem_of_getElem? et)
          cases t with
          | none => simp [a3, tD]
          | some p =>
            obtain ⟨w, k⟩ := p
            have := st w k rfl
            cases w <;> simp [a3, tD, Wd.d] at this ⊢) (by rw [fl]; simp; omega) (by simp; omega)
  rw [fl] at r
  exact ⟨G, r⟩
theorem all_rep (n : Nat) : (List.replicate n true).all id = true := by
  rw [List.all_eq_true]
  intro b hb
  rw [(List.mem_replicate.mp hb).2]; rfl
theorem is_sure_ev {m : Ms} (hm : WF m) (hs : Sure m) (hb : m.length ≤ 1000) : Ev F_is_sure [mD m] (.bl true) := by
  obtain ⟨G, r⟩ := sure_lc hm hs hb (is := List.range m.length) (fun i h => List.mem_range.mp h) (by simpa using hb) (fi := iSeq (cV 0)) (f1 := iSeq (cV 1)) (src := .fix (m.map rD)) (e := [some (mD m), none, none]) (S := []) (S1 := []) (b := 2) (us := [1, 2]) (us1 := [2]) (enc := fun i => rD ((m[i]?).getD [])) (gt := gN 1)
    rfl (fun S i _ => by
      show (m.map rD)[i]? = _
      rw [List.getElem?_map]
      by_cases hi : i < m.length
      · rw [List.getElem?_range hi, List.getElem?_eq_getElem hi]
        show some (rD m[i]) = some (rD ((m[i]?).getD []))
        rw [List.getElem?_eq_getElem hi]; rfl
      · rw [List.getElem?_eq_none (by omega), List.getElem?_eq_none (by simp; omega)]; rfl)
    (fun i S hi _ => ⟨_, rfl, by simp [wipeE, rD], fun o S' => by simp [wipeE]⟩)
  refine ⟨by simp [D.pureL, mD_pure], rfl, _, fn_of_rt (S' := [] ++ .lst ((List.replicate (3 * (List.range m.length).length) true).map D.bl) :: G) ?_⟩
  have ha := x_allL (S := [] ++ .lst ((List.replicate (3 * (List.range m.length).length) true).map D.bl) :: G) (n := ([] : Store).length) at_new
  rw [all_rep] at ha
  show den_is_sure [some (mD m), none, none] [] = _
  unfold den_is_sure
  rw [ev_ret]
  refine (ev_call (ev_aC r ev_aN)).trans ha
end K33

set_option Elab.async false
set_option linter.all false
set_option maxRecDepth 100000
set_option maxHeartbeats 8000000
namespace K33
open Dl
theorem shL_ns (k : Nat) : ∀ l : List Nat, D.shL k (nsD l) = nsD l
  | [] => by unfold nsD; simp [D.shL]
  | x :: l => by
    show D.shL k (D.int x :: nsD l) = D.int x :: nsD l
    unfold D.shL
    rw [shL_ns k l]
    rfl
theorem come_run {m : Ms} {bs : List Nat} (hm : WF m) (hl : m.length ≤ 1000) (hb : ∀ b ∈ bs, b < m.length) (hbl : bs.length ≤ 1000) (S : Store) :
    ∃ F G, Bfs m (dd [] bs) 0 F ∧ runF F_come_to S [mD m, .tup (nsD bs)] = .ok (.ref S.length) (S ++ .lst (nsD F) :: G) := by
  obtain ⟨F, hF, e⟩ := come_to_ev (W := m) (bs := bs) (R := mD m) (B := .tup (nsD bs)) (S := []) (sB := .fix (nsD bs)) hm hb hl hbl (fun X Y i r h => x_ixT (by rw [List.getElem?_map, h]; rfl)) (fun X Y => rfl) (fun X Y i => rfl)
  refine ⟨F, [DO.sh S.length (.dk (metD F))], hF, ?_⟩
  have hp : D.pureL [mD m, .tup (nsD bs)] = true := by simp [D.pureL, D.pure, mD_pure, nsD_pure]
  unfold runF
  rw [if_pos hp, e]
  dsimp only
  rw [if_neg (by simp [D.pure])]
  simp [DO.sh, D.sh, shL_ns]
theorem bfs_sim {m R : Ms} (hR : WF R) (hm : WF m) {l F : List Nat} {a : Nat} (h : Bfs R l a F) : (∀ x ∈ l, ∃ j, j < m.length ∧ Sim m j R x) → ∀ x ∈ F, ∃ j, j < m.length ∧ Sim m j R x := by
  induction h with
  | stop _ => exact id
  | @go l F a i row e er _ ih =>
    intro h
    refine ih fun x hx => ?_
    obtain ⟨j, hj, s⟩ := h i (List.mem_of_getElem? e)
    have key : ∀ (r : List Tl) (l : List Nat), (∀ t ∈ r, t ∈ row) → (∀ x ∈ l, ∃ j, j < m.length ∧ Sim m j R x) → ∀ x ∈ stepRow l r, ∃ j, j < m.length ∧ Sim m j R x := by
      intro r
      induction r with
      | nil => intro l _ h; exact h
      | cons t r ih2 =>
        intro l ht h
        cases t with
        | none => exact ih2 l (fun t z => ht t (List.mem_cons_of_mem _ z)) h
        | some p =>
          refine ih2 (push l p.2) (fun t z => ht t (List.mem_cons_of_mem _ z)) fun y hy => ?_
          rcases mem_push.mp hy with hy | hy
          · exact h y hy
          · subst hy
            obtain ⟨q, hq⟩ := cell_mem (w := p.1) (k := p.2) er (ht _ (List.mem_cons_self ..))
            have g := sim_step s q
            rw [hq] at g
            cases c : cell m j q with
            | none => rw [c] at g; exact g.elim
            | some p2 =>
              rw [c] at g
              obtain ⟨w2, k2⟩ := p2
              exact ⟨k2, hm.to _ _ _ _ c, g.2⟩
    exact key row l (fun _ z => z) h x hx
/-- what is laid of a sure machine is sure -/
theorem laid_sure {m : Ms} {bs ns : List Nat} {R : Ms} (hm : WF m) (hs : Sure m) (hb : ∀ b ∈ bs, b < m.length) (h : LaidOk m bs ns R) : Sure R := by
  intro i s w k c
  have hi : i < R.length := by
    obtain ⟨r, a, _⟩ := cell_some c
    exact (List.getElem?_eq_some_iff.mp a).1
  obtain ⟨j, hj, sm⟩ := bfs_sim h.rd.wf hm h.line (fun x hx => by
    have hx := ((mem_dd _).mp hx).resolve_left List.not_mem_nil
    obtain ⟨q, hq⟩ := List.getElem?_of_mem hx
    have hq2 : q < bs.length := by rw [← h.nlen]; exact (List.getElem?_eq_some_iff.mp hq).1
    have eb : bs[q]? = some bs[q] := List.getElem?_eq_getElem hq2
    exact ⟨_, hb _ (List.mem_of_getElem? eb), (h.sim q _ x eb hq).2⟩) i (List.mem_range.mpr hi)
  have g := sim_step sm s
  rw [c] at g
  cases c2 : cell m j s with
  | none => rw [c2] at g; exact g.elim
  | some p2 =>
    rw [c2] at g
    obtain ⟨w2, k2⟩ := p2
    obtain ⟨rfl, _⟩ := g
    exact hs j s w2 k2 c2
theorem laid_mach {m : Ms} {bs ns : List Nat} {R : Ms} (hb : bs ≠ []) (hf : m.length ≤ 63) (h : LaidOk m bs ns R) : Mach R := by
  refine ⟨h.rd.wf, fun e => ?_, Nat.le_trans h.len hf⟩
  have h1 : 0 < bs.length := List.length_pos_iff.mpr hb
  have h2 : 0 < ns.length := by rw [h.nlen]; exact h1
  have := (h.sim 0 _ _ (List.getElem?_eq_getElem h1) (List.getElem?_eq_getElem h2)).1
  rw [e] at this
  exact absurd this (Nat.not_lt_zero _)
def bothD (a b : Nat) (m : Ms) : D := .tup [.int a, .int b, mD m]
theorem both_pure (a b : Nat) (m : Ms) : (bothD a b m).pure = true := by simp [bothD, D.pure, D.pureL, mD_pure]
theorem cut2 {a b c : D} : cutD [a, b, c] none (some 2) = [a, b] := rfl
theorem cut1 {a b c : D} : cutD [a, b, c] none (some 1) = [a] := rfl
theorem is_both_ev {m : Ms} {a b : Nat} (h : Mach m) (hs : Sure m) (ha : a < m.length) : Ev F_is_both [bothD a b m] (.bl (decide (b < m.length))) := by
  refine ⟨by simp [D.pureL, both_pure], rfl, ?_⟩
  have e1 : runF F_is_rows [] [mD m] = .ok (.bl true) [] := h.rows.run []
  have ln : gLen ([] : Store) [mD m] = .ok (.int m.length) [] := by show Rs.ok (D.int ((m.map rD).length : Nat)) ([] : Store) = _; rw [List.length_map]
  have c1 : (if (b < m.length) then D.bl true else D.bl false) = .bl (decide (b < m.length)) := by split <;> simp_all
  obtain ⟨G2, r2⟩ := ev_lc (fi := iSeq (cSl (cV 0) oNone (oSome (cC (.int 2))))) (gt := gN 3) (te := cAnd (cFn 1 F_is_count (aC (cV 3) aN)) (cOp2 gLt (cV 3) (cCall gLen (aC (cOp2 gIx (cV 0) (cC (.int 2))) aN)))) (us := [3]) (e := [some (bothD a b m), none, none, none]) (S := []) (S1 := []) (src := .fix (nsD [a, b])) (ds := nsD [a, b]) (ys := [true, decide (b < m.length)].map D.bl)
    (by simp [bothD, gSl, cut2]; rfl) rfl (by simp [nsD_len]) (src_fix []) (fun i d y S' hd hy _ => by
      have ln2 : gLen S' [mD m] = .ok (.int m.length) S' := by show Rs.ok (D.int ((m.map rD).length : Nat)) S' = _; rw [List.length_map]
      match i with
      | 0 =>
        cases hd; cases hy
        refine ⟨_, S', rfl, ?_, Pre.refl _⟩
        simp [wipeE, (is_cnt a).run S', bothD, ln2]
        omega
      | 1 =>
        cases hd; cases hy
        refine ⟨_, S', rfl, ?_, Pre.refl _⟩
        simp [wipeE, (is_cnt b).run S', bothD, ln2]
      | i + 2 => cases hd)
  obtain ⟨T2, hT2⟩ : ∃ T2 : Store, T2 = [] ++ .lst ([true, decide (b < m.length)].map D.bl) :: G2 := ⟨_, rfl⟩
  rw [← hT2] at r2
  have a2 := x_allL (S := T2) (n := 0) (bs := [true, decide (b < m.length)]) (by rw [hT2]; rfl)
  have hb2 : bothD a b m = .tup [.int a, .int b, mD m] := rfl
  have stA : sIf (kOr (kNot (kB (cIsi .tuple (cV 0)))) (kOr (kB (cOp2 gNe (cCall gLen (aC (cV 0) aN)) (cC (.int 3)))) (kNot (kB (cFn 1 F_is_rows (aC (cOp2 gIx (cV 0) (cC (.int 2))) aN)))))) (sRet (cC (.bl false))) sNext [some (bothD a b m), none, none, none] [] = .nx [some (bothD a b m), none, none, none] [] := by
    simp [hb2, e1]
  by_cases hbl : b < m.length
  · rw [decide_eq_true hbl] at a2 ⊢
    obtain ⟨F, G3, hF, r3⟩ := come_run (m := m) (bs := [a]) h.wf (by have := h.few; omega) (fun x hx => by rw [List.mem_singleton.mp hx]; exact ha) (by simp) T2
    have Flt : ∀ x ∈ F, x < m.length := bfs_in h.wf hF fun x hx => by
      have := ((mem_dd _).mp hx).resolve_left List.not_mem_nil
      rw [List.mem_singleton.mp this]; exact ha
    have Fnd : F.Nodup := bfs_nodup hF (dd_nodup _ List.nodup_nil)
    have Fl := few_below _ F Fnd Flt
    have hfew := h.few
    have at3 : (T2 ++ .lst (nsD F) :: G3)[T2.length]? = some (.lst (nsD F)) := at_new
    obtain ⟨G4, r4⟩ := sure_lc h.wf hs (by omega) (is := F) Flt (by omega) (fi := iSeq (cFn 2 F_come_to (aC (cOp2 gIx (cV 0) (cC (.int 2))) (aC (cSl (cV 0) oNone (oSome (cC (.int 1)))) aN)))) (f1 := iSeq (cOp2 gIx (cOp2 gIx (cV 0) (cC (.int 2))) (cV 1))) (src := .live T2.length) (e := [some (bothD a b m), none, none, none]) (S := T2) (S1 := T2 ++ .lst (nsD F) :: G3) (b := 2) (us := [1, 2]) (us1 := [2]) (enc := fun i => .int i) (gt := gN 1)
      (by
        simp [hb2, gSl, cut1]
        have : D.tup [.int a] = .tup (nsD [a]) := rfl
        rw [this, r3]
        simp [x_srcL at3]) (fun S i p => by rw [src_live at3 S i p]; unfold nsD; rw [List.getElem?_map]) (fun i S hi _ => by
        have er : m[i]? = some m[i] := List.getElem?_eq_getElem hi
        have ix : gIx S (mD m) (.int i) = .ok (rD m[i]) S := x_ixT (by rw [List.getElem?_map, er]; rfl)
        refine ⟨_, rfl, ?_, fun o S' => by simp [wipeE]⟩
        rw [er]
        simp [wipeE, hb2, ix, rD])
    obtain ⟨T5, hT5⟩ : ∃ T5, T5 = (T2 ++ .lst (nsD F) :: G3) ++ .lst ((List.replicate (3 * F.length) true).map D.bl) :: G4 := ⟨_, rfl⟩
    rw [← hT5] at r4
    have ha := x_allL (S := T5) (n := (T2 ++ .lst (nsD F) :: G3).length) (bs := List.replicate (3 * F.length) true) (by rw [hT5]; exact at_new)
    rw [all_rep] at ha
    refine ⟨T5, fn_of_rt ?_⟩
    show den_is_both F_come_to F_is_count F_is_rows [some (bothD a b m), none, none, none] [] = _
    unfold den_is_both
    rw [ev_seq stA, ev_seq (e1 := [some (bothD a b m), none, none, none]) (S1 := T2) (by
      rw [x_sIf, x_kNot, x_kB, x_call, ev_aC r2 ev_aN]
      simp only [List.length_nil]
      rw [x_bind, a2]
      rfl)]
    exact ev_ret ((ev_call (ev_aC r4 ev_aN)).trans ha)
  · rw [decide_eq_false hbl] at a2 ⊢
    refine ⟨T2, fn_of_rt ?_⟩
    show den_is_both F_come_to F_is_count F_is_rows [some (bothD a b m), none, none, none] [] = _
    unfold den_is_both
    rw [ev_seq stA]
    refine ev_seq_rt ?_
    rw [x_sIf, x_kNot, x_kB, x_call, ev_aC r2 ev_aN]
    simp only [List.length_nil]
    rw [x_bind, a2]
    rfl
theorem least_both_ev {m : Ms} {a b : Nat} (h : Mach m) (hs : Sure m) (ha : a < m.length) (hb : b < m.length) : ∃ x y R, Laid m [a, b] [x, y] R ∧ Ev F_least_both [bothD a b m] (bothD x y R) := by
  obtain ⟨ns, R, hL, e⟩ := laid_ev (bs := [a, b]) h.wf h.few (fun z hz => by
    rcases List.mem_cons.mp hz with rfl | hz
    · exact ha
    · rw [List.mem_singleton.mp hz]; exact hb) (by simp)
  have nl := hL.ok.nlen
  match ns, nl, hL, e with
  | [x, y], _, hL, e =>
    refine ⟨x, y, R, hL, by simp [D.pureL, both_pure], both_pure x y R, [], fn_of_rt ?_⟩
    have e1 := (is_both_ev (b := b) h hs ha).run []
    rw [decide_eq_true hb] at e1
    have e2 := e.run []
    have n1 : D.tup (nsD [a, b]) = .tup [.int a, .int b] := rfl
    have n2 : D.tup (nsD [x, y]) = .tup [.int x, .int y] := rfl
    rw [n1, n2] at e2
    unfold bothD at e1 ⊢
    simp [den_least_both, e1, gSl, cut2, e2, aSt, starK, starK2]
theorem alike_ev {m : Ms} {a b : Nat} (h : Mach m) (ha : a < m.length) (hb : b < m.length) : ∃ p : Bool, (p = true ↔ Sim m a m b) ∧ Ev F_are_standings_alike [mD m, .int a, .int b] (.bl p) := by
  obtain ⟨L, hL, eL⟩ := lots_ev h.wf (by have := h.few; omega)
  have e1 : runF F_is_rows [] [mD m] = .ok (.bl true) [] := h.rows.run []
  refine ⟨decide (L.getD a 0 = L.getD b 0), by rw [decide_eq_true_iff]; exact hL.iff a b ha hb, by simp [D.pureL, D.pure, mD_pure], rfl, ?_⟩
  obtain ⟨G2, r2⟩ := ev_lc (fi := iSeq (cTup (aC (cV 1) (aC (cV 2) aN)))) (gt := gN 4) (te := cAnd (cFn 1 F_is_count (aC (cV 4) aN)) (cOp2 gLt (cV 4) (cCall gLen (aC (cV 0) aN)))) (us := [4]) (e := [some (mD m), some (.int a), some (.int b), none, none]) (S := []) (S1 := []) (src := .fix (nsD [a, b])) (ds := nsD [a, b]) (ys := [true, true].map D.bl)
    (by simp; rfl) rfl (by simp [nsD_len]) (src_fix []) (fun i d y S' hd hy _ => by
      have ln2 : gLen S' [mD m] = .ok (.int m.length) S' := by show Rs.ok (D.int ((m.map rD).length : Nat)) S' = _; rw [List.length_map]
      match i with
      | 0 =>
        cases hd; cases hy
        refine ⟨_, S', rfl, ?_, Pre.refl _⟩
        simp [wipeE, (is_cnt a).run S', ln2]
        omega
      | 1 =>
        cases hd; cases hy
        refine ⟨_, S', rfl, ?_, Pre.refl _⟩
        simp [wipeE, (is_cnt b).run S', ln2]
        omega
      | i + 2 => cases hd)
  obtain ⟨T2, hT2⟩ : ∃ T2 : Store, T2 = [] ++ .lst ([true, true].map D.bl) :: G2 := ⟨_, rfl⟩
  rw [← hT2] at r2
  have a2 := x_allL (S := T2) (n := ([] : Store).length) (bs := [true, true]) (by rw [hT2]; rfl)
  have ia : gIx T2 (.tup (nsD L)) (.int a) = .ok (.int (L.getD a 0)) T2 := x_ixT (nsD_getD (by rw [hL.len]; exact ha))
  have ib : gIx T2 (.tup (nsD L)) (.int b) = .ok (.int (L.getD b 0)) T2 := x_ixT (nsD_getD (by rw [hL.len]; exact hb))
  have st1 : sIf (kOr (kNot (kB (cFn 1 F_is_rows (aC (cV 0) aN)))) (kNot (kB (cCall gAll (aC (cLc (iSeq (cTup (aC (cV 1) (aC (cV 2) aN)))) (gN 4) kYes (cAnd (cFn 1 F_is_count (aC (cV 4) aN)) (cOp2 gLt (cV 4) (cCall gLen (aC (cV 0) aN)))) [4]) aN))))) (sRaise 0) sNext [some (mD m), some (.int a), some (.int b), none, none] [] = .nx [some (mD m), some (.int a), some (.int b), none, none] T2 := by
    rw [x_sIf, x_kOr, show (kNot (kB (cFn 1 F_is_rows (aC (cV 0) aN)))) [some (mD m), some (.int a), some (.int b), none, none] [] = .ok false [] from by simp [e1], x_bind]
    rw [if_neg (by decide), x_kNot, x_kB, x_call, ev_aC r2 ev_aN, x_bind, a2]
    rfl
  refine ⟨T2, fn_of_rt ?_⟩
  show den_are_standings_alike F_lots_of F_is_count F_is_rows [some (mD m), some (.int a), some (.int b), none, none] [] = _
  unfold den_are_standings_alike
  rw [ev_seq st1, ev_seq (ev_set (d := .tup (nsD L)) (S1 := T2) (by simp [eL.run]))]
  simp only [List.getD_eq_getElem?_getD] at ia ib ⊢
  simp [ia, ib]
  by_cases hc : (L[a]?).getD 0 = (L[b]?).getD 0
  · rw [hc]; simp
  · rw [decide_eq_false hc]; simp; omega
end K33

set_option Elab.async false
set_option linter.all false
set_option maxRecDepth 100000
set_option maxHeartbeats 8000000
namespace K33
open PySem PySem.Spec Dl
/-! ### couples of standings -/
structure CI (m m' : Ms) (a b c : Nat) (l : List (Nat × Nat)) : Prop where
  nd : l.Nodup
  lt : ∀ p ∈ l, p.1 < m.length ∧ p.2 < m'.length
  st : (a, b) ∈ l
  sim : Sim m a m' b → ∀ p ∈ l, Sim m p.1 m' p.2
  cl : ∀ (j x y : Nat), j < c → l[j]? = some (x, y) → ∀ s, Go (fun k k' => (k, k') ∈ l) (cell m x s) (cell m' y s)
section
variable {m m' : Ms} {a b c x y i : Nat} {l l0 : List (Nat × Nat)}
theorem pairs_few {n n' : Nat} (nd : l.Nodup) (lt : ∀ p ∈ l, p.1 < n ∧ p.2 < n') : l.length ≤ n * n' := by
  have := few_below (n * n') (l.map fun p => p.1 * n' + p.2) ?_ ?_
  · simpa using this
  · refine List.pairwise_map.mpr (List.Pairwise.imp_of_mem (fun {p q} hp hq ne h => ne ?_) nd)
    obtain ⟨p1, p2⟩ := lt p hp
    obtain ⟨q1, q2⟩ := lt q hq
    have h : p.1 * n' + p.2 = q.1 * n' + q.2 := h
    have e2 : p.2 = q.2 := by
      have h1 : (p.1 * n' + p.2) % n' = p.2 := by rw [Nat.mul_comm, Nat.mul_add_mod, Nat.mod_eq_of_lt p2]
      have h2 : (q.1 * n' + q.2) % n' = q.2 := by rw [Nat.mul_comm, Nat.mul_add_mod, Nat.mod_eq_of_lt q2]
      rw [← h1, h, h2]
    have e1 : p.1 = q.1 := by
      rw [e2] at h
      have : p.1 * n' = q.1 * n' := by omega
      exact Nat.eq_of_mul_eq_mul_right (by omega) this
    exact Prod.ext e1 e2
  · intro z hz
    obtain ⟨p, hp, rfl⟩ := List.mem_map.mp hz
    obtain ⟨p1, p2⟩ := lt p hp
    have : (p.1 + 1) * n' ≤ n * n' := Nat.mul_le_mul_right _ p1
    rw [Nat.add_mul] at this
    omega
theorem CI.len (h : CI m m' a b c l) : l.length ≤ m.length * m'.length := pairs_few h.nd h.lt
theorem CI.fin (h : CI m m' a b c l) (hc : l.length ≤ c) : Sim m a m' b := by
  refine sim_of (fun i j => (i, j) ∈ l) (fun i j hij s => ?_) h.st
  obtain ⟨q, hq⟩ := List.getElem?_of_mem hij
  exact h.cl q i j (by have := (List.getElem?_eq_some_iff.mp hq).1; omega) hq s
/-- within the row at c, the signs below i seen -/
structure CR (m m' : Ms) (a b c x y i : Nat) (l0 l : List (Nat × Nat)) : Prop where
  at0 : l0[c]? = some (x, y)
  ci : CI m m' a b c l0
  ex : ∃ r, l = l0 ++ r
  nd : l.Nodup
  lt : ∀ p ∈ l, p.1 < m.length ∧ p.2 < m'.length
  sim : Sim m a m' b → ∀ p ∈ l, Sim m p.1 m' p.2
  go : ∀ s, s < i → Go (fun k k' => (k, k') ∈ l) (cell m x s) (cell m' y s)
theorem Go.mono {R R' : Nat → Nat → Prop} (h : ∀ k k', R k k' → R' k k') : ∀ {t t' : Tl}, Go R t t' → Go R' t t'
  | none, none, _ => trivial
  | some (_, _), some (_, _), g => ⟨g.1, h _ _ g.2⟩
  | none, some _, g => g.elim
  | some (_, _), none, g => g.elim
theorem CI.row (h : CI m m' a b c l0) (e : l0[c]? = some (x, y)) : CR m m' a b c x y 0 l0 l0 := ⟨e, h, ⟨[], (List.append_nil _).symm⟩, h.nd, h.lt, h.sim, fun s hs => absurd hs (Nat.not_lt_zero s)⟩
theorem CR.none (h : CR m m' a b c x y i l0 l) (e : cell m x i = none) (e' : cell m' y i = none) : CR m m' a b c x y (i + 1) l0 l := ⟨h.at0, h.ci, h.ex, h.nd, h.lt, h.sim, fun s hs => by
  rcases Nat.lt_succ_iff_lt_or_eq.mp hs with hs | rfl
  · exact h.go s hs
  · rw [e, e']; trivial⟩
theorem CR.mem (h : CR m m' a b c x y i l0 l) : (x, y) ∈ l := by
  obtain ⟨r, e⟩ := h.ex
  rw [e]
  exact List.mem_append_left _ (List.mem_of_getElem? h.at0)
theorem CR.some (hm : WF m) (hm' : WF m') (h : CR m m' a b c x y i l0 l) {w : Wd} {k k' : Nat} (e : cell m x i = some (w, k)) (e' : cell m' y i = some (w, k')) : CR m m' a b c x y (i + 1) l0 (push l (k, k')) := by
  have pre : ∃ r, push l (k, k') = l ++ r := push_pre l (k, k')
  refine ⟨h.at0, h.ci, ?_, push_nodup h.nd, fun p hp => ?_, fun s p hp => ?_, fun s hs => ?_⟩
  · obtain ⟨r, e1⟩ := h.ex
    obtain ⟨r2, e2⟩ := pre
    exact ⟨r ++ r2, by rw [e2, e1, List.append_assoc]⟩
  · rcases mem_push.mp hp with hp | rfl
    · exact h.lt p hp
    · exact ⟨hm.to _ _ _ _ e, hm'.to _ _ _ _ e'⟩
  · rcases mem_push.mp hp with hp | rfl
    · exact h.sim s p hp
    · have g := sim_step (h.sim s _ h.mem) i
      rw [e, e'] at g
      exact g.2
  · have up : ∀ k1 k2, (k1, k2) ∈ l → (k1, k2) ∈ push l (k, k') := fun k1 k2 z => mem_push.mpr (.inl z)
    rcases Nat.lt_succ_iff_lt_or_eq.mp hs with hs | rfl
    · exact (h.go s hs).mono up
    · rw [e, e']
      exact ⟨rfl, mem_push.mpr (.inr rfl)⟩
theorem CR.bad (h : CR m m' a b c x y i l0 l) (g : ¬ Go (fun _ _ => True) (cell m x i) (cell m' y i)) : ¬ Sim m a m' b := fun s => g ((sim_step (h.sim s _ h.mem) i).mono fun _ _ _ => trivial)
theorem CR.fin (hm : WF m) (hm' : WF m') (h : CR m m' a b c x y 3 l0 l) : CI m m' a b (c + 1) l ∧ c + 1 ≤ l.length := by
  obtain ⟨r, e⟩ := h.ex
  have lc : c < l0.length := (List.getElem?_eq_some_iff.mp h.at0).1
  have far : ∀ (m : Ms), WF m → ∀ x s, 3 ≤ s → cell m x s = Option.none := fun m hm x s hs => by
    cases q : cell m x s with
    | none => rfl
    | some p =>
      obtain ⟨r, q1, q2⟩ := cell_some q
      have := hm.three x r q1
      have := (List.getElem?_eq_some_iff.mp q2).1
      omega
  refine ⟨⟨h.nd, h.lt, by rw [e]; exact List.mem_append_left _ h.ci.st, h.sim, fun j x' y' hj hl s => ?_⟩, by rw [e, List.length_append]; omega⟩
  have up : ∀ k1 k2, (k1, k2) ∈ l0 → (k1, k2) ∈ l := fun k1 k2 z => by rw [e]; exact List.mem_append_left _ z
  have hl0 : l0[j]? = Option.some (x', y') := by
    rw [e, List.getElem?_append_left (by omega)] at hl
    exact hl
  rcases Nat.lt_succ_iff_lt_or_eq.mp hj with hj | rfl
  · exact (h.ci.cl j x' y' hj hl0 s).mono up
  · rw [h.at0] at hl0
    cases hl0
    by_cases hs : s < 3
    · exact h.go s hs
    · rw [far m hm _ s (by omega), far m' hm' _ s (by omega)]; trivial
end
/-! ### their dict -/
def pairD (p : Nat × Nat) : D := .tup [.int p.1, .int p.2]
def metP (l : List (Nat × Nat)) : List (D × D) := l.map fun p => (pairD p, D.bl true)
theorem pair_eq (p q : Nat × Nat) : D.neq (pairD p) (pairD q) = decide (p = q) := by
  unfold D.neq
  rw [← NestedKey.decide_eq]
  by_cases h : p = q
  · subst h; simp
  · rw [decide_eq_false h, decide_eq_false fun e => h ?_]
    obtain ⟨p1, p2⟩ := p
    obtain ⟨q1, q2⟩ := q
    simp only [pairD, D.nk, D.nkL] at e
    injection e with e
    injection e with e1 e2
    injection e1 with e1
    injection e2 with e2
    injection e2 with e2
    rw [Int.ofNat_inj.mp e1, Int.ofNat_inj.mp e2]
section
variable {p : Nat × Nat} {S : Store} {l : List (Nat × Nat)} {X Y X2 Y2 : DO} {e : Dl.Env}
theorem metP_len : (metP l).length = l.length := List.length_map ..
theorem metP_at (p : Nat × Nat) : ∀ l : List (Nat × Nat), atB D.neq (metP l) (pairD p) = if p ∈ l then some (.bl true) else none
  | [] => rfl
  | x :: l => by
    show (if D.neq (pairD x) (pairD p) = true then some (D.bl true) else atB D.neq (metP l) (pairD p)) = _
    rw [metP_at p l, pair_eq]
    by_cases h : x = p
    · subst h; simp
    · have h2 : ¬ p = x := fun z => h z.symm
      simp [h, h2]
theorem metP_put (h : p ∉ l) : setB D.neq (metP l) (pairD p) (.bl true) = metP (l ++ [p]) := by
  unfold setB
  rw [metP_at, if_neg h, if_neg (by simp)]
  unfold metP
  rw [List.map_append]
  rfl
theorem pair_ok : D.pure (pairD p) = true ∧ D.deep (pairD p) ≤ 8 := ⟨rfl, by show (1 : Nat) ≤ 8; omega⟩
theorem nin_pair : gNin (S ++ [X, .dn (metP l)]) (pairD p) (.ref (S.length + 1)) = .ok (.bl (!decide (p ∈ l))) (S ++ [X, .dn (metP l)]) := by
  have h : inB (S ++ [X, .dn (metP l)]) (pairD p) (.ref (S.length + 1)) = some (decide (p ∈ l)) := by
    dsimp only [inB, pairD]
    rw [two_1]
    dsimp only
    have := pair_ok (p := p)
    unfold pairD at this
    rw [if_pos this]
    have := metP_at p l
    unfold pairD at this
    rw [this]
    by_cases hk : p ∈ l
    · rw [if_pos hk, decide_eq_true hk]; rfl
    · rw [if_neg hk, decide_eq_false hk]; rfl
  unfold gNin
  rw [h]
theorem setp_eval (h : p ∉ l) (hl : l.length < 100000) : gsK3 (.bl true) (.ref (S.length + 1)) (pairD p) e (S ++ [X, .dn (metP l)]) = .ok e (S ++ [X, .dn (metP (l ++ [p]))]) := by
  have g : gSet (S ++ [X, .dn (metP l)]) (.ref (S.length + 1)) (pairD p) (.bl true) = some (S ++ [X, .dn (metP (l ++ [p]))]) := by
    dsimp only [gSet]
    rw [two_1]
    dsimp only [dctPut]
    rw [two_1]
    dsimp only [pairD]
    have := pair_ok (p := p)
    unfold pairD at this
    rw [if_pos ⟨this, by rw [metP_len]; exact hl⟩]
    have := metP_put h
    unfold pairD at this
    rw [this, set_1]
  unfold gsK3
  rw [g]
theorem wd_ne {w w' : Wd} {S : Store} : gNe S w.d w'.d = .ok (.bl (!decide (w = w'))) S := by
  cases w <;> cases w' <;> rfl
end
end K33

set_option Elab.async false
set_option linter.all false
set_option maxRecDepth 100000
set_option maxHeartbeats 8000000
namespace K33
open Dl
theorem mD_ix {m : Ms} {S : Store} {i : Nat} {r : List Tl} (e : m[i]? = some r) : gIx S (mD m) (.int i) = .ok (rD r) S := x_ixT (by rw [List.getElem?_map, e]; rfl)
theorem x_zipT {xs ys : List D} {S : Store} : zipSrc [.tup xs, .tup ys] S = .ok (.zip (.fix xs) (.fix ys)) S := rfl
theorem zip_at {xs ys : List D} {S : Store} {i : Nat} {a b : D} (h : xs[i]? = some a) (g : ys[i]? = some b) : (Src.zip (.fix xs) (.fix ys)).at S i = some (.tup [a, b]) := by
  show (match xs[i]?, ys[i]? with | some a, some b => some (D.tup [a, b]) | _, _ => none) = _
  rw [h, g]
theorem zip_end {xs ys : List D} {S : Store} {i : Nat} (h : xs[i]? = none) : (Src.zip (.fix xs) (.fix ys)).at S i = none := by
  show (match xs[i]?, ys[i]? with | some a, some b => some (D.tup [a, b]) | _, _ => none) = _
  rw [h]
theorem pairsL_get {l : List (Nat × Nat)} {i : Nat} {p : Nat × Nat} (h : l[i]? = some p) : (l.map pairD)[i]? = some (pairD p) := by rw [List.getElem?_map, h]; rfl
theorem parted_ev {m : Ms} {a b : Nat} (hm : WF m) (hf : m.length ≤ 100) (ha : a < m.length) (hb : b < m.length) : ∃ p : Bool, (p = true ↔ ¬ Sim m a m b) ∧ Ev F__law_parted [mD m, .int a, .int b] (.bl p) := by
  have sq : m.length * m.length ≤ 10000 := Nat.mul_le_mul hf hf
  obtain ⟨S, hS0⟩ : ∃ S : Store, S = [] := ⟨_, rfl⟩
  have st1 : sPar3 3 4 5 (aC (cLst (aC (cTup (aC (cV 1) (aC (cV 2) aN))) aN)) (aC (cDsp (cTup (aC (cV 1) (aC (cV 2) aN))) (cC (.bl true))) (aC (cC (.int 0)) aN))) [some (mD m), some (.int a), some (.int b), none, none, none, none, none] S
      = .nx [some (mD m), some (.int a), some (.int b), some (.ref S.length), some (.ref (S.length + 1)), some (.int 0), none, none] (S ++ [.lst ([(a, b)].map pairD), .dn (metP [(a, b)])]) := by
    have ok : D.pure (.tup [.int a, .int b]) = true ∧ D.deep (.tup [.int a, .int b]) ≤ 8 := pair_ok (p := (a, b))
    rw [hS0]
    simp [cDsp, dspK2, dspK3, ok, pairD, metP]
  have main := ev_whileR (t := kB (cOp2 gLt (cV 5) (cCall gLen (aC (cV 3) aN)))) (u := sSeq (sFor (iZip (aC (cOp2 gIx (cV 0) (cOp2 gIx (cOp2 gIx (cV 3) (cV 5)) (cC (.int 0)))) (aC (cOp2 gIx (cV 0) (cOp2 gIx (cOp2 gIx (cV 3) (cV 5)) (cC (.int 1)))) aN))) (gT 2 (gsC (gN 6) (gsC (gN 7) gsN))) (sSeq (sIf (kOr (kB (cOp2 gNe (cOp2 gIs (cV 6) (cC .non)) (cOp2 gIs (cV 7) (cC .non)))) (kAnd (kB (cOp2 gNot (cV 6) (cC .non))) (kB (cOp2 gNe (cOp2 gIx (cV 6) (cC (.int 0))) (cOp2 gIx (cV 7) (cC (.int 0))))))) (sRet (cC (.bl true))) sNext) (sIf (kAnd (kB (cOp2 gNot (cV 6) (cC .non))) (kB (cOp2 gNin (cTup (aC (cOp2 gIx (cV 6) (cC (.int 1))) (aC (cOp2 gIx (cV 7) (cC (.int 1))) aN))) (cV 4)))) (sSeq (sAsgG (cC (.bl true)) (gSub2 (cV 4) (cTup (aC (cOp2 gIx (cV 6) (cC (.int 1))) (aC (cOp2 gIx (cV 7) (cC (.int 1))) aN))))) (sDrop (cMt isLst gApp (cV 3) (aC (cTup (aC (cOp2 gIx (cV 6) (cC (.int 1))) (aC (cOp2 gIx (cV 7) (cC (.int 1))) aN))) aN)))) sNext))) (sAugN 5 (cC (.int 1)) gAddI))
    (e := [some (mD m), some (.int a), some (.int b), some (.ref S.length), some (.ref (S.length + 1)), some (.int 0), none, none]) (S := S ++ [.lst ([(a, b)].map pairD), .dn (metP [(a, b)])])
    (Q := fun e S' => Sim m a m b ∧ ∃ (c : Nat) (x6 x7 : Option D), e = [some (mD m), some (.int a), some (.int b), some (.ref S.length), some (.ref (S.length + 1)), some (.int c), x6, x7]) (R := fun d _ => d = .bl true ∧ ¬ Sim m a m b) (m.length * m.length)
    (fun k e S' => ∃ (l : List (Nat × Nat)) (c : Nat) (x6 x7 : Option D), CI m m a b c l ∧ c ≤ l.length ∧ k + c = m.length * m.length ∧ e = [some (mD m), some (.int a), some (.int b), some (.ref S.length), some (.ref (S.length + 1)), some (.int c), x6, x7] ∧ S' = S ++ [.lst (l.map pairD), .dn (metP l)])
    (by omega) ⟨[(a, b)], 0, none, none, ⟨by simp, fun p hp => by rw [List.mem_singleton.mp hp]; exact ⟨ha, hb⟩, by simp, fun s p hp => by rw [List.mem_singleton.mp hp]; exact s, fun j x y hj => absurd hj (Nat.not_lt_zero j)⟩, by simp, rfl, rfl, rfl⟩
    (fun k e S' ⟨l, c, x6, x7, ci, cl, hk, he, hS⟩ => by
      subst he hS
      have ll := ci.len
      have len : gLen (S ++ [.lst (l.map pairD), .dn (metP l)]) [.ref S.length] = .ok (.int l.length) (S ++ [.lst (l.map pairD), .dn (metP l)]) := by rw [x_lenL two_0, List.length_map]
      by_cases hc : l.length ≤ c
      · refine .inl ⟨S ++ [.lst (l.map pairD), .dn (metP l)], ?_, ci.fin hc, c, x6, x7, rfl⟩
        have : ¬ ((c : Int) < (l.length : Int)) := by omega
        simp [len, this]
      · have c1 : ((c : Int) < (l.length : Int)) := by omega
        obtain ⟨⟨x, y⟩, exy⟩ : ∃ p, l[c]? = some p := ⟨_, List.getElem?_eq_getElem (by omega)⟩
        obtain ⟨xm, ym⟩ := ci.lt _ (List.mem_of_getElem? exy)
        obtain ⟨rx, ex⟩ : ∃ r, m[x]? = some r := ⟨_, List.getElem?_eq_getElem xm⟩
        obtain ⟨ry, ey⟩ : ∃ r, m[y]? = some r := ⟨_, List.getElem?_eq_getElem ym⟩
        have lx := hm.three _ _ ex
        have ly := hm.three _ _ ey
        have ixl : gIx (S ++ [.lst (l.map pairD), .dn (metP l)]) (.ref S.length) (.int c) = .ok (.tup [.int x, .int y]) (S ++ [.lst (l.map pairD), .dn (metP l)]) := x_ixL two_0 (pairsL_get exy)
        refine .inr ⟨S ++ [.lst (l.map pairD), .dn (metP l)], by simp [len, c1], ?_⟩
        have loop := ev_for (fi := iZip (aC (cOp2 gIx (cV 0) (cOp2 gIx (cOp2 gIx (cV 3) (cV 5)) (cC (.int 0)))) (aC (cOp2 gIx (cV 0) (cOp2 gIx (cOp2 gIx (cV 3) (cV 5)) (cC (.int 1)))) aN))) (gt := gT 2 (gsC (gN 6) (gsC (gN 7) gsN))) (u := sSeq (sIf (kOr (kB (cOp2 gNe (cOp2 gIs (cV 6) (cC .non)) (cOp2 gIs (cV 7) (cC .non)))) (kAnd (kB (cOp2 gNot (cV 6) (cC .non))) (kB (cOp2 gNe (cOp2 gIx (cV 6) (cC (.int 0))) (cOp2 gIx (cV 7) (cC (.int 0))))))) (sRet (cC (.bl true))) sNext) (sIf (kAnd (kB (cOp2 gNot (cV 6) (cC .non))) (kB (cOp2 gNin (cTup (aC (cOp2 gIx (cV 6) (cC (.int 1))) (aC (cOp2 gIx (cV 7) (cC (.int 1))) aN))) (cV 4)))) (sSeq (sAsgG (cC (.bl true)) (gSub2 (cV 4) (cTup (aC (cOp2 gIx (cV 6) (cC (.int 1))) (aC (cOp2 gIx (cV 7) (cC (.int 1))) aN))))) (sDrop (cMt isLst gApp (cV 3) (aC (cTup (aC (cOp2 gIx (cV 6) (cC (.int 1))) (aC (cOp2 gIx (cV 7) (cC (.int 1))) aN))) aN)))) sNext))
          (e := [some (mD m), some (.int a), some (.int b), some (.ref S.length), some (.ref (S.length + 1)), some (.int c), x6, x7]) (S := S ++ [.lst (l.map pairD), .dn (metP l)]) (S1 := S ++ [.lst (l.map pairD), .dn (metP l)]) (src := .zip (.fix (rx.map tD)) (.fix (ry.map tD))) (R := fun d _ => d = .bl true ∧ ¬ Sim m a m b) 3
          (fun i e S' => ∃ (l3 : List (Nat × Nat)) (x6 x7 : Option D), CR m m a b c x y i l l3 ∧ e = [some (mD m), some (.int a), some (.int b), some (.ref S.length), some (.ref (S.length + 1)), some (.int c), x6, x7] ∧ S' = S ++ [.lst (l3.map pairD), .dn (metP l3)])
          (by simp [iZip, ixl, mD_ix ex, mD_ix ey, rD, x_zipT]) (by omega) ⟨l, x6, x7, ci.row exy, rfl, rfl⟩ (fun e S' _ => zip_end (List.getElem?_eq_none (by rw [List.length_map]; omega)))
          (fun i e S' hi ⟨l3, x6, x7, cr, he, hS⟩ => by
            subst he hS
            obtain ⟨t, et⟩ : ∃ t, rx[i]? = some t := ⟨_, List.getElem?_eq_getElem (by omega)⟩
            obtain ⟨t', et'⟩ : ∃ t, ry[i]? = some t := ⟨_, List.getElem?_eq_getElem (by omega)⟩
            have cx := cell_row ex et
            have cy := cell_row ey et'
            have l3l := pairs_few cr.nd cr.lt
            have at3 := zip_at (S := S ++ [.lst (l3.map pairD), .dn (metP l3)]) (show (rx.map tD)[i]? = some (tD t) by rw [List.getElem?_map, et]; rfl) (show (ry.map tD)[i]? = some (tD t') by rw [List.getElem?_map, et']; rfl)
            refine ⟨_, [some (mD m), some (.int a), some (.int b), some (.ref S.length), some (.ref (S.length + 1)), some (.int c), some (tD t), some (tD t')], S ++ [.lst (l3.map pairD), .dn (metP l3)], at3, by simp, ?_⟩
            cases t with
            | none =>
              cases t' with
              | none => exact .inl ⟨[some (mD m), some (.int a), some (.int b), some (.ref S.length), some (.ref (S.length + 1)), some (.int c), some .non, some .non], S ++ [.lst (l3.map pairD), .dn (metP l3)], by simp [tD], l3, _, _, cr.none cx cy, rfl, rfl⟩
              | some q => exact .inr ⟨.bl true, S ++ [.lst (l3.map pairD), .dn (metP l3)], by simp [tD], rfl, cr.bad (by rw [cx, cy]; exact fun z => z)⟩
            | some p =>
              obtain ⟨w, k1⟩ := p
              cases t' with
              | none => exact .inr ⟨.bl true, S ++ [.lst (l3.map pairD), .dn (metP l3)], by simp [tD], rfl, cr.bad (by rw [cx, cy]; exact fun z => z)⟩
              | some q =>
                obtain ⟨w', k2⟩ := q
                by_cases hw : w = w'
                · subst hw
                  have nx := cr.some hm hm cx cy
                  by_cases hp : (k1, k2) ∈ l3
                  · have ep : push l3 (k1, k2) = l3 := by unfold push; rw [if_pos hp]
                    rw [ep] at nx
                    have ni : gNin (S ++ [.lst (l3.map pairD), .dn (metP l3)]) (.tup [.int k1, .int k2]) (.ref (S.length + 1)) = .ok (.bl (!decide ((k1, k2) ∈ l3))) (S ++ [.lst (l3.map pairD), .dn (metP l3)]) := nin_pair (p := (k1, k2))
                    refine .inl ⟨[some (mD m), some (.int a), some (.int b), some (.ref S.length), some (.ref (S.length + 1)), some (.int c), some (tD (some (w, k1))), some (tD (some (w, k2)))], S ++ [.lst (l3.map pairD), .dn (metP l3)], ?_, l3, _, _, nx, rfl, rfl⟩
                    simp [tD, wd_ne, ni, hp]
                  · have ep : push l3 (k1, k2) = l3 ++ [(k1, k2)] := by unfold push; rw [if_neg hp]
                    rw [ep] at nx
                    have ni : gNin (S ++ [.lst (l3.map pairD), .dn (metP l3)]) (.tup [.int k1, .int k2]) (.ref (S.length + 1)) = .ok (.bl (!decide ((k1, k2) ∈ l3))) (S ++ [.lst (l3.map pairD), .dn (metP l3)]) := nin_pair (p := (k1, k2))
                    have se : gsK3 (.bl true) (.ref (S.length + 1)) (.tup [.int k1, .int k2]) [some (mD m), some (.int a), some (.int b), some (.ref S.length), some (.ref (S.length + 1)), some (.int c), some (.tup [w.d, .int k1]), some (.tup [w.d, .int k2])] (S ++ [.lst (l3.map pairD), .dn (metP l3)]) = .ok [some (mD m), some (.int a), some (.int b), some (.ref S.length), some (.ref (S.length + 1)), some (.int c), some (.tup [w.d, .int k1]), some (.tup [w.d, .int k2])] (S ++ [.lst (l3.map pairD), .dn (metP (l3 ++ [(k1, k2)]))]) := setp_eval (p := (k1, k2)) hp (by omega)
                    have ap : gApp (S ++ [.lst (l3.map pairD), .dn (metP (l3 ++ [(k1, k2)]))]) (.ref S.length) [.tup [.int k1, .int k2]] = .ok .non ((S ++ [DO.lst (l3.map pairD), DO.dn (metP (l3 ++ [(k1, k2)]))]).set S.length (DO.lst (l3.map pairD ++ [D.tup [.int k1, .int k2]]))) := x_appL two_0 (by rw [List.length_map]; omega)
                    have is0 : isLst (S ++ [.lst (l3.map pairD), .dn (metP (l3 ++ [(k1, k2)]))]) (.ref S.length) = true := x_isLst two_0
                    refine .inl ⟨[some (mD m), some (.int a), some (.int b), some (.ref S.length), some (.ref (S.length + 1)), some (.int c), some (tD (some (w, k1))), some (tD (some (w, k2)))], S ++ [.lst ((l3 ++ [(k1, k2)]).map pairD), .dn (metP (l3 ++ [(k1, k2)]))], ?_, l3 ++ [(k1, k2)], _, _, nx, rfl, rfl⟩
                    rw [set_0] at ap
                    simp [tD, wd_ne, ni, hp, se, ap, is0]
                    rfl
                · refine .inr ⟨.bl true, S ++ [.lst (l3.map pairD), .dn (metP l3)], ?_, rfl, cr.bad (by rw [cx, cy]; exact fun z => hw z.1)⟩
                  simp [tD, wd_ne, hw])
        rcases loop with ⟨e3, S3, st3, l3, y6, y7, cr, he3, hS3⟩ | ⟨d, S3, st3, hd, ns⟩
        · subst he3 hS3
          obtain ⟨ci2, cl2⟩ := cr.fin hm hm
          left
          have lim := ci2.len
          refine ⟨[some (mD m), some (.int a), some (.int b), some (.ref S.length), some (.ref (S.length + 1)), some (.int (c + 1 : Nat)), y6, y7], S ++ [.lst (l3.map pairD), .dn (metP l3)], k - 1, ?_, by omega, l3, c + 1, y6, y7, ci2, cl2, by omega, rfl, rfl⟩
          rw [ev_seq st3]
          simp
        · subst hd
          right
          exact ⟨_, S3, ev_seq_rt st3, rfl, ns⟩)
  rcases main with ⟨e', S', r, sm, c, x6, x7, rfl⟩ | ⟨d, S', r, rfl, ns⟩
  · refine ⟨false, by simp [sm], by simp [D.pureL, D.pure, mD_pure], rfl, S', fn_of_rt ?_⟩
    show den__law_parted [some (mD m), some (.int a), some (.int b), none, none, none, none, none] [] = _
    unfold den__law_parted
    rw [← hS0, ev_seq st1, ev_seq r]
    rfl
  · refine ⟨true, by simp [ns], by simp [D.pureL, D.pure, mD_pure], rfl, S', fn_of_rt ?_⟩
    show den__law_parted [some (mD m), some (.int a), some (.int b), none, none, none, none, none] [] = _
    unfold den__law_parted
    rw [← hS0, ev_seq st1]
    exact ev_seq_rt r
end K33

set_option Elab.async false
set_option linter.all false
set_option maxRecDepth 100000
set_option maxHeartbeats 8000000
namespace K33
open Dl
theorem rD_ix {r : List Tl} {S : Store} {i : Nat} {t : Tl} (e : r[i]? = some t) : gIx S (rD r) (.int i) = .ok (tD t) S := x_ixT (by rw [List.getElem?_map, e]; rfl)
theorem unlike_ev {r r' : List Tl} {s : Nat} {t t' : Tl} (e : r[s]? = some t) (e' : r'[s]? = some t') (g : Go (fun _ _ => True) t t') : Ev F_unlike_at [rD r, rD r', .int s] .non := by
  refine ⟨by simp [D.pureL, D.pure, rD_pure], rfl, [], fn_of_rt ?_⟩
  have i1 := rD_ix (S := []) e
  have i2 := rD_ix (S := []) e'
  cases t with
  | none =>
    cases t' with
    | none => simp [den_unlike_at, i1, i2, tD]
    | some q => exact g.elim
  | some p =>
    cases t' with
    | none => exact g.elim
    | some q =>
      obtain ⟨w, k⟩ := p
      obtain ⟨w', k'⟩ := q
      obtain ⟨rfl, _⟩ := g
      simp [den_unlike_at, i1, i2, tD, wd_ne]
def lnD (z : (Nat × Nat) × List D) : D := .tup [pairD z.1, .tup z.2]
theorem lnD_get {l : List ((Nat × Nat) × List D)} {i : Nat} {p : (Nat × Nat) × List D} (h : l[i]? = some p) : (l.map lnD)[i]? = some (lnD p) := by rw [List.getElem?_map, h]; rfl
theorem first_parting_ev {m m' : Ms} (h : Mach m) (h' : Mach m') (hs : Sim m 0 m' 0) : Ev F_first_parting [mD m, mD m'] .non := by
  have hm := h.wf
  have hm' := h'.wf
  have sq : m.length * m'.length ≤ 3969 := Nat.mul_le_mul h.few h'.few
  have e1 : runF F_is_rows [] [mD m] = .ok (.bl true) [] := h.rows.run []
  have e2 : runF F_is_rows [] [mD m'] = .ok (.bl true) [] := h'.rows.run []
  obtain ⟨S, hS0⟩ : ∃ S : Store, S = [] := ⟨_, rfl⟩
  rw [← hS0] at e1 e2
  have st0 : sIf (kOr (kNot (kB (cFn 1 F_is_rows (aC (cV 0) aN)))) (kNot (kB (cFn 1 F_is_rows (aC (cV 1) aN))))) (sRaise 0) sNext [some (mD m), some (mD m'), none, none, none, none, none, none, none, none, none] S
      = .nx [some (mD m), some (mD m'), none, none, none, none, none, none, none, none, none] S := by
    simp [e1, e2]
  have st1 : sPar3 2 3 4 (aC (cLst (aC (cTup (aC (cTup (aC (cC (.int 0)) (aC (cC (.int 0)) aN))) (aC (cTup aN) aN))) aN)) (aC (cDsp (cTup (aC (cC (.int 0)) (aC (cC (.int 0)) aN))) (cC (.bl true))) (aC (cC (.int 0)) aN))) [some (mD m), some (mD m'), none, none, none, none, none, none, none, none, none] S
      = .nx [some (mD m), some (mD m'), some (.ref S.length), some (.ref (S.length + 1)), some (.int 0), none, none, none, none, none, none] (S ++ [DO.lst ([((0, 0), [])].map lnD), DO.dn (metP [(0, 0)])]) := by
    have ok : D.pure (.tup [.int 0, .int 0]) = true ∧ D.deep (.tup [.int 0, .int 0]) ≤ 8 := pair_ok (p := (0, 0))
    rw [hS0]
    simp [cDsp, dspK2, dspK3, ok, pairD, metP, lnD]
  obtain ⟨e', S', r, c, x5, x6, x7, x8, x9, x10, he'⟩ := ev_whileN (t := kB (cOp2 gLt (cV 4) (cCall gLen (aC (cV 2) aN)))) (u := sSeq (sAsgG (cOp2 gIx (cV 2) (cV 4)) (gT 2 (gsC (gT 2 (gsC (gN 5) (gsC (gN 6) gsN))) (gsC (gN 7) gsN)))) (sSeq (sFor (iSeq (cC k_SIGNS_alike)) (gN 8) (sSeq (sSet 9 (cFn 3 F_unlike_at (aC (cOp2 gIx (cV 0) (cV 5)) (aC (cOp2 gIx (cV 1) (cV 6)) (aC (cV 8) aN))))) (sSeq (sIf (kB (cOp2 gNot (cV 9) (cC .non))) (sRet (cTup (aC (cV 9) (aC (cTup (aSt (cV 7) (aC (cV 8) aN))) aN)))) sNext) (sIf (kB (cOp2 gNot (cOp2 gIx (cOp2 gIx (cV 0) (cV 5)) (cV 8)) (cC .non))) (sSeq (sSet 10 (cTup (aC (cOp2 gIx (cOp2 gIx (cOp2 gIx (cV 0) (cV 5)) (cV 8)) (cC (.int 1))) (aC (cOp2 gIx (cOp2 gIx (cOp2 gIx (cV 1) (cV 6)) (cV 8)) (cC (.int 1))) aN)))) (sIf (kB (cOp2 gNin (cV 10) (cV 3))) (sSeq (sAsgG (cC (.bl true)) (gSub2 (cV 3) (cV 10))) (sDrop (cMt isLst gApp (cV 2) (aC (cTup (aC (cV 10) (aC (cTup (aSt (cV 7) (aC (cV 8) aN))) aN))) aN)))) sNext)) sNext)))) (sAugN 4 (cC (.int 1)) gAddI)))
    (e := [some (mD m), some (mD m'), some (.ref S.length), some (.ref (S.length + 1)), some (.int 0), none, none, none, none, none, none]) (S := S ++ [DO.lst ([((0, 0), [])].map lnD), DO.dn (metP [(0, 0)])])
    (Q := fun e S' => ∃ (c : Nat) (x5 x6 x7 x8 x9 x10 : Option D), e = [some (mD m), some (mD m'), some (.ref S.length), some (.ref (S.length + 1)), some (.int c), x5, x6, x7, x8, x9, x10]) (m.length * m'.length)
    (fun k e S' => ∃ (l : List ((Nat × Nat) × List D)) (c : Nat) (x5 x6 x7 x8 x9 x10 : Option D), CI m m' 0 0 c (l.map (·.1)) ∧ (∀ (j : Nat) (z : (Nat × Nat) × List D), l[j]? = some z → z.2.length ≤ j) ∧ c ≤ l.length ∧ k + c = m.length * m'.length ∧ e = [some (mD m), some (mD m'), some (.ref S.length), some (.ref (S.length + 1)), some (.int c), x5, x6, x7, x8, x9, x10] ∧ S' = S ++ [DO.lst (l.map lnD), DO.dn (metP (l.map (·.1)))])
    (by omega) ⟨[((0, 0), [])], 0, none, none, none, none, none, none, ⟨by simp, fun p hp => by rw [List.mem_singleton.mp hp]; exact ⟨h.pos, h'.pos⟩, by simp, fun s p hp => by rw [List.mem_singleton.mp hp]; exact s, fun j x y hj => absurd hj (Nat.not_lt_zero j)⟩, fun j z hz => by
      match j, hz with
      | 0, hz => cases hz; exact Nat.le_refl _, by simp, rfl, rfl, rfl⟩
    (fun k e S' ⟨l, c, x5, x6, x7, x8, x9, x10, ci, ql, cl, hk, he, hS⟩ => by
      subst he hS
      have ll := ci.len
      rw [List.length_map] at ll
      have len : gLen (S ++ [DO.lst (l.map lnD), DO.dn (metP (l.map (·.1)))]) [.ref S.length] = .ok (.int l.length) (S ++ [DO.lst (l.map lnD), DO.dn (metP (l.map (·.1)))]) := by rw [x_lenL two_0, List.length_map]
      by_cases hc : l.length ≤ c
      · refine .inl ⟨S ++ [DO.lst (l.map lnD), DO.dn (metP (l.map (·.1)))], ?_, c, _, _, _, _, _, _, rfl⟩
        have : ¬ ((c : Int) < (l.length : Int)) := by omega
        simp [len, this]
      · have c1 : ((c : Int) < (l.length : Int)) := by omega
        obtain ⟨⟨⟨x, y⟩, q⟩, exy⟩ : ∃ p, l[c]? = some p := ⟨_, List.getElem?_eq_getElem (by omega)⟩
        have exy2 : (l.map (·.1))[c]? = some (x, y) := by rw [List.getElem?_map, exy]; rfl
        obtain ⟨xm, ym⟩ := ci.lt _ (List.mem_of_getElem? exy2)
        have qc : q.length ≤ c := ql c _ exy
        obtain ⟨rx, ex⟩ : ∃ r, m[x]? = some r := ⟨_, List.getElem?_eq_getElem xm⟩
        obtain ⟨ry, ey⟩ : ∃ r, m'[y]? = some r := ⟨_, List.getElem?_eq_getElem ym⟩
        have lx := hm.three _ _ ex
        have ly := hm'.three _ _ ey
        have ixl : gIx (S ++ [DO.lst (l.map lnD), DO.dn (metP (l.map (·.1)))]) (.ref S.length) (.int c) = .ok (.tup [.tup [.int x, .int y], .tup q]) (S ++ [DO.lst (l.map lnD), DO.dn (metP (l.map (·.1)))]) := x_ixL two_0 (lnD_get exy)
        have st2 : sAsgG (cOp2 gIx (cV 2) (cV 4)) (gT 2 (gsC (gT 2 (gsC (gN 5) (gsC (gN 6) gsN))) (gsC (gN 7) gsN))) [some (mD m), some (mD m'), some (.ref S.length), some (.ref (S.length + 1)), some (.int c), x5, x6, x7, x8, x9, x10] (S ++ [DO.lst (l.map lnD), DO.dn (metP (l.map (·.1)))])
            = .nx [some (mD m), some (mD m'), some (.ref S.length), some (.ref (S.length + 1)), some (.int c), some (.int x), some (.int y), some (.tup q), x8, x9, x10] (S ++ [DO.lst (l.map lnD), DO.dn (metP (l.map (·.1)))]) := by
          simp [ixl]
        obtain ⟨e3, S3, st3, l3, y8, y9, y10, cr, ql3, he3, hS3⟩ := ev_forN (fi := iSeq (cC k_SIGNS_alike)) (gt := gN 8) (u := sSeq (sSet 9 (cFn 3 F_unlike_at (aC (cOp2 gIx (cV 0) (cV 5)) (aC (cOp2 gIx (cV 1) (cV 6)) (aC (cV 8) aN))))) (sSeq (sIf (kB (cOp2 gNot (cV 9) (cC .non))) (sRet (cTup (aC (cV 9) (aC (cTup (aSt (cV 7) (aC (cV 8) aN))) aN)))) sNext) (sIf (kB (cOp2 gNot (cOp2 gIx (cOp2 gIx (cV 0) (cV 5)) (cV 8)) (cC .non))) (sSeq (sSet 10 (cTup (aC (cOp2 gIx (cOp2 gIx (cOp2 gIx (cV 0) (cV 5)) (cV 8)) (cC (.int 1))) (aC (cOp2 gIx (cOp2 gIx (cOp2 gIx (cV 1) (cV 6)) (cV 8)) (cC (.int 1))) aN)))) (sIf (kB (cOp2 gNin (cV 10) (cV 3))) (sSeq (sAsgG (cC (.bl true)) (gSub2 (cV 3) (cV 10))) (sDrop (cMt isLst gApp (cV 2) (aC (cTup (aC (cV 10) (aC (cTup (aSt (cV 7) (aC (cV 8) aN))) aN))) aN)))) sNext)) sNext)))
          (e := [some (mD m), some (mD m'), some (.ref S.length), some (.ref (S.length + 1)), some (.int c), some (.int x), some (.int y), some (.tup q), x8, x9, x10]) (S := S ++ [DO.lst (l.map lnD), DO.dn (metP (l.map (·.1)))]) (S1 := S ++ [DO.lst (l.map lnD), DO.dn (metP (l.map (·.1)))]) (src := .fix (nsD (List.range 3))) 3
          (fun i e S' => ∃ (l3 : List ((Nat × Nat) × List D)) (x8 x9 x10 : Option D), CR m m' 0 0 c x y i (l.map (·.1)) (l3.map (·.1)) ∧ (∀ (j : Nat) (z : (Nat × Nat) × List D), l3[j]? = some z → z.2.length ≤ j) ∧ e = [some (mD m), some (mD m'), some (.ref S.length), some (.ref (S.length + 1)), some (.int c), some (.int x), some (.int y), some (.tup q), x8, x9, x10] ∧ S' = S ++ [DO.lst (l3.map lnD), DO.dn (metP (l3.map (·.1)))])
          rfl (by omega) ⟨l, x8, x9, x10, ci.row exy2, ql, rfl, rfl⟩ (fun e S' _ => rfl)
          (fun i e S' hi ⟨l3, x8, x9, x10, cr, ql3, he, hS⟩ => by
            subst he hS
            obtain ⟨t, et⟩ : ∃ t, rx[i]? = some t := ⟨_, List.getElem?_eq_getElem (by omega)⟩
            obtain ⟨t', et'⟩ : ∃ t, ry[i]? = some t := ⟨_, List.getElem?_eq_getElem (by omega)⟩
            have cx := cell_row ex et
            have cy := cell_row ey et'
            have l3l := pairs_few cr.nd cr.lt
            rw [List.length_map] at l3l
            have gs := sim_step (cr.sim hs _ cr.mem) i
            rw [cx, cy] at gs
            have ul := unlike_ev et et' (gs.mono fun _ _ _ => trivial)
            have at3 : (Src.fix (nsD (List.range 3))).at (S ++ [DO.lst (l3.map lnD), DO.dn (metP (l3.map (·.1)))]) i = some (.int i) := by
              show (nsD (List.range 3))[i]? = _
              exact nsD_get (List.getElem?_range hi)
            have cge : c + 1 ≤ l3.length := by
              obtain ⟨r, er⟩ := cr.ex
              have := congrArg List.length er
              rw [List.length_append, List.length_map, List.length_map] at this
              omega
            have ixx : ∀ S' : Store, gIx S' (mD m) (.int x) = .ok (rD rx) S' := fun S' => mD_ix ex
            have ixy : ∀ S' : Store, gIx S' (mD m') (.int y) = .ok (rD ry) S' := fun S' => mD_ix ey
            have ixt : ∀ S' : Store, gIx S' (rD rx) (.int i) = .ok (tD t) S' := fun S' => rD_ix et
            have ixt' : ∀ S' : Store, gIx S' (rD ry) (.int i) = .ok (tD t') S' := fun S' => rD_ix et'
            cases t with
            | none =>
              cases t' with
              | none =>
                refine ⟨.int i, _, _, [some (mD m), some (mD m'), some (.ref S.length), some (.ref (S.length + 1)), some (.int c), some (.int x), some (.int y), some (.tup q), some (.int i), some .non, x10], S ++ [DO.lst (l3.map lnD), DO.dn (metP (l3.map (·.1)))], at3, rfl, ?_, l3, _, _, _, cr.none cx cy, ql3, rfl, rfl⟩
                simp [ixx, ixy, ixt, ixt', ul.run, tD]
              | some _ => exact gs.elim
            | some p =>
              cases t' with
              | none => exact gs.elim
              | some p' =>
                obtain ⟨w, k1⟩ := p
                obtain ⟨w', k2⟩ := p'
                obtain ⟨rfl, _⟩ := gs
                have nx := cr.some hm hm' cx cy
                have ni : gNin (S ++ [DO.lst (l3.map lnD), DO.dn (metP (l3.map (·.1)))]) (.tup [.int k1, .int k2]) (.ref (S.length + 1)) = .ok (.bl (!decide ((k1, k2) ∈ l3.map (·.1)))) (S ++ [DO.lst (l3.map lnD), DO.dn (metP (l3.map (·.1)))]) := nin_pair (p := (k1, k2))
                by_cases hp : (k1, k2) ∈ l3.map (·.1)
                · have ep : push (l3.map (·.1)) (k1, k2) = l3.map (·.1) := by unfold push; rw [if_pos hp]
                  rw [ep] at nx
                  rw [decide_eq_true hp] at ni
                  refine ⟨.int i, _, _, [some (mD m), some (mD m'), some (.ref S.length), some (.ref (S.length + 1)), some (.int c), some (.int x), some (.int y), some (.tup q), some (.int i), some .non, some (.tup [.int k1, .int k2])], S ++ [DO.lst (l3.map lnD), DO.dn (metP (l3.map (·.1)))], at3, rfl, ?_, l3, _, _, _, nx, ql3, rfl, rfl⟩
                  simp [ixx, ixy, ixt, ixt', ul.run, tD, ni]
                · have ep : push (l3.map (·.1)) (k1, k2) = (l3 ++ [((k1, k2), q ++ [D.int i])]).map (·.1) := by unfold push; rw [if_neg hp, List.map_append]; rfl
                  have ep2 : (l3 ++ [((k1, k2), q ++ [D.int i])]).map (·.1) = l3.map (·.1) ++ [(k1, k2)] := by rw [List.map_append]; rfl
                  rw [ep] at nx
                  rw [decide_eq_false hp] at ni
                  have se : gsK3 (.bl true) (.ref (S.length + 1)) (.tup [.int k1, .int k2]) [some (mD m), some (mD m'), some (.ref S.length), some (.ref (S.length + 1)), some (.int c), some (.int x), some (.int y), some (.tup q), some (.int i), some .non, some (.tup [.int k1, .int k2])] (S ++ [DO.lst (l3.map lnD), DO.dn (metP (l3.map (·.1)))]) = .ok [some (mD m), some (mD m'), some (.ref S.length), some (.ref (S.length + 1)), some (.int c), some (.int x), some (.int y), some (.tup q), some (.int i), some .non, some (.tup [.int k1, .int k2])] (S ++ [DO.lst (l3.map lnD), DO.dn (metP (l3.map (·.1) ++ [(k1, k2)]))]) := setp_eval (p := (k1, k2)) hp (by rw [List.length_map]; omega)
                  have ap : gApp (S ++ [DO.lst (l3.map lnD), DO.dn (metP (l3.map (·.1) ++ [(k1, k2)]))]) (.ref S.length) [.tup [.tup [.int k1, .int k2], .tup (q ++ [D.int i])]] = .ok .non (S ++ [DO.lst ((l3 ++ [((k1, k2), q ++ [D.int i])]).map lnD), DO.dn (metP (l3.map (·.1) ++ [(k1, k2)]))]) := by
                    rw [x_appL two_0 (by rw [List.length_map]; omega), set_0, List.map_append]
                    rfl
                  have is0 : isLst (S ++ [DO.lst (l3.map lnD), DO.dn (metP (l3.map (·.1) ++ [(k1, k2)]))]) (.ref S.length) = true := x_isLst two_0
                  have qs : q.length + 1 ≤ 100000 := by omega
                  refine ⟨.int i, _, _, [some (mD m), some (mD m'), some (.ref S.length), some (.ref (S.length + 1)), some (.int c), some (.int x), some (.int y), some (.tup q), some (.int i), some .non, some (.tup [.int k1, .int k2])], S ++ [DO.lst ((l3 ++ [((k1, k2), q ++ [D.int i])]).map lnD), DO.dn (metP (l3.map (·.1) ++ [(k1, k2)]))], at3, rfl, ?_, l3 ++ [((k1, k2), q ++ [D.int i])], _, _, _, nx, fun j z hz => ?_, rfl, by rw [ep2]⟩
                  · simp [ixx, ixy, ixt, ixt', ul.run, tD, ni, se, is0, aSt, starK, starK2, qs, ap]
                  · by_cases hj : j < l3.length
                    · rw [List.getElem?_append_left hj] at hz
                      exact ql3 j z hz
                    · rw [List.getElem?_append_right (by omega)] at hz
                      have hz2 := (List.getElem?_eq_some_iff.mp hz).1
                      rw [List.length_singleton] at hz2
                      have ej : j - l3.length = 0 := by omega
                      rw [ej] at hz
                      cases hz
                      show (q ++ [D.int i]).length ≤ j
                      rw [List.length_append, List.length_singleton]
                      omega)
        subst he3 hS3
        obtain ⟨ci2, cl2⟩ := cr.fin hm hm'
        rw [List.length_map] at cl2
        have lim := ci2.len
        rw [List.length_map] at lim
        refine .inr ⟨S ++ [DO.lst (l.map lnD), DO.dn (metP (l.map (·.1)))], [some (mD m), some (mD m'), some (.ref S.length), some (.ref (S.length + 1)), some (.int (c + 1 : Nat)), some (.int x), some (.int y), some (.tup q), y8, y9, y10], S ++ [DO.lst (l3.map lnD), DO.dn (metP (l3.map (·.1)))], k - 1, by simp [len, c1], ?_, by omega, l3, c + 1, _, _, _, _, _, _, ci2, ql3, cl2, by omega, rfl, rfl⟩
        rw [ev_seq st2, ev_seq st3]
        simp)
  subst he'
  refine ⟨by simp [D.pureL, D.pure, mD_pure], rfl, S', fn_of_rt ?_⟩
  show den_first_parting F_unlike_at F_is_rows [some (mD m), some (mD m'), none, none, none, none, none, none, none, none, none] [] = _
  unfold den_first_parting
  rw [← hS0, ev_seq st0, ev_seq st1, ev_seq r]
  rfl
end K33

set_option Elab.async false
set_option linter.all false
set_option maxRecDepth 100000
set_option maxHeartbeats 8000000
namespace K33
open PySem PySem.Spec Dl
mutual
theorem deq_self : ∀ x : D, x.fine = true → D.eq x x = true
  | .non, _ => rfl
  | .bl b, _ => by cases b <;> rfl
  | .int i, _ => by show (i == i) = true; simp
  | .str s, _ => by show (s == s) = true; simp
  | .tup xs, h => by
    show D.eqL xs xs = true
    exact deqL_self xs h
  | .ref _, h => by cases h
theorem deqL_self : ∀ xs : List D, D.fineL xs = true → D.eqL xs xs = true
  | [], _ => rfl
  | x :: xs, h => by
    have h : (x.fine && D.fineL xs) = true := h
    rw [Bool.and_eq_true] at h
    show (D.eq x x && D.eqL xs xs) = true
    rw [deq_self x h.1, deqL_self xs h.2]; rfl
end
theorem good_fine {d : D} (h : d.good = true) : d.fine = true := (Bool.and_eq_true_iff.mp h).1
theorem eqB_tup {S : Store} {xs : List D} (h : (D.tup xs).good = true) : eqB S (.tup xs) (.tup xs) = some true := by
  show (if (D.tup xs).good = true ∧ (D.tup xs).good = true then some (if false = false then D.eq (.tup xs) (.tup xs) else false) else none) = _
  rw [if_pos ⟨h, h⟩, if_pos rfl, deq_self _ (good_fine h)]
theorem eqB_lst {S : Store} {n k : Nat} {xs : List D} (hn : S[n]? = some (.lst xs)) (hk : S[k]? = some (.lst xs)) (h : (D.tup xs).good = true) : eqB S (.ref n) (.ref k) = some true := by
  have v1 : view S (.ref n) = some (true, .tup xs) := by
    dsimp only [view]
    rw [hn]
  have v2 : view S (.ref k) = some (true, .tup xs) := by
    dsimp only [view]
    rw [hk]
  unfold eqB
  rw [v1, v2]
  dsimp only
  rw [if_pos ⟨h, h⟩, if_pos rfl, deq_self _ (good_fine h)]
theorem ne_tup {S : Store} {xs : List D} (h : (D.tup xs).good = true) : gNe S (.tup xs) (.tup xs) = .ok (.bl false) S := by
  unfold gNe
  rw [eqB_tup h]
  rfl
theorem ne_lst {S : Store} {n k : Nat} {xs : List D} (hn : S[n]? = some (.lst xs)) (hk : S[k]? = some (.lst xs)) (h : (D.tup xs).good = true) : gNe S (.ref n) (.ref k) = .ok (.bl false) S := by
  unfold gNe
  rw [eqB_lst hn hk h]
  rfl
theorem eq_lst {S : Store} {n k : Nat} {xs : List D} (hn : S[n]? = some (.lst xs)) (hk : S[k]? = some (.lst xs)) (h : (D.tup xs).good = true) : gEq S (.ref n) (.ref k) = .ok (.bl true) S := by
  unfold gEq
  rw [eqB_lst hn hk h]
theorem alike_bools (b : Bool) : Ev F__law_alike [.bl b, .bl b] (.bl true) := by
  refine ⟨rfl, rfl, [], fn_of_rt ?_⟩
  have r : gRepr ([] : Store) [.bl b] = .ok (.str (shw (.bool b))) [] := by cases b <;> rfl
  simp [den__law_alike, r, gEqS]
theorem alike_lists {S : Store} {n k : Nat} {xs : List D} (hn : S[n]? = some (.lst xs)) (hk : S[k]? = some (.lst xs)) (h : (D.tup xs).good = true) (hs : (PyData.list (D.pdL xs)).showable = true) (hl : (PyData.list (D.pdL xs)).shown.length ≤ 100000) :
    runF F__law_alike S [.ref n, .ref k] = .ok (.bl true) S := by
  rw [runF_ref pureL_ref2]
  have v1 : view S (.ref n) = some (true, .tup xs) := by
    dsimp only [view]
    rw [hn]
  have v2 : view S (.ref k) = some (true, .tup xs) := by
    dsimp only [view]
    rw [hk]
  have r1 : gRepr S [.ref n] = .ok (.str (shw (.list (D.pdL xs)))) S := by
    dsimp only [gRepr]
    rw [v1]
    exact if_pos ⟨h, hs, hl⟩
  have r2 : gRepr S [.ref k] = .ok (.str (shw (.list (D.pdL xs)))) S := by
    dsimp only [gRepr]
    rw [v2]
    exact if_pos ⟨h, hs, hl⟩
  refine fn_of_rt ?_
  have := eq_lst hn hk h
  simp [den__law_alike, r1, r2, gEqS, this]
/-! ### how long is what is shown -/
theorem piled_le {B : Nat} : ∀ ts : List Str, (∀ t ∈ ts, t.length ≤ B) → piled ts ≤ ts.length * (B + 2)
  | [], _ => by simp [piled]
  | t :: ts, h => by
    have a := h t (List.mem_cons_self ..)
    have b := piled_le ts fun t z => h t (List.mem_cons_of_mem _ z)
    have e : piled (t :: ts) = t.length + 2 + piled ts := by simp [piled]
    rw [e, List.length_cons, Nat.add_mul]
    omega
theorem tuple_len (ts : List Str) : (tupleText ts).length ≤ piled ts + 3 := by
  unfold tupleText
  rw [strLen_append, strLen_append]
  have e1 : (("(" : String) : Str).length = 1 := rfl
  have e2 : ((if ts.length == 1 then ",)" else ")" : String) : Str).length ≤ 2 := by split <;> decide
  cases ts with
  | nil =>
    have : (Str.join ", " []).length = 0 := rfl
    omega
  | cons t ts =>
    have := join_length_add (t :: ts) (by simp)
    omega
theorem from_len : ∀ (ts : List Str) (k : Nat) (acc : Str), (textFrom k acc ts).length ≤ acc.length + piled ts
  | [], k, acc => by simp [textFrom]
  | t :: r, k, acc => by
    have e0 : piled (t :: r) = t.length + 2 + piled r := by simp [piled]
    have h := from_len r (k + 1) (acc ++ (if k > 0 then ", " else "" : String) ++ t)
    have e : (acc ++ (if k > 0 then ", " else "" : String) ++ t).length = acc.length + (if k > 0 then 2 else 0) + t.length := by
      rw [strLen_append, strLen_append]
      congr 2
      split <;> rfl
    rw [e] at h
    show (textFrom (k + 1) (acc ++ (if k > 0 then ", " else "" : String) ++ t) r).length ≤ _
    have : (if k > 0 then 2 else 0) ≤ 2 := by split <;> omega
    omega
theorem list_len (ts : List Str) : (listText ts).length ≤ piled ts + 2 := by
  unfold listText
  rw [strLen_append]
  have h := from_len ts 0 "["
  have e1 : (("[" : String) : Str).length = 1 := rfl
  have e2 : (("]" : String) : Str).length = 1 := rfl
  omega
/-- a number below 64 -/
theorem int_show : ∀ k : Nat, k < 64 → (PyData.int k).showable = true ∧ (PyData.int k).shown.length ≤ 2 := by
  have : ∀ k : Fin 64, (PyData.int (k.val : Nat)).showable = true ∧ (PyData.int (k.val : Nat)).shown.length ≤ 2 := by decide +kernel
  exact fun k hk => this ⟨k, hk⟩
theorem shownAll_map {α : Type} (f : α → D) (l : List α) : PyData.shownAll (D.pdL (l.map f)) = l.map fun x => (f x).pd.shown := by
  induction l with
  | nil => rfl
  | cons x l ih =>
    show (f x).pd.shown :: PyData.shownAll (D.pdL (l.map f)) = _
    rw [ih]; rfl
theorem showableAll_map {α : Type} (f : α → D) (l : List α) (h : ∀ x ∈ l, (f x).pd.showable = true) : PyData.showableAll (D.pdL (l.map f)) = true := by
  induction l with
  | nil => rfl
  | cons x l ih =>
    show ((f x).pd.showable && PyData.showableAll (D.pdL (l.map f))) = true
    rw [h x (List.mem_cons_self ..), ih fun y hy => h y (List.mem_cons_of_mem _ hy)]; rfl
theorem wd_show (w : Wd) : w.d.pd.showable = true ∧ w.d.pd.shown.length ≤ 4 := by cases w <;> decide +kernel
theorem tD_show (t : Tl) (h : ∀ w k, t = some (w, k) → k < 64) : (tD t).pd.showable = true ∧ (tD t).pd.shown.length ≤ 13 := by
  cases t with
  | none => exact ⟨rfl, by decide⟩
  | some p =>
    obtain ⟨w, k⟩ := p
    obtain ⟨a1, a2⟩ := wd_show w
    obtain ⟨b1, b2⟩ := int_show k (h w k rfl)
    refine ⟨?_, ?_⟩
    · show (w.d.pd.showable && ((PyData.int k).showable && true)) = true
      rw [a1, b1]; rfl
    · have := tuple_len [w.d.pd.shown, (PyData.int k).shown]
      have e : piled [w.d.pd.shown, (PyData.int k).shown] = w.d.pd.shown.length + 2 + ((PyData.int k).shown.length + 2 + 0) := by simp [piled]
      show (tupleText [w.d.pd.shown, (PyData.int k).shown]).length ≤ 13
      omega
theorem mD_show {m : Ms} (h : Mach m) : (mD m).pd.showable = true ∧ (mD m).pd.shown.length ≤ 4000 := by
  have hf := h.few
  have cell : ∀ r ∈ m, ∀ t ∈ r, ∀ w k, t = some (w, k) → k < 64 := fun r hr t ht w k e => by
    obtain ⟨i, hi⟩ := List.getElem?_of_mem hr
    subst e
    obtain ⟨s, hs⟩ := cell_mem hi ht
    have := h.wf.to i s w k hs
    omega
  have row : ∀ r ∈ m, (rD r).pd.showable = true ∧ (rD r).pd.shown.length ≤ 48 := fun r hr => by
    refine ⟨showableAll_map tD r fun t ht => (tD_show t (cell r hr t ht)).1, ?_⟩
    show (tupleText (PyData.shownAll (D.pdL (r.map tD)))).length ≤ 48
    rw [shownAll_map]
    obtain ⟨i, hi⟩ := List.getElem?_of_mem hr
    have h3 := h.wf.three i r hi
    have a := tuple_len (r.map fun x => (tD x).pd.shown)
    have b := piled_le (B := 13) (r.map fun x => (tD x).pd.shown) fun t ht => by
      obtain ⟨x, hx, rfl⟩ := List.mem_map.mp ht
      exact (tD_show x (cell r hr x hx)).2
    rw [List.length_map, h3] at b
    omega
  refine ⟨showableAll_map rD m fun r hr => (row r hr).1, ?_⟩
  show (tupleText (PyData.shownAll (D.pdL (m.map rD)))).length ≤ 4000
  rw [shownAll_map]
  have a := tuple_len (m.map fun x => (rD x).pd.shown)
  have b := piled_le (B := 48) (m.map fun x => (rD x).pd.shown) fun t ht => by
    obtain ⟨x, hx, rfl⟩ := List.mem_map.mp ht
    exact (row x hx).2
  rw [List.length_map] at b
  omega
/-- the list of the law's first look -/
def lookD (R : Ms) : List D := [.bl true, .bl true, .bl true, mD R, mD R, .non]
theorem look_show {R : Ms} (h : Mach R) : (D.tup (lookD R)).good = true ∧ (PyData.list (D.pdL (lookD R))).showable = true ∧ (PyData.list (D.pdL (lookD R))).shown.length ≤ 100000 := by
  obtain ⟨a, b⟩ := mD_show h
  refine ⟨good_of (by simp [lookD, D.fine, D.fineL, mD_fine]) ?_, ?_, ?_⟩
  · have := mD_deep R
    have z : D.deep (.bl true) = 0 := rfl
    have z2 : D.deep .non = 0 := rfl
    have e : D.deepL (lookD R) ≤ 4 := deepL_of fun d hd => by
      simp only [lookD, List.mem_cons, List.not_mem_nil, or_false] at hd
      rcases hd with rfl | rfl | rfl | rfl | rfl | rfl <;> omega
    show D.deepL (lookD R) + 1 ≤ 60
    omega
  · show (true && (true && (true && ((mD R).pd.showable && ((mD R).pd.showable && (true && true)))))) = true
    rw [a]; rfl
  · have l := list_len (PyData.shownAll (D.pdL (lookD R)))
    have e : PyData.shownAll (D.pdL (lookD R)) = [(PyData.bool true).shown, (PyData.bool true).shown, (PyData.bool true).shown, (mD R).pd.shown, (mD R).pd.shown, PyData.none.shown] := rfl
    have t1 : (PyData.bool true).shown.length = 4 := by decide
    have t2 : PyData.none.shown.length = 4 := by decide
    have p : piled [(PyData.bool true).shown, (PyData.bool true).shown, (PyData.bool true).shown, (mD R).pd.shown, (mD R).pd.shown, PyData.none.shown] = 6 + (6 + (6 + ((mD R).pd.shown.length + 2 + ((mD R).pd.shown.length + 2 + (6 + 0))))) := by simp [piled, t1, t2]
    show (listText (PyData.shownAll (D.pdL (lookD R)))).length ≤ 100000
    rw [e] at l ⊢
    omega
end K33

set_option Elab.async false
set_option linter.all false
set_option maxRecDepth 100000
set_option maxHeartbeats 8000000
namespace K33
open Dl
/-! ### the bag -/
/-- all but the object n stays -/
structure Keep (n : Nat) (S S' : Store) : Prop where
  len : S.length ≤ S'.length
  at_ : ∀ j, j ≠ n → j < S.length → S'[j]? = S[j]?
section
variable {n j : Nat} {S S1 S2 : Store} {o : DO}
theorem Keep.refl (n : Nat) (S : Store) : Keep n S S := ⟨Nat.le_refl _, fun _ _ _ => rfl⟩
theorem Keep.trans (h : Keep n S S1) (g : Keep n S1 S2) : Keep n S S2 := ⟨Nat.le_trans h.len g.len, fun j a b => (g.at_ j a (Nat.lt_of_lt_of_le b h.len)).trans (h.at_ j a b)⟩
theorem Keep.pre (n : Nat) (h : Pre S S1) : Keep n S S1 := ⟨h.len, fun j _ b => by
  obtain ⟨G, rfl⟩ := h
  exact List.getElem?_append_left b⟩
theorem Keep.set (n : Nat) (S : Store) (o : DO) : Keep n S (S.set n o) := ⟨by rw [List.length_set]; exact Nat.le_refl _, fun j a _ => List.getElem?_set_ne (Ne.symm a)⟩
theorem Keep.get (h : Keep n S S1) (a : j ≠ n) (e : S[j]? = some o) : S1[j]? = some o := by rw [h.at_ j a (lt_of_get e)]; exact e
def bagO (a b c : Int) (k : Nat) : DO := .lst [.int a, .int b, .int c, .ref k]
structure Bag (n k : Nat) (S : Store) : Prop where
  ex : ∃ (a b c : Int) (xs : List Int), S[n]? = some (bagO a b c k) ∧ S[k]? = some (.lst (xs.map D.int)) ∧ k ≠ n ∧ 0 ≤ a ∧ xs.length ≤ 63
theorem Bag.lt {k : Nat} (h : Bag n k S) : n < S.length := by
  obtain ⟨_, _, _, _, e, _⟩ := h.ex
  exact lt_of_get e
theorem Bag.lt2 {k : Nat} (h : Bag n k S) : k < S.length := by
  obtain ⟨_, _, _, _, _, e, _⟩ := h.ex
  exact lt_of_get e
theorem Bag.pre {k : Nat} (h : Bag n k S) (p : Pre S S1) : Bag n k S1 := by
  obtain ⟨a, b, c, xs, h1, h2, h3⟩ := h.ex
  exact ⟨a, b, c, xs, p.get h1, p.get h2, h3⟩
theorem Bag.other {k l : Nat} (h : Bag n k S) (a : l ≠ n) (b : l ≠ k) (o : DO) : Bag n k (S.set l o) := by
  obtain ⟨x, y, c, xs, h1, h2, h3⟩ := h.ex
  exact ⟨x, y, c, xs, by rw [List.getElem?_set_ne a]; exact h1, by rw [List.getElem?_set_ne b]; exact h2, h3⟩
theorem Keep.high {l : Nat} (h : Keep n S S1) (hl : S.length ≤ l) (o : DO) : Keep n S (S1.set l o) := ⟨by rw [List.length_set]; exact h.len, fun j a b => by rw [List.getElem?_set_ne (by omega)]; exact h.at_ j a b⟩
theorem gSet_lst {xs : List D} {i : Nat} {v : D} (hn : S[n]? = some (.lst xs)) (hi : i < xs.length) : gSet S (.ref n) (.int i) v = some (S.set n (.lst (xs.set i v))) := by
  have e : L2.ixN xs.length (i : Int) = some i := by
    unfold L2.ixN
    rw [if_pos (by omega)]
    simp [hi]
  dsimp only [gSet]
  rw [hn]
  dsimp only
  rw [e]
theorem set_get (h : n < S.length) : (S.set n o)[n]? = some o := by rw [List.getElem?_set_self h]
theorem x_mul {a b : Int} (h : big64 a = true ∨ big64 b = true) : gMul S (.int a) (.int b) = .ok (.int (a * b)) S := by
  show (if (big64 a || big64 b) = true then Rs.ok (D.int (a * b)) S else .stuck) = _
  rw [if_pos (by rw [Bool.or_eq_true]; exact h)]
theorem x_mod {a b : Int} (h : 0 < b) : gMod S (.int a) (.int b) = .ok (.int (a % b)) S := by
  show (if decide (0 < b) = true then Rs.ok (D.int (a % b)) S else .stuck) = _
  rw [if_pos (decide_eq_true h)]
theorem x_div {a b : Int} (h : 0 < b) (g : b < 1073741824) : gDiv S (.int a) (.int b) = .ok (.int (a / b)) S := by
  show (if (decide (0 < b) && decide (b < 1073741824)) = true then Rs.ok (D.int (a / b)) S else .stuck) = _
  rw [if_pos (by rw [decide_eq_true h, decide_eq_true g]; rfl)]
theorem x_int {a : Int} : gInt S [.int a] = .ok (.int a) S := rfl
theorem bag_ix {a b c : Int} {k : Nat} (hn : S[n]? = some (bagO a b c k)) : gIx S (.ref n) (.int 0) = .ok (.int a) S ∧ gIx S (.ref n) (.int 1) = .ok (.int b) S ∧ gIx S (.ref n) (.int 2) = .ok (.int c) S ∧ gIx S (.ref n) (.int 3) = .ok (.ref k) S :=
  ⟨x_ixL (i := 0) hn rfl, x_ixL (i := 1) hn rfl, x_ixL (i := 2) hn rfl, x_ixL (i := 3) hn rfl⟩
theorem bag_set {a b c : Int} {k : Nat} (hn : S[n]? = some (bagO a b c k)) (v : Int) : gSet S (.ref n) (.int 0) (.int v) = some (S.set n (bagO v b c k)) ∧ gSet S (.ref n) (.int 1) (.int v) = some (S.set n (bagO a v c k)) ∧ gSet S (.ref n) (.int 2) (.int v) = some (S.set n (bagO a b v k)) :=
  ⟨gSet_lst (i := 0) hn (by show 0 < 4; omega), gSet_lst (i := 1) hn (by show 1 < 4; omega), gSet_lst (i := 2) hn (by show 2 < 4; omega)⟩
theorem cut_int (xs : List Int) (lo hi : Option Int) : cutD (xs.map D.int) lo hi = (cutD xs lo hi).map D.int := by
  unfold cutD
  rw [List.length_map, List.map_take, List.map_drop]
theorem cut_len {α : Type} (xs : List α) (lo hi : Option Int) : (cutD xs lo hi).length ≤ xs.length := by
  unfold cutD
  rw [List.length_take, List.length_drop]
  omega
theorem first_int (l : List Int) : ∃ v, (l.map D.int ++ [D.int 0])[0]? = some (.int v) := by
  cases l with
  | nil => exact ⟨0, rfl⟩
  | cons x l => exact ⟨x, rfl⟩
end
/-- the first part of take: where the first cell is 0 -/
theorem take_fill {n : Nat} {S : Store} {b c : Int} {k : Nat} {xs : List Int} {M : D} (hn : S[n]? = some (bagO 0 b c k)) (hk : S[k]? = some (.lst (xs.map D.int))) (hne : k ≠ n) (hl : xs.length ≤ 63) :
    ∃ (x2 x3 : Option D) (a' b' : Int) (S1 : Store), (sSeq (sSet 2 (cOp2 gIx (cOp2 gAdd (cSl (cOp2 gIx (cV 0) (cC (.int 3))) (oSome (cOp2 gIx (cV 0) (cC (.int 2)))) oNone) (cLst (aC (cC (.int 0)) aN))) (cC (.int 0)))) (sSeq (sAugS (cV 0) (cC (.int 2)) (cC (.int 1)) gAddI) (sSeq (sIf (kB (cOp2 gGe (cV 2) (cOp2 gPow (cC (.int 10)) (cC (.int 18))))) (sAsgG (cV 2) (gSub2 (cV 0) (cC (.int 0)))) sNext) (sSeq (sSet 3 (cOp2 gAdd (cOp2 gAdd (cOp2 gMul (cOp2 gIx (cV 0) (cC (.int 1))) (cC (.int 48271))) (cOp2 gMod (cCall gInt (aC (cV 2) aN)) (cC (.int 2147483647)))) (cOp2 gMul (cC (.int 7919)) (cOp2 gIx (cV 0) (cC (.int 2)))))) (sAsgG (cOp2 gMod (cCall gInt (aC (cV 3) aN)) (cC (.int 2147483647))) (gSub2 (cV 0) (cC (.int 1)))))))) [some (.ref n), some M, none, none, none, none, none] S
      = .nx [some (.ref n), some M, x2, x3, none, none, none] S1 ∧ 0 ≤ a' ∧ Keep n S S1 ∧ S1[n]? = some (bagO a' b' (c + 1) k) ∧ S1[k]? = some (.lst (xs.map D.int)) := by
  obtain ⟨i0, i1, i2, i3⟩ := bag_ix hn
  obtain ⟨v, hv⟩ := first_int (cutD xs (some c) none)
  obtain ⟨ct, hct⟩ : ∃ ct, ct = (cutD xs (some c) none).map D.int := ⟨_, rfl⟩
  have ctl : ct.length ≤ 63 := by rw [hct, List.length_map]; exact Nat.le_trans (cut_len ..) hl
  rw [← hct] at hv
  obtain ⟨T, hT⟩ : ∃ T, T = S ++ [DO.lst ct] ++ [DO.lst [.int 0]] ++ [DO.lst (ct ++ [.int 0])] := ⟨_, rfl⟩
  have pT : Pre S T := ⟨[DO.lst ct, DO.lst [.int 0], DO.lst (ct ++ [.int 0])], by rw [hT]; simp⟩
  have st1 : sSet 2 (cOp2 gIx (cOp2 gAdd (cSl (cOp2 gIx (cV 0) (cC (.int 3))) (oSome (cOp2 gIx (cV 0) (cC (.int 2)))) oNone) (cLst (aC (cC (.int 0)) aN))) (cC (.int 0))) [some (.ref n), some M, none, none, none, none, none] S = .nx [some (.ref n), some M, some (.int v), none, none, none, none] T := by
    have sl : gSl S (.ref k) (some c) none = .ok (.ref S.length) (S ++ [DO.lst ct]) := by
      dsimp only [gSl]
      rw [hk]
      dsimp only
      rw [cut_int, ← hct]
    have ad : gAdd (S ++ [DO.lst ct] ++ [DO.lst [.int 0]]) (.ref S.length) (.ref (S ++ [DO.lst ct]).length) = .ok (.ref (S ++ [DO.lst ct] ++ [DO.lst [.int 0]]).length) T := by
      have e1 : (S ++ [DO.lst ct] ++ [DO.lst [.int 0]])[S.length]? = some (.lst ct) := by simp
      have e2 : (S ++ [DO.lst ct] ++ [DO.lst [.int 0]])[(S ++ [DO.lst ct]).length]? = some (.lst [.int 0]) := by simp
      dsimp only [gAdd]
      rw [e1, e2]
      dsimp only
      rw [if_pos (by rw [List.length_singleton]; omega), hT]
    have ix : gIx T (.ref (S ++ [DO.lst ct] ++ [DO.lst [.int 0]]).length) (.int 0) = .ok (.int v) T := x_ixL (i := 0) (by rw [hT]; simp) hv
    refine (ev_set (d := .int v) (S1 := T) ?_).trans rfl
    rw [x_op2, x_op2, x_cSl, x_op2, x_cV0, x_bind, x_cC, x_bind, i3, x_bind, x_oSome, x_op2, x_cV0, x_bind, x_cC, x_bind, i2, x_bind, x_oInt, x_bind, x_oNone, x_bind, sl, x_bind, x_cLst, x_aC, x_cC, x_bind, x_aN, x_bind, x_bind, if_pos (by decide), x_bind, ad, x_bind, x_cC, x_bind, ix]
  have hnT := pT.get hn
  have hkT := pT.get hk
  have nT := lt_of_get hnT
  obtain ⟨j0, j1, j2, j3⟩ := bag_ix hnT
  obtain ⟨T1, hT1⟩ : ∃ T1, T1 = T.set n (bagO 0 b (c + 1) k) := ⟨_, rfl⟩
  have st2 : sAugS (cV 0) (cC (.int 2)) (cC (.int 1)) gAddI [some (.ref n), some M, some (.int v), none, none, none, none] T = .nx [some (.ref n), some M, some (.int v), none, none, none, none] T1 := by
    have g : getL T (.ref n) (.int 2) = some (.int c) := by
      dsimp only [getL]
      rw [hnT]
      rfl
    have s := (bag_set hnT (c + 1)).2.2
    unfold sAugS
    rw [x_cV0, x_to, x_cC, x_to, g]
    dsimp only
    rw [x_cC, x_to, x_augI, x_to, s, ← hT1]
  have hn1 : T1[n]? = some (bagO 0 b (c + 1) k) := by rw [hT1]; exact set_get nT
  have hk1 : T1[k]? = some (.lst (xs.map D.int)) := by rw [hT1]; exact (Keep.set n T _).get hne hkT
  have K1 : Keep n S T1 := by rw [hT1]; exact (Keep.pre n pT).trans (Keep.set n T _)
  have pw : ∀ S' : Store, gPow S' (.int 10) (.int 18) = .ok (.int (10 ^ 18)) S' := fun _ => rfl
  obtain ⟨a', T2, st3, ha', hn2, hk2, K2⟩ : ∃ (a' : Int) (T2 : Store), sIf (kB (cOp2 gGe (cV 2) (cOp2 gPow (cC (.int 10)) (cC (.int 18))))) (sAsgG (cV 2) (gSub2 (cV 0) (cC (.int 0)))) sNext [some (.ref n), some M, some (.int v), none, none, none, none] T1 = .nx [some (.ref n), some M, some (.int v), none, none, none, none] T2 ∧ 0 ≤ a' ∧ T2[n]? = some (bagO a' b (c + 1) k) ∧ T2[k]? = some (.lst (xs.map D.int)) ∧ Keep n S T2 := by
    by_cases hb : (10 ^ 18 : Int) ≤ v
    · have s := (bag_set hn1 v).1
      refine ⟨v, T1.set n (bagO v b (c + 1) k), ?_, by omega, set_get (lt_of_get hn1), (Keep.set n T1 _).get hne hk1, K1.trans (Keep.set n T1 _)⟩
      have s3 : ∀ e, gsK3 (.int v) (.ref n) (.int 0) e T1 = .ok e (T1.set n (bagO v b (c + 1) k)) := fun e => by unfold gsK3; rw [s]
      have hb2 : (1000000000000000000 : Int) ≤ v := hb
      simp [pw, hb2, s3]
    · refine ⟨0, T1, ?_, Int.le_refl _, hn1, hk1, K1⟩
      have hb2 : ¬ (1000000000000000000 : Int) ≤ v := hb
      simp [pw, hb2]
  obtain ⟨k0, k1, k2, k3⟩ := bag_ix hn2
  have st4 : sSet 3 (cOp2 gAdd (cOp2 gAdd (cOp2 gMul (cOp2 gIx (cV 0) (cC (.int 1))) (cC (.int 48271))) (cOp2 gMod (cCall gInt (aC (cV 2) aN)) (cC (.int 2147483647)))) (cOp2 gMul (cC (.int 7919)) (cOp2 gIx (cV 0) (cC (.int 2))))) [some (.ref n), some M, some (.int v), none, none, none, none] T2 = .nx [some (.ref n), some M, some (.int v), some (.int (b * 48271 + v % 2147483647 + 7919 * (c + 1))), none, none, none] T2 := by
    have m1 : gMul T2 (.int b) (.int 48271) = .ok (.int (b * 48271)) T2 := x_mul (.inr (by decide))
    have m2 : gMul T2 (.int 7919) (.int (c + 1)) = .ok (.int (7919 * (c + 1))) T2 := x_mul (.inl (by decide))
    have m3 : gMod T2 (.int v) (.int 2147483647) = .ok (.int (v % 2147483647)) T2 := x_mod (by decide)
    simp [k1, k2, m1, m2, m3, x_int]
  obtain ⟨w, hw⟩ : ∃ w, w = b * 48271 + v % 2147483647 + 7919 * (c + 1) := ⟨_, rfl⟩
  rw [← hw] at st4
  have s := (bag_set hn2 (w % 2147483647)).2.1
  have s3 : ∀ e, gsK3 (.int (w % 2147483647)) (.ref n) (.int 1) e T2 = .ok e (T2.set n (bagO a' (w % 2147483647) (c + 1) k)) := fun e => by unfold gsK3; rw [s]
  have m4 : gMod T2 (.int w) (.int 2147483647) = .ok (.int (w % 2147483647)) T2 := x_mod (by decide)
  refine ⟨some (.int v), some (.int w), a', w % 2147483647, T2.set n (bagO a' (w % 2147483647) (c + 1) k), ?_, ha', K2.trans (Keep.set n T2 _), set_get (lt_of_get hn2), (Keep.set n T2 _).get hne hk2⟩
  rw [ev_seq st1, ev_seq st2, ev_seq st3, ev_seq st4]
  simp [x_int, m4, s3]
theorem take_ev {n k : Nat} {S : Store} {M : Nat} (h : Bag n k S) (h0 : 0 < M) (hM : M < 1000000) : ∃ (v : Nat) (S' : Store), v < M ∧ F__law_take [.ref n, .int M] S = .ok (.int v) S' ∧ Bag n k S' ∧ Keep n S S' := by
  obtain ⟨a, b, c, xs, hn, hk, hne, ha, hl⟩ := h.ex
  have part2 : ∀ (x2 x3 : Option D) (a b c : Int) (S : Store), S[n]? = some (bagO a b c k) → S[k]? = some (.lst (xs.map D.int)) → 0 ≤ a → ∃ (v : Nat) (S' : Store), v < M ∧ (sSeq (sIf (kB (cOp2 gGt (cOp2 gIx (cV 0) (cC (.int 0))) (cC (.int 0)))) (sSeq (sSet 4 (cOp2 gMod (cCall gInt (aC (cOp2 gIx (cV 0) (cC (.int 0))) aN)) (cV 1))) (sSeq (sAsgG (cOp2 gDiv (cCall gInt (aC (cOp2 gIx (cV 0) (cC (.int 0))) aN)) (cV 1)) (gSub2 (cV 0) (cC (.int 0)))) (sRet (cV 4)))) sNext) (sSeq (sSet 5 (cOp2 gMod (cCall gInt (aC (cOp2 gMul (cOp2 gAdd (cOp2 gIx (cV 0) (cC (.int 1))) (cC (.int 1))) (cC (.int 39373))) aN)) (cC (.int 1000000007)))) (sSeq (sSet 6 (cOp2 gMod (cCall gInt (aC (cOp2 gMul (cOp2 gMod (cCall gInt (aC (cOp2 gMul (cV 5) (cV 5)) aN)) (cC (.int 998244353))) (cC (.int 30011))) aN)) (cC (.int 998244353)))) (sRet (cOp2 gMod (cCall gInt (aC (cOp2 gDiv (cV 6) (cC (.int 7))) aN)) (cV 1)))))) [some (.ref n), some (.int M), x2, x3, none, none, none] S = .rt (.int v) S' ∧ Bag n k S' ∧ Keep n S S' := by
    intro x2 x3 a b c S hn hk ha
    obtain ⟨i0, i1, i2, i3⟩ := bag_ix hn
    have M0 : (0 : Int) < M := by omega
    have val : ∀ z : Int, ∃ v : Nat, v < M ∧ z % (M : Int) = v := fun z => by
      have a1 := Int.emod_nonneg z (show (M : Int) ≠ 0 by omega)
      have a2 := Int.emod_lt_of_pos z M0
      exact ⟨(z % (M : Int)).toNat, by omega, by omega⟩
    by_cases h0 : 0 < a
    · obtain ⟨v, hv, ev⟩ := val a
      have m1 : gMod S (.int a) (.int M) = .ok (.int v) S := by rw [x_mod M0, ev]
      have m2 : gDiv S (.int a) (.int M) = .ok (.int (a / M)) S := x_div M0 (by omega)
      have s := (bag_set hn (a / M)).1
      have s3 : ∀ e, gsK3 (.int (a / M)) (.ref n) (.int 0) e S = .ok e (S.set n (bagO (a / M) b c k)) := fun e => by unfold gsK3; rw [s]
      refine ⟨v, S.set n (bagO (a / M) b c k), hv, ?_, ⟨a / M, b, c, xs, set_get (lt_of_get hn), (Keep.set n S _).get hne hk, hne, Int.ediv_nonneg ha (by omega), hl⟩, Keep.set n S _⟩
      simp [i0, h0, x_int, m1, m2, s3]
    · obtain ⟨f, hf⟩ : ∃ f, f = ((b + 1) * 39373) % 1000000007 := ⟨_, rfl⟩
      have f1 : 0 ≤ f := by rw [hf]; exact Int.emod_nonneg _ (by decide)
      have f2 : f < 1000000007 := by rw [hf]; exact Int.emod_lt_of_pos _ (by decide)
      have m1 : gMul S (.int (b + 1)) (.int 39373) = .ok (.int ((b + 1) * 39373)) S := x_mul (.inr (by decide))
      have m2 : gMod S (.int ((b + 1) * 39373)) (.int 1000000007) = .ok (.int f) S := by rw [x_mod (by decide), hf]
      have m3 : gMul S (.int f) (.int f) = .ok (.int (f * f)) S := x_mul (.inl (by
        unfold big64
        rw [decide_eq_true (by omega), decide_eq_true (by omega)]; rfl))
      have m4 : gMod S (.int (f * f)) (.int 998244353) = .ok (.int (f * f % 998244353)) S := x_mod (by decide)
      have m5 : gMul S (.int (f * f % 998244353)) (.int 30011) = .ok (.int (f * f % 998244353 * 30011)) S := x_mul (.inr (by decide))
      have m6 : gMod S (.int (f * f % 998244353 * 30011)) (.int 998244353) = .ok (.int (f * f % 998244353 * 30011 % 998244353)) S := x_mod (by decide)
      have m7 : gDiv S (.int (f * f % 998244353 * 30011 % 998244353)) (.int 7) = .ok (.int (f * f % 998244353 * 30011 % 998244353 / 7)) S := x_div (by decide) (by decide)
      obtain ⟨v, hv, ev⟩ := val (f * f % 998244353 * 30011 % 998244353 / 7)
      have m8 : gMod S (.int (f * f % 998244353 * 30011 % 998244353 / 7)) (.int M) = .ok (.int v) S := by rw [x_mod M0, ev]
      refine ⟨v, S, hv, ?_, ⟨a, b, c, xs, hn, hk, hne, ha, hl⟩, Keep.refl n S⟩
      simp [i0, i1, h0, x_int, m1, m2, m3, m4, m5, m6, m7, m8]
  obtain ⟨i0, i1, i2, i3⟩ := bag_ix hn
  by_cases h1 : a = 0
  · subst h1
    obtain ⟨x2, x3, a', b', S1, st, ha', K, hn1, hk1⟩ := take_fill (M := .int M) hn hk hne hl
    obtain ⟨v, S', hv, r, hB, K2⟩ := part2 x2 x3 a' b' (c + 1) S1 hn1 hk1 ha'
    refine ⟨v, S', hv, fn_of_rt ?_, hB, K.trans K2⟩
    show den__law_take [some (.ref n), some (.int M), none, none, none, none, none] S = _
    unfold den__law_take
    rw [ev_seq (e1 := [some (.ref n), some (.int M), x2, x3, none, none, none]) (S1 := S1) ?_]
    · exact r
    · rw [ev_if (b := true) (S1 := S) (by simp [i0]), if_pos rfl]
      exact st
  · obtain ⟨v, S', hv, r, hB, K2⟩ := part2 none none a b c S hn hk ha
    refine ⟨v, S', hv, fn_of_rt ?_, hB, K2⟩
    show den__law_take [some (.ref n), some (.int M), none, none, none, none, none] S = _
    unfold den__law_take
    rw [ev_seq (e1 := [some (.ref n), some (.int M), none, none, none, none, none]) (S1 := S) ?_]
    · exact r
    · rw [ev_if (b := false) (S1 := S) (by simp [i0, h1]), if_neg (by decide)]
      rfl
end K33

set_option Elab.async false
set_option linter.all false
set_option maxRecDepth 100000
set_option maxHeartbeats 8000000
namespace K33
open Dl
section
variable {n k : Nat} {S S1 : Store}
theorem take_run {M : Nat} (h : Bag n k S) (h0 : 0 < M) (hM : M < 1000000) : ∃ (v : Nat) (S' : Store), v < M ∧ runF F__law_take S [.ref n, .int M] = .ok (.int v) S' ∧ Bag n k S' ∧ Keep n S S' := by
  obtain ⟨v, S', hv, r, b, g⟩ := take_ev h h0 hM
  exact ⟨v, S', hv, by rw [runF_ref (show D.pureL [.ref n, .int M] = false from rfl)]; exact r, b, g⟩
theorem some_run {l : Nat} {xs : List D} (h : Bag n k S) (hl : S[l]? = some (.lst xs)) (hln : l ≠ n) (h0 : 0 < xs.length) (hM : xs.length < 1000000) :
    ∃ (d : D) (S' : Store), d ∈ xs ∧ runF F__law_some S [.ref n, .ref l] = .ok d S' ∧ Bag n k S' ∧ Keep n S S' := by
  obtain ⟨v, S', hv, r, b, g⟩ := take_run h h0 hM
  refine ⟨xs[v], S', List.getElem_mem .., ?_, b, g⟩
  rw [runF_ref pureL_ref2]
  refine fn_of_rt ?_
  have ln := x_lenL hl
  have ix : gIx S' (.ref l) (.int v) = .ok xs[v] S' := x_ixL (g.get hln hl) (List.getElem?_eq_getElem hv)
  simp [den__law_some, ln, r, ix]
/-- a comprehension that takes from the bag -/
theorem lcb_go {src : Src} {gt : DG} {te : DE} {e0 : Env} {ds : List D} (P : Nat → D → Prop) (hB1 : Bag n k S1) (hb : ds.length < 100000)
    (hs : ∀ (S : Store) (i : Nat), Keep n S1 S → src.at S i = ds[i]?)
    (hx : ∀ (i : Nat) (d : D) (S : Store), ds[i]? = some d → Keep n S1 S → Bag n k S → ∃ e1 y S3, gt d e0 S = .ok e1 S ∧ te e1 S = .ok y S3 ∧ Keep n S S3 ∧ Bag n k S3 ∧ P i y) :
    ∀ (f i : Nat) (S : Store) (ys : List D), i ≤ ds.length → ds.length < f + i → ys.length = i → (∀ (j : Nat) (y : D), ys[j]? = some y → P j y) → S[S1.length]? = some (.lst ys) → Keep n S1 S → Bag n k S →
      ∃ ys S', lcD f src gt kYes te S1.length e0 i S = .ok (.ref S1.length) S' ∧ ys.length = ds.length ∧ (∀ (j : Nat) (y : D), ys[j]? = some y → P j y) ∧ S'[S1.length]? = some (.lst ys) ∧ Keep n S1 S' ∧ Bag n k S'
  | 0, i, _, _, h, h2, _, _, _, _, _ => by omega
  | f + 1, i, S, ys, h, h2, hl, hP, hy, hK, hB => by
    unfold lcD
    rw [hs S i hK]
    by_cases hi : i < ds.length
    · have e1 : ds[i]? = some ds[i] := List.getElem?_eq_getElem hi
      rw [e1]
      obtain ⟨en, y, S3, a, b, K3, B3, Py⟩ := hx i _ S e1 hK hB
      dsimp only
      rw [a]
      dsimp only [Rs.noX, Rs.bind, kYes]
      rw [if_pos rfl, b]
      dsimp only [Rs.noX, Rs.bind]
      have ne : S1.length ≠ n := by have := hB1.lt; omega
      have nk : S1.length ≠ k := by have := hB1.lt2; omega
      have y3 := K3.get ne hy
      have ad : addTo S1.length y S3 = some (S3.set S1.length (.lst (ys ++ [y]))) := by
        unfold addTo
        rw [y3]
        dsimp only
        rw [if_pos (by omega)]
      rw [ad]
      dsimp only
      refine lcb_go P hB1 hb hs hx f (i + 1) _ (ys ++ [y]) hi (by omega) (by rw [List.length_append, hl]; rfl) (fun j z hz => ?_) (set_get (lt_of_get y3)) ((hK.trans K3).high (Nat.le_refl _) _) (B3.other ne nk _)
      by_cases hj : j < ys.length
      · rw [List.getElem?_append_left hj] at hz
        exact hP j z hz
      · rw [List.getElem?_append_right (by omega)] at hz
        have hz2 := (List.getElem?_eq_some_iff.mp hz).1
        rw [List.length_singleton] at hz2
        have ej : j = i := by omega
        subst ej
        rw [hl, Nat.sub_self] at hz
        cases hz
        exact Py
    · have e0 : ds[i]? = none := List.getElem?_eq_none (by omega)
      rw [e0]
      exact ⟨ys, S, rfl, by omega, hP, hy, hK, hB⟩
theorem lc_bag {fi : DI} {src : Src} {gt : DG} {te : DE} {us : List Nat} {e : Env} {ds : List D} (P : Nat → D → Prop) (h : fi e S = .ok src S1) (hB1 : Bag n k S1) (hb : ds.length < 100000)
    (hs : ∀ (S : Store) (i : Nat), Keep n S1 S → src.at S i = ds[i]?)
    (hx : ∀ (i : Nat) (d : D) (S : Store), ds[i]? = some d → Keep n S1 S → Bag n k S → ∃ e1 y S3, gt d (wipeE e us) S = .ok e1 S ∧ te e1 S = .ok y S3 ∧ Keep n S S3 ∧ Bag n k S3 ∧ P i y) :
    ∃ ys S', cLc fi gt kYes te us e S = .ok (.ref S1.length) S' ∧ ys.length = ds.length ∧ (∀ (j : Nat) (y : D), ys[j]? = some y → P j y) ∧ S'[S1.length]? = some (.lst ys) ∧ Keep n S1 S' ∧ Bag n k S' := by
  unfold cLc
  rw [h]
  exact lcb_go P hB1 hb hs hx FUEL 0 _ [] (Nat.zero_le _) (fuel_big hb) rfl (fun j y hy => by cases hy) (by simp) (Keep.pre n (Pre.push _ _)) (hB1.pre (Pre.push _ _))
end
/-- what stands in rows that the law makes -/
structure Draw (N : Nat) (r : List Tl) : Prop where
  three : r.length = 3
  to : ∀ t ∈ r, ∀ w q, t = some (w, q) → q < N
theorem wf_of {m : Ms} (h : ∀ r ∈ m, Draw m.length r) : WF m := by
  refine ⟨fun i r e => (h r (List.mem_of_getElem? e)).three, fun i s w q c => ?_⟩
  obtain ⟨r, a, b⟩ := cell_some c
  exact (h r (List.mem_of_getElem? a)).to _ (List.mem_of_getElem? b) w q rfl
/-- ys are told things -/
theorem tells_of {P : Nat → Tl → Prop} : ∀ (ys : List D), (∀ (j : Nat) (y : D), ys[j]? = some y → ∃ t, y = tD t ∧ P j t) → ∃ r : List Tl, ys = r.map tD ∧ ∀ (j : Nat) (t : Tl), r[j]? = some t → P j t := by
  intro ys
  induction ys generalizing P with
  | nil => exact fun _ => ⟨[], rfl, fun j t h => by cases h⟩
  | cons y ys ih =>
    intro h
    obtain ⟨t, e, p⟩ := h 0 y rfl
    obtain ⟨r, er, pr⟩ := ih (P := fun j t => P (j + 1) t) fun j z hz => h (j + 1) z (by rw [List.getElem?_cons_succ]; exact hz)
    refine ⟨t :: r, by rw [e, er]; rfl, fun j z hz => ?_⟩
    cases j with
    | zero => cases hz; exact p
    | succ j => rw [List.getElem?_cons_succ] at hz; exact pr j z hz
section
variable {n k : Nat} {S S1 : Store}
theorem x_rng {j : Nat} (h : j < 100000) : rng1 [.int j] S = .ok (.fix (nsD (List.range j))) S := by
  show (if -100000 < (j : Int) ∧ (j : Int) < 100000 then Rs.ok (Src.fix ((List.range (j : Int).toNat).map fun i => D.int (0 + (i : Nat)))) S else .stuck) = _
  rw [if_pos (by omega)]
  congr 2
  rw [Int.toNat_natCast]
  unfold nsD
  refine List.map_congr_left fun i _ => ?_
  rw [Int.zero_add]
/-- append to a list of the function's own -/
theorem app_own {q : Nat} {xs : List D} {y : D} {e : Env} {g : DA} {f : DE} (hf : f e S = .ok (.ref q) S) (hq : S[q]? = some (.lst xs)) (hg : g e S = .ok [y] S1) (K : Keep n S S1) (hqn : q ≠ n) (hl : xs.length < 100000) :
    sDrop (cMt isLst gApp f g) e S = .nx e (S1.set q (.lst (xs ++ [y]))) := by
  have is0 := x_isLst hq
  have ap := x_appL (K.get hqn hq) (y := y) hl
  simp [hf, is0, hg, ap]
theorem cell_draw {M : Nat} {e : Env} (hB : Bag n k S) (h0 : 0 < M) (hM : M < 1000) (h1 : cV 0 e = fun S => .ok (.ref n) S) (h2 : cV 1 e = fun S => .ok (.int M) S) :
    ∃ (t : Tl) (S' : Store), cIfE (kB (cOp2 gEq (cFn 2 F__law_take (aC (cV 0) (aC (cC (.int 3)) aN))) (cC (.int 0)))) (cC .non) (cTup (aC (cFn 2 F__law_some (aC (cV 0) (aC (cLst (aC (cTup aN) (aC (cTup (aC (cC (.int 0)) aN)) (aC (cTup (aC (cC (.int 1)) aN)) (aC (cTup (aC (cC (.int 0)) aN)) aN))))) aN))) (aC (cFn 2 F__law_take (aC (cV 0) (aC (cV 1) aN))) aN))) e S = .ok (tD t) S' ∧ Bag n k S' ∧ Keep n S S' ∧ ∀ w q, t = some (w, q) → q < M ∧ w ≠ .n := by
  obtain ⟨v, S1, hv, r1, B1, K1⟩ := take_run (M := 3) hB (by omega) (by omega)
  have r1 : runF F__law_take S [.ref n, .int 3] = .ok (.int v) S1 := r1
  by_cases hz : v = 0
  · subst hz
    refine ⟨none, S1, ?_, B1, K1, fun w q h => by cases h⟩
    simp [h1, r1, tD]
  · have hz2 : ((v : Int) == 0) = false := by simp; omega
    obtain ⟨d, S2, hd, r2, B2, K2⟩ := some_run (S := S1 ++ [.lst [.tup [], .tup [.int 0], .tup [.int 1], .tup [.int 0]]]) (l := S1.length) (xs := [.tup [], .tup [.int 0], .tup [.int 1], .tup [.int 0]]) (B1.pre (Pre.push _ _)) (by simp) (by have := B1.lt; omega) (by simp) (by simp)
    obtain ⟨x, S3, hx, r3, B3, K3⟩ := take_run (M := M) B2 h0 (by omega)
    have hw : ∃ w : Wd, d = w.d ∧ w ≠ .n := by
      simp only [List.mem_cons, List.not_mem_nil, or_false] at hd
      rcases hd with rfl | rfl | rfl | rfl
      · exact ⟨.e, rfl, by decide⟩
      · exact ⟨.z, rfl, by decide⟩
      · exact ⟨.o, rfl, by decide⟩
      · exact ⟨.z, rfl, by decide⟩
    obtain ⟨w, rfl, hwn⟩ := hw
    refine ⟨some (w, x), S3, ?_, B3, K1.trans ((Keep.pre n (Pre.push _ _)).trans (K2.trans K3)), fun w' q h => by cases h; exact ⟨hx, hwn⟩⟩
    simp [h1, h2, r1, hz2, r2, r3, tD]
end
end K33

set_option Elab.async false
set_option linter.all false
set_option maxRecDepth 100000
set_option maxHeartbeats 8000000
namespace K33
open Dl
section
variable {n k : Nat} {S S1 : Store}
theorem sure_of {m : Ms} (h : ∀ r ∈ m, ∀ t ∈ r, ∀ w q, t = some (w, q) → w ≠ .n) : Sure m := fun i s w q c => by
  obtain ⟨r, a, b⟩ := cell_some c
  exact h r (List.mem_of_getElem? a) _ (List.mem_of_getElem? b) w q rfl
theorem machine_run {M : Nat} (hB : Bag n k S) (h0 : 0 < M) (hM : M < 1000) : ∃ (m : Ms) (S' : Store), runF F__law_machine S [.ref n, .int M] = .ok (mD m) S' ∧ Bag n k S' ∧ Keep n S S' ∧ m.length = M ∧ WF m ∧ Sure m := by
  have Ln : S.length ≠ n := by have := hB.lt; omega
  have Lk : S.length ≠ k := by have := hB.lt2; omega
  obtain ⟨e1, S2, st1, rows, x3, x4, x5, hlen, hok, he, hrows, B2, K2⟩ := ev_forN (fi := iRg1 (aC (cV 1) aN)) (gt := gN 3) (u := sSeq (sSet 4 (cLst aN)) (sSeq (sFor (iRg1 (aC (cC (.int 3)) aN)) (gN 5) (sDrop (cMt isLst gApp (cV 4) (aC (cIfE (kB (cOp2 gEq (cFn 2 F__law_take (aC (cV 0) (aC (cC (.int 3)) aN))) (cC (.int 0)))) (cC .non) (cTup (aC (cFn 2 F__law_some (aC (cV 0) (aC (cLst (aC (cTup aN) (aC (cTup (aC (cC (.int 0)) aN)) (aC (cTup (aC (cC (.int 1)) aN)) (aC (cTup (aC (cC (.int 0)) aN)) aN))))) aN))) (aC (cFn 2 F__law_take (aC (cV 0) (aC (cV 1) aN))) aN)))) aN)))) (sDrop (cMt isLst gApp (cV 2) (aC (cCall gTuple (aC (cV 4) aN)) aN)))))
    (e := [some (.ref n), some (.int M), some (.ref S.length), none, none, none]) (S := S ++ [.lst []]) (S1 := S ++ [.lst []]) (src := .fix (nsD (List.range M))) M
    (fun i e S' => ∃ (rows : Ms) (x3 x4 x5 : Option D), rows.length = i ∧ (∀ r ∈ rows, Draw M r ∧ ∀ t ∈ r, ∀ w q, t = some (w, q) → w ≠ Wd.n) ∧ e = [some (.ref n), some (.int M), some (.ref S.length), x3, x4, x5] ∧ S'[S.length]? = some (.lst (rows.map rD)) ∧ Bag n k S' ∧ Keep n S S')
    (by simp [iRg1, x_rng (show M < 100000 by omega)]) (by omega) ⟨[], none, none, none, rfl, fun r h => absurd h List.not_mem_nil, rfl, by simp, hB.pre (Pre.push _ _), Keep.pre n (Pre.push _ _)⟩ (fun e S' _ => by show (nsD (List.range M))[M]? = none; exact List.getElem?_eq_none (by rw [nsD_len, List.length_range]; exact Nat.le_refl _))
    (fun i e S' hi ⟨rows, x3, x4, x5, hlen, hok, he, hrows, B, K⟩ => by
      subst he
      have qn : S'.length ≠ n := by have := B.lt; omega
      have qk : S'.length ≠ k := by have := B.lt2; omega
      have qL : S.length < S'.length := lt_of_get hrows
      obtain ⟨e3, S3, st3, r, y5, rl, rok, he3, hr, B3, K3⟩ := ev_forN (fi := iRg1 (aC (cC (.int 3)) aN)) (gt := gN 5) (u := sDrop (cMt isLst gApp (cV 4) (aC (cIfE (kB (cOp2 gEq (cFn 2 F__law_take (aC (cV 0) (aC (cC (.int 3)) aN))) (cC (.int 0)))) (cC .non) (cTup (aC (cFn 2 F__law_some (aC (cV 0) (aC (cLst (aC (cTup aN) (aC (cTup (aC (cC (.int 0)) aN)) (aC (cTup (aC (cC (.int 1)) aN)) (aC (cTup (aC (cC (.int 0)) aN)) aN))))) aN))) (aC (cFn 2 F__law_take (aC (cV 0) (aC (cV 1) aN))) aN)))) aN)))
        (e := [some (.ref n), some (.int M), some (.ref S.length), some (.int i), some (.ref S'.length), x5]) (S := S' ++ [.lst []]) (S1 := S' ++ [.lst []]) (src := .fix (nsD (List.range 3))) 3
        (fun j e S3 => ∃ (r : List Tl) (y5 : Option D), r.length = j ∧ (∀ t ∈ r, ∀ w q, t = some (w, q) → q < M ∧ w ≠ Wd.n) ∧ e = [some (.ref n), some (.int M), some (.ref S.length), some (.int i), some (.ref S'.length), y5] ∧ S3[S'.length]? = some (.lst (r.map tD)) ∧ Bag n k S3 ∧ Keep n S' S3)
        rfl (by omega) ⟨[], x5, rfl, fun t h => absurd h List.not_mem_nil, rfl, by simp, B.pre (Pre.push _ _), Keep.pre n (Pre.push _ _)⟩ (fun e S' _ => rfl)
        (fun j e S3 hj ⟨r, y5, rl, rok, he, hr, B3, K3⟩ => by
          subst he
          obtain ⟨t, S4, ev, B4, K4, ht⟩ := cell_draw (S := S3) (M := M) (e := [some (.ref n), some (.int M), some (.ref S.length), some (.int i), some (.ref S'.length), some (.int j)]) B3 h0 hM (by funext S; simp) (by funext S; simp)
          have ap := app_own (f := cV 4) (n := n) (by simp) hr (ev_aC ev ev_aN) K4 qn (by rw [List.length_map]; omega)
          refine ⟨.int j, _, _, _, _, by show (nsD (List.range 3))[j]? = _; exact nsD_get (List.getElem?_range hj), rfl, ap, r ++ [t], some (.int j), by rw [List.length_append, rl]; rfl, fun t' h => ?_, rfl, ?_, B4.other qn qk _, (K3.trans K4).high (Nat.le_refl _) _⟩
          · rcases List.mem_append.mp h with h | h
            · exact rok t' h
            · rw [List.mem_singleton.mp h]; exact ht
          · rw [set_get (lt_of_get (K4.get qn hr)), List.map_append]; rfl)
      subst he3
      have rows3 := K3.get Ln hrows
      have tp := x_tupL hr
      have ap := app_own (n := n) (e := [some (.ref n), some (.int M), some (.ref S.length), some (.int i), some (.ref S'.length), y5]) (f := cV 2) (g := aC (cCall gTuple (aC (cV 4) aN)) aN) (y := rD r) (S1 := S3) (by simp) rows3 (by simp [tp, rD]) (Keep.refl n S3) Ln (by rw [List.length_map]; omega)
      refine ⟨.int i, [some (.ref n), some (.int M), some (.ref S.length), some (.int i), x4, x5], S', [some (.ref n), some (.int M), some (.ref S.length), some (.int i), some (.ref S'.length), y5], S3.set S.length (.lst (rows.map rD ++ [rD r])), by show (nsD (List.range M))[i]? = _; exact nsD_get (List.getElem?_range hi), rfl, ?_, rows ++ [r], _, _, _, by rw [List.length_append, hlen]; rfl, fun r' h => ?_, rfl, ?_, B3.other Ln Lk _, (K.trans K3).high (Nat.le_refl _) _⟩
      · rw [ev_seq (ev_set (d := .ref S'.length) (S1 := S' ++ [.lst []]) rfl)]
        show sSeq _ _ [some (.ref n), some (.int M), some (.ref S.length), some (.int i), some (.ref S'.length), x5] _ = _
        rw [ev_seq st3]
        exact ap
      · rcases List.mem_append.mp h with h | h
        · exact hok r' h
        · rw [List.mem_singleton.mp h]
          exact ⟨⟨rl, fun t ht w q e => (rok t ht w q e).1⟩, fun t ht w q e => (rok t ht w q e).2⟩
      · rw [set_get (lt_of_get rows3), List.map_append]; rfl)
  subst he
  refine ⟨rows, S2, ?_, B2, K2, hlen, wf_of fun r hr => by rw [hlen]; exact (hok r hr).1, sure_of fun r hr => (hok r hr).2⟩
  rw [runF_ref (show D.pureL [.ref n, .int M] = false from rfl)]
  refine fn_of_rt ?_
  show den__law_machine F__law_take F__law_some [some (.ref n), some (.int M), none, none, none, none] S = _
  unfold den__law_machine
  rw [ev_seq (ev_set (d := .ref S.length) (S1 := S ++ [.lst []]) rfl)]
  show sSeq _ _ [some (.ref n), some (.int M), some (.ref S.length), none, none, none] _ = _
  rw [ev_seq st1]
  simp [x_tupL hrows, mD]
end
end K33

set_option Elab.async false
set_option linter.all false
set_option maxRecDepth 100000
set_option maxHeartbeats 8000000
namespace K33
open Dl
section
variable {n k : Nat} {S S1 : Store}
theorem draw_of {m : Ms} (h : WF m) {i : Nat} {r : List Tl} (e : m[i]? = some r) : Draw m.length r := ⟨h.three i r e, fun t ht w q et => by
  subst et
  obtain ⟨s, hs⟩ := cell_mem e ht
  exact h.to i s w q hs⟩
theorem mem_get {α : Type} {P : α → Prop} {l : List α} (h : ∀ (j : Nat) (x : α), l[j]? = some x → P x) : ∀ x ∈ l, P x := fun x hx => by
  obtain ⟨j, hj⟩ := List.getElem?_of_mem hx
  exact h j x hj
theorem unsure_run {m : Ms} (hB : Bag n k S) (hm : WF m) (hM : m.length < 1000) : ∃ (R : Ms) (S' : Store), runF F__law_unsure S [.ref n, mD m] = .ok (mD R) S' ∧ Bag n k S' ∧ Keep n S S' ∧ R.length = m.length ∧ WF R := by
  have Ln : S.length ≠ n := by have := hB.lt; omega
  have Lk : S.length ≠ k := by have := hB.lt2; omega
  obtain ⟨e1, S2, st1, rows, x3, hlen, hok, he, hrows, B2, K2⟩ := ev_forN (fi := iSeq (cV 1)) (gt := gN 3) (u := sDrop (cMt isLst gApp (cV 2) (aC (cCall gTuple (aC (cLc (iSeq (cV 3)) (gN 4) kYes (cIfE (kOr (kB (cOp2 gIs (cV 4) (cC .non))) (kB (cOp2 gGt (cFn 2 F__law_take (aC (cV 0) (aC (cC (.int 4)) aN))) (cC (.int 0))))) (cV 4) (cTup (aC (cC .non) (aC (cOp2 gIx (cV 4) (cC (.int 1))) aN)))) [4]) aN)) aN)))
    (e := [some (.ref n), some (mD m), some (.ref S.length), none, none]) (S := S ++ [.lst []]) (S1 := S ++ [.lst []]) (src := .fix (m.map rD)) m.length
    (fun i e S' => ∃ (rows : Ms) (x3 : Option D), rows.length = i ∧ (∀ r ∈ rows, Draw m.length r) ∧ e = [some (.ref n), some (mD m), some (.ref S.length), x3, none] ∧ S'[S.length]? = some (.lst (rows.map rD)) ∧ Bag n k S' ∧ Keep n S S')
    (by simp [mD]) (by omega) ⟨[], none, rfl, fun r h => absurd h List.not_mem_nil, rfl, by simp, hB.pre (Pre.push _ _), Keep.pre n (Pre.push _ _)⟩ (fun e S' _ => by show (m.map rD)[m.length]? = none; exact List.getElem?_eq_none (by rw [List.length_map]; exact Nat.le_refl _))
    (fun i e S' hi ⟨rows, x3, hlen, hok, he, hrows, B, K⟩ => by
      subst he
      obtain ⟨r, er⟩ : ∃ r, m[i]? = some r := ⟨_, List.getElem?_eq_getElem hi⟩
      have dr := draw_of hm er
      obtain ⟨ys, S3, ev, yl, yP, y3, K3, B3⟩ := lc_bag (n := n) (k := k) (S := S') (S1 := S') (fi := iSeq (cV 3)) (gt := gN 4) (us := [4]) (te := cIfE (kOr (kB (cOp2 gIs (cV 4) (cC .non))) (kB (cOp2 gGt (cFn 2 F__law_take (aC (cV 0) (aC (cC (.int 4)) aN))) (cC (.int 0))))) (cV 4) (cTup (aC (cC .non) (aC (cOp2 gIx (cV 4) (cC (.int 1))) aN)))) (e := [some (.ref n), some (mD m), some (.ref S.length), some (rD r), none]) (src := .fix (r.map tD)) (ds := r.map tD)
        (fun j y => ∃ t, y = tD t ∧ ∀ w q, t = some (w, q) → q < m.length) (by simp [rD]) B (by rw [List.length_map, dr.three]; omega) (fun S i _ => rfl) (fun j d S4 hd K4 B4 => by
          rw [List.getElem?_map] at hd
          cases et : r[j]? with
          | none => rw [et] at hd; cases hd
          | some t =>
            rw [et] at hd
            have hd := Option.some.inj hd
            subst hd
            have tm := List.mem_of_getElem? et
            cases t with
            | none => exact ⟨_, tD none, S4, rfl, by simp [wipeE, tD], Keep.refl n S4, B4, none, rfl, fun w q h => by cases h⟩
            | some p =>
              obtain ⟨w, q⟩ := p
              have hq := dr.to _ tm w q rfl
              obtain ⟨v, S5, hv, r5, B5, K5⟩ := take_run (M := 4) B4 (by omega) (by omega)
              have r5 : runF F__law_take S4 [.ref n, .int 4] = .ok (.int v) S5 := r5
              by_cases h0 : 0 < v
              · refine ⟨_, tD (some (w, q)), S5, rfl, ?_, K5, B5, some (w, q), rfl, fun w' q' h => by cases h; exact hq⟩
                simp [wipeE, tD, r5, h0]
              · refine ⟨_, tD (some (.n, q)), S5, rfl, ?_, K5, B5, some (.n, q), rfl, fun w' q' h => by cases h; exact hq⟩
                simp [wipeE, tD, r5, h0, Wd.d])
      obtain ⟨r', er', hr'⟩ := tells_of (P := fun _ t => ∀ w q, t = some (w, q) → q < m.length) ys yP
      have rl : r'.length = 3 := by
        have := congrArg List.length er'
        rw [List.length_map, yl, List.length_map, dr.three] at this
        exact this.symm
      have ap := app_own (n := n) (e := [some (.ref n), some (mD m), some (.ref S.length), some (rD r), none]) (f := cV 2) (g := aC (cCall gTuple (aC (cLc (iSeq (cV 3)) (gN 4) kYes (cIfE (kOr (kB (cOp2 gIs (cV 4) (cC .non))) (kB (cOp2 gGt (cFn 2 F__law_take (aC (cV 0) (aC (cC (.int 4)) aN))) (cC (.int 0))))) (cV 4) (cTup (aC (cC .non) (aC (cOp2 gIx (cV 4) (cC (.int 1))) aN)))) [4]) aN)) aN) (y := rD r') (S1 := S3) (by simp) hrows (by
        refine ev_aC ?_ ev_aN
        rw [ev_tuple_of ev y3, er']; rfl) K3 Ln (by rw [List.length_map]; omega)
      have r3 := K3.get Ln hrows
      refine ⟨rD r, [some (.ref n), some (mD m), some (.ref S.length), some (rD r), none], S', [some (.ref n), some (mD m), some (.ref S.length), some (rD r), none], S3.set S.length (.lst (rows.map rD ++ [rD r'])), by show (m.map rD)[i]? = _; rw [List.getElem?_map, er]; rfl, rfl, ap, rows ++ [r'], _, by rw [List.length_append, hlen]; rfl, fun z h => ?_, rfl, ?_, B3.other Ln Lk _, (K.trans K3).high (Nat.le_refl _) _⟩
      · rcases List.mem_append.mp h with h | h
        · exact hok z h
        · rw [List.mem_singleton.mp h]
          exact ⟨rl, mem_get hr'⟩
      · rw [set_get (lt_of_get r3), List.map_append]; rfl)
  subst he
  refine ⟨rows, S2, ?_, B2, K2, hlen, wf_of fun r hr => by rw [hlen]; exact hok r hr⟩
  rw [runF_ref (show D.pureL [.ref n, mD m] = false from rfl)]
  refine fn_of_rt ?_
  show den__law_unsure F__law_take [some (.ref n), some (mD m), none, none, none] S = _
  unfold den__law_unsure
  rw [ev_seq (ev_set (d := .ref S.length) (S1 := S ++ [.lst []]) rfl)]
  show sSeq _ _ [some (.ref n), some (mD m), some (.ref S.length), none, none] _ = _
  rw [ev_seq st1]
  refine (ev_ret (d := .tup (rows.map rD)) (S1 := S2) ?_).trans rfl
  simp [x_tupL hrows]
/-- a row told of the standings of both copies -/
def Oth (N : Nat) (r r' : List Tl) : Prop := r'.length = 3 ∧ ∀ (s : Nat) (t : Tl), r'[s]? = some t → ∃ t0, r[s]? = some t0 ∧ Go (fun q q' => q' < 2 * N ∧ q = q' % N) t0 t
theorem otherwise_run {m : Ms} (hB : Bag n k S) (hm : WF m) (h0 : 0 < m.length) (hM : m.length < 100) : ∃ (R : Ms) (S' : Store), runF F__law_otherwise S [.ref n, mD m] = .ok (mD R) S' ∧ Bag n k S' ∧ Keep n S S' ∧ R.length = 2 * m.length + 1 ∧ WF R ∧ Sim m 0 R 0 := by
  have Ln : S.length ≠ n := by have := hB.lt; omega
  have Lk : S.length ≠ k := by have := hB.lt2; omega
  obtain ⟨N, hN⟩ : ∃ N, N = m.length := ⟨_, rfl⟩
  have st0 : sAsgG (cTup (aC (cCall gLen (aC (cV 1) aN)) (aC (cLst aN) aN))) (gT 2 (gsC (gN 2) (gsC (gN 3) gsN))) [some (.ref n), some (mD m), none, none, none, none, none] S = .nx [some (.ref n), some (mD m), some (.int N), some (.ref S.length), none, none, none] (S ++ [.lst []]) := by
    have ln : gLen S [mD m] = .ok (.int N) S := by show Rs.ok (D.int ((m.map rD).length : Nat)) S = _; rw [List.length_map, hN]
    simp [ln]
  obtain ⟨e1, S2, st1, rows, x4, x5, hlen, hok, he, hrows, B2, K2⟩ := ev_forN (fi := iRg1 (aC (cC (.int 2)) aN)) (gt := gN 4) (u := sFor (iSeq (cV 1)) (gN 5) (sDrop (cMt isLst gApp (cV 3) (aC (cCall gTuple (aC (cLc (iSeq (cV 5)) (gN 6) kYes (cIfE (kB (cOp2 gIs (cV 6) (cC .non))) (cC .non) (cTup (aC (cOp2 gIx (cV 6) (cC (.int 0))) (aC (cOp2 gAdd (cOp2 gIx (cV 6) (cC (.int 1))) (cOp2 gMul (cV 2) (cFn 2 F__law_take (aC (cV 0) (aC (cC (.int 2)) aN))))) aN)))) [6]) aN)) aN))))
    (e := [some (.ref n), some (mD m), some (.int N), some (.ref S.length), none, none, none]) (S := S ++ [.lst []]) (S1 := S ++ [.lst []]) (src := .fix (nsD (List.range 2))) 2
    (fun i e S' => ∃ (rows : Ms) (x4 x5 : Option D), rows.length = i * N ∧ (∀ (j : Nat) (r' : List Tl), rows[j]? = some r' → ∃ r, m[j % N]? = some r ∧ Oth N r r') ∧ e = [some (.ref n), some (mD m), some (.int N), some (.ref S.length), x4, x5, none] ∧ S'[S.length]? = some (.lst (rows.map rD)) ∧ Bag n k S' ∧ Keep n S S')
    rfl (by omega) ⟨[], none, none, by simp, fun j r h => (by cases h), rfl, by simp, hB.pre (Pre.push _ _), Keep.pre n (Pre.push _ _)⟩ (fun e S' _ => rfl)
    (fun i e S' hi ⟨rows, x4, x5, hlen, hok, he, hrows, B, K⟩ => by
      subst he
      obtain ⟨e3, S3, st3, rows3, y5, hlen3, hok3, he3, hrows3, B3, K3⟩ := ev_forN (fi := iSeq (cV 1)) (gt := gN 5) (u := sDrop (cMt isLst gApp (cV 3) (aC (cCall gTuple (aC (cLc (iSeq (cV 5)) (gN 6) kYes (cIfE (kB (cOp2 gIs (cV 6) (cC .non))) (cC .non) (cTup (aC (cOp2 gIx (cV 6) (cC (.int 0))) (aC (cOp2 gAdd (cOp2 gIx (cV 6) (cC (.int 1))) (cOp2 gMul (cV 2) (cFn 2 F__law_take (aC (cV 0) (aC (cC (.int 2)) aN))))) aN)))) [6]) aN)) aN)))
        (e := [some (.ref n), some (mD m), some (.int N), some (.ref S.length), some (.int i), x5, none]) (S := S') (S1 := S') (src := .fix (m.map rD)) N
        (fun j e S' => ∃ (rows : Ms) (x5 : Option D), rows.length = i * N + j ∧ (∀ (j : Nat) (r' : List Tl), rows[j]? = some r' → ∃ r, m[j % N]? = some r ∧ Oth N r r') ∧ e = [some (.ref n), some (mD m), some (.int N), some (.ref S.length), some (.int i), x5, none] ∧ S'[S.length]? = some (.lst (rows.map rD)) ∧ Bag n k S' ∧ Keep n S S')
        (by simp [mD]) (by omega) ⟨rows, x5, hlen, hok, rfl, hrows, B, K⟩ (fun e S' _ => by show (m.map rD)[N]? = none; exact List.getElem?_eq_none (by rw [List.length_map, hN]; exact Nat.le_refl _))
        (fun j e S' hj ⟨rows, x5, hlen, hok, he, hrows, B, K⟩ => by
          subst he
          obtain ⟨r, er⟩ : ∃ r, m[j]? = some r := ⟨_, List.getElem?_eq_getElem (by omega)⟩
          have dr := draw_of hm er
          obtain ⟨ys, S3, ev, yl, yP, y3, K3, B3⟩ := lc_bag (n := n) (k := k) (S := S') (S1 := S') (fi := iSeq (cV 5)) (gt := gN 6) (us := [6]) (te := cIfE (kB (cOp2 gIs (cV 6) (cC .non))) (cC .non) (cTup (aC (cOp2 gIx (cV 6) (cC (.int 0))) (aC (cOp2 gAdd (cOp2 gIx (cV 6) (cC (.int 1))) (cOp2 gMul (cV 2) (cFn 2 F__law_take (aC (cV 0) (aC (cC (.int 2)) aN))))) aN)))) (e := [some (.ref n), some (mD m), some (.int N), some (.ref S.length), some (.int i), some (rD r), none]) (src := .fix (r.map tD)) (ds := r.map tD)
            (fun s y => ∃ t, y = tD t ∧ ∃ t0, r[s]? = some t0 ∧ Go (fun q q' => q' < 2 * N ∧ q = q' % N) t0 t) (by simp [rD]) B (by rw [List.length_map, dr.three]; omega) (fun S i _ => rfl) (fun s d S4 hd K4 B4 => by
              rw [List.getElem?_map] at hd
              cases et : r[s]? with
              | none => rw [et] at hd; cases hd
              | some t =>
                rw [et] at hd
                have hd := Option.some.inj hd
                subst hd
                have tm := List.mem_of_getElem? et
                cases t with
                | none => exact ⟨_, tD none, S4, rfl, by simp [wipeE, tD], Keep.refl n S4, B4, none, rfl, none, rfl, trivial⟩
                | some p =>
                  obtain ⟨w, q⟩ := p
                  have hq := dr.to _ tm w q rfl
                  rw [← hN] at hq
                  obtain ⟨v, S5, hv, r5, B5, K5⟩ := take_run (M := 2) B4 (by omega) (by omega)
                  have r5 : runF F__law_take S4 [.ref n, .int 2] = .ok (.int v) S5 := r5
                  have mu : gMul S5 (.int N) (.int v) = .ok (.int ((N : Int) * v)) S5 := x_mul (.inl (by
                    unfold big64
                    rw [decide_eq_true (by omega), decide_eq_true (by omega)]; rfl))
                  have nv : N * v ≤ N := by
                    have : N * v ≤ N * 1 := Nat.mul_le_mul_left _ (by omega)
                    omega
                  refine ⟨_, tD (some (w, q + N * v)), S5, rfl, ?_, K5, B5, some (w, q + N * v), rfl, some (w, q), rfl, rfl, by omega, by rw [Nat.add_mul_mod_self_left, Nat.mod_eq_of_lt hq]⟩
                  obtain ⟨z, hz⟩ : ∃ z : Int, z = (N : Int) * v := ⟨_, rfl⟩
                  rw [← hz] at mu
                  have zq : ((q + N * v : Nat) : Int) = (q : Int) + z := by rw [hz, Int.natCast_add, Int.natCast_mul]
                  have goal : tD (some (w, q + N * v)) = D.tup [w.d, D.int ((q : Int) + z)] := by
                    show D.tup [w.d, D.int ((q + N * v : Nat) : Int)] = _
                    rw [zq]
                  rw [goal, ev_ifE (b := false) (S1 := S4) (by simp [wipeE, tD]), if_neg (by decide)]
                  refine ev_tup (ev_aC (x := w.d) (S1 := S4) (by simp [wipeE, tD]) (ev_aC (x := .int ((q : Int) + z)) (S1 := S5) ?_ ev_aN)) (by show 2 ≤ 100000; omega)
                  rw [ev_op2 (x := .int q) (S1 := S4) (y := .int z) (S2 := S5) (by simp [wipeE, tD]) (by
                    rw [ev_op2 (x := .int N) (S1 := S4) (y := .int v) (S2 := S5) (by simp [wipeE]) (by simp [wipeE, r5])]
                    exact mu)]
                  rfl)
          obtain ⟨r', er', hr'⟩ := tells_of (P := fun s t => ∃ t0, r[s]? = some t0 ∧ Go (fun q q' => q' < 2 * N ∧ q = q' % N) t0 t) ys yP
          have rl : r'.length = 3 := by
            have := congrArg List.length er'
            rw [List.length_map, yl, List.length_map, dr.three] at this
            exact this.symm
          have two : i * N ≤ N := by
            have : i * N ≤ 1 * N := Nat.mul_le_mul_right _ (by omega)
            omega
          have ap := app_own (n := n) (e := [some (.ref n), some (mD m), some (.int N), some (.ref S.length), some (.int i), some (rD r), none]) (f := cV 3) (g := aC (cCall gTuple (aC (cLc (iSeq (cV 5)) (gN 6) kYes (cIfE (kB (cOp2 gIs (cV 6) (cC .non))) (cC .non) (cTup (aC (cOp2 gIx (cV 6) (cC (.int 0))) (aC (cOp2 gAdd (cOp2 gIx (cV 6) (cC (.int 1))) (cOp2 gMul (cV 2) (cFn 2 F__law_take (aC (cV 0) (aC (cC (.int 2)) aN))))) aN)))) [6]) aN)) aN) (y := rD r') (S1 := S3) (by simp) hrows (by
            refine ev_aC ?_ ev_aN
            rw [ev_tuple_of ev y3, er']; rfl) K3 Ln (by rw [List.length_map]; omega)
          have r3 := K3.get Ln hrows
          refine ⟨rD r, _, _, [some (.ref n), some (mD m), some (.int N), some (.ref S.length), some (.int i), some (rD r), none], S3.set S.length (.lst (rows.map rD ++ [rD r'])), by show (m.map rD)[j]? = _; rw [List.getElem?_map, er]; rfl, rfl, ap, rows ++ [r'], _, by rw [List.length_append, hlen, List.length_singleton]; omega, fun z r2 h => ?_, rfl, ?_, B3.other Ln Lk _, (K.trans K3).high (Nat.le_refl _) _⟩
          · by_cases hz : z < rows.length
            · rw [List.getElem?_append_left hz] at h
              exact hok z r2 h
            · rw [List.getElem?_append_right (by omega)] at h
              have hz2 := (List.getElem?_eq_some_iff.mp h).1
              rw [List.length_singleton] at hz2
              have ez : z = i * N + j := by omega
              subst ez
              rw [hlen, Nat.sub_self] at h
              cases h
              refine ⟨r, ?_, rl, hr'⟩
              rw [Nat.add_comm, Nat.add_mul_mod_self_right, Nat.mod_eq_of_lt hj]
              exact er
          · rw [set_get (lt_of_get r3), List.map_append]; rfl)
      subst he3
      exact ⟨.int i, _, _, _, S3, by show (nsD (List.range 2))[i]? = _; exact nsD_get (List.getElem?_range hi), rfl, st3, rows3, some (.int i), y5, by rw [hlen3, Nat.add_mul]; omega, hok3, rfl, hrows3, B3, K3⟩)
  subst he
  have L3 : (rows ++ [[none, some (Wd.z, 0), none]]).length = 2 * m.length + 1 := by rw [List.length_append, hlen, ← hN]; rfl
  have lastR : (rows ++ [[none, some (Wd.z, 0), none]]).map rD = rows.map rD ++ [.tup [.non, .tup [.tup [.int 0], .int 0], .non]] := by rw [List.map_append]; rfl
  have rowR : ∀ (j : Nat) (r : List Tl), j < 2 * N → (rows ++ [[none, some (Wd.z, 0), none]])[j]? = some r → ∃ r0, m[j % N]? = some r0 ∧ Oth N r0 r := fun j r hj e => by
    rw [List.getElem?_append_left (by omega)] at e
    exact hok j r e
  have wf : WF (rows ++ [[none, some (Wd.z, 0), none]]) := wf_of fun r hr => by
    rw [L3]
    rcases List.mem_append.mp hr with hr | hr
    · obtain ⟨j, hj⟩ := List.getElem?_of_mem hr
      obtain ⟨r0, e0, o1, o2⟩ := hok j r hj
      refine ⟨o1, fun t ht w q et => ?_⟩
      obtain ⟨s, hs⟩ := List.getElem?_of_mem ht
      obtain ⟨t0, _, g⟩ := o2 s t hs
      subst et
      cases t0 with
      | none => exact g.elim
      | some p => obtain ⟨_, g1, _⟩ := g; rw [← hN]; omega
    · rw [List.mem_singleton.mp hr]
      refine ⟨rfl, fun t ht w q et => ?_⟩
      subst et
      simp only [List.mem_cons, List.not_mem_nil, or_false] at ht
      rcases ht with h | h | h
      · cases h
      · cases h; omega
      · cases h
  refine ⟨rows ++ [[none, some (Wd.z, 0), none]], S2, ?_, B2, K2, L3, wf, ?_⟩
  · rw [runF_ref (show D.pureL [.ref n, mD m] = false from rfl)]
    refine fn_of_rt ?_
    show den__law_otherwise F__law_take [some (.ref n), some (mD m), none, none, none, none, none] S = _
    unfold den__law_otherwise
    rw [ev_seq st0, ev_seq st1]
    have ln : rows.length + 1 ≤ 100000 := by omega
    refine (ev_ret (d := .tup ((rows ++ [[none, some (Wd.z, 0), none]]).map rD)) (S1 := S2) ?_).trans rfl
    rw [lastR]
    simp [x_tupL hrows, gAdd, ln]
  · refine sim_of (fun i j => j < 2 * N ∧ i = j % N) (fun i j ⟨hj, hij⟩ s => ?_) ⟨by omega, by rw [Nat.zero_mod]⟩
    obtain ⟨r, er⟩ : ∃ r, (rows ++ [[none, some (Wd.z, 0), none]])[j]? = some r := ⟨_, List.getElem?_eq_getElem (by rw [L3]; omega)⟩
    obtain ⟨r0, e0, o1, o2⟩ := rowR j r hj er
    rw [← hij] at e0
    have l0 := hm.three i r0 e0
    cases et : r[s]? with
    | none =>
      have : r0[s]? = none := List.getElem?_eq_none (by have := List.getElem?_eq_none_iff.mp et; omega)
      rw [cell_none e0 this, cell_none er et]; trivial
    | some t =>
      obtain ⟨t0, f0, g⟩ := o2 s t et
      rw [cell_row e0 f0, cell_row er et]
      exact g
end
end K33

set_option Elab.async false
set_option linter.all false
set_option maxRecDepth 100000
set_option maxHeartbeats 8000000
namespace K33
open Dl
/-! ### the things that are no rows -/
theorem is_row_bits {r : List Tl} {M : Nat} (h3 : r.length = 3) : Ev F_is_row [rD r, .int M] (.bl ((r.map (toldB · M)).all id)) :=
  is_row_ev (ds := r.map tD) (by simpa using h3) (by simp) (rD_pure r) (fun s d b hd hb2 => by
    rw [List.getElem?_map] at hd hb2
    cases e2 : r[s]? with
    | none => rw [e2] at hd; cases hd
    | some t =>
      rw [e2] at hd hb2
      cases hd
      cases hb2
      exact is_told_ev t M)
theorem is_row_draw {r : List Tl} {M : Nat} (h : Draw M r) : Ev F_is_row [rD r, .int M] (.bl true) := by
  have := is_row_bits (M := M) h.three
  have e : (r.map (toldB · M)).all id = true := all_true fun b hb => by
    obtain ⟨t, ht, rfl⟩ := List.mem_map.mp hb
    cases t with
    | none => rfl
    | some p => exact decide_eq_true (h.to _ ht p.1 p.2 rfl)
  rw [e] at this
  exact this
/-- a machine with a wrong row behind it -/
theorem bad_row {m : Ms} {x : D} (h : Mach m) (hp : x.pure = true) (hf : x.fine = true) (hd : x.deep ≤ 4) (hx : Ev F_is_row [x, .int (m.length + 1 : Nat)] (.bl false)) : Ev F_is_rows [.tup (m.map rD ++ [x])] (.bl false) := by
  have few := h.few
  have ln : (m.map rD ++ [x]).length = m.length + 1 := by rw [List.length_append, List.length_map]; rfl
  have ok := is_rows_ev (ds := m.map rD ++ [x]) (bs := (m.map fun _ => true) ++ [false]) (by simp) (by rw [ln]; omega) (by simp) (pureL_of fun d hd => by
      rcases List.mem_append.mp hd with hd | hd
      · obtain ⟨r, _, rfl⟩ := List.mem_map.mp hd
        exact rD_pure r
      · rw [List.mem_singleton.mp hd]; exact hp) (good_of (fineL_of fun d hd => by
      rcases List.mem_append.mp hd with hd | hd
      · obtain ⟨r, _, rfl⟩ := List.mem_map.mp hd
        exact rD_fine r
      · rw [List.mem_singleton.mp hd]; exact hf) (by
      have : D.deepL (m.map rD ++ [x]) ≤ 4 := deepL_of fun d hd2 => by
        rcases List.mem_append.mp hd2 with hd2 | hd2
        · obtain ⟨r, _, rfl⟩ := List.mem_map.mp hd2
          exact Nat.le_trans (rD_deep r) (by decide)
        · rw [List.mem_singleton.mp hd2]; exact hd
      show D.deepL (m.map rD ++ [x]) + 1 ≤ 60
      omega)) (fun i d b hd hb => by
    rw [ln]
    by_cases hi : i < m.length
    · rw [List.getElem?_append_left (by rw [List.length_map]; exact hi), List.getElem?_map, List.getElem?_eq_getElem hi] at hd hb
      cases hd; cases hb
      have dr := draw_of h.wf (List.getElem?_eq_getElem hi)
      exact is_row_draw ⟨dr.three, fun t ht w q e => Nat.lt_succ_of_lt (dr.to t ht w q e)⟩
    · rw [List.getElem?_append_right (by rw [List.length_map]; omega), List.length_map] at hd hb
      have hz := (List.getElem?_eq_some_iff.mp hd).1
      rw [List.length_singleton] at hz
      have ez : i - m.length = 0 := by omega
      rw [ez] at hd hb
      cases hd; cases hb
      exact hx)
  have e : ((m.map fun _ => true) ++ [false]).all id = false := by simp
  rw [e] at ok
  exact ok
theorem told_two (M : Nat) (h : 0 < M) : Ev F_is_told [.tup [.tup [.int 2], .int 0], .int M] (.bl false) := by
  have hk2 : ¬ ((M : Int) ≤ 0) := by omega
  refine ⟨rfl, rfl, [.lst [.bl false]], fn_of_rt ?_⟩
  have c0 : ∀ S, runF F_is_count S [.int 0] = .ok (.bl true) S := fun S => (is_cnt 0).run S
  have h2 : M ≠ 0 := by omega
  simp [den_is_told, c0, h2]
  rfl
theorem bad_short {m : Ms} (h : Mach m) : Ev F_is_rows [.tup (m.map rD ++ [.tup [.non, .non]])] (.bl false) :=
  bad_row h rfl rfl (by decide) (is_row_len (by decide) rfl)
theorem bad_bit {m : Ms} (h : Mach m) : Ev F_is_rows [.tup (m.map rD ++ [.tup [.non, .non, .tup [.tup [.int 2], .int 0]]])] (.bl false) := by
  refine bad_row h rfl rfl (by decide) ?_
  have := is_row_ev (ds := [.non, .non, .tup [.tup [.int 2], .int 0]]) (bs := [true, true, false]) (M := m.length + 1) rfl rfl rfl (fun i d b hd hb => by
    match i with
    | 0 => cases hd; cases hb; exact is_told_ev none (m.length + 1)
    | 1 => cases hd; cases hb; exact is_told_ev none (m.length + 1)
    | 2 => cases hd; cases hb; exact told_two _ (by omega)
    | i + 3 => cases hd)
  exact this
theorem bad_far {m : Ms} (h : Mach m) : Ev F_is_rows [.tup (m.map rD ++ [.tup [.non, .non, .tup [.tup [.int 0], .int (m.length + 1 : Nat)]]])] (.bl false) := by
  refine bad_row h rfl rfl (by show 3 ≤ 4; omega) ?_
  have := is_row_bits (r := [none, none, some (.z, m.length + 1)]) (M := m.length + 1) rfl
  have e : (([none, none, some (Wd.z, m.length + 1)] : List Tl).map (toldB · (m.length + 1))).all id = false := by simp [toldB]
  rw [e] at this
  exact this
theorem bad_non : Ev F_is_rows [.non] (.bl false) := ⟨rfl, rfl, [], fn_of_rt (by simp [den_is_rows])⟩
theorem bad_nil : Ev F_is_rows [.tup []] (.bl false) := ⟨rfl, rfl, [], fn_of_rt (by
  have := ne_nil (S := []) (ds := []) rfl
  simp [den_is_rows, this])⟩
theorem bad_lst {S : Store} {n : Nat} {xs : List D} (h : S[n]? = some (.lst xs)) : runF F_is_rows S [.ref n] = .ok (.bl false) S := by
  rw [runF_ref (show D.pureL [.ref n] = false from rfl)]
  refine fn_of_rt ?_
  have : isiK .tuple (.ref n) S = .ok (.bl false) S := by
    dsimp only [isiK, tyOf]
    rw [h]
    rfl
  simp [den_is_rows, this]
theorem bad_ints : Ev F_is_rows [.tup [.int 0, .int 0]] (.bl false) := by
  have := is_rows_ev (ds := [.int 0, .int 0]) (bs := [false, false]) (by simp) (by decide) rfl rfl rfl (fun i d b hd hb => by
    match i with
    | 0 => cases hd; cases hb; exact is_row_no rfl rfl
    | 1 => cases hd; cases hb; exact is_row_no rfl rfl
    | i + 2 => cases hd)
  exact this
/-! ### the bag at first -/
theorem bag_run (ns : List Int) (hl : ns.length ≤ 63) : ∃ (n k : Nat) (S' : Store), runF F__law_bag [.ro (ns.map D.int)] [.ref 0] = .ok (.ref n) S' ∧ Bag n k S' := by
  obtain ⟨S, hS⟩ : ∃ S : Store, S = [.ro (ns.map D.int)] := ⟨_, rfl⟩
  have h0 : S[0]? = some (.ro (ns.map D.int)) := by rw [hS]; rfl
  obtain ⟨cs, hcs⟩ : ∃ cs, cs = cutD ns none (some 63) := ⟨_, rfl⟩
  have cl : cs.length ≤ 63 := by rw [hcs]; exact Nat.le_trans (cut_len ..) hl
  have sl : gSl S (.ref 0) none (some 63) = .ok (.ref S.length) (S ++ [.lst (cs.map D.int)]) := by
    dsimp only [gSl]
    rw [h0]
    dsimp only
    rw [cut_int, ← hcs]
  have at1 : (S ++ [DO.lst (cs.map D.int)])[S.length]? = some (.lst (cs.map D.int)) := by simp
  obtain ⟨G, r⟩ := ev_lc (fi := iSeq (cSl (cV 0) oNone (oSome (cC (.int 63))))) (gt := gN 1) (te := cCall gAbs (aC (cV 1) aN)) (us := [1]) (e := [some (.ref 0), none]) (S := S) (S1 := S ++ [DO.lst (cs.map D.int)]) (src := .live S.length) (ds := cs.map D.int) (ys := (cs.map fun i => if i < 0 then -i else i).map D.int)
    (by simp [sl]; rw [x_srcL at1]) (by simp) (by rw [List.length_map]; omega) (src_live at1) (fun i d y S2 hd hy p => by
      rw [List.getElem?_map] at hd
      rw [List.map_map, List.getElem?_map] at hy
      cases e : cs[i]? with
      | none => rw [e] at hd; cases hd
      | some z =>
        rw [e] at hd hy
        cases hd; cases hy
        exact ⟨_, S2, rfl, by simp [wipeE, gAbs], Pre.refl _⟩)
  obtain ⟨T, hT⟩ : ∃ T, T = (S ++ [DO.lst (cs.map D.int)]) ++ .lst ((cs.map fun i => if i < 0 then -i else i).map D.int) :: G := ⟨_, rfl⟩
  rw [← hT] at r
  have atT : T[(S ++ [DO.lst (cs.map D.int)]).length]? = some (.lst ((cs.map fun i => if i < 0 then -i else i).map D.int)) := by rw [hT]; exact at_new
  refine ⟨T.length, (S ++ [DO.lst (cs.map D.int)]).length, T ++ [bagO 0 1234567891 0 (S ++ [DO.lst (cs.map D.int)]).length], ?_, 0, 1234567891, 0, _, by simp, Pre.get (Pre.push _ _) atT, by have := lt_of_get atT; omega, Int.le_refl _, by rw [List.length_map]; exact cl⟩
  rw [← hS, runF_ref (show D.pureL [.ref 0] = false from rfl)]
  refine fn_of_rt ?_
  show den__law_bag [some (.ref 0), none] S = _
  unfold den__law_bag
  refine ev_ret (ev_lst (ev_aC rfl (ev_aC rfl (ev_aC rfl (ev_aC r ev_aN)))) (by show 4 ≤ 100000; omega))
end K33

set_option Elab.async false
set_option linter.all false
set_option maxRecDepth 100000
set_option maxHeartbeats 8000000
namespace K33
open Dl
theorem bfs_one {m : Ms} {l F : List Nat} {a : Nat} (h : Bfs m l a F) : ∀ {F'}, Bfs m l a F' → F = F' := by
  induction h with
  | @stop l a hs =>
    intro F' h'
    cases h' with
    | stop _ => rfl
    | go e _ _ => exact absurd (List.getElem?_eq_some_iff.mp e).1 (by omega)
  | @go l F a i row e er _ ih =>
    intro F' h'
    cases h' with
    | stop hs => exact absurd (List.getElem?_eq_some_iff.mp e).1 (by omega)
    | go e' er' h' =>
      rw [e] at e'
      cases e'
      rw [er] at er'
      cases er'
      exact ih h'
structure Few (m R : Ms) : Prop where
  mach : Mach R
  rd : Rd R
  len : R.length ≤ m.length
  sim : Sim m 0 R 0
  line : Bfs R [0] 0 (List.range R.length)
theorem few_of {m R : Ms} {ns : List Nat} (h : Mach m) (hL : Laid m [0] ns R) : Few m R := by
  have ok := hL.ok
  have mach := laid_mach (by simp) h.few ok
  match ns, ok.nlen, ok with
  | [x], _, ok =>
    obtain ⟨lt, sm⟩ := ok.sim 0 0 x rfl rfl
    have ln := ok.line
    have e0 : dd [] [x] = [x] := by simp [dd, push]
    rw [e0] at ln
    obtain ⟨y, ey⟩ := bfs_pre ln
    have hx : x = 0 := by
      have p := mach.pos
      have g : (List.range R.length)[0]? = some 0 := List.getElem?_range p
      rw [ey] at g
      exact Option.some.inj g
    subst hx
    exact ⟨mach, ok.rd, ok.len, sm, ln⟩
/-- the least one of a machine, and of the least one itself -/
theorem few_ev {m : Ms} (h : Mach m) : ∃ R, Few m R ∧ Ev F_least_of [mD m] (mD R) ∧ Ev F_least_of [mD R] (mD R) ∧ ∀ m', Mach m' → Sim m 0 m' 0 → Ev F_least_of [mD m'] (mD R) := by
  obtain ⟨ns, R, hL, e⟩ := least_of_ev h
  have f := few_of h hL
  have other : ∀ m', Mach m' → Sim m 0 m' 0 → Ev F_least_of [mD m'] (mD R) := fun m' h' s => by
    obtain ⟨ns', R', hL', e'⟩ := least_of_ev h'
    have := (laid_eq hL hL' rfl (fun i b b' hb hb' => by
      match i with
      | 0 => cases hb; cases hb'; exact s
      | i + 1 => cases hb)).2
    rw [this]; exact e'
  exact ⟨R, f, e, other R f.mach f.sim, other⟩
section
variable {n k : Nat} {S S1 : Store}
theorem law_drawn {x2 x3 x4 x5 x6 x7 x8 x9 x10 x11 x12 x13 x14 x15 : Option D} (hB : Bag n k S) : ∃ (m0 m : Ms) (S' : Store), Bag n k S' ∧ Mach m0 ∧ Sure m0 ∧ Mach m ∧ m.length = m0.length ∧ m.length ≤ 5 ∧
    ∀ u : DS, sSeq (sSet 3 (cFn 2 F__law_machine (aC (cV 1) (aC (cOp2 gAdd (cC (.int 1)) (cFn 2 F__law_take (aC (cV 1) (aC (cC (.int 5)) aN)))) aN)))) (sSeq (sSet 4 (cV 3)) (sSeq (sSet 3 (cIfE (kB (cOp2 gEq (cFn 2 F__law_take (aC (cV 1) (aC (cC (.int 2)) aN))) (cC (.int 0)))) (cFn 2 F__law_unsure (aC (cV 1) (aC (cV 3) aN))) (cV 3))) u)) [some (.ref 0), some (.ref n), x2, x3, x4, x5, x6, x7, x8, x9, x10, x11, x12, x13, x14, x15] S
      = u [some (.ref 0), some (.ref n), x2, some (mD m), some (mD m0), x5, x6, x7, x8, x9, x10, x11, x12, x13, x14, x15] S' := by
  obtain ⟨v, S1, hv, r1, B1, _⟩ := take_run (M := 5) hB (by omega) (by omega)
  have r1 : runF F__law_take S [.ref n, .int 5] = .ok (.int v) S1 := r1
  obtain ⟨m0, S2, r2, B2, _, l0, w0, s0⟩ := machine_run (M := 1 + v) B1 (by omega) (by omega)
  have r2 : runF F__law_machine S1 [.ref n, .int (1 + (v : Int))] = .ok (mD m0) S2 := by rw [← r2, Int.natCast_add]; rfl
  have M0 : Mach m0 := ⟨w0, fun e => by rw [e] at l0; simp at l0; omega, by omega⟩
  obtain ⟨v2, S3, hv2, r3, B3, _⟩ := take_run (M := 2) B2 (by omega) (by omega)
  have r3 : runF F__law_take S2 [.ref n, .int 2] = .ok (.int v2) S3 := r3
  by_cases hz : v2 = 0
  · subst hz
    obtain ⟨m, S4, r4, B4, _, l4, w4⟩ := unsure_run B3 w0 (by omega)
    refine ⟨m0, m, S4, B4, M0, s0, ⟨w4, fun e => by rw [e] at l4; simp at l4; omega, by omega⟩, l4, by omega, fun u => ?_⟩
    rw [ev_seq (e1 := [some (.ref 0), some (.ref n), x2, some (mD m0), x4, x5, x6, x7, x8, x9, x10, x11, x12, x13, x14, x15]) (S1 := S2) (by simp [r1, r2]), ev_seq (e1 := [some (.ref 0), some (.ref n), x2, some (mD m0), some (mD m0), x5, x6, x7, x8, x9, x10, x11, x12, x13, x14, x15]) (S1 := S2) (by simp)]
    exact ev_seq (by simp [r3, r4])
  · have hz2 : ((v2 : Int) == 0) = false := by simp; omega
    refine ⟨m0, m0, S3, B3, M0, s0, M0, rfl, by omega, fun u => ?_⟩
    rw [ev_seq (e1 := [some (.ref 0), some (.ref n), x2, some (mD m0), x4, x5, x6, x7, x8, x9, x10, x11, x12, x13, x14, x15]) (S1 := S2) (by simp [r1, r2]), ev_seq (e1 := [some (.ref 0), some (.ref n), x2, some (mD m0), some (mD m0), x5, x6, x7, x8, x9, x10, x11, x12, x13, x14, x15]) (S1 := S2) (by simp)]
    exact ev_seq (by simp [r3, hz])
/-- the two machines, and the first looks -/
theorem law_first {m0 m : Ms} {x2 x5 x6 x7 x8 x9 x10 x11 x12 x13 x14 x15 : Option D} (hB : Bag n k S) (h0 : Mach m0) (hs : Sure m0) (h : Mach m) (h5 : m.length ≤ 5) : ∃ (R o : Ms) (S' : Store), Bag n k S' ∧ Few m R ∧
    (∀ u : DS, sSeq (sPar 5 6 (aC (cFn 1 F_least_of (aC (cV 3) aN)) (aC (cFn 2 F__law_otherwise (aC (cV 1) (aC (cV 3) aN))) aN))) (sSeq (sIf (kNot (kB (cFn 2 F__law_alike (aC (cLst (aC (cFn 1 F_is_rows (aC (cV 3) aN)) (aC (cFn 1 F_is_rows (aC (cV 5) aN)) (aC (cFn 1 F_is_sure (aC (cV 4) aN)) (aC (cFn 1 F_least_of (aC (cV 6) aN)) (aC (cFn 1 F_least_of (aC (cV 5) aN)) (aC (cFn 2 F_first_parting (aC (cV 5) (aC (cV 3) aN))) aN))))))) (aC (cLst (aC (cC (.bl true)) (aC (cC (.bl true)) (aC (cC (.bl true)) (aC (cV 5) (aC (cV 5) (aC (cC .non) aN))))))) aN))))) (sRet (cC (.bl false))) sNext) u) [some (.ref 0), some (.ref n), x2, some (mD m), some (mD m0), x5, x6, x7, x8, x9, x10, x11, x12, x13, x14, x15] S
      = u [some (.ref 0), some (.ref n), x2, some (mD m), some (mD m0), some (mD R), some (mD o), x7, x8, x9, x10, x11, x12, x13, x14, x15] S') := by
  obtain ⟨R, f, e1, e2, e3⟩ := few_ev h
  obtain ⟨o, S1, r1, B1, _, ol, ow, os⟩ := otherwise_run hB h.wf h.pos (by omega)
  have om : Mach o := ⟨ow, fun e => by rw [e] at ol; simp at ol, by omega⟩
  have e4 := e3 o om os
  have fp := first_parting_ev f.mach h f.sim.symm
  have su := is_sure_ev h0.wf hs (by have := h0.few; omega)
  refine ⟨R, o, S1 ++ [.lst (lookD R), .lst (lookD R)], B1.pre ⟨_, rfl⟩, f, fun u => ?_⟩
  obtain ⟨g1, g2, g3⟩ := look_show f.mach
  have al := alike_lists (S := S1 ++ [.lst (lookD R), .lst (lookD R)]) (n := S1.length) (k := S1.length + 1) (xs := lookD R) (by simp) (by simp) g1 g2 g3
  have st1 : sPar 5 6 (aC (cFn 1 F_least_of (aC (cV 3) aN)) (aC (cFn 2 F__law_otherwise (aC (cV 1) (aC (cV 3) aN))) aN)) [some (.ref 0), some (.ref n), x2, some (mD m), some (mD m0), x5, x6, x7, x8, x9, x10, x11, x12, x13, x14, x15] S = .nx [some (.ref 0), some (.ref n), x2, some (mD m), some (mD m0), some (mD R), some (mD o), x7, x8, x9, x10, x11, x12, x13, x14, x15] S1 := by
    simp [e1.run, r1]
  rw [ev_seq st1]
  refine ev_seq ?_
  simp only [lookD] at al ⊢
  simp [h.rows.run, f.mach.rows.run, su.run, e4.run, e2.run, fp.run, al]
end
end K33

set_option Elab.async false
set_option linter.all false
set_option maxRecDepth 100000
set_option maxHeartbeats 8000000
namespace K33
open Dl
theorem nsD_good (l : List Nat) : (D.tup (nsD l)).good = true := good_of (fineL_of fun d hd => by
  obtain ⟨k, _, rfl⟩ := List.mem_map.mp hd
  rfl) (by
  have : D.deepL (nsD l) ≤ 0 := deepL_of fun d hd => by
    obtain ⟨k, _, rfl⟩ := List.mem_map.mp hd
    exact Nat.le_refl _
  show D.deepL (nsD l) + 1 ≤ 60
  omega)
section
variable {n k : Nat} {S S1 : Store} {m0 m R o : Ms} {x2 x5 x6 x7 x8 x9 x10 x11 x12 x13 x14 x15 : Option D}
theorem len_mD (m : Ms) (S : Store) : gLen S [mD m] = .ok (.int m.length) S := by show Rs.ok (D.int ((m.map rD).length : Nat)) S = _; rw [List.length_map]
theorem law_come (hB : Bag n k S) (f : Few m R) : ∃ S', Bag n k S' ∧
    sIf (kB (cOp2 gNe (cFn 2 F_come_to (aC (cV 5) (aC (cTup (aC (cC (.int 0)) aN)) aN))) (cLrg (cCall gLen (aC (cV 5) aN))))) (sRet (cC (.bl false))) sNext [some (.ref 0), some (.ref n), x2, some (mD m), some (mD m0), some (mD R), some (mD o), x7, x8, x9, x10, x11, x12, x13, x14, x15] S
      = .nx [some (.ref 0), some (.ref n), x2, some (mD m), some (mD m0), some (mD R), some (mD o), x7, x8, x9, x10, x11, x12, x13, x14, x15] S' := by
  have few := f.mach.few
  obtain ⟨F, G, hF, r⟩ := come_run (m := R) (bs := [0]) f.mach.wf (by omega) (fun x hx => by rw [List.mem_singleton.mp hx]; exact f.mach.pos) (by simp) S
  have e0 : dd [] [0] = ([0] : List Nat) := by simp [dd, push]
  rw [e0] at hF
  have eF := bfs_one hF f.line
  subst eF
  have r : runF F_come_to S [mD R, .tup [.int 0]] = .ok (.ref S.length) (S ++ .lst (nsD (List.range R.length)) :: G) := r
  obtain ⟨T, hT⟩ : ∃ T, T = S ++ .lst (nsD (List.range R.length)) :: G := ⟨_, rfl⟩
  rw [← hT] at r
  have lg : lrgK (.int R.length) T = .ok (.ref T.length) (T ++ [.lst (nsD (List.range R.length))]) := by
    have tn : ((R.length : Nat) : Int).toNat = R.length := Int.toNat_natCast _
    unfold lrgK
    dsimp only
    rw [if_pos (by omega), tn]
    unfold nsD
    rfl
  have a1 : (T ++ [DO.lst (nsD (List.range R.length))])[S.length]? = some (.lst (nsD (List.range R.length))) := Pre.get (Pre.push _ _) (by rw [hT]; exact at_new)
  have a2 : (T ++ [DO.lst (nsD (List.range R.length))])[T.length]? = some (.lst (nsD (List.range R.length))) := by simp
  have ne := ne_lst a1 a2 (nsD_good _)
  refine ⟨T ++ [.lst (nsD (List.range R.length))], (hB.pre (by rw [hT]; exact ⟨_, rfl⟩)).pre (Pre.push _ _), ?_⟩
  have ln := len_mD R T
  simp [r, cLrg, ln, lg, ne]
theorem law_pairs (f : Few m R) : ∃ x7' x8', sFor (iRg1 (aC (cCall gLen (aC (cV 5) aN)) aN)) (gN 7) (sFor (iRg1 (aC (cV 7) aN)) (gN 8) (sIf (kOr (kNot (kB (cFn 3 F__law_parted (aC (cV 5) (aC (cV 7) (aC (cV 8) aN)))))) (kB (cOp2 gNot (cFn 3 F_are_standings_alike (aC (cV 5) (aC (cV 7) (aC (cV 8) aN)))) (cC (.bl false))))) (sRet (cC (.bl false))) sNext)) [some (.ref 0), some (.ref n), x2, some (mD m), some (mD m0), some (mD R), some (mD o), x7, x8, x9, x10, x11, x12, x13, x14, x15] S
      = .nx [some (.ref 0), some (.ref n), x2, some (mD m), some (mD m0), some (mD R), some (mD o), x7', x8', x9, x10, x11, x12, x13, x14, x15] S := by
  have few := f.mach.few
  have ln := len_mD R S
  obtain ⟨e1, S1, st, y7, y8, he, hS⟩ := ev_forN (fi := iRg1 (aC (cCall gLen (aC (cV 5) aN)) aN)) (gt := gN 7) (u := sFor (iRg1 (aC (cV 7) aN)) (gN 8) (sIf (kOr (kNot (kB (cFn 3 F__law_parted (aC (cV 5) (aC (cV 7) (aC (cV 8) aN)))))) (kB (cOp2 gNot (cFn 3 F_are_standings_alike (aC (cV 5) (aC (cV 7) (aC (cV 8) aN)))) (cC (.bl false))))) (sRet (cC (.bl false))) sNext))
    (e := [some (.ref 0), some (.ref n), x2, some (mD m), some (mD m0), some (mD R), some (mD o), x7, x8, x9, x10, x11, x12, x13, x14, x15]) (S := S) (S1 := S) (src := .fix (nsD (List.range R.length))) R.length
    (fun i e S' => ∃ y7 y8 : Option D, e = [some (.ref 0), some (.ref n), x2, some (mD m), some (mD m0), some (mD R), some (mD o), y7, y8, x9, x10, x11, x12, x13, x14, x15] ∧ S' = S)
    (by simp [iRg1, ln, x_rng (show R.length < 100000 by omega)]) (by omega) ⟨x7, x8, rfl, rfl⟩ (fun e S' _ => by show (nsD (List.range R.length))[R.length]? = none; exact List.getElem?_eq_none (by rw [nsD_len, List.length_range]; exact Nat.le_refl _))
    (fun i e S' hi ⟨y7, y8, he, hS⟩ => by
      subst he hS
      obtain ⟨e2, S2, st2, z8, he2, hS2⟩ := ev_forN (fi := iRg1 (aC (cV 7) aN)) (gt := gN 8) (u := sIf (kOr (kNot (kB (cFn 3 F__law_parted (aC (cV 5) (aC (cV 7) (aC (cV 8) aN)))))) (kB (cOp2 gNot (cFn 3 F_are_standings_alike (aC (cV 5) (aC (cV 7) (aC (cV 8) aN)))) (cC (.bl false))))) (sRet (cC (.bl false))) sNext)
        (e := [some (.ref 0), some (.ref n), x2, some (mD m), some (mD m0), some (mD R), some (mD o), some (.int i), y8, x9, x10, x11, x12, x13, x14, x15]) (S := S') (S1 := S') (src := .fix (nsD (List.range i))) i
        (fun j e S2 => ∃ y8 : Option D, e = [some (.ref 0), some (.ref n), x2, some (mD m), some (mD m0), some (mD R), some (mD o), some (.int i), y8, x9, x10, x11, x12, x13, x14, x15] ∧ S2 = S')
        (by simp [iRg1, x_rng (show i < 100000 by omega)]) (by omega) ⟨y8, rfl, rfl⟩ (fun e S' _ => by show (nsD (List.range i))[i]? = none; exact List.getElem?_eq_none (by rw [nsD_len, List.length_range]; exact Nat.le_refl _))
        (fun j e S2 hj ⟨y8, he, hS⟩ => by
          subst he hS
          have ns : ¬ Sim R i R j := fun s => by
            have := f.rd.one i j hi (by omega) s
            omega
          obtain ⟨p, hp, ep⟩ := parted_ev (m := R) (a := i) (b := j) f.mach.wf (by omega) hi (by omega)
          obtain ⟨q, hq, eq⟩ := alike_ev (m := R) (a := i) (b := j) f.mach hi (by omega)
          have p1 : p = true := hp.mpr ns
          have q1 : q = false := by cases q with | true => exact absurd (hq.mp rfl) ns | false => rfl
          subst p1 q1
          exact ⟨.int j, _, _, [some (.ref 0), some (.ref n), x2, some (mD m), some (mD m0), some (mD R), some (mD o), some (.int i), some (.int j), x9, x10, x11, x12, x13, x14, x15], S2, by show (nsD (List.range i))[j]? = _; exact nsD_get (List.getElem?_range hj), rfl, by simp [ep.run, eq.run], some (.int j), rfl, rfl⟩)
      subst he2 hS2
      exact ⟨.int i, _, _, _, _, by show (nsD (List.range R.length))[i]? = _; exact nsD_get (List.getElem?_range hi), rfl, st2, some (.int i), z8, rfl, rfl⟩)
  subst he hS
  exact ⟨y7, y8, st⟩
theorem law_laps (hB : Bag n k S) (h : Mach m) : ∃ x7' x8' x9' S', Bag n k S' ∧ sFor (iRg1 (aC (cC (.int 4)) aN)) (gN 9) (sSeq (sPar 7 8 (aC (cFn 2 F__law_take (aC (cV 1) (aC (cCall gLen (aC (cV 3) aN)) aN))) (aC (cFn 2 F__law_take (aC (cV 1) (aC (cCall gLen (aC (cV 3) aN)) aN))) aN))) (sIf (kNot (kB (cFn 2 F__law_alike (aC (cFn 3 F_are_standings_alike (aC (cV 3) (aC (cV 7) (aC (cV 8) aN)))) (aC (cNot (cFn 3 F__law_parted (aC (cV 3) (aC (cV 7) (aC (cV 8) aN))))) aN))))) (sRet (cC (.bl false))) sNext)) [some (.ref 0), some (.ref n), x2, some (mD m), some (mD m0), some (mD R), some (mD o), x7, x8, x9, x10, x11, x12, x13, x14, x15] S
      = .nx [some (.ref 0), some (.ref n), x2, some (mD m), some (mD m0), some (mD R), some (mD o), x7', x8', x9', x10, x11, x12, x13, x14, x15] S' := by
  have few := h.few
  obtain ⟨e1, S1, st, y7, y8, y9, he, hB1⟩ := ev_forN (fi := iRg1 (aC (cC (.int 4)) aN)) (gt := gN 9) (u := sSeq (sPar 7 8 (aC (cFn 2 F__law_take (aC (cV 1) (aC (cCall gLen (aC (cV 3) aN)) aN))) (aC (cFn 2 F__law_take (aC (cV 1) (aC (cCall gLen (aC (cV 3) aN)) aN))) aN))) (sIf (kNot (kB (cFn 2 F__law_alike (aC (cFn 3 F_are_standings_alike (aC (cV 3) (aC (cV 7) (aC (cV 8) aN)))) (aC (cNot (cFn 3 F__law_parted (aC (cV 3) (aC (cV 7) (aC (cV 8) aN))))) aN))))) (sRet (cC (.bl false))) sNext))
    (e := [some (.ref 0), some (.ref n), x2, some (mD m), some (mD m0), some (mD R), some (mD o), x7, x8, x9, x10, x11, x12, x13, x14, x15]) (S := S) (S1 := S) (src := .fix (nsD (List.range 4))) 4
    (fun i e S' => ∃ y7 y8 y9 : Option D, e = [some (.ref 0), some (.ref n), x2, some (mD m), some (mD m0), some (mD R), some (mD o), y7, y8, y9, x10, x11, x12, x13, x14, x15] ∧ Bag n k S')
    rfl (by omega) ⟨x7, x8, x9, rfl, hB⟩ (fun e S' _ => rfl) (fun i e S' hi ⟨y7, y8, y9, he, B⟩ => by
      subst he
      obtain ⟨a, S2, ha, r1, B2, _⟩ := take_run (M := m.length) B h.pos (by omega)
      obtain ⟨b, S3, hb, r2, B3, _⟩ := take_run (M := m.length) B2 h.pos (by omega)
      obtain ⟨p, hp, ep⟩ := parted_ev (m := m) (a := a) (b := b) h.wf (by omega) ha hb
      obtain ⟨q, hq, eq⟩ := alike_ev (m := m) (a := a) (b := b) h ha hb
      have pq : q = !p := by
        cases p <;> cases q <;> simp at hp hq ⊢
        · exact hq hp
        · exact hp hq
      subst pq
      have al := alike_bools (!p)
      refine ⟨.int i, _, _, [some (.ref 0), some (.ref n), x2, some (mD m), some (mD m0), some (mD R), some (mD o), some (.int a), some (.int b), some (.int i), x10, x11, x12, x13, x14, x15], S3, by show (nsD (List.range 4))[i]? = _; exact nsD_get (List.getElem?_range hi), rfl, ?_, _, _, _, rfl, B3⟩
      simp [len_mD, r1, r2, ep.run, eq.run, al.run])
  subst he
  exact ⟨y7, y8, y9, S1, hB1, st⟩
end
end K33

set_option Elab.async false
set_option linter.all false
set_option maxRecDepth 100000
set_option maxHeartbeats 8000000
namespace K33
open Dl
section
variable {n k : Nat} {S S1 : Store} {m0 m R o : Ms} {x2 x3 x5 x6 x7 x8 x9 x10 x11 x12 x13 x14 x15 : Option D}
theorem both_good (a b : Nat) (m : Ms) : (bothD a b m).good = true := good_of (by simp [bothD, D.fine, D.fineL, mD_fine]) (by
  have : D.deepL [.int a, .int b, mD m] ≤ 4 := deepL_of fun d hd => by
    simp only [List.mem_cons, List.not_mem_nil, or_false] at hd
    rcases hd with rfl | rfl | rfl
    · exact Nat.zero_le _
    · exact Nat.zero_le _
    · exact mD_deep m
  show D.deepL [.int a, .int b, mD m] + 1 ≤ 60
  omega)
theorem law_both (hB : Bag n k S) (h0 : Mach m0) (hs : Sure m0) : ∃ (a b y : Nat) (Q : Ms) (S' : Store), Bag n k S' ∧ a < m0.length ∧ b < m0.length ∧ Mach Q ∧ Q.length ≤ m0.length ∧ y < Q.length ∧ Sim m0 a Q 0 ∧ Sim m0 b Q y ∧
    ∀ u : DS, sSeq (sSet 10 (cTup (aC (cFn 2 F__law_take (aC (cV 1) (aC (cCall gLen (aC (cV 4) aN)) aN))) (aC (cFn 2 F__law_take (aC (cV 1) (aC (cCall gLen (aC (cV 4) aN)) aN))) aN)))) (sSeq (sSet 11 (cFn 1 F_least_both (aC (cOp2 gAdd (cV 10) (cTup (aC (cV 4) aN))) aN))) (sSeq (sIf (kOr (kB (cOp2 gNot (cFn 1 F_is_both (aC (cV 11) aN)) (cC (.bl true)))) (kOr (kB (cOp2 gNe (cOp2 gIx (cV 11) (cC (.int 0))) (cC (.int 0)))) (kOr (kB (cOp2 gGt (cOp2 gIx (cV 11) (cC (.int 1))) (cOp2 gSub (cCall gLen (aC (cOp2 gIx (cV 11) (cC (.int 2))) aN)) (cC (.int 1))))) (kB (cOp2 gNe (cFn 1 F_least_both (aC (cV 11) aN)) (cV 11)))))) (sRet (cC (.bl false))) sNext) u)) [some (.ref 0), some (.ref n), x2, x3, some (mD m0), x5, x6, x7, x8, x9, x10, x11, x12, x13, x14, x15] S
      = u [some (.ref 0), some (.ref n), x2, x3, some (mD m0), x5, x6, x7, x8, x9, some (.tup [.int a, .int b]), some (bothD 0 y Q), x12, x13, x14, x15] S' := by
  have few := h0.few
  obtain ⟨a, S1, ha, r1, B1, _⟩ := take_run (M := m0.length) hB h0.pos (by omega)
  obtain ⟨b, S2, hb, r2, B2, _⟩ := take_run (M := m0.length) B1 h0.pos (by omega)
  obtain ⟨x, y, Q, hL, e1⟩ := least_both_ev h0 hs ha hb
  have ok := hL.ok
  have hQ := laid_mach (by simp) h0.few ok
  have bb : ∀ z ∈ [a, b], z < m0.length := fun z hz => by
    simp only [List.mem_cons, List.not_mem_nil, or_false] at hz
    rcases hz with rfl | rfl <;> assumption
  have sQ := laid_sure h0.wf hs bb ok
  obtain ⟨xl, sx⟩ := ok.sim 0 a x rfl rfl
  obtain ⟨yl, sy⟩ := ok.sim 1 b y rfl rfl
  have hx : x = 0 := by
    obtain ⟨z, ez⟩ := bfs_pre ok.line
    have g : (List.range Q.length)[0]? = some 0 := List.getElem?_range hQ.pos
    have g2 : ∃ t, dd [] [x, y] = x :: t := by
      by_cases h : y = x
      · subst h; exact ⟨[], by simp [dd, push]⟩
      · exact ⟨[y], by simp [dd, push, h]⟩
    obtain ⟨t, et⟩ := g2
    rw [ez, et] at g
    exact Option.some.inj g
  subst hx
  have e2 := is_both_ev (b := y) hQ sQ hQ.pos
  rw [decide_eq_true yl] at e2
  obtain ⟨x', y', Q', hL', e3⟩ := least_both_ev hQ sQ hQ.pos yl
  obtain ⟨en, eq⟩ := laid_eq hL hL' rfl (fun i p q hp hq => by
    match i with
    | 0 => cases hp; cases hq; exact sx
    | 1 => cases hp; cases hq; exact sy
    | i + 2 => cases hp)
  subst eq
  cases en
  refine ⟨a, b, y, Q, S2, B2, ha, hb, hQ, ok.len, yl, sx, sy, fun u => ?_⟩
  have ln := fun S' => len_mD m0 S'
  have lq := fun S' => len_mD Q S'
  rw [ev_seq (e1 := [some (.ref 0), some (.ref n), x2, x3, some (mD m0), x5, x6, x7, x8, x9, some (.tup [.int a, .int b]), x11, x12, x13, x14, x15]) (S1 := S2) (by simp [ln, r1, r2])]
  have e1r : runF F_least_both S2 [.tup [.int a, .int b, mD m0]] = .ok (bothD 0 y Q) S2 := e1.run S2
  rw [ev_seq (e1 := [some (.ref 0), some (.ref n), x2, x3, some (mD m0), x5, x6, x7, x8, x9, some (.tup [.int a, .int b]), some (bothD 0 y Q), x12, x13, x14, x15]) (S1 := S2) (by simp [gAdd, e1r])]
  refine ev_seq ?_
  have ne : gNe S2 (bothD 0 y Q) (bothD 0 y Q) = .ok (.bl false) S2 := ne_tup (both_good 0 y Q)
  have i0 : gIx S2 (bothD 0 y Q) (.int 0) = .ok (.int 0) S2 := x_ix0
  have i1 : gIx S2 (bothD 0 y Q) (.int 1) = .ok (.int y) S2 := x_ix1
  have i2 : gIx S2 (bothD 0 y Q) (.int 2) = .ok (mD Q) S2 := x_ix2
  have c1 : ¬ ((Q.length : Int) - 1 < (y : Int)) := by omega
  simp [e2.run, e3.run, i0, i1, i2, lq, c1, ne]
end
end K33

set_option Elab.async false
set_option linter.all false
set_option maxRecDepth 100000
set_option maxHeartbeats 8000000
namespace K33
open Dl
/-! ### two machines in one -/
def both2 (Q m : Ms) : Ms := Q ++ m.map (viaF fun q => q + Q.length)
section
variable {Q m : Ms}
theorem both2_len : (both2 Q m).length = Q.length + m.length := by unfold both2; simp
theorem both2_lo {i : Nat} (h : i < Q.length) : (both2 Q m)[i]? = Q[i]? := by unfold both2; rw [List.getElem?_append_left h]
theorem both2_hi {i : Nat} : (both2 Q m)[i + Q.length]? = (m[i]?).map (viaF fun q => q + Q.length) := by
  unfold both2
  rw [List.getElem?_append_right (by omega), Nat.add_sub_cancel, List.getElem?_map]
theorem cell_lo {i s : Nat} (h : i < Q.length) : cell (both2 Q m) i s = cell Q i s := by
  unfold cell
  rw [both2_lo h]
theorem cell_hi {i s : Nat} (h : i < m.length) : cell (both2 Q m) (i + Q.length) s = (cell m i s).map fun p => (p.1, p.2 + Q.length) := by
  have e : m[i]? = some m[i] := List.getElem?_eq_getElem h
  have e2 : (both2 Q m)[i + Q.length]? = some (viaF (fun q => q + Q.length) m[i]) := by rw [both2_hi, e]; rfl
  cases a : (m[i])[s]? with
  | none => rw [cell_none e a, cell_none e2 (by unfold viaF; rw [List.getElem?_map, a]; rfl)]; rfl
  | some t => rw [cell_row e a, cell_row e2 (t := t.map fun p => (p.1, p.2 + Q.length)) (by unfold viaF; rw [List.getElem?_map, a]; rfl)]
theorem both2_wf (hQ : WF Q) (hm : WF m) : WF (both2 Q m) := by
  have split : ∀ i, i < (both2 Q m).length → i < Q.length ∨ ∃ j, j < m.length ∧ i = j + Q.length := fun i hi => by
    rw [both2_len] at hi
    by_cases h : i < Q.length
    · exact .inl h
    · exact .inr ⟨i - Q.length, by omega, by omega⟩
  refine ⟨fun i r e => ?_, fun i s w k c => ?_⟩
  · rcases split i (List.getElem?_eq_some_iff.mp e).1 with h | ⟨j, hj, rfl⟩
    · rw [both2_lo h] at e
      exact hQ.three i r e
    · rw [both2_hi, List.getElem?_eq_getElem hj] at e
      cases e
      unfold viaF
      rw [List.length_map]
      exact hm.three j _ (List.getElem?_eq_getElem hj)
  · obtain ⟨r, a, _⟩ := cell_some c
    rw [both2_len]
    rcases split i (List.getElem?_eq_some_iff.mp a).1 with h | ⟨j, hj, rfl⟩
    · rw [cell_lo h] at c
      have := hQ.to i s w k c
      omega
    · rw [cell_hi hj] at c
      cases d : cell m j s with
      | none => rw [d] at c; cases c
      | some p =>
        rw [d] at c
        have := hm.to j s p.1 p.2 d
        have e : (p.1, p.2 + Q.length) = (w, k) := Option.some.inj c
        cases e
        omega
theorem both2_simQ (hQ : WF Q) {i : Nat} (h : i < Q.length) : Sim Q i (both2 Q m) i := by
  refine sim_of (fun i j => i < Q.length ∧ i = j) (fun i j ⟨hi, hij⟩ s => ?_) ⟨h, rfl⟩
  subst hij
  rw [cell_lo hi]
  cases c : cell Q i s with
  | none => trivial
  | some p => exact ⟨rfl, hQ.to i s p.1 p.2 c, rfl⟩
theorem both2_simM (hm : WF m) {i : Nat} (h : i < m.length) : Sim m i (both2 Q m) (i + Q.length) := by
  refine sim_of (fun i j => i < m.length ∧ j = i + Q.length) (fun i j ⟨hi, hij⟩ s => ?_) ⟨h, rfl⟩
  subst hij
  rw [cell_hi hi]
  cases c : cell m i s with
  | none => trivial
  | some p => exact ⟨rfl, hm.to i s p.1 p.2 c, rfl⟩
end
end K33

set_option Elab.async false
set_option linter.all false
set_option maxRecDepth 100000
set_option maxHeartbeats 8000000
namespace K33
open Dl
section
variable {n k : Nat} {S S1 : Store} {m0 m R o Q : Ms} {x2 x3 x5 x6 x7 x8 x9 x12 x13 x14 x15 : Option D}
/-- the row in which each standing is moved on -/
theorem move_row {r : List Tl} {e : Env} {b : D} (h3 : r.length = 3) (ha : ∀ S', cV 15 e S' = .ok (rD r) S') (hw : ∀ o S', cV 7 ((wipeE e [7]).set 7 (some o)) S' = .ok o S') (hb : ∀ o S', cV 11 ((wipeE e [7]).set 7 (some o)) S' = .ok b S') (hq : ∀ S', gIx S' b (.int 2) = .ok (mD Q) S') (S : Store) :
    ∃ S', Pre S S' ∧ cCall gTuple (aC (cLc (iSeq (cV 15)) (gN 7) kYes (cIfE (kB (cOp2 gIs (cV 7) (cC .non))) (cC .non) (cTup (aC (cOp2 gIx (cV 7) (cC (.int 0))) (aC (cOp2 gAdd (cOp2 gIx (cV 7) (cC (.int 1))) (cCall gLen (aC (cOp2 gIx (cV 11) (cC (.int 2))) aN))) aN)))) [7]) aN) e S = .ok (rD (viaF (fun q => q + Q.length) r)) S' := by
  obtain ⟨G, g⟩ := ev_lc (fi := iSeq (cV 15)) (gt := gN 7) (us := [7]) (te := cIfE (kB (cOp2 gIs (cV 7) (cC .non))) (cC .non) (cTup (aC (cOp2 gIx (cV 7) (cC (.int 0))) (aC (cOp2 gAdd (cOp2 gIx (cV 7) (cC (.int 1))) (cCall gLen (aC (cOp2 gIx (cV 11) (cC (.int 2))) aN))) aN)))) (e := e) (S := S) (S1 := S) (src := .fix (r.map tD)) (ds := r.map tD) (ys := (viaF (fun q => q + Q.length) r).map tD)
    (by rw [x_iSeq, ha]; rfl) (by unfold viaF; simp) (by rw [List.length_map]; omega) (src_fix S) (fun i d y S' hd hy _ => by
      unfold viaF at hy
      rw [List.map_map, List.getElem?_map] at hy
      rw [List.getElem?_map] at hd
      cases et : r[i]? with
      | none => rw [et] at hd; cases hd
      | some t =>
        rw [et] at hd hy
        have hd := Option.some.inj hd
        have hy := Option.some.inj hy
        subst hd hy
        cases t with
        | none => exact ⟨_, S', rfl, by simp [hw, tD], Pre.refl _⟩
        | some p =>
          obtain ⟨w, q⟩ := p
          exact ⟨_, S', rfl, by simp [hw, hb, hq, len_mD, tD], Pre.refl _⟩)
  exact ⟨_, ⟨_, rfl⟩, ev_tuple_of g at_new⟩
theorem law_union {a b y : Nat} (hB : Bag n k S) (h0 : Mach m0) (hQ : Mach Q) (hl : Q.length ≤ m0.length) (hm : m0.length ≤ 5) (ha : a < m0.length) (hb : b < m0.length) (hy : y < Q.length) (sa : Sim m0 a Q 0) (sb : Sim m0 b Q y) :
    ∃ x12' x13' S', Bag n k S' ∧ sFor (iZip (aC (cSl (cV 11) oNone (oSome (cC (.int 2)))) (aC (cV 10) aN))) (gT 2 (gsC (gN 12) (gsC (gN 13) gsN))) (sIf (kB (cFn 3 F__law_parted (aC (cOp2 gAdd (cOp2 gIx (cV 11) (cC (.int 2))) (cCall gTuple (aC (cLc (iSeq (cV 4)) (gN 15) kYes (cCall gTuple (aC (cLc (iSeq (cV 15)) (gN 7) kYes (cIfE (kB (cOp2 gIs (cV 7) (cC .non))) (cC .non) (cTup (aC (cOp2 gIx (cV 7) (cC (.int 0))) (aC (cOp2 gAdd (cOp2 gIx (cV 7) (cC (.int 1))) (cCall gLen (aC (cOp2 gIx (cV 11) (cC (.int 2))) aN))) aN)))) [7]) aN)) [15]) aN))) (aC (cV 12) (aC (cOp2 gAdd (cV 13) (cCall gLen (aC (cOp2 gIx (cV 11) (cC (.int 2))) aN))) aN))))) (sRet (cC (.bl false))) sNext) [some (.ref 0), some (.ref n), x2, x3, some (mD m0), x5, x6, x7, x8, x9, some (.tup [.int a, .int b]), some (bothD 0 y Q), x12, x13, x14, x15] S
      = .nx [some (.ref 0), some (.ref n), x2, x3, some (mD m0), x5, x6, x7, x8, x9, some (.tup [.int a, .int b]), some (bothD 0 y Q), x12', x13', x14, x15] S' := by
  have i2 : ∀ S', gIx S' (bothD 0 y Q) (.int 2) = .ok (mD Q) S' := fun S' => x_ix2
  have uw := both2_wf hQ.wf h0.wf
  have ul := both2_len (Q := Q) (m := m0)
  have body : ∀ (p q : Nat) (S : Store), p < Q.length → q < m0.length → Sim m0 q Q p → ∃ S', Pre S S' ∧ kB (cFn 3 F__law_parted (aC (cOp2 gAdd (cOp2 gIx (cV 11) (cC (.int 2))) (cCall gTuple (aC (cLc (iSeq (cV 4)) (gN 15) kYes (cCall gTuple (aC (cLc (iSeq (cV 15)) (gN 7) kYes (cIfE (kB (cOp2 gIs (cV 7) (cC .non))) (cC .non) (cTup (aC (cOp2 gIx (cV 7) (cC (.int 0))) (aC (cOp2 gAdd (cOp2 gIx (cV 7) (cC (.int 1))) (cCall gLen (aC (cOp2 gIx (cV 11) (cC (.int 2))) aN))) aN)))) [7]) aN)) [15]) aN))) (aC (cV 12) (aC (cOp2 gAdd (cV 13) (cCall gLen (aC (cOp2 gIx (cV 11) (cC (.int 2))) aN))) aN)))) [some (.ref 0), some (.ref n), x2, x3, some (mD m0), x5, x6, x7, x8, x9, some (.tup [.int a, .int b]), some (bothD 0 y Q), some (.int p), some (.int q), x14, x15] S = .ok false S' := by
    intro p q S hp hq sm
    obtain ⟨G, g⟩ := ev_lc (fi := iSeq (cV 4)) (gt := gN 15) (us := [15]) (te := cCall gTuple (aC (cLc (iSeq (cV 15)) (gN 7) kYes (cIfE (kB (cOp2 gIs (cV 7) (cC .non))) (cC .non) (cTup (aC (cOp2 gIx (cV 7) (cC (.int 0))) (aC (cOp2 gAdd (cOp2 gIx (cV 7) (cC (.int 1))) (cCall gLen (aC (cOp2 gIx (cV 11) (cC (.int 2))) aN))) aN)))) [7]) aN)) (e := [some (.ref 0), some (.ref n), x2, x3, some (mD m0), x5, x6, x7, x8, x9, some (.tup [.int a, .int b]), some (bothD 0 y Q), some (.int p), some (.int q), x14, x15]) (S := S) (S1 := S) (src := .fix (m0.map rD)) (ds := m0.map rD) (ys := (m0.map (viaF fun q => q + Q.length)).map rD)
      (by simp [mD]) (by simp) (by rw [List.length_map]; omega) (src_fix S) (fun i d z S' hd hz _ => by
        rw [List.map_map, List.getElem?_map] at hz
        rw [List.getElem?_map] at hd
        cases er : m0[i]? with
        | none => rw [er] at hd; cases hd
        | some r =>
          rw [er] at hd hz
          have hd := Option.some.inj hd
          have hz := Option.some.inj hz
          subst hd hz
          obtain ⟨S3, p3, e3⟩ := move_row (Q := Q) (r := r) (b := bothD 0 y Q) (e := [some (.ref 0), some (.ref n), x2, x3, some (mD m0), x5, x6, x7, x8, x9, some (.tup [.int a, .int b]), some (bothD 0 y Q), some (.int p), some (.int q), x14, some (rD r)]) (h0.wf.three i r er) (fun S' => by simp) (fun o S' => by simp [wipeE]) (fun o S' => by simp [wipeE]) i2 S'
          exact ⟨_, S3, rfl, e3, p3⟩)
    obtain ⟨T, hT⟩ : ∃ T, T = S ++ .lst ((m0.map (viaF fun q => q + Q.length)).map rD) :: G := ⟨_, rfl⟩
    rw [← hT] at g
    have tp := ev_tuple_of g (by rw [hT]; exact at_new)
    have ad : gAdd T (mD Q) (.tup ((m0.map (viaF fun q => q + Q.length)).map rD)) = .ok (mD (both2 Q m0)) T := by
      show (if (Q.map rD).length + ((m0.map (viaF fun q => q + Q.length)).map rD).length ≤ 100000 then Rs.ok (D.tup (Q.map rD ++ (m0.map (viaF fun q => q + Q.length)).map rD)) T else .stuck) = _
      rw [if_pos (by rw [List.length_map, List.length_map, List.length_map]; omega), ← List.map_append]
      rfl
    obtain ⟨c, hc, ec⟩ := parted_ev (m := both2 Q m0) (a := p) (b := q + Q.length) uw (by omega) (by omega) (by omega)
    have s : Sim (both2 Q m0) p (both2 Q m0) (q + Q.length) := ((both2_simQ hQ.wf hp).symm.trans sm.symm).trans (both2_simM h0.wf hq)
    have c0 : c = false := by cases c with | true => exact absurd s (hc.mp rfl) | false => rfl
    subst c0
    have er : runF F__law_parted T [mD (both2 Q m0), .int p, .int ((q : Int) + Q.length)] = .ok (.bl false) T := by
      have := ec.run T
      rw [show ((q + Q.length : Nat) : Int) = (q : Int) + Q.length from Int.natCast_add ..] at this
      exact this
    refine ⟨T, ⟨_, hT⟩, ?_⟩
    refine ev_kB ((ev_fn (ds := [mD (both2 Q m0), .int p, .int ((q : Int) + Q.length)]) (S1 := T) ?_ rfl ⟨?_, rfl, ?_⟩))
    · refine ev_aC ((ev_op2 (x := mD Q) (S1 := S) ?_ tp).trans ad) (ev_aC (x := .int p) (S1 := T) (by simp) (ev_aC (x := .int ((q : Int) + Q.length)) (S1 := T) (by simp [i2, len_mD]) ev_aN))
      simp [i2]
    · simp [D.pureL, D.pure, mD_pure]
    · obtain ⟨T2, e2⟩ := ec.ev
      rw [show ((q + Q.length : Nat) : Int) = (q : Int) + Q.length from Int.natCast_add ..] at e2
      exact ⟨T2, e2⟩
  have sl : gSl S (bothD 0 y Q) none (some 2) = .ok (.tup [.int 0, .int y]) S := rfl
  obtain ⟨e1, S1, st, z12, z13, he, hB1⟩ := ev_forN (fi := iZip (aC (cSl (cV 11) oNone (oSome (cC (.int 2)))) (aC (cV 10) aN))) (gt := gT 2 (gsC (gN 12) (gsC (gN 13) gsN))) (u := sIf (kB (cFn 3 F__law_parted (aC (cOp2 gAdd (cOp2 gIx (cV 11) (cC (.int 2))) (cCall gTuple (aC (cLc (iSeq (cV 4)) (gN 15) kYes (cCall gTuple (aC (cLc (iSeq (cV 15)) (gN 7) kYes (cIfE (kB (cOp2 gIs (cV 7) (cC .non))) (cC .non) (cTup (aC (cOp2 gIx (cV 7) (cC (.int 0))) (aC (cOp2 gAdd (cOp2 gIx (cV 7) (cC (.int 1))) (cCall gLen (aC (cOp2 gIx (cV 11) (cC (.int 2))) aN))) aN)))) [7]) aN)) [15]) aN))) (aC (cV 12) (aC (cOp2 gAdd (cV 13) (cCall gLen (aC (cOp2 gIx (cV 11) (cC (.int 2))) aN))) aN))))) (sRet (cC (.bl false))) sNext)
    (e := [some (.ref 0), some (.ref n), x2, x3, some (mD m0), x5, x6, x7, x8, x9, some (.tup [.int a, .int b]), some (bothD 0 y Q), x12, x13, x14, x15]) (S := S) (S1 := S) (src := .zip (.fix (nsD [0, y])) (.fix (nsD [a, b]))) 2
    (fun i e S' => ∃ z12 z13 : Option D, e = [some (.ref 0), some (.ref n), x2, x3, some (mD m0), x5, x6, x7, x8, x9, some (.tup [.int a, .int b]), some (bothD 0 y Q), z12, z13, x14, x15] ∧ Bag n k S')
    (by simp [iZip, sl, x_zipT]; exact ⟨rfl, rfl⟩) (by omega) ⟨x12, x13, rfl, hB⟩ (fun e S' _ => rfl) (fun i e S' hi ⟨z12, z13, he, B⟩ => by
      subst he
      match i, hi with
      | 0, _ =>
        obtain ⟨T, p, ev⟩ := body 0 a S' hQ.pos ha sa
        exact ⟨.tup [.int 0, .int a], [some (.ref 0), some (.ref n), x2, x3, some (mD m0), x5, x6, x7, x8, x9, some (.tup [.int a, .int b]), some (bothD 0 y Q), some (.int (0 : Nat)), some (.int a), x14, x15], S', [some (.ref 0), some (.ref n), x2, x3, some (mD m0), x5, x6, x7, x8, x9, some (.tup [.int a, .int b]), some (bothD 0 y Q), some (.int (0 : Nat)), some (.int a), x14, x15], T, rfl, by simp, by rw [ev_if ev, if_neg (by decide)]; rfl, _, _, rfl, B.pre p⟩
      | 1, _ =>
        obtain ⟨T, p, ev⟩ := body y b S' hy hb sb
        exact ⟨.tup [.int y, .int b], [some (.ref 0), some (.ref n), x2, x3, some (mD m0), x5, x6, x7, x8, x9, some (.tup [.int a, .int b]), some (bothD 0 y Q), some (.int y), some (.int b), x14, x15], S', [some (.ref 0), some (.ref n), x2, x3, some (mD m0), x5, x6, x7, x8, x9, some (.tup [.int a, .int b]), some (bothD 0 y Q), some (.int y), some (.int b), x14, x15], T, rfl, by simp, by rw [ev_if ev, if_neg (by decide)]; rfl, _, _, rfl, B.pre p⟩)
  subst he
  exact ⟨z12, z13, S1, hB1, st⟩
end
end K33

set_option Elab.async false
set_option linter.all false
set_option maxRecDepth 100000
set_option maxHeartbeats 8000000
namespace K33
open Dl
section
variable {n k : Nat} {S S1 : Store} {m0 m R o Q : Ms} {x2 x3 x4 x6 x7 x8 x9 x10 x11 x12 x13 x14 x15 : Option D}
/-- the things that are no rows, one by one -/
theorem law_bad (hB : Bag n k S) (h : Mach R) : ∃ x14' S', Bag n k S' ∧ ∀ u : DS,
    sSeq (sSet 14 (cLst (aC (cC .non) (aC (cTup aN) (aC (cLst (aC (cV 5) aN)) (aC (cOp2 gAdd (cV 5) (cTup (aC (cTup (aC (cC .non) (aC (cC .non) aN))) aN))) (aC (cOp2 gAdd (cV 5) (cTup (aC (cTup (aC (cC .non) (aC (cC .non) (aC (cTup (aC (cTup (aC (cC (.int 2)) aN)) (aC (cC (.int 0)) aN))) aN)))) aN))) (aC (cOp2 gAdd (cV 5) (cTup (aC (cTup (aC (cC .non) (aC (cC .non) (aC (cTup (aC (cTup (aC (cC (.int 0)) aN)) (aC (cOp2 gAdd (cCall gLen (aC (cV 5) aN)) (cC (.int 1))) aN))) aN)))) aN))) (aC (cTup (aC (cC (.int 0)) (aC (cC (.int 0)) aN))) aN))))))))) u [some (.ref 0), some (.ref n), x2, x3, x4, some (mD R), x6, x7, x8, x9, x10, x11, x12, x13, x14, x15] S
      = u [some (.ref 0), some (.ref n), x2, x3, x4, some (mD R), x6, x7, x8, x9, x10, x11, x12, x13, x14', x15] S' ∧ x14' = some (.ref (S.length + 1)) ∧ S' = S ++ [.lst [mD R], .lst [.non, .tup [], .ref S.length, .tup (R.map rD ++ [.tup [.non, .non]]), .tup (R.map rD ++ [.tup [.non, .non, .tup [.tup [.int 2], .int 0]]]), .tup (R.map rD ++ [.tup [.non, .non, .tup [.tup [.int 0], .int (R.length + 1 : Nat)]]]), .tup [.int 0, .int 0]]] := by
  have few := h.few
  refine ⟨_, _, hB.pre ⟨_, rfl⟩, fun u => ⟨?_, rfl, rfl⟩⟩
  have ad : ∀ (S' : Store) (x : D), gAdd S' (mD R) (.tup [x]) = .ok (.tup (R.map rD ++ [x])) S' := fun S' x => by
    show (if (R.map rD).length + 1 ≤ 100000 then Rs.ok (D.tup (R.map rD ++ [x])) S' else .stuck) = _
    rw [if_pos (by rw [List.length_map]; omega)]
  refine ev_seq ?_
  simp [ad, len_mD]
/-- .. none of which is told to be rows; and the last try -/
theorem law_end (h : Mach R) {T : Store} (hT : T = S ++ [.lst [mD R], .lst [.non, .tup [], .ref S.length, .tup (R.map rD ++ [.tup [.non, .non]]), .tup (R.map rD ++ [.tup [.non, .non, .tup [.tup [.int 2], .int 0]]]), .tup (R.map rD ++ [.tup [.non, .non, .tup [.tup [.int 0], .int (R.length + 1 : Nat)]]]), .tup [.int 0, .int 0]]]) :
    ∃ G, cLc (iSeq (cV 14)) (gN 7) (kB (cOp2 gNot (cFn 1 F_is_rows (aC (cV 7) aN)) (cC (.bl false)))) (cV 7) [7] [some (.ref 0), some (.ref n), x2, x3, x4, some (mD R), x6, x7, x8, x9, x10, x11, x12, x13, some (.ref (S.length + 1)), x15] T = .ok (.ref T.length) (T ++ .lst [] :: G) := by
  have at1 : T[S.length + 1]? = some (.lst [.non, .tup [], .ref S.length, .tup (R.map rD ++ [.tup [.non, .non]]), .tup (R.map rD ++ [.tup [.non, .non, .tup [.tup [.int 2], .int 0]]]), .tup (R.map rD ++ [.tup [.non, .non, .tup [.tup [.int 0], .int (R.length + 1 : Nat)]]]), .tup [.int 0, .int 0]]) := by rw [hT]; simp
  have at0 : T[S.length]? = some (.lst [mD R]) := by rw [hT]; simp
  have all : ∀ (d : D) (S' : Store), d ∈ [D.non, .tup [], .ref S.length, .tup (R.map rD ++ [.tup [.non, .non]]), .tup (R.map rD ++ [.tup [.non, .non, .tup [.tup [.int 2], .int 0]]]), .tup (R.map rD ++ [.tup [.non, .non, .tup [.tup [.int 0], .int (R.length + 1 : Nat)]]]), .tup [.int 0, .int 0]] → Pre T S' → runF F_is_rows S' [d] = .ok (.bl false) S' := fun d S' hd p => by
    simp only [List.mem_cons, List.not_mem_nil, or_false] at hd
    rcases hd with rfl | rfl | rfl | rfl | rfl | rfl | rfl
    · exact bad_non.run S'
    · exact bad_nil.run S'
    · exact bad_lst (p.get at0)
    · exact (bad_short h).run S'
    · exact (bad_bit h).run S'
    · exact (bad_far h).run S'
    · exact bad_ints.run S'
  obtain ⟨G, g⟩ := ev_lcF (fi := iSeq (cV 14)) (gt := gN 7) (tt := kB (cOp2 gNot (cFn 1 F_is_rows (aC (cV 7) aN)) (cC (.bl false)))) (te := cV 7) (us := [7]) (e := [some (.ref 0), some (.ref n), x2, x3, x4, some (mD R), x6, x7, x8, x9, x10, x11, x12, x13, some (.ref (S.length + 1)), x15]) (S := T) (S1 := T) (src := .live (S.length + 1)) (ks := List.replicate 7 none)
    (by simp; rw [x_srcL at1]) rfl (by show 7 < 100000; omega) (src_live at1) (fun i d S' hd p => by
      have r := all d S' (List.mem_of_getElem? hd) p
      have hi : i < 7 := lt_of_get hd
      refine ⟨_, S', S', rfl, Pre.refl _, Pre.refl _, .inl ⟨by simp [wipeE, r], by rw [List.getElem?_replicate, if_pos hi]⟩⟩)
  exact ⟨G, g⟩
end
end K33

set_option Elab.async false
set_option linter.all false
set_option maxRecDepth 100000
set_option maxHeartbeats 8000000
namespace K33
open Dl
theorem is_both_no {m : Ms} {a b : Nat} (h : Mach m) (ha : a < m.length) (hbl : ¬ b < m.length) : Ev F_is_both [bothD a b m] (.bl false) := by
  refine ⟨by simp [D.pureL, both_pure], rfl, ?_⟩
  have e1 : runF F_is_rows [] [mD m] = .ok (.bl true) [] := h.rows.run []
  obtain ⟨G2, r2⟩ := ev_lc (fi := iSeq (cSl (cV 0) oNone (oSome (cC (.int 2))))) (gt := gN 3) (te := cAnd (cFn 1 F_is_count (aC (cV 3) aN)) (cOp2 gLt (cV 3) (cCall gLen (aC (cOp2 gIx (cV 0) (cC (.int 2))) aN)))) (us := [3]) (e := [some (bothD a b m), none, none, none]) (S := []) (S1 := []) (src := .fix (nsD [a, b])) (ds := nsD [a, b]) (ys := [true, false].map D.bl)
    (by simp [bothD, gSl, cut2]; rfl) rfl (by simp [nsD_len]) (src_fix []) (fun i d y S' hd hy _ => by
      have ln2 : gLen S' [mD m] = .ok (.int m.length) S' := len_mD m S'
      match i with
      | 0 =>
        cases hd; cases hy
        refine ⟨_, S', rfl, ?_, Pre.refl _⟩
        simp [wipeE, (is_cnt a).run S', bothD, ln2]
        omega
      | 1 =>
        cases hd; cases hy
        refine ⟨_, S', rfl, ?_, Pre.refl _⟩
        simp [wipeE, (is_cnt b).run S', bothD, ln2]
        omega
      | i + 2 => cases hd)
  obtain ⟨T2, hT2⟩ : ∃ T2 : Store, T2 = [] ++ .lst ([true, false].map D.bl) :: G2 := ⟨_, rfl⟩
  rw [← hT2] at r2
  have a2 := x_allL (S := T2) (n := 0) (bs := [true, false]) (by rw [hT2]; rfl)
  have hb2 : bothD a b m = .tup [.int a, .int b, mD m] := rfl
  have stA : sIf (kOr (kNot (kB (cIsi .tuple (cV 0)))) (kOr (kB (cOp2 gNe (cCall gLen (aC (cV 0) aN)) (cC (.int 3)))) (kNot (kB (cFn 1 F_is_rows (aC (cOp2 gIx (cV 0) (cC (.int 2))) aN)))))) (sRet (cC (.bl false))) sNext [some (bothD a b m), none, none, none] [] = .nx [some (bothD a b m), none, none, none] [] := by
    simp [hb2, e1]
  refine ⟨T2, fn_of_rt ?_⟩
  show den_is_both F_come_to F_is_count F_is_rows [some (bothD a b m), none, none, none] [] = _
  unfold den_is_both
  rw [ev_seq stA]
  refine ev_seq_rt ?_
  rw [x_sIf, x_kNot, x_kB, x_call, ev_aC r2 ev_aN]
  simp only [List.length_nil]
  rw [x_bind, a2]
  rfl
end K33

set_option Elab.async false
set_option linter.all false
set_option maxRecDepth 100000
set_option maxHeartbeats 8000000
namespace K33
open Dl
section
variable {n k : Nat} {S S1 : Store} {m0 m R o Q : Ms} {x2 x3 x4 x6 x7 x8 x9 x10 x11 x12 x13 x14 x15 : Option D}
theorem law_last (hB : Bag n k S) (h : Mach R) : ∃ x14' S', Bag n k S' ∧
    sSeq (sSet 14 (cLst (aC (cC .non) (aC (cTup aN) (aC (cLst (aC (cV 5) aN)) (aC (cOp2 gAdd (cV 5) (cTup (aC (cTup (aC (cC .non) (aC (cC .non) aN))) aN))) (aC (cOp2 gAdd (cV 5) (cTup (aC (cTup (aC (cC .non) (aC (cC .non) (aC (cTup (aC (cTup (aC (cC (.int 2)) aN)) (aC (cC (.int 0)) aN))) aN)))) aN))) (aC (cOp2 gAdd (cV 5) (cTup (aC (cTup (aC (cC .non) (aC (cC .non) (aC (cTup (aC (cTup (aC (cC (.int 0)) aN)) (aC (cOp2 gAdd (cCall gLen (aC (cV 5) aN)) (cC (.int 1))) aN))) aN)))) aN))) (aC (cTup (aC (cC (.int 0)) (aC (cC (.int 0)) aN))) aN))))))))) (sSeq (sIf (kOr (kB (cOp2 gNe (cLc (iSeq (cV 14)) (gN 7) (kB (cOp2 gNot (cFn 1 F_is_rows (aC (cV 7) aN)) (cC (.bl false)))) (cV 7) [7]) (cLst aN))) (kB (cOp2 gNot (cFn 1 F_is_both (aC (cTup (aC (cC (.int 0)) (aC (cCall gLen (aC (cV 5) aN)) (aC (cV 5) aN)))) aN)) (cC (.bl false))))) (sRet (cC (.bl false))) sNext) (sTry catch0 (sSeq (sDrop (cFn 1 F_least_of (aC (cTup aN) aN))) (sRet (cC (.bl false)))) sNext)) [some (.ref 0), some (.ref n), x2, x3, x4, some (mD R), x6, x7, x8, x9, x10, x11, x12, x13, x14, x15] S
      = .nx [some (.ref 0), some (.ref n), x2, x3, x4, some (mD R), x6, x7, x8, x9, x10, x11, x12, x13, x14', x15] S' := by
  obtain ⟨y14, T, B, hu⟩ := law_bad (x2 := x2) (x3 := x3) (x4 := x4) (x6 := x6) (x7 := x7) (x8 := x8) (x9 := x9) (x10 := x10) (x11 := x11) (x12 := x12) (x13 := x13) (x14 := x14) (x15 := x15) hB h
  obtain ⟨_, e14, eT⟩ := hu sNext
  subst e14
  obtain ⟨G, g⟩ := law_end (n := n) (S := S) (x2 := x2) (x3 := x3) (x4 := x4) (x6 := x6) (x7 := x7) (x8 := x8) (x9 := x9) (x10 := x10) (x11 := x11) (x12 := x12) (x13 := x13) (x15 := x15) h eT
  obtain ⟨T2, hT2⟩ : ∃ T2, T2 = T ++ .lst [] :: G := ⟨_, rfl⟩
  rw [← hT2] at g
  have p2 : Pre T T2 := ⟨_, hT2⟩
  have a1 : (T2 ++ [DO.lst []])[T.length]? = some (.lst []) := Pre.get (Pre.push _ _) (by rw [hT2]; exact at_new)
  have a2 : (T2 ++ [DO.lst []])[T2.length]? = some (.lst []) := by simp
  have ne := ne_lst a1 a2 rfl
  have ib := is_both_no (a := 0) (b := R.length) h h.pos (by omega)
  have ibr : ∀ S', runF F_is_both S' [.tup [.int 0, .int R.length, mD R]] = .ok (.bl false) S' := fun S' => ib.run S'
  refine ⟨some (.ref (S.length + 1)), T2 ++ [.lst []], (B.pre p2).pre (Pre.push _ _), ?_⟩
  rw [(hu _).1]
  have st : sIf (kOr (kB (cOp2 gNe (cLc (iSeq (cV 14)) (gN 7) (kB (cOp2 gNot (cFn 1 F_is_rows (aC (cV 7) aN)) (cC (.bl false)))) (cV 7) [7]) (cLst aN))) (kB (cOp2 gNot (cFn 1 F_is_both (aC (cTup (aC (cC (.int 0)) (aC (cCall gLen (aC (cV 5) aN)) (aC (cV 5) aN)))) aN)) (cC (.bl false))))) (sRet (cC (.bl false))) sNext [some (.ref 0), some (.ref n), x2, x3, x4, some (mD R), x6, x7, x8, x9, x10, x11, x12, x13, some (.ref (S.length + 1)), x15] T = .nx [some (.ref 0), some (.ref n), x2, x3, x4, some (mD R), x6, x7, x8, x9, x10, x11, x12, x13, some (.ref (S.length + 1)), x15] (T2 ++ [.lst []]) := by
    simp [g, ne, len_mD, ibr]
  rw [ev_seq st]
  unfold sTry
  simp [least_of_exc, catch0, noXS]
end
end K33

set_option Elab.async false
set_option linter.all false
set_option maxRecDepth 100000
set_option maxHeartbeats 8000000
namespace K33
open Dl
def turnS : DS := (sSeq (sSet 3 (cFn 2 F__law_machine (aC (cV 1) (aC (cOp2 gAdd (cC (.int 1)) (cFn 2 F__law_take (aC (cV 1) (aC (cC (.int 5)) aN)))) aN)))) (sSeq (sSet 4 (cV 3)) (sSeq (sSet 3 (cIfE (kB (cOp2 gEq (cFn 2 F__law_take (aC (cV 1) (aC (cC (.int 2)) aN))) (cC (.int 0)))) (cFn 2 F__law_unsure (aC (cV 1) (aC (cV 3) aN))) (cV 3))) (sSeq (sPar 5 6 (aC (cFn 1 F_least_of (aC (cV 3) aN)) (aC (cFn 2 F__law_otherwise (aC (cV 1) (aC (cV 3) aN))) aN))) (sSeq (sIf (kNot (kB (cFn 2 F__law_alike (aC (cLst (aC (cFn 1 F_is_rows (aC (cV 3) aN)) (aC (cFn 1 F_is_rows (aC (cV 5) aN)) (aC (cFn 1 F_is_sure (aC (cV 4) aN)) (aC (cFn 1 F_least_of (aC (cV 6) aN)) (aC (cFn 1 F_least_of (aC (cV 5) aN)) (aC (cFn 2 F_first_parting (aC (cV 5) (aC (cV 3) aN))) aN))))))) (aC (cLst (aC (cC (.bl true)) (aC (cC (.bl true)) (aC (cC (.bl true)) (aC (cV 5) (aC (cV 5) (aC (cC .non) aN))))))) aN))))) (sRet (cC (.bl false))) sNext) (sSeq (sIf (kB (cOp2 gNe (cFn 2 F_come_to (aC (cV 5) (aC (cTup (aC (cC (.int 0)) aN)) aN))) (cLrg (cCall gLen (aC (cV 5) aN))))) (sRet (cC (.bl false))) sNext) (sSeq (sFor (iRg1 (aC (cCall gLen (aC (cV 5) aN)) aN)) (gN 7) (sFor (iRg1 (aC (cV 7) aN)) (gN 8) (sIf (kOr (kNot (kB (cFn 3 F__law_parted (aC (cV 5) (aC (cV 7) (aC (cV 8) aN)))))) (kB (cOp2 gNot (cFn 3 F_are_standings_alike (aC (cV 5) (aC (cV 7) (aC (cV 8) aN)))) (cC (.bl false))))) (sRet (cC (.bl false))) sNext))) (sSeq (sFor (iRg1 (aC (cC (.int 4)) aN)) (gN 9) (sSeq (sPar 7 8 (aC (cFn 2 F__law_take (aC (cV 1) (aC (cCall gLen (aC (cV 3) aN)) aN))) (aC (cFn 2 F__law_take (aC (cV 1) (aC (cCall gLen (aC (cV 3) aN)) aN))) aN))) (sIf (kNot (kB (cFn 2 F__law_alike (aC (cFn 3 F_are_standings_alike (aC (cV 3) (aC (cV 7) (aC (cV 8) aN)))) (aC (cNot (cFn 3 F__law_parted (aC (cV 3) (aC (cV 7) (aC (cV 8) aN))))) aN))))) (sRet (cC (.bl false))) sNext))) (sSeq (sSet 10 (cTup (aC (cFn 2 F__law_take (aC (cV 1) (aC (cCall gLen (aC (cV 4) aN)) aN))) (aC (cFn 2 F__law_take (aC (cV 1) (aC (cCall gLen (aC (cV 4) aN)) aN))) aN)))) (sSeq (sSet 11 (cFn 1 F_least_both (aC (cOp2 gAdd (cV 10) (cTup (aC (cV 4) aN))) aN))) (sSeq (sIf (kOr (kB (cOp2 gNot (cFn 1 F_is_both (aC (cV 11) aN)) (cC (.bl true)))) (kOr (kB (cOp2 gNe (cOp2 gIx (cV 11) (cC (.int 0))) (cC (.int 0)))) (kOr (kB (cOp2 gGt (cOp2 gIx (cV 11) (cC (.int 1))) (cOp2 gSub (cCall gLen (aC (cOp2 gIx (cV 11) (cC (.int 2))) aN)) (cC (.int 1))))) (kB (cOp2 gNe (cFn 1 F_least_both (aC (cV 11) aN)) (cV 11)))))) (sRet (cC (.bl false))) sNext) (sSeq (sFor (iZip (aC (cSl (cV 11) oNone (oSome (cC (.int 2)))) (aC (cV 10) aN))) (gT 2 (gsC (gN 12) (gsC (gN 13) gsN))) (sIf (kB (cFn 3 F__law_parted (aC (cOp2 gAdd (cOp2 gIx (cV 11) (cC (.int 2))) (cCall gTuple (aC (cLc (iSeq (cV 4)) (gN 15) kYes (cCall gTuple (aC (cLc (iSeq (cV 15)) (gN 7) kYes (cIfE (kB (cOp2 gIs (cV 7) (cC .non))) (cC .non) (cTup (aC (cOp2 gIx (cV 7) (cC (.int 0))) (aC (cOp2 gAdd (cOp2 gIx (cV 7) (cC (.int 1))) (cCall gLen (aC (cOp2 gIx (cV 11) (cC (.int 2))) aN))) aN)))) [7]) aN)) [15]) aN))) (aC (cV 12) (aC (cOp2 gAdd (cV 13) (cCall gLen (aC (cOp2 gIx (cV 11) (cC (.int 2))) aN))) aN))))) (sRet (cC (.bl false))) sNext)) (sSeq (sSet 14 (cLst (aC (cC .non) (aC (cTup aN) (aC (cLst (aC (cV 5) aN)) (aC (cOp2 gAdd (cV 5) (cTup (aC (cTup (aC (cC .non) (aC (cC .non) aN))) aN))) (aC (cOp2 gAdd (cV 5) (cTup (aC (cTup (aC (cC .non) (aC (cC .non) (aC (cTup (aC (cTup (aC (cC (.int 2)) aN)) (aC (cC (.int 0)) aN))) aN)))) aN))) (aC (cOp2 gAdd (cV 5) (cTup (aC (cTup (aC (cC .non) (aC (cC .non) (aC (cTup (aC (cTup (aC (cC (.int 0)) aN)) (aC (cOp2 gAdd (cCall gLen (aC (cV 5) aN)) (cC (.int 1))) aN))) aN)))) aN))) (aC (cTup (aC (cC (.int 0)) (aC (cC (.int 0)) aN))) aN))))))))) (sSeq (sIf (kOr (kB (cOp2 gNe (cLc (iSeq (cV 14)) (gN 7) (kB (cOp2 gNot (cFn 1 F_is_rows (aC (cV 7) aN)) (cC (.bl false)))) (cV 7) [7]) (cLst aN))) (kB (cOp2 gNot (cFn 1 F_is_both (aC (cTup (aC (cC (.int 0)) (aC (cCall gLen (aC (cV 5) aN)) (aC (cV 5) aN)))) aN)) (cC (.bl false))))) (sRet (cC (.bl false))) sNext) (sTry catch0 (sSeq (sDrop (cFn 1 F_least_of (aC (cTup aN) aN))) (sRet (cC (.bl false)))) sNext)))))))))))))))
theorem turn_run {n k : Nat} {S : Store} {x2 x3 x4 x5 x6 x7 x8 x9 x10 x11 x12 x13 x14 x15 : Option D} (hB : Bag n k S) : ∃ (y3 y4 y5 y6 y7 y8 y9 y10 y11 y12 y13 y14 : Option D) (S' : Store), Bag n k S' ∧ turnS [some (.ref 0), some (.ref n), x2, x3, x4, x5, x6, x7, x8, x9, x10, x11, x12, x13, x14, x15] S = .nx [some (.ref 0), some (.ref n), x2, y3, y4, y5, y6, y7, y8, y9, y10, y11, y12, y13, y14, x15] S' := by
  obtain ⟨m0, m, S1, B1, h0, hs, h, hl, h5, u1⟩ := law_drawn (x2 := x2) (x3 := x3) (x4 := x4) (x5 := x5) (x6 := x6) (x7 := x7) (x8 := x8) (x9 := x9) (x10 := x10) (x11 := x11) (x12 := x12) (x13 := x13) (x14 := x14) (x15 := x15) hB
  obtain ⟨R, o, S2, B2, f, u2⟩ := law_first (x2 := x2) (x5 := x5) (x6 := x6) (x7 := x7) (x8 := x8) (x9 := x9) (x10 := x10) (x11 := x11) (x12 := x12) (x13 := x13) (x14 := x14) (x15 := x15) B1 h0 hs h h5
  obtain ⟨S3, B3, u3⟩ := law_come (o := o) (m0 := m0) (x2 := x2) (x7 := x7) (x8 := x8) (x9 := x9) (x10 := x10) (x11 := x11) (x12 := x12) (x13 := x13) (x14 := x14) (x15 := x15) B2 f
  obtain ⟨z7, z8, u4⟩ := law_pairs (n := n) (S := S3) (o := o) (m0 := m0) (x2 := x2) (x7 := x7) (x8 := x8) (x9 := x9) (x10 := x10) (x11 := x11) (x12 := x12) (x13 := x13) (x14 := x14) (x15 := x15) f
  obtain ⟨w7, w8, w9, S5, B5, u5⟩ := law_laps (R := R) (o := o) (m0 := m0) (x2 := x2) (x7 := z7) (x8 := z8) (x9 := x9) (x10 := x10) (x11 := x11) (x12 := x12) (x13 := x13) (x14 := x14) (x15 := x15) B3 h
  obtain ⟨a, b, y, Q, S6, B6, ha, hb, hQ, ql, hy, sa, sb, u6⟩ := law_both (x2 := x2) (x3 := some (mD m)) (x5 := some (mD R)) (x6 := some (mD o)) (x7 := w7) (x8 := w8) (x9 := w9) (x10 := x10) (x11 := x11) (x12 := x12) (x13 := x13) (x14 := x14) (x15 := x15) B5 h0 hs
  obtain ⟨z12, z13, S7, B7, u7⟩ := law_union (x2 := x2) (x3 := some (mD m)) (x5 := some (mD R)) (x6 := some (mD o)) (x7 := w7) (x8 := w8) (x9 := w9) (x12 := x12) (x13 := x13) (x14 := x14) (x15 := x15) B6 h0 hQ ql (by omega) ha hb hy sa sb
  obtain ⟨z14, S8, B8, u8⟩ := law_last (x2 := x2) (x3 := some (mD m)) (x4 := some (mD m0)) (x6 := some (mD o)) (x7 := w7) (x8 := w8) (x9 := w9) (x10 := some (.tup [.int a, .int b])) (x11 := some (bothD 0 y Q)) (x12 := z12) (x13 := z13) (x14 := x14) (x15 := x15) B7 f.mach
  refine ⟨some (mD m), some (mD m0), some (mD R), some (mD o), w7, w8, w9, some (.tup [.int a, .int b]), some (bothD 0 y Q), z12, z13, z14, S8, B8, ?_⟩
  unfold turnS
  rw [u1, u2, ev_seq u3, ev_seq u4, ev_seq u5, u6, ev_seq u7]
  exact u8
theorem law_true : ∀ ns : List Int, ns.length ≤ 63 → ∃ S, F_law [.ref 0] [.ro (ns.map D.int)] = .ok (.bl true) S := by
  intro ns hl
  obtain ⟨n, k, S1, r1, B1⟩ := bag_run ns hl
  obtain ⟨e1, S2, st, _, _, _, _, _, _, _, _, _, _, _, _, _, he, hB⟩ := ev_forN (fi := iRg1 (aC (cC (.int 6)) aN)) (gt := gN 2) (u := turnS) (e := [some (.ref 0), some (.ref n), none, none, none, none, none, none, none, none, none, none, none, none, none, none]) (S := S1) (S1 := S1) (src := .fix (nsD (List.range 6))) 6
    (fun i e S' => ∃ x2 x3 x4 x5 x6 x7 x8 x9 x10 x11 x12 x13 x14 : Option D, e = [some (.ref 0), some (.ref n), x2, x3, x4, x5, x6, x7, x8, x9, x10, x11, x12, x13, x14, none] ∧ Bag n k S')
    rfl (by omega) ⟨none, none, none, none, none, none, none, none, none, none, none, none, none, rfl, B1⟩ (fun e S' _ => rfl) (fun i e S' hi ⟨x2, x3, x4, x5, x6, x7, x8, x9, x10, x11, x12, x13, x14, he, B⟩ => by
      subst he
      obtain ⟨y3, y4, y5, y6, y7, y8, y9, y10, y11, y12, y13, y14, S3, B3, u⟩ := turn_run (x2 := some (.int i)) (x3 := x3) (x4 := x4) (x5 := x5) (x6 := x6) (x7 := x7) (x8 := x8) (x9 := x9) (x10 := x10) (x11 := x11) (x12 := x12) (x13 := x13) (x14 := x14) (x15 := none) B
      exact ⟨.int i, _, _, _, _, by show (nsD (List.range 6))[i]? = _; exact nsD_get (List.getElem?_range hi), rfl, u, _, _, _, _, _, _, _, _, _, _, _, _, _, rfl, B3⟩)
  refine ⟨S2, fn_of_rt ?_⟩
  refine (ev_seq (e1 := [some (.ref 0), some (.ref n), none, none, none, none, none, none, none, none, none, none, none, none, none, none]) (S1 := S1) (by simp [r1])).trans ?_
  exact (ev_seq st).trans rfl
end K33

set_option Elab.async false
set_option linter.all false
set_option maxRecDepth 100000
set_option maxHeartbeats 40000000
namespace K33
open PySem PySem.Spec L2 Dl
theorem pick_eq {α : Type} [Inhabited α] {x : Str} {v : α} {r : List (Str × α)} : (((x, v) :: r).lookup x).getD default = v := by simp [List.lookup]
theorem all_mk {l : PySem.W.OpenLaw} {w : World} {K : PySem.W.Frag} {h : Heap} {mg : Str → Option Value} {fa : Addr} (X : K.In h) (G : h.Ns mainGlobals mg) (hfa : mg "law" = some (.ref fa))
    {f0 : Addr} {od0 an0 : Option Addr} {sl0 : Array (Option Value)} {oc0 kV0 dc0 pm0 cd0 ct0 : Value}
    (a0 : PySem.W.nsIn K mainGlobals "is_integer" = some (some (.ref f0))) (l0 : K.lookup f0 = some ⟨oc0, od0, .func (PySem.W.fnOf "is_integer" "is_integer" (defArgs s_is_integer) (defBody s_is_integer) (defScope s_is_integer) .none kV0 dc0 pm0 an0 cd0 ct0), sl0⟩)
    (c0 : PySem.W.codeIn K cd0 "is_integer" = true) (k0 : PySem.W.keepIn K (.ref f0) = true)
    {f1 : Addr} {od1 an1 : Option Addr} {sl1 : Array (Option Value)} {oc1 kV1 dc1 pm1 cd1 ct1 : Value}
    (a1 : PySem.W.nsIn K mainGlobals "is_count" = some (some (.ref f1))) (l1 : K.lookup f1 = some ⟨oc1, od1, .func (PySem.W.fnOf "is_count" "is_count" (defArgs s_is_count) (defBody s_is_count) (defScope s_is_count) .none kV1 dc1 pm1 an1 cd1 ct1), sl1⟩)
    (c1 : PySem.W.codeIn K cd1 "is_count" = true) (k1 : PySem.W.keepIn K (.ref f1) = true)
    {f2 : Addr} {od2 an2 : Option Addr} {sl2 : Array (Option Value)} {oc2 kV2 dc2 pm2 cd2 ct2 : Value}
    (a2 : PySem.W.nsIn K mainGlobals "is_bit" = some (some (.ref f2))) (l2 : K.lookup f2 = some ⟨oc2, od2, .func (PySem.W.fnOf "is_bit" "is_bit" (defArgs s_is_bit) (defBody s_is_bit) (defScope s_is_bit) .none kV2 dc2 pm2 an2 cd2 ct2), sl2⟩)
    (c2 : PySem.W.codeIn K cd2 "is_bit" = true) (k2 : PySem.W.keepIn K (.ref f2) = true)
    {f3 : Addr} {od3 an3 : Option Addr} {sl3 : Array (Option Value)} {oc3 kV3 dc3 pm3 cd3 ct3 : Value}
    (a3 : PySem.W.nsIn K mainGlobals "is_told" = some (some (.ref f3))) (l3 : K.lookup f3 = some ⟨oc3, od3, .func (PySem.W.fnOf "is_told" "is_told" (defArgs s_is_told) (defBody s_is_told) (defScope s_is_told) .none kV3 dc3 pm3 an3 cd3 ct3), sl3⟩)
    (c3 : PySem.W.codeIn K cd3 "is_told" = true) (k3 : PySem.W.keepIn K (.ref f3) = true)
    {f4 : Addr} {od4 an4 : Option Addr} {sl4 : Array (Option Value)} {oc4 kV4 dc4 pm4 cd4 ct4 : Value}
    (a4 : PySem.W.nsIn K mainGlobals "is_row" = some (some (.ref f4))) (l4 : K.lookup f4 = some ⟨oc4, od4, .func (PySem.W.fnOf "is_row" "is_row" (defArgs s_is_row) (defBody s_is_row) (defScope s_is_row) .none kV4 dc4 pm4 an4 cd4 ct4), sl4⟩)
    (c4 : PySem.W.codeIn K cd4 "is_row" = true) (k4 : PySem.W.keepIn K (.ref f4) = true)
    {f5 : Addr} {od5 an5 : Option Addr} {sl5 : Array (Option Value)} {oc5 kV5 dc5 pm5 cd5 ct5 : Value}
    (a5 : PySem.W.nsIn K mainGlobals "is_rows" = some (some (.ref f5))) (l5 : K.lookup f5 = some ⟨oc5, od5, .func (PySem.W.fnOf "is_rows" "is_rows" (defArgs s_is_rows) (defBody s_is_rows) (defScope s_is_rows) .none kV5 dc5 pm5 an5 cd5 ct5), sl5⟩)
    (c5 : PySem.W.codeIn K cd5 "is_rows" = true) (k5 : PySem.W.keepIn K (.ref f5) = true)
    {f6 : Addr} {od6 an6 : Option Addr} {sl6 : Array (Option Value)} {oc6 kV6 dc6 pm6 cd6 ct6 : Value}
    (a6 : PySem.W.nsIn K mainGlobals "is_sure" = some (some (.ref f6))) (l6 : K.lookup f6 = some ⟨oc6, od6, .func (PySem.W.fnOf "is_sure" "is_sure" (defArgs s_is_sure) (defBody s_is_sure) (defScope s_is_sure) .none kV6 dc6 pm6 an6 cd6 ct6), sl6⟩)
    (c6 : PySem.W.codeIn K cd6 "is_sure" = true) (k6 : PySem.W.keepIn K (.ref f6) = true)
    {f7 : Addr} {od7 an7 : Option Addr} {sl7 : Array (Option Value)} {oc7 kV7 dc7 pm7 cd7 ct7 : Value}
    (a7 : PySem.W.nsIn K mainGlobals "come_to" = some (some (.ref f7))) (l7 : K.lookup f7 = some ⟨oc7, od7, .func (PySem.W.fnOf "come_to" "come_to" (defArgs s_come_to) (defBody s_come_to) (defScope s_come_to) .none kV7 dc7 pm7 an7 cd7 ct7), sl7⟩)
    (c7 : PySem.W.codeIn K cd7 "come_to" = true) (k7 : PySem.W.keepIn K (.ref f7) = true)
    {f8 : Addr} {od8 an8 : Option Addr} {sl8 : Array (Option Value)} {oc8 kV8 dc8 pm8 cd8 ct8 : Value}
    (a8 : PySem.W.nsIn K mainGlobals "is_both" = some (some (.ref f8))) (l8 : K.lookup f8 = some ⟨oc8, od8, .func (PySem.W.fnOf "is_both" "is_both" (defArgs s_is_both) (defBody s_is_both) (defScope s_is_both) .none kV8 dc8 pm8 an8 cd8 ct8), sl8⟩)
    (c8 : PySem.W.codeIn K cd8 "is_both" = true) (k8 : PySem.W.keepIn K (.ref f8) = true)
    {f9 : Addr} {od9 an9 : Option Addr} {sl9 : Array (Option Value)} {oc9 kV9 dc9 pm9 cd9 ct9 : Value}
    (a9 : PySem.W.nsIn K mainGlobals "looks_of" = some (some (.ref f9))) (l9 : K.lookup f9 = some ⟨oc9, od9, .func (PySem.W.fnOf "looks_of" "looks_of" (defArgs s_looks_of) (defBody s_looks_of) (defScope s_looks_of) .none kV9 dc9 pm9 an9 cd9 ct9), sl9⟩)
    (c9 : PySem.W.codeIn K cd9 "looks_of" = true) (k9 : PySem.W.keepIn K (.ref f9) = true)
    {f10 : Addr} {od10 an10 : Option Addr} {sl10 : Array (Option Value)} {oc10 kV10 dc10 pm10 cd10 ct10 : Value}
    (a10 : PySem.W.nsIn K mainGlobals "lots_of" = some (some (.ref f10))) (l10 : K.lookup f10 = some ⟨oc10, od10, .func (PySem.W.fnOf "lots_of" "lots_of" (defArgs s_lots_of) (defBody s_lots_of) (defScope s_lots_of) .none kV10 dc10 pm10 an10 cd10 ct10), sl10⟩)
    (c10 : PySem.W.codeIn K cd10 "lots_of" = true) (k10 : PySem.W.keepIn K (.ref f10) = true)
    {f11 : Addr} {od11 an11 : Option Addr} {sl11 : Array (Option Value)} {oc11 kV11 dc11 pm11 cd11 ct11 : Value}
    (a11 : PySem.W.nsIn K mainGlobals "laid_together" = some (some (.ref f11))) (l11 : K.lookup f11 = some ⟨oc11, od11, .func (PySem.W.fnOf "laid_together" "laid_together" (defArgs s_laid_together) (defBody s_laid_together) (defScope s_laid_together) .none kV11 dc11 pm11 an11 cd11 ct11), sl11⟩)
    (c11 : PySem.W.codeIn K cd11 "laid_together" = true) (k11 : PySem.W.keepIn K (.ref f11) = true)
    {f12 : Addr} {od12 an12 : Option Addr} {sl12 : Array (Option Value)} {oc12 kV12 dc12 pm12 cd12 ct12 : Value}
    (a12 : PySem.W.nsIn K mainGlobals "least_of" = some (some (.ref f12))) (l12 : K.lookup f12 = some ⟨oc12, od12, .func (PySem.W.fnOf "least_of" "least_of" (defArgs s_least_of) (defBody s_least_of) (defScope s_least_of) .none kV12 dc12 pm12 an12 cd12 ct12), sl12⟩)
    (c12 : PySem.W.codeIn K cd12 "least_of" = true) (k12 : PySem.W.keepIn K (.ref f12) = true)
    {f13 : Addr} {od13 an13 : Option Addr} {sl13 : Array (Option Value)} {oc13 kV13 dc13 pm13 cd13 ct13 : Value}
    (a13 : PySem.W.nsIn K mainGlobals "least_both" = some (some (.ref f13))) (l13 : K.lookup f13 = some ⟨oc13, od13, .func (PySem.W.fnOf "least_both" "least_both" (defArgs s_least_both) (defBody s_least_both) (defScope s_least_both) .none kV13 dc13 pm13 an13 cd13 ct13), sl13⟩)
    (c13 : PySem.W.codeIn K cd13 "least_both" = true) (k13 : PySem.W.keepIn K (.ref f13) = true)
    {f14 : Addr} {od14 an14 : Option Addr} {sl14 : Array (Option Value)} {oc14 kV14 dc14 pm14 cd14 ct14 : Value}
    (a14 : PySem.W.nsIn K mainGlobals "are_standings_alike" = some (some (.ref f14))) (l14 : K.lookup f14 = some ⟨oc14, od14, .func (PySem.W.fnOf "are_standings_alike" "are_standings_alike" (defArgs s_are_standings_alike) (defBody s_are_standings_alike) (defScope s_are_standings_alike) .none kV14 dc14 pm14 an14 cd14 ct14), sl14⟩)
    (c14 : PySem.W.codeIn K cd14 "are_standings_alike" = true) (k14 : PySem.W.keepIn K (.ref f14) = true)
    {f15 : Addr} {od15 an15 : Option Addr} {sl15 : Array (Option Value)} {oc15 kV15 dc15 pm15 cd15 ct15 : Value}
    (a15 : PySem.W.nsIn K mainGlobals "unlike_at" = some (some (.ref f15))) (l15 : K.lookup f15 = some ⟨oc15, od15, .func (PySem.W.fnOf "unlike_at" "unlike_at" (defArgs s_unlike_at) (defBody s_unlike_at) (defScope s_unlike_at) .none kV15 dc15 pm15 an15 cd15 ct15), sl15⟩)
    (c15 : PySem.W.codeIn K cd15 "unlike_at" = true) (k15 : PySem.W.keepIn K (.ref f15) = true)
    {f16 : Addr} {od16 an16 : Option Addr} {sl16 : Array (Option Value)} {oc16 kV16 dc16 pm16 cd16 ct16 : Value}
    (a16 : PySem.W.nsIn K mainGlobals "first_parting" = some (some (.ref f16))) (l16 : K.lookup f16 = some ⟨oc16, od16, .func (PySem.W.fnOf "first_parting" "first_parting" (defArgs s_first_parting) (defBody s_first_parting) (defScope s_first_parting) .none kV16 dc16 pm16 an16 cd16 ct16), sl16⟩)
    (c16 : PySem.W.codeIn K cd16 "first_parting" = true) (k16 : PySem.W.keepIn K (.ref f16) = true)
    {f17 : Addr} {od17 an17 : Option Addr} {sl17 : Array (Option Value)} {oc17 kV17 dc17 pm17 cd17 ct17 : Value}
    (a17 : PySem.W.nsIn K mainGlobals "_law_bag" = some (some (.ref f17))) (l17 : K.lookup f17 = some ⟨oc17, od17, .func (PySem.W.fnOf "_law_bag" "_law_bag" (defArgs s__law_bag) (defBody s__law_bag) (defScope s__law_bag) .none kV17 dc17 pm17 an17 cd17 ct17), sl17⟩)
    (c17 : PySem.W.codeIn K cd17 "_law_bag" = true) (k17 : PySem.W.keepIn K (.ref f17) = true)
    {f18 : Addr} {od18 an18 : Option Addr} {sl18 : Array (Option Value)} {oc18 kV18 dc18 pm18 cd18 ct18 : Value}
    (a18 : PySem.W.nsIn K mainGlobals "_law_take" = some (some (.ref f18))) (l18 : K.lookup f18 = some ⟨oc18, od18, .func (PySem.W.fnOf "_law_take" "_law_take" (defArgs s__law_take) (defBody s__law_take) (defScope s__law_take) .none kV18 dc18 pm18 an18 cd18 ct18), sl18⟩)
    (c18 : PySem.W.codeIn K cd18 "_law_take" = true) (k18 : PySem.W.keepIn K (.ref f18) = true)
    {f19 : Addr} {od19 an19 : Option Addr} {sl19 : Array (Option Value)} {oc19 kV19 dc19 pm19 cd19 ct19 : Value}
    (a19 : PySem.W.nsIn K mainGlobals "_law_some" = some (some (.ref f19))) (l19 : K.lookup f19 = some ⟨oc19, od19, .func (PySem.W.fnOf "_law_some" "_law_some" (defArgs s__law_some) (defBody s__law_some) (defScope s__law_some) .none kV19 dc19 pm19 an19 cd19 ct19), sl19⟩)
    (c19 : PySem.W.codeIn K cd19 "_law_some" = true) (k19 : PySem.W.keepIn K (.ref f19) = true)
    {f20 : Addr} {od20 an20 : Option Addr} {sl20 : Array (Option Value)} {oc20 kV20 dc20 pm20 cd20 ct20 : Value}
    (a20 : PySem.W.nsIn K mainGlobals "_law_alike" = some (some (.ref f20))) (l20 : K.lookup f20 = some ⟨oc20, od20, .func (PySem.W.fnOf "_law_alike" "_law_alike" (defArgs s__law_alike) (defBody s__law_alike) (defScope s__law_alike) .none kV20 dc20 pm20 an20 cd20 ct20), sl20⟩)
    (c20 : PySem.W.codeIn K cd20 "_law_alike" = true) (k20 : PySem.W.keepIn K (.ref f20) = true)
    {f21 : Addr} {od21 an21 : Option Addr} {sl21 : Array (Option Value)} {oc21 kV21 dc21 pm21 cd21 ct21 : Value}
    (a21 : PySem.W.nsIn K mainGlobals "_law_machine" = some (some (.ref f21))) (l21 : K.lookup f21 = some ⟨oc21, od21, .func (PySem.W.fnOf "_law_machine" "_law_machine" (defArgs s__law_machine) (defBody s__law_machine) (defScope s__law_machine) .none kV21 dc21 pm21 an21 cd21 ct21), sl21⟩)
    (c21 : PySem.W.codeIn K cd21 "_law_machine" = true) (k21 : PySem.W.keepIn K (.ref f21) = true)
    {f22 : Addr} {od22 an22 : Option Addr} {sl22 : Array (Option Value)} {oc22 kV22 dc22 pm22 cd22 ct22 : Value}
    (a22 : PySem.W.nsIn K mainGlobals "_law_unsure" = some (some (.ref f22))) (l22 : K.lookup f22 = some ⟨oc22, od22, .func (PySem.W.fnOf "_law_unsure" "_law_unsure" (defArgs s__law_unsure) (defBody s__law_unsure) (defScope s__law_unsure) .none kV22 dc22 pm22 an22 cd22 ct22), sl22⟩)
    (c22 : PySem.W.codeIn K cd22 "_law_unsure" = true) (k22 : PySem.W.keepIn K (.ref f22) = true)
    {f23 : Addr} {od23 an23 : Option Addr} {sl23 : Array (Option Value)} {oc23 kV23 dc23 pm23 cd23 ct23 : Value}
    (a23 : PySem.W.nsIn K mainGlobals "_law_parted" = some (some (.ref f23))) (l23 : K.lookup f23 = some ⟨oc23, od23, .func (PySem.W.fnOf "_law_parted" "_law_parted" (defArgs s__law_parted) (defBody s__law_parted) (defScope s__law_parted) .none kV23 dc23 pm23 an23 cd23 ct23), sl23⟩)
    (c23 : PySem.W.codeIn K cd23 "_law_parted" = true) (k23 : PySem.W.keepIn K (.ref f23) = true)
    {f24 : Addr} {od24 an24 : Option Addr} {sl24 : Array (Option Value)} {oc24 kV24 dc24 pm24 cd24 ct24 : Value}
    (a24 : PySem.W.nsIn K mainGlobals "_law_otherwise" = some (some (.ref f24))) (l24 : K.lookup f24 = some ⟨oc24, od24, .func (PySem.W.fnOf "_law_otherwise" "_law_otherwise" (defArgs s__law_otherwise) (defBody s__law_otherwise) (defScope s__law_otherwise) .none kV24 dc24 pm24 an24 cd24 ct24), sl24⟩)
    (c24 : PySem.W.codeIn K cd24 "_law_otherwise" = true) (k24 : PySem.W.keepIn K (.ref f24) = true)
    {f25 : Addr} {od25 an25 : Option Addr} {sl25 : Array (Option Value)} {oc25 kV25 dc25 pm25 cd25 ct25 : Value}
    (a25 : PySem.W.nsIn K mainGlobals "law" = some (some (.ref f25))) (l25 : K.lookup f25 = some ⟨oc25, od25, .func (PySem.W.fnOf "law" "law" (defArgs s_law) (defBody s_law) (defScope s_law) .none kV25 dc25 pm25 an25 cd25 ct25), sl25⟩)
    (c25 : PySem.W.codeIn K cd25 "law" = true) (k25 : PySem.W.keepIn K (.ref f25) = true)
    {C0 : Addr} (ca0 : PySem.W.nsIn K mainGlobals "Nothing" = some (some (.ref C0))) (ck0 : PySem.W.keepIn K (.ref C0) = true)
    (cx0 : PySem.W.excIn K C0 [.type "ValueError", .type "Exception", .type "BaseException", .type "object"] "ValueError.__new__" = true) (cy0 : PySem.W.subIn K (.ref C0) (.type "BaseException") = some true) (cz0 : PySem.W.typeIn K (.ref C0) = some (.type "type")) (ct_0 : PySem.W.exmOne K (.ref C0) (.ref C0) = some true)
    {g0 : Addr} {gd0 : Option Addr} {gn0 : Nat} {gs0 : Array (Option Value)} {t0_0 t0_1 t0_2 : Tok} (ga0 : PySem.W.nsIn K mainGlobals "SIGNS_alike" = some (some (.ref g0))) (gl0 : K.lookup g0 = some ⟨.type "tuple", gd0, .seq #[.int 0 t0_0, .int 1 t0_1, .int 2 t0_2] gn0, gs0⟩)
    {g1 : Addr} {gd1 : Option Addr} {gn1 : Nat} {gs1 : Array (Option Value)} {t1_0 t1_1 t1_2 : Tok} (ga1 : PySem.W.nsIn K mainGlobals "SIGNS_least" = some (some (.ref g1))) (gl1 : K.lookup g1 = some ⟨.type "tuple", gd1, .seq #[.int 0 t1_0, .int 1 t1_1, .int 2 t1_2] gn1, gs1⟩)
    (z0 : PySem.W.nsIn K mainGlobals "abs" = some none)
    (z1 : PySem.W.nsIn K mainGlobals "all" = some none)
    (z2 : PySem.W.nsIn K mainGlobals "bool" = some none)
    (z3 : PySem.W.nsIn K mainGlobals "enumerate" = some none)
    (z4 : PySem.W.nsIn K mainGlobals "int" = some none)
    (z5 : PySem.W.nsIn K mainGlobals "isinstance" = some none)
    (z6 : PySem.W.nsIn K mainGlobals "len" = some none)
    (z7 : PySem.W.nsIn K mainGlobals "list" = some none)
    (z8 : PySem.W.nsIn K mainGlobals "range" = some none)
    (z9 : PySem.W.nsIn K mainGlobals "repr" = some none)
    (z10 : PySem.W.nsIn K mainGlobals "sorted" = some none)
    (z11 : PySem.W.nsIn K mainGlobals "tuple" = some none)
    (z12 : PySem.W.nsIn K mainGlobals "zip" = some none) :
    ∃ (c : Ct) (fd : FuncData), c.K = K ∧ (∀ (s : Shared) (v : Value), BindsTo s fd ⟨[v], []⟩ [("script", v)]) ∧ ∀ base : Heap, K.In base → base.Ns mainGlobals mg → FnG l.prog w K mg base 8 fa fd ["script"] (spD c 1 F_law) := by
  have e := hfa.symm.trans (PySem.W.mg_of X G a25)
  cases e
  let tA : List (Str × Addr) := [(Str.ofString "is_integer", f0), (Str.ofString "is_count", f1), (Str.ofString "is_bit", f2), (Str.ofString "is_told", f3), (Str.ofString "is_row", f4), (Str.ofString "is_rows", f5), (Str.ofString "is_sure", f6), (Str.ofString "come_to", f7), (Str.ofString "is_both", f8), (Str.ofString "looks_of", f9), (Str.ofString "lots_of", f10), (Str.ofString "laid_together", f11), (Str.ofString "least_of", f12), (Str.ofString "least_both", f13), (Str.ofString "are_standings_alike", f14), (Str.ofString "unlike_at", f15), (Str.ofString "first_parting", f16), (Str.ofString "_law_bag", f17), (Str.ofString "_law_take", f18), (Str.ofString "_law_some", f19), (Str.ofString "_law_alike", f20), (Str.ofString "_law_machine", f21), (Str.ofString "_law_unsure", f22), (Str.ofString "_law_parted", f23), (Str.ofString "_law_otherwise", f24), (Str.ofString "law", fa), (Str.ofString "Nothing", C0), (Str.ofString "SIGNS_alike", g0), (Str.ofString "SIGNS_least", g1)]
  let tD : List (Str × FuncData) := [(Str.ofString "is_integer", PySem.W.fnOf "is_integer" "is_integer" (defArgs s_is_integer) (defBody s_is_integer) (defScope s_is_integer) .none kV0 dc0 pm0 an0 cd0 ct0), (Str.ofString "is_count", PySem.W.fnOf "is_count" "is_count" (defArgs s_is_count) (defBody s_is_count) (defScope s_is_count) .none kV1 dc1 pm1 an1 cd1 ct1), (Str.ofString "is_bit", PySem.W.fnOf "is_bit" "is_bit" (defArgs s_is_bit) (defBody s_is_bit) (defScope s_is_bit) .none kV2 dc2 pm2 an2 cd2 ct2), (Str.ofString "is_told", PySem.W.fnOf "is_told" "is_told" (defArgs s_is_told) (defBody s_is_told) (defScope s_is_told) .none kV3 dc3 pm3 an3 cd3 ct3), (Str.ofString "is_row", PySem.W.fnOf "is_row" "is_row" (defArgs s_is_row) (defBody s_is_row) (defScope s_is_row) .none kV4 dc4 pm4 an4 cd4 ct4), (Str.ofString "is_rows", PySem.W.fnOf "is_rows" "is_rows" (defArgs s_is_rows) (defBody s_is_rows) (defScope s_is_rows) .none kV5 dc5 pm5 an5 cd5 ct5), (Str.ofString "is_sure", PySem.W.fnOf "is_sure" "is_sure" (defArgs s_is_sure) (defBody s_is_sure) (defScope s_is_sure) .none kV6 dc6 pm6 an6 cd6 ct6), (Str.ofString "come_to", PySem.W.fnOf "come_to" "come_to" (defArgs s_come_to) (defBody s_come_to) (defScope s_come_to) .none kV7 dc7 pm7 an7 cd7 ct7), (Str.ofString "is_both", PySem.W.fnOf "is_both" "is_both" (defArgs s_is_both) (defBody s_is_both) (defScope s_is_both) .none kV8 dc8 pm8 an8 cd8 ct8), (Str.ofString "looks_of", PySem.W.fnOf "looks_of" "looks_of" (defArgs s_looks_of) (defBody s_looks_of) (defScope s_looks_of) .none kV9 dc9 pm9 an9 cd9 ct9), (Str.ofString "lots_of", PySem.W.fnOf "lots_of" "lots_of" (defArgs s_lots_of) (defBody s_lots_of) (defScope s_lots_of) .none kV10 dc10 pm10 an10 cd10 ct10), (Str.ofString "laid_together", PySem.W.fnOf "laid_together" "laid_together" (defArgs s_laid_together) (defBody s_laid_together) (defScope s_laid_together) .none kV11 dc11 pm11 an11 cd11 ct11), (Str.ofString "least_of", PySem.W.fnOf "least_of" "least_of" (defArgs s_least_of) (defBody s_least_of) (defScope s_least_of) .none kV12 dc12 pm12 an12 cd12 ct12), (Str.ofString "least_both", PySem.W.fnOf "least_both" "least_both" (defArgs s_least_both) (defBody s_least_both) (defScope s_least_both) .none kV13 dc13 pm13 an13 cd13 ct13), (Str.ofString "are_standings_alike", PySem.W.fnOf "are_standings_alike" "are_standings_alike" (defArgs s_are_standings_alike) (defBody s_are_standings_alike) (defScope s_are_standings_alike) .none kV14 dc14 pm14 an14 cd14 ct14), (Str.ofString "unlike_at", PySem.W.fnOf "unlike_at" "unlike_at" (defArgs s_unlike_at) (defBody s_unlike_at) (defScope s_unlike_at) .none kV15 dc15 pm15 an15 cd15 ct15), (Str.ofString "first_parting", PySem.W.fnOf "first_parting" "first_parting" (defArgs s_first_parting) (defBody s_first_parting) (defScope s_first_parting) .none kV16 dc16 pm16 an16 cd16 ct16), (Str.ofString "_law_bag", PySem.W.fnOf "_law_bag" "_law_bag" (defArgs s__law_bag) (defBody s__law_bag) (defScope s__law_bag) .none kV17 dc17 pm17 an17 cd17 ct17), (Str.ofString "_law_take", PySem.W.fnOf "_law_take" "_law_take" (defArgs s__law_take) (defBody s__law_take) (defScope s__law_take) .none kV18 dc18 pm18 an18 cd18 ct18), (Str.ofString "_law_some", PySem.W.fnOf "_law_some" "_law_some" (defArgs s__law_some) (defBody s__law_some) (defScope s__law_some) .none kV19 dc19 pm19 an19 cd19 ct19), (Str.ofString "_law_alike", PySem.W.fnOf "_law_alike" "_law_alike" (defArgs s__law_alike) (defBody s__law_alike) (defScope s__law_alike) .none kV20 dc20 pm20 an20 cd20 ct20), (Str.ofString "_law_machine", PySem.W.fnOf "_law_machine" "_law_machine" (defArgs s__law_machine) (defBody s__law_machine) (defScope s__law_machine) .none kV21 dc21 pm21 an21 cd21 ct21), (Str.ofString "_law_unsure", PySem.W.fnOf "_law_unsure" "_law_unsure" (defArgs s__law_unsure) (defBody s__law_unsure) (defScope s__law_unsure) .none kV22 dc22 pm22 an22 cd22 ct22), (Str.ofString "_law_parted", PySem.W.fnOf "_law_parted" "_law_parted" (defArgs s__law_parted) (defBody s__law_parted) (defScope s__law_parted) .none kV23 dc23 pm23 an23 cd23 ct23), (Str.ofString "_law_otherwise", PySem.W.fnOf "_law_otherwise" "_law_otherwise" (defArgs s__law_otherwise) (defBody s__law_otherwise) (defScope s__law_otherwise) .none kV24 dc24 pm24 an24 cd24 ct24), (Str.ofString "law", PySem.W.fnOf "law" "law" (defArgs s_law) (defBody s_law) (defScope s_law) .none kV25 dc25 pm25 an25 cd25 ct25)]
  let A : Str → Addr := fun x => (tA.lookup x).getD 0
  let D : Str → FuncData := fun x => (tD.lookup x).getD (PySem.W.fnOf "is_integer" "is_integer" (defArgs s_is_integer) (defBody s_is_integer) (defScope s_is_integer) .none kV0 dc0 pm0 an0 cd0 ct0)
  have eA0 : A "is_integer" = f0 := by rfl
  have eD0 : D "is_integer" = PySem.W.fnOf "is_integer" "is_integer" (defArgs s_is_integer) (defBody s_is_integer) (defScope s_is_integer) .none kV0 dc0 pm0 an0 cd0 ct0 := by rfl
  have eA1 : A "is_count" = f1 := by rfl
  have eD1 : D "is_count" = PySem.W.fnOf "is_count" "is_count" (defArgs s_is_count) (defBody s_is_count) (defScope s_is_count) .none kV1 dc1 pm1 an1 cd1 ct1 := by rfl
  have eA2 : A "is_bit" = f2 := by rfl
  have eD2 : D "is_bit" = PySem.W.fnOf "is_bit" "is_bit" (defArgs s_is_bit) (defBody s_is_bit) (defScope s_is_bit) .none kV2 dc2 pm2 an2 cd2 ct2 := by rfl
  have eA3 : A "is_told" = f3 := by rfl
  have eD3 : D "is_told" = PySem.W.fnOf "is_told" "is_told" (defArgs s_is_told) (defBody s_is_told) (defScope s_is_told) .none kV3 dc3 pm3 an3 cd3 ct3 := by rfl
  have eA4 : A "is_row" = f4 := by rfl
  have eD4 : D "is_row" = PySem.W.fnOf "is_row" "is_row" (defArgs s_is_row) (defBody s_is_row) (defScope s_is_row) .none kV4 dc4 pm4 an4 cd4 ct4 := by rfl
  have eA5 : A "is_rows" = f5 := by rfl
  have eD5 : D "is_rows" = PySem.W.fnOf "is_rows" "is_rows" (defArgs s_is_rows) (defBody s_is_rows) (defScope s_is_rows) .none kV5 dc5 pm5 an5 cd5 ct5 := by rfl
  have eA6 : A "is_sure" = f6 := by rfl
  have eD6 : D "is_sure" = PySem.W.fnOf "is_sure" "is_sure" (defArgs s_is_sure) (defBody s_is_sure) (defScope s_is_sure) .none kV6 dc6 pm6 an6 cd6 ct6 := by rfl
  have eA7 : A "come_to" = f7 := by rfl
  have eD7 : D "come_to" = PySem.W.fnOf "come_to" "come_to" (defArgs s_come_to) (defBody s_come_to) (defScope s_come_to) .none kV7 dc7 pm7 an7 cd7 ct7 := by rfl
  have eA8 : A "is_both" = f8 := by rfl
  have eD8 : D "is_both" = PySem.W.fnOf "is_both" "is_both" (defArgs s_is_both) (defBody s_is_both) (defScope s_is_both) .none kV8 dc8 pm8 an8 cd8 ct8 := by rfl
  have eA9 : A "looks_of" = f9 := by rfl
  have eD9 : D "looks_of" = PySem.W.fnOf "looks_of" "looks_of" (defArgs s_looks_of) (defBody s_looks_of) (defScope s_looks_of) .none kV9 dc9 pm9 an9 cd9 ct9 := by rfl
  have eA10 : A "lots_of" = f10 := by rfl
  have eD10 : D "lots_of" = PySem.W.fnOf "lots_of" "lots_of" (defArgs s_lots_of) (defBody s_lots_of) (defScope s_lots_of) .none kV10 dc10 pm10 an10 cd10 ct10 := by rfl
  have eA11 : A "laid_together" = f11 := by rfl
  have eD11 : D "laid_together" = PySem.W.fnOf "laid_together" "laid_together" (defArgs s_laid_together) (defBody s_laid_together) (defScope s_laid_together) .none kV11 dc11 pm11 an11 cd11 ct11 := by rfl
  have eA12 : A "least_of" = f12 := by rfl
  have eD12 : D "least_of" = PySem.W.fnOf "least_of" "least_of" (defArgs s_least_of) (defBody s_least_of) (defScope s_least_of) .none kV12 dc12 pm12 an12 cd12 ct12 := by rfl
  have eA13 : A "least_both" = f13 := by rfl
  have eD13 : D "least_both" = PySem.W.fnOf "least_both" "least_both" (defArgs s_least_both) (defBody s_least_both) (defScope s_least_both) .none kV13 dc13 pm13 an13 cd13 ct13 := by rfl
  have eA14 : A "are_standings_alike" = f14 := by rfl
  have eD14 : D "are_standings_alike" = PySem.W.fnOf "are_standings_alike" "are_standings_alike" (defArgs s_are_standings_alike) (defBody s_are_standings_alike) (defScope s_are_standings_alike) .none kV14 dc14 pm14 an14 cd14 ct14 := by rfl
  have eA15 : A "unlike_at" = f15 := by rfl
  have eD15 : D "unlike_at" = PySem.W.fnOf "unlike_at" "unlike_at" (defArgs s_unlike_at) (defBody s_unlike_at) (defScope s_unlike_at) .none kV15 dc15 pm15 an15 cd15 ct15 := by rfl
  have eA16 : A "first_parting" = f16 := by rfl
  have eD16 : D "first_parting" = PySem.W.fnOf "first_parting" "first_parting" (defArgs s_first_parting) (defBody s_first_parting) (defScope s_first_parting) .none kV16 dc16 pm16 an16 cd16 ct16 := by rfl
  have eA17 : A "_law_bag" = f17 := by rfl
  have eD17 : D "_law_bag" = PySem.W.fnOf "_law_bag" "_law_bag" (defArgs s__law_bag) (defBody s__law_bag) (defScope s__law_bag) .none kV17 dc17 pm17 an17 cd17 ct17 := by rfl
  have eA18 : A "_law_take" = f18 := by rfl
  have eD18 : D "_law_take" = PySem.W.fnOf "_law_take" "_law_take" (defArgs s__law_take) (defBody s__law_take) (defScope s__law_take) .none kV18 dc18 pm18 an18 cd18 ct18 := by rfl
  have eA19 : A "_law_some" = f19 := by rfl
  have eD19 : D "_law_some" = PySem.W.fnOf "_law_some" "_law_some" (defArgs s__law_some) (defBody s__law_some) (defScope s__law_some) .none kV19 dc19 pm19 an19 cd19 ct19 := by rfl
  have eA20 : A "_law_alike" = f20 := by rfl
  have eD20 : D "_law_alike" = PySem.W.fnOf "_law_alike" "_law_alike" (defArgs s__law_alike) (defBody s__law_alike) (defScope s__law_alike) .none kV20 dc20 pm20 an20 cd20 ct20 := by rfl
  have eA21 : A "_law_machine" = f21 := by rfl
  have eD21 : D "_law_machine" = PySem.W.fnOf "_law_machine" "_law_machine" (defArgs s__law_machine) (defBody s__law_machine) (defScope s__law_machine) .none kV21 dc21 pm21 an21 cd21 ct21 := by rfl
  have eA22 : A "_law_unsure" = f22 := by rfl
  have eD22 : D "_law_unsure" = PySem.W.fnOf "_law_unsure" "_law_unsure" (defArgs s__law_unsure) (defBody s__law_unsure) (defScope s__law_unsure) .none kV22 dc22 pm22 an22 cd22 ct22 := by rfl
  have eA23 : A "_law_parted" = f23 := by rfl
  have eD23 : D "_law_parted" = PySem.W.fnOf "_law_parted" "_law_parted" (defArgs s__law_parted) (defBody s__law_parted) (defScope s__law_parted) .none kV23 dc23 pm23 an23 cd23 ct23 := by rfl
  have eA24 : A "_law_otherwise" = f24 := by rfl
  have eD24 : D "_law_otherwise" = PySem.W.fnOf "_law_otherwise" "_law_otherwise" (defArgs s__law_otherwise) (defBody s__law_otherwise) (defScope s__law_otherwise) .none kV24 dc24 pm24 an24 cd24 ct24 := by rfl
  have eA25 : A "law" = fa := by rfl
  have eD25 : D "law" = PySem.W.fnOf "law" "law" (defArgs s_law) (defBody s_law) (defScope s_law) .none kV25 dc25 pm25 an25 cd25 ct25 := by rfl
  have eC0 : A "Nothing" = C0 := by rfl
  have eG0 : A "SIGNS_alike" = g0 := by rfl
  have eG1 : A "SIGNS_least" = g1 := by rfl
  clear_value A D
  let c : Ct := ⟨l.prog, w, K, fun _ => 0, fun _ => [], fun k => if k = 0 then C0 else 0⟩
  have T : Txt c mg A D := by
    constructor
    · exact PySem.W.mg_none_of X G z0
    · exact PySem.W.mg_none_of X G z1
    · exact PySem.W.mg_none_of X G z2
    · exact PySem.W.mg_none_of X G z3
    · exact PySem.W.mg_none_of X G z4
    · exact PySem.W.mg_none_of X G z5
    · exact PySem.W.mg_none_of X G z6
    · exact PySem.W.mg_none_of X G z7
    · exact PySem.W.mg_none_of X G z8
    · exact PySem.W.mg_none_of X G z9
    · exact PySem.W.mg_none_of X G z10
    · exact PySem.W.mg_none_of X G z11
    · exact PySem.W.mg_none_of X G z12
    · rw [eG0]; exact PySem.W.mg_of X G ga0
    · rw [eG0]; exact rep_written (xs := [0, 1, 2]) gl0 rfl rfl (by show 3 ≤ sizeLine; decide) (.cons ⟨_, rfl⟩ (.cons ⟨_, rfl⟩ (.cons ⟨_, rfl⟩ .nil)))
    · rw [eG1]; exact PySem.W.mg_of X G ga1
    · rw [eG1]; exact rep_written (xs := [0, 1, 2]) gl1 rfl rfl (by show 3 ≤ sizeLine; decide) (.cons ⟨_, rfl⟩ (.cons ⟨_, rfl⟩ (.cons ⟨_, rfl⟩ .nil)))
    · rw [eA0, eD0]; exact fun_mk (st := s_is_integer) l0 c0 k0
    · rw [eA0]; exact PySem.W.mg_of X G a0
    · rw [eA0]; exact k0
    · rw [eD0]; exact (fun_mk (st := s_is_integer) l0 c0 k0).binds fun _ _ _ _ _ _ us hl => match us, hl with | [_], _ => rfl
    · rw [eA1, eD1]; exact fun_mk (st := s_is_count) l1 c1 k1
    · rw [eA1]; exact PySem.W.mg_of X G a1
    · rw [eA1]; exact k1
    · rw [eD1]; exact (fun_mk (st := s_is_count) l1 c1 k1).binds fun _ _ _ _ _ _ us hl => match us, hl with | [_], _ => rfl
    · rw [eA2, eD2]; exact fun_mk (st := s_is_bit) l2 c2 k2
    · rw [eA2]; exact PySem.W.mg_of X G a2
    · rw [eA2]; exact k2
    · rw [eD2]; exact (fun_mk (st := s_is_bit) l2 c2 k2).binds fun _ _ _ _ _ _ us hl => match us, hl with | [_], _ => rfl
    · rw [eA3, eD3]; exact fun_mk (st := s_is_told) l3 c3 k3
    · rw [eA3]; exact PySem.W.mg_of X G a3
    · rw [eA3]; exact k3
    · rw [eD3]; exact (fun_mk (st := s_is_told) l3 c3 k3).binds fun _ _ _ _ _ _ us hl => match us, hl with | [_, _], _ => rfl
    · rw [eA4, eD4]; exact fun_mk (st := s_is_row) l4 c4 k4
    · rw [eA4]; exact PySem.W.mg_of X G a4
    · rw [eA4]; exact k4
    · rw [eD4]; exact (fun_mk (st := s_is_row) l4 c4 k4).binds fun _ _ _ _ _ _ us hl => match us, hl with | [_, _], _ => rfl
    · rw [eA5, eD5]; exact fun_mk (st := s_is_rows) l5 c5 k5
    · rw [eA5]; exact PySem.W.mg_of X G a5
    · rw [eA5]; exact k5
    · rw [eD5]; exact (fun_mk (st := s_is_rows) l5 c5 k5).binds fun _ _ _ _ _ _ us hl => match us, hl with | [_], _ => rfl
    · rw [eA6, eD6]; exact fun_mk (st := s_is_sure) l6 c6 k6
    · rw [eA6]; exact PySem.W.mg_of X G a6
    · rw [eA6]; exact k6
    · rw [eD6]; exact (fun_mk (st := s_is_sure) l6 c6 k6).binds fun _ _ _ _ _ _ us hl => match us, hl with | [_], _ => rfl
    · rw [eA7, eD7]; exact fun_mk (st := s_come_to) l7 c7 k7
    · rw [eA7]; exact PySem.W.mg_of X G a7
    · rw [eA7]; exact k7
    · rw [eD7]; exact (fun_mk (st := s_come_to) l7 c7 k7).binds fun _ _ _ _ _ _ us hl => match us, hl with | [_, _], _ => rfl
    · rw [eA8, eD8]; exact fun_mk (st := s_is_both) l8 c8 k8
    · rw [eA8]; exact PySem.W.mg_of X G a8
    · rw [eA8]; exact k8
    · rw [eD8]; exact (fun_mk (st := s_is_both) l8 c8 k8).binds fun _ _ _ _ _ _ us hl => match us, hl with | [_], _ => rfl
    · rw [eA9, eD9]; exact fun_mk (st := s_looks_of) l9 c9 k9
    · rw [eA9]; exact PySem.W.mg_of X G a9
    · rw [eA9]; exact k9
    · rw [eD9]; exact (fun_mk (st := s_looks_of) l9 c9 k9).binds fun _ _ _ _ _ _ us hl => match us, hl with | [_, _], _ => rfl
    · rw [eA10, eD10]; exact fun_mk (st := s_lots_of) l10 c10 k10
    · rw [eA10]; exact PySem.W.mg_of X G a10
    · rw [eA10]; exact k10
    · rw [eD10]; exact (fun_mk (st := s_lots_of) l10 c10 k10).binds fun _ _ _ _ _ _ us hl => match us, hl with | [_], _ => rfl
    · rw [eA11, eD11]; exact fun_mk (st := s_laid_together) l11 c11 k11
    · rw [eA11]; exact PySem.W.mg_of X G a11
    · rw [eA11]; exact k11
    · rw [eD11]; exact (fun_mk (st := s_laid_together) l11 c11 k11).binds fun _ _ _ _ _ _ us hl => match us, hl with | [_, _], _ => rfl
    · rw [eA12, eD12]; exact fun_mk (st := s_least_of) l12 c12 k12
    · rw [eA12]; exact PySem.W.mg_of X G a12
    · rw [eA12]; exact k12
    · rw [eD12]; exact (fun_mk (st := s_least_of) l12 c12 k12).binds fun _ _ _ _ _ _ us hl => match us, hl with | [_], _ => rfl
    · rw [eA13, eD13]; exact fun_mk (st := s_least_both) l13 c13 k13
    · rw [eA13]; exact PySem.W.mg_of X G a13
    · rw [eA13]; exact k13
    · rw [eD13]; exact (fun_mk (st := s_least_both) l13 c13 k13).binds fun _ _ _ _ _ _ us hl => match us, hl with | [_], _ => rfl
    · rw [eA14, eD14]; exact fun_mk (st := s_are_standings_alike) l14 c14 k14
    · rw [eA14]; exact PySem.W.mg_of X G a14
    · rw [eA14]; exact k14
    · rw [eD14]; exact (fun_mk (st := s_are_standings_alike) l14 c14 k14).binds fun _ _ _ _ _ _ us hl => match us, hl with | [_, _, _], _ => rfl
    · rw [eA15, eD15]; exact fun_mk (st := s_unlike_at) l15 c15 k15
    · rw [eA15]; exact PySem.W.mg_of X G a15
    · rw [eA15]; exact k15
    · rw [eD15]; exact (fun_mk (st := s_unlike_at) l15 c15 k15).binds fun _ _ _ _ _ _ us hl => match us, hl with | [_, _, _], _ => rfl
    · rw [eA16, eD16]; exact fun_mk (st := s_first_parting) l16 c16 k16
    · rw [eA16]; exact PySem.W.mg_of X G a16
    · rw [eA16]; exact k16
    · rw [eD16]; exact (fun_mk (st := s_first_parting) l16 c16 k16).binds fun _ _ _ _ _ _ us hl => match us, hl with | [_, _], _ => rfl
    · rw [eA17, eD17]; exact fun_mk (st := s__law_bag) l17 c17 k17
    · rw [eA17]; exact PySem.W.mg_of X G a17
    · rw [eA17]; exact k17
    · rw [eD17]; exact (fun_mk (st := s__law_bag) l17 c17 k17).binds fun _ _ _ _ _ _ us hl => match us, hl with | [_], _ => rfl
    · rw [eA18, eD18]; exact fun_mk (st := s__law_take) l18 c18 k18
    · rw [eA18]; exact PySem.W.mg_of X G a18
    · rw [eA18]; exact k18
    · rw [eD18]; exact (fun_mk (st := s__law_take) l18 c18 k18).binds fun _ _ _ _ _ _ us hl => match us, hl with | [_, _], _ => rfl
    · rw [eA19, eD19]; exact fun_mk (st := s__law_some) l19 c19 k19
    · rw [eA19]; exact PySem.W.mg_of X G a19
    · rw [eA19]; exact k19
    · rw [eD19]; exact (fun_mk (st := s__law_some) l19 c19 k19).binds fun _ _ _ _ _ _ us hl => match us, hl with | [_, _], _ => rfl
    · rw [eA20, eD20]; exact fun_mk (st := s__law_alike) l20 c20 k20
    · rw [eA20]; exact PySem.W.mg_of X G a20
    · rw [eA20]; exact k20
    · rw [eD20]; exact (fun_mk (st := s__law_alike) l20 c20 k20).binds fun _ _ _ _ _ _ us hl => match us, hl with | [_, _], _ => rfl
    · rw [eA21, eD21]; exact fun_mk (st := s__law_machine) l21 c21 k21
    · rw [eA21]; exact PySem.W.mg_of X G a21
    · rw [eA21]; exact k21
    · rw [eD21]; exact (fun_mk (st := s__law_machine) l21 c21 k21).binds fun _ _ _ _ _ _ us hl => match us, hl with | [_, _], _ => rfl
    · rw [eA22, eD22]; exact fun_mk (st := s__law_unsure) l22 c22 k22
    · rw [eA22]; exact PySem.W.mg_of X G a22
    · rw [eA22]; exact k22
    · rw [eD22]; exact (fun_mk (st := s__law_unsure) l22 c22 k22).binds fun _ _ _ _ _ _ us hl => match us, hl with | [_, _], _ => rfl
    · rw [eA23, eD23]; exact fun_mk (st := s__law_parted) l23 c23 k23
    · rw [eA23]; exact PySem.W.mg_of X G a23
    · rw [eA23]; exact k23
    · rw [eD23]; exact (fun_mk (st := s__law_parted) l23 c23 k23).binds fun _ _ _ _ _ _ us hl => match us, hl with | [_, _, _], _ => rfl
    · rw [eA24, eD24]; exact fun_mk (st := s__law_otherwise) l24 c24 k24
    · rw [eA24]; exact PySem.W.mg_of X G a24
    · rw [eA24]; exact k24
    · rw [eD24]; exact (fun_mk (st := s__law_otherwise) l24 c24 k24).binds fun _ _ _ _ _ _ us hl => match us, hl with | [_, _], _ => rfl
    · rw [eA25, eD25]; exact fun_mk (st := s_law) l25 c25 k25
    · rw [eA25]; exact PySem.W.mg_of X G a25
    · rw [eA25]; exact k25
    · rw [eD25]; exact (fun_mk (st := s_law) l25 c25 k25).binds fun _ _ _ _ _ _ us hl => match us, hl with | [_], _ => rfl
    · rw [eC0]; exact PySem.W.mg_of X G ca0
    · rw [eC0]; exact ck0
    · rw [eC0]; exact cx0
    · rw [eC0]; exact cy0
    · rw [eC0]; exact cz0
    · rw [eC0]; rfl
    · rw [eC0]; exact ct_0
  refine ⟨c, D "law", rfl, fun s v => by rw [eD25]; exact .of_eq rfl, fun base _ _ => ?_⟩
  have G_is_integer := ok_is_integer (base := base) T
  have G_is_count := ok_is_count (base := base) T G_is_integer
  have G_is_bit := ok_is_bit (base := base) T G_is_integer
  have G_is_told := ok_is_told (base := base) T G_is_bit G_is_count
  have G_is_row := ok_is_row (base := base) T G_is_told
  have G_is_rows := ok_is_rows (base := base) T G_is_row
  have G_is_sure := ok_is_sure (base := base) T
  have G_come_to := ok_come_to (base := base) T
  have G_is_both := ok_is_both (base := base) T G_come_to G_is_count G_is_rows
  have G_looks_of := ok_looks_of (base := base) T
  have G_lots_of := ok_lots_of (base := base) T G_looks_of
  have G_laid_together := ok_laid_together (base := base) T G_come_to G_lots_of
  have G_least_of := ok_least_of (base := base) T G_laid_together G_is_rows
  have G_least_both := ok_least_both (base := base) T G_laid_together G_is_both
  have G_are_standings_alike := ok_are_standings_alike (base := base) T G_lots_of G_is_count G_is_rows
  have G_unlike_at := ok_unlike_at (base := base) T
  have G_first_parting := ok_first_parting (base := base) T G_unlike_at G_is_rows
  have G__law_bag := ok__law_bag (base := base) T
  have G__law_take := ok__law_take (base := base) T
  have G__law_some := ok__law_some (base := base) T G__law_take
  have G__law_alike := ok__law_alike (base := base) T
  have G__law_machine := ok__law_machine (base := base) T G__law_take G__law_some
  have G__law_unsure := ok__law_unsure (base := base) T G__law_take
  have G__law_parted := ok__law_parted (base := base) T
  have G__law_otherwise := ok__law_otherwise (base := base) T G__law_take
  have G_law := ok_law (base := base) T G_least_of G_is_both G_is_rows G__law_parted G_least_both G__law_take G_are_standings_alike G__law_alike G_come_to G_first_parting G_is_sure G__law_otherwise G__law_unsure G__law_machine G__law_bag
  rw [eA25] at G_law
  exact G_law
end K33
open PySem PySem.W PyProof.Rows in
set_option maxRecDepth 100000 in
set_option maxHeartbeats 0 in
theorem PySem.Challenge.cw_hearwright_k33_least_machines_holds : PySem.Challenge.rw_hearwright_k33_least_machines.Holds := by
  w_on; o_law; k_head; (case hw => w_witness2)
  k_fill
  refine Dl.walkG (l := PySem.Challenge.rw_hearwright_k33_least_machines) (k := 8) (x := "script") (G := K33.F_law) rfl rfl ⟨rfl, by decide, by decide⟩ (fun w h Y => PySem.W.kIn_of Y) ?F K33.law_true
  case F =>
    intro w mg fa h KX G hmg
    refine' K33.all_mk KX G hmg ?a0 ?l0 ?c0 ?k0 ?a1 ?l1 ?c1 ?k1 ?a2 ?l2 ?c2 ?k2 ?a3 ?l3 ?c3 ?k3 ?a4 ?l4 ?c4 ?k4 ?a5 ?l5 ?c5 ?k5 ?a6 ?l6 ?c6 ?k6 ?a7 ?l7 ?c7 ?k7 ?a8 ?l8 ?c8 ?k8 ?a9 ?l9 ?c9 ?k9 ?a10 ?l10 ?c10 ?k10 ?a11 ?l11 ?c11 ?k11 ?a12 ?l12 ?c12 ?k12 ?a13 ?l13 ?c13 ?k13 ?a14 ?l14 ?c14 ?k14 ?a15 ?l15 ?c15 ?k15 ?a16 ?l16 ?c16 ?k16 ?a17 ?l17 ?c17 ?k17 ?a18 ?l18 ?c18 ?k18 ?a19 ?l19 ?c19 ?k19 ?a20 ?l20 ?c20 ?k20 ?a21 ?l21 ?c21 ?k21 ?a22 ?l22 ?c22 ?k22 ?a23 ?l23 ?c23 ?k23 ?a24 ?l24 ?c24 ?k24 ?a25 ?l25 ?c25 ?k25 ?ca0 ?ck0 ?cx0 ?cy0 ?cz0 ?ct_0 ?ga0 ?gl0 ?ga1 ?gl1 ?z0 ?z1 ?z2 ?z3 ?z4 ?z5 ?z6 ?z7 ?z8 ?z9 ?z10 ?z11 ?z12
    (case a0 => k_is)
    (case l0 => k_is)
    (case c0 => k_is)
    (case k0 => k_is)
    (case a1 => k_is)
    (case l1 => k_is)
    (case c1 => k_is)
    (case k1 => k_is)
    (case a2 => k_is)
    (case l2 => k_is)
    (case c2 => k_is)
    (case k2 => k_is)
    (case a3 => k_is)
    (case l3 => k_is)
    (case c3 => k_is)
    (case k3 => k_is)
    (case a4 => k_is)
    (case l4 => k_is)
    (case c4 => k_is)
    (case k4 => k_is)
    (case a5 => k_is)
    (case l5 => k_is)
    (case c5 => k_is)
    (case k5 => k_is)
    (case a6 => k_is)
    (case l6 => k_is)
    (case c6 => k_is)
    (case k6 => k_is)
    (case a7 => k_is)
    (case l7 => k_is)
    (case c7 => k_is)
    (case k7 => k_is)
    (case a8 => k_is)
    (case l8 => k_is)
    (case c8 => k_is)
    (case k8 => k_is)
    (case a9 => k_is)
    (case l9 => k_is)
    (case c9 => k_is)
    (case k9 => k_is)
    (case a10 => k_is)
    (case l10 => k_is)
    (case c10 => k_is)
    (case k10 => k_is)
    (case a11 => k_is)
    (case l11 => k_is)
    (case c11 => k_is)
    (case k11 => k_is)
    (case a12 => k_is)
    (case l12 => k_is)
    (case c12 => k_is)
    (case k12 => k_is)
    (case a13 => k_is)
    (case l13 => k_is)
    (case c13 => k_is)
    (case k13 => k_is)
    (case a14 => k_is)
    (case l14 => k_is)
    (case c14 => k_is)
    (case k14 => k_is)
    (case a15 => k_is)
    (case l15 => k_is)
    (case c15 => k_is)
    (case k15 => k_is)
    (case a16 => k_is)
    (case l16 => k_is)
    (case c16 => k_is)
    (case k16 => k_is)
    (case a17 => k_is)
    (case l17 => k_is)
    (case c17 => k_is)
    (case k17 => k_is)
    (case a18 => k_is)
    (case l18 => k_is)
    (case c18 => k_is)
    (case k18 => k_is)
    (case a19 => k_is)
    (case l19 => k_is)
    (case c19 => k_is)
    (case k19 => k_is)
    (case a20 => k_is)
    (case l20 => k_is)
    (case c20 => k_is)
    (case k20 => k_is)
    (case a21 => k_is)
    (case l21 => k_is)
    (case c21 => k_is)
    (case k21 => k_is)
    (case a22 => k_is)
    (case l22 => k_is)
    (case c22 => k_is)
    (case k22 => k_is)
    (case a23 => k_is)
    (case l23 => k_is)
    (case c23 => k_is)
    (case k23 => k_is)
    (case a24 => k_is)
    (case l24 => k_is)
    (case c24 => k_is)
    (case k24 => k_is)
    (case a25 => k_is)
    (case l25 => k_is)
    (case c25 => k_is)
    (case k25 => k_is)
    (case ca0 => k_is)
    (case ck0 => k_is)
    (case cx0 => k_exc)
    (case cy0 => k_is)
    (case cz0 => k_is)
    (case ct_0 => first | rfl | k_is)
    (case ga0 => k_is)
    (case gl0 => k_is)
    (case ga1 => k_is)
    (case gl1 => k_is)
    (case z0 => k_is)
    (case z1 => k_is)
    (case z2 => k_is)
    (case z3 => k_is)
    (case z4 => k_is)
    (case z5 => k_is)
    (case z6 => k_is)
    (case z7 => k_is)
    (case z8 => k_is)
    (case z9 => k_is)
    (case z10 => k_is)
    (case z11 => k_is)
    (case z12 => k_is)
#print axioms PySem.Challenge.cw_hearwright_k33_least_machines_holds
