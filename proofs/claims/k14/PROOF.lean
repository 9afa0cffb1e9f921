import PyProof.Rows.All
import HandS.ForMost
import HandS.Deep
import HandS.Evl
import KE.KDictKeyed
import KE.SortData
import HandS.Wide
import HandS.TupAny
import HandS.Style
import HandS.IsInst
import KE.DataCmp
import HandS.WordsExc
import HandS.Conv
import KE.DataMinMax
import PyProof.TupleOfSeq
import HandS.TupLen
import HandS.WordsDict
import HandS.ReCall
import PyProof.DictMoreH
import HandS.Zip
import KE.GoesEnum
import HandS.Comp
import HandS.Dict
import PyProof.Rows.TupDisplay
import HandS.TupMul
import HandS.Exc
import KE.Datum
import PySem.Challenge.RW_playedapart_k14_whole_held_walks

set_option Elab.async false
set_option linter.all false
set_option maxRecDepth 100000
set_option maxHeartbeats 2000000
/-! Z1: values of the interpreter, how the heap bears them. -/
namespace Z
open PySem L2 Evl

/-- a value: data that never change, a list, dict, instance of one's own, the same frozen -/
inductive M where
  | val (d : PyData)
  | lst (xs : List M)
  | tup (xs : List M)
  | dct (t : Bool) (kvs : List (PyData × M))
  | ins (c : Str) (fs : List (Str × M))
  | fz (m : M)

/-- what a proof knows of the written part -/
structure Ct where
  P : Program
  w : World
  K : PySem.W.Frag
  ct : Str → Option Addr

abbrev Fp := Addr → Nat
def f0 : Fp := fun _ => 0
def f1 (a : Addr) : Fp := fun b => if b = a then 1 else 0
def fa (f g : Fp) : Fp := fun b => f b + g b
theorem f0_at (b : Addr) : f0 b = 0 := rfl
theorem fa_at (f g : Fp) (b : Addr) : fa f g b = f b + g b := rfl
theorem f1_self (a : Addr) : f1 a a = 1 := if_pos rfl
theorem f1_ne {a b : Addr} (h : b ≠ a) : f1 a b = 0 := if_neg h
theorem f1_pos {a b : Addr} (h : 0 < f1 a b) : b = a := by
  by_cases e : b = a
  · exact e
  · rw [f1_ne e] at h; exact absurd h (Nat.lt_irrefl _)
theorem fa0 (f : Fp) : fa f f0 = f := rfl
theorem fa0l (f : Fp) : fa f0 f = f := by funext b; simp [fa, f0]
theorem fa_comm (f g : Fp) : fa f g = fa g f := by funext b; simp [fa, Nat.add_comm]
theorem fa_assoc (f g h : Fp) : fa (fa f g) h = fa f (fa g h) := by funext b; simp [fa, Nat.add_assoc]

/-! ### keys of dicts -/
mutual
/-- a key: numbers, texts, None, tuples of these -/
def nkey : PyData → Option NestedKey
  | .none => some .none
  | .int i => some (.num i)
  | .str x => some (.text x)
  | .tuple xs => (nkeys xs).map .tup
  | .bool _ => none
  | .list _ => none
  | .dict _ => none
def nkeys : List PyData → Option (List NestedKey)
  | [] => some []
  | x :: xs => (nkey x).bind fun k => (nkeys xs).map fun ks => k :: ks
end
/-- a flat key -/
def fkey : PyData → Option Key
  | .int i => some (.inl i)
  | .str x => some (.inr x)
  | _ => none

/-- the object of a dict with tuple keys, alone -/
def rawT (C : Ct) (a : Addr) (xs : List (NestedKey × Addr × Value)) : Heap → Prop := fun h =>
  ∃ o es ep, h.get? a = some o ∧ o.ExactDict ∧ o.data = .dict es ep ∧ es.toList = xs.map (entryOfKey (nestedKind C.P C.w))

/-- what stands for a tuple-keyed dict in the tracked heap -/
def hoT (C : Ct) (a : Addr) (xs : List (NestedKey × Addr × Value)) : HO := .ext (rawT C a xs)

mutual
/-- v is m where H; what m may change stands at f; F is what never changes -/
inductive MRep (C : Ct) (F : Hp) : Hp → V → M → Fp → Prop
  | val {H v d} : Dp C.K F v d → MRep C F H v (.val d) f0
  | lst {H a vs ms f} : H a = some (.lst vs) → MReps C F H vs ms f → MRep C F H (.ref a) (.lst ms) (fa (f1 a) f)
  | tup {H a vs ms f} : H a = some (.tup vs) → MReps C F H vs ms f → MRep C F H (.ref a) (.tup ms) (fa (f1 a) f)
  | dK {H a kvs ms f} : H a = some (.dK kvs) → (kvs.map (·.1)).Nodup → MRepK C F H kvs ms f → MRep C F H (.ref a) (.dct false ms) (fa (f1 a) f)
  | dT {H a xs ms f} : H a = some (hoT C a xs) → (a == sysModules) = false → (xs.map (·.1)).Nodup → MRepT C F H xs ms f → MRep C F H (.ref a) (.dct true ms) (fa (f1 a) f)
  | ins {H a c Ca dx fs ms f} : C.ct c = some Ca → H a = some (.ins Ca dx fs) → MRepF C F H fs ms f → MRep C F H (.ref a) (.ins c ms) (fa (f1 a) f)
  | fz {H v m g} : MRep C F F v m g → MRep C F H v (.fz m) f0
inductive MReps (C : Ct) (F : Hp) : Hp → List V → List M → Fp → Prop
  | nil {H} : MReps C F H [] [] f0
  | cons {H v vs m ms f g} : MRep C F H v m f → MReps C F H vs ms g → MReps C F H (v :: vs) (m :: ms) (fa f g)
inductive MRepK (C : Ct) (F : Hp) : Hp → List (Key × V) → List (PyData × M) → Fp → Prop
  | nil {H} : MRepK C F H [] [] f0
  | cons {H k d v kvs m ms f g} : fkey d = some k → MRep C F H v m f → MRepK C F H kvs ms g → MRepK C F H ((k, v) :: kvs) ((d, m) :: ms) (fa f g)
inductive MRepT (C : Ct) (F : Hp) : Hp → List (NestedKey × Addr × Value) → List (PyData × M) → Fp → Prop
  | nil {H} : MRepT C F H [] [] f0
  | cons {H k b d u v xs m ms f g} : nkey d = some k → k.depth ≤ 8 → Dp C.K F (.ref b) d → RelV v u → MRep C F H v m f → MRepT C F H xs ms g → MRepT C F H ((k, b, u) :: xs) ((d, m) :: ms) (fa f g)
inductive MRepF (C : Ct) (F : Hp) : Hp → List (Str × V) → List (Str × M) → Fp → Prop
  | nil {H} : MRepF C F H [] [] f0
  | cons {H x v fs m ms f g} : MRep C F H v m f → MRepF C F H fs ms g → MRepF C F H ((x, v) :: fs) ((x, m) :: ms) (fa f g)
end

section
variable {C : Ct} {F F' H H' : Hp}
mutual
theorem Dp.ex {K : PySem.W.Frag} (e : Ex F F') : ∀ (d : PyData) (v : V), Dp K F v d → Dp K F' v d
  | .none, _, h => by cases h; exact .non
  | .bool b, _, h => by cases h; exact .bl _
  | .int i, _, h => by cases h; exact .int _
  | .str x, _, h => by cases h; exact .str _
  | .list ds, _, h => by
    cases h with
    | lst h1 h2 => exact .lst (ex_l e h1) (DpAll.ex e ds _ h2)
  | .tuple ds, _, h => by
    cases h with
    | tup h1 h2 => exact .tup (ex_t e h1) (DpAll.ex e ds _ h2)
  | .dict _, _, h => by cases h
theorem DpAll.ex {K : PySem.W.Frag} (e : Ex F F') : ∀ (ds : List PyData) (vs : List V), DpAll K F vs ds → DpAll K F' vs ds
  | [], _, h => by cases h; exact .nil
  | d :: ds, _, h => by
    cases h with
    | cons h1 h2 => exact .cons (Dp.ex e d _ h1) (DpAll.ex e ds _ h2)
end

mutual
/-- what an owned value stands on is tracked -/
theorem MRep.dom {H : Hp} : ∀ (m : M) (v : V) (f : Fp), MRep C F H v m f → ∀ a, 0 < f a → ∃ o, H a = some o
  | .val _, _, _, h, a, p => by cases h; exact absurd p (Nat.lt_irrefl _)
  | .lst ms, _, _, h, a, p => by
    cases h with
    | @lst _ b _ _ f h1 h2 =>
      rw [fa_at] at p
      rcases Nat.eq_zero_or_pos (f1 b a) with z | z
      · exact MReps.dom ms _ _ h2 a (by omega)
      · rw [f1_pos z]; exact ⟨_, h1⟩
  | .tup ms, _, _, h, a, p => by
    cases h with
    | @tup _ b _ _ f h1 h2 =>
      rw [fa_at] at p
      rcases Nat.eq_zero_or_pos (f1 b a) with z | z
      · exact MReps.dom ms _ _ h2 a (by omega)
      · rw [f1_pos z]; exact ⟨_, h1⟩
  | .dct false ms, _, _, h, a, p => by
    cases h with
    | @dK _ b _ _ f h1 _ h2 =>
      rw [fa_at] at p
      rcases Nat.eq_zero_or_pos (f1 b a) with z | z
      · exact MRepK.dom ms _ _ h2 a (by omega)
      · rw [f1_pos z]; exact ⟨_, h1⟩
  | .dct true ms, _, _, h, a, p => by
    cases h with
    | @dT _ b _ _ f h1 _ _ h2 =>
      rw [fa_at] at p
      rcases Nat.eq_zero_or_pos (f1 b a) with z | z
      · exact MRepT.dom ms _ _ h2 a (by omega)
      · rw [f1_pos z]; exact ⟨_, h1⟩
  | .ins c ms, _, _, h, a, p => by
    cases h with
    | @ins _ b _ _ _ _ _ f _ h1 h2 =>
      rw [fa_at] at p
      rcases Nat.eq_zero_or_pos (f1 b a) with z | z
      · exact MRepF.dom ms _ _ h2 a (by omega)
      · rw [f1_pos z]; exact ⟨_, h1⟩
  | .fz m, _, _, h, a, p => by cases h; exact absurd p (Nat.lt_irrefl _)
theorem MReps.dom {H : Hp} : ∀ (ms : List M) (vs : List V) (f : Fp), MReps C F H vs ms f → ∀ a, 0 < f a → ∃ o, H a = some o
  | [], _, _, h, a, p => by cases h; exact absurd p (Nat.lt_irrefl _)
  | m :: ms, _, _, h, a, p => by
    cases h with
    | @cons _ v vs _ _ f g h1 h2 =>
      rw [fa_at] at p
      rcases Nat.eq_zero_or_pos (f a) with z | z
      · exact MReps.dom ms _ _ h2 a (by omega)
      · exact MRep.dom m _ _ h1 a z
theorem MRepK.dom {H : Hp} : ∀ (ms : List (PyData × M)) (vs : List (Key × V)) (f : Fp), MRepK C F H vs ms f → ∀ a, 0 < f a → ∃ o, H a = some o
  | [], _, _, h, a, p => by cases h; exact absurd p (Nat.lt_irrefl _)
  | (d, m) :: ms, _, _, h, a, p => by
    cases h with
    | @cons _ _ _ _ _ _ _ f g _ h1 h2 =>
      rw [fa_at] at p
      rcases Nat.eq_zero_or_pos (f a) with z | z
      · exact MRepK.dom ms _ _ h2 a (by omega)
      · exact MRep.dom m _ _ h1 a z
theorem MRepT.dom {H : Hp} : ∀ (ms : List (PyData × M)) (vs : List (NestedKey × Addr × Value)) (f : Fp), MRepT C F H vs ms f → ∀ a, 0 < f a → ∃ o, H a = some o
  | [], _, _, h, a, p => by cases h; exact absurd p (Nat.lt_irrefl _)
  | (d, m) :: ms, _, _, h, a, p => by
    cases h with
    | @cons _ _ _ _ _ _ _ _ _ f g _ _ _ _ h1 h2 =>
      rw [fa_at] at p
      rcases Nat.eq_zero_or_pos (f a) with z | z
      · exact MRepT.dom ms _ _ h2 a (by omega)
      · exact MRep.dom m _ _ h1 a z
theorem MRepF.dom {H : Hp} : ∀ (ms : List (Str × M)) (vs : List (Str × V)) (f : Fp), MRepF C F H vs ms f → ∀ a, 0 < f a → ∃ o, H a = some o
  | [], _, _, h, a, p => by cases h; exact absurd p (Nat.lt_irrefl _)
  | (x, m) :: ms, _, _, h, a, p => by
    cases h with
    | @cons _ _ _ _ _ _ f g h1 h2 =>
      rw [fa_at] at p
      rcases Nat.eq_zero_or_pos (f a) with z | z
      · exact MRepF.dom ms _ _ h2 a (by omega)
      · exact MRep.dom m _ _ h1 a z
end

mutual
/-- what stands on places that are kept is kept -/
theorem MRep.mono (e : Ex F F') {H H' : Hp} : ∀ (m : M) (v : V) (f : Fp), MRep C F H v m f → (∀ a, 0 < f a → H' a = H a) → MRep C F' H' v m f
  | .val d, _, _, h, k => by
    cases h with
    | val h => exact .val (Dp.ex e d _ h)
  | .lst ms, _, _, h, k => by
    cases h with
    | @lst _ a vs _ f h1 h2 => exact .lst ((k a (by rw [fa_at, f1_self]; omega)).trans h1) (MReps.mono e ms _ _ h2 fun b p => k b (by rw [fa_at]; omega))
  | .tup ms, _, _, h, k => by
    cases h with
    | @tup _ a vs _ f h1 h2 => exact .tup ((k a (by rw [fa_at, f1_self]; omega)).trans h1) (MReps.mono e ms _ _ h2 fun b p => k b (by rw [fa_at]; omega))
  | .dct false ms, _, _, h, k => by
    cases h with
    | @dK _ a kvs _ f h1 hn h2 => exact .dK ((k a (by rw [fa_at, f1_self]; omega)).trans h1) hn (MRepK.mono e ms _ _ h2 fun b p => k b (by rw [fa_at]; omega))
  | .dct true ms, _, _, h, k => by
    cases h with
    | @dT _ a xs _ f h1 hs hn h2 => exact .dT ((k a (by rw [fa_at, f1_self]; omega)).trans h1) hs hn (MRepT.mono e ms _ _ h2 fun b p => k b (by rw [fa_at]; omega))
  | .ins c ms, _, _, h, k => by
    cases h with
    | @ins _ a _ Ca dx fs _ f hc h1 h2 => exact .ins hc ((k a (by rw [fa_at, f1_self]; omega)).trans h1) (MRepF.mono e ms _ _ h2 fun b p => k b (by rw [fa_at]; omega))
  | .fz m, _, _, h, k => by
    cases h with
    | @fz _ _ _ g h =>
      exact .fz (MRep.mono e m _ _ h fun a p => by
        obtain ⟨o, ho⟩ := MRep.dom m _ _ h a p
        rw [ho]; exact e a o ho)
theorem MReps.mono (e : Ex F F') {H H' : Hp} : ∀ (ms : List M) (vs : List V) (f : Fp), MReps C F H vs ms f → (∀ a, 0 < f a → H' a = H a) → MReps C F' H' vs ms f
  | [], _, _, h, k => by cases h; exact .nil
  | m :: ms, _, _, h, k => by
    cases h with
    | cons h1 h2 => exact .cons (MRep.mono e m _ _ h1 fun b p => k b (by rw [fa_at]; omega)) (MReps.mono e ms _ _ h2 fun b p => k b (by rw [fa_at]; omega))
theorem MRepK.mono (e : Ex F F') {H H' : Hp} : ∀ (ms : List (PyData × M)) (vs : List (Key × V)) (f : Fp), MRepK C F H vs ms f → (∀ a, 0 < f a → H' a = H a) → MRepK C F' H' vs ms f
  | [], _, _, h, k => by cases h; exact .nil
  | (d, m) :: ms, _, _, h, k => by
    cases h with
    | cons hk h1 h2 => exact .cons hk (MRep.mono e m _ _ h1 fun b p => k b (by rw [fa_at]; omega)) (MRepK.mono e ms _ _ h2 fun b p => k b (by rw [fa_at]; omega))
theorem MRepT.mono (e : Ex F F') {H H' : Hp} : ∀ (ms : List (PyData × M)) (vs : List (NestedKey × Addr × Value)) (f : Fp), MRepT C F H vs ms f → (∀ a, 0 < f a → H' a = H a) → MRepT C F' H' vs ms f
  | [], _, _, h, k => by cases h; exact .nil
  | (d, m) :: ms, _, _, h, k => by
    cases h with
    | cons hk hd hp hr h1 h2 => exact .cons hk hd (Dp.ex e d _ hp) hr (MRep.mono e m _ _ h1 fun b p => k b (by rw [fa_at]; omega)) (MRepT.mono e ms _ _ h2 fun b p => k b (by rw [fa_at]; omega))
theorem MRepF.mono (e : Ex F F') {H H' : Hp} : ∀ (ms : List (Str × M)) (vs : List (Str × V)) (f : Fp), MRepF C F H vs ms f → (∀ a, 0 < f a → H' a = H a) → MRepF C F' H' vs ms f
  | [], _, _, h, k => by cases h; exact .nil
  | (x, m) :: ms, _, _, h, k => by
    cases h with
    | cons h1 h2 => exact .cons (MRep.mono e m _ _ h1 fun b p => k b (by rw [fa_at]; omega)) (MRepF.mono e ms _ _ h2 fun b p => k b (by rw [fa_at]; omega))
end
end

/-! ### the frame's slots -/
abbrev Env := List (Option M)
inductive EnvR (C : Ct) (F H : Hp) : L2.St → Env → Fp → Prop
  | nil : EnvR C F H [] [] f0
  | skip {x σ ρ t} : EnvR C F H σ ρ t → EnvR C F H (x :: σ) (none :: ρ) t
  | here {v m f σ ρ t} : MRep C F H v m f → EnvR C F H σ ρ t → EnvR C F H (some v :: σ) (some m :: ρ) (fa f t)

section
variable {C : Ct} {F F' H H' : Hp}
theorem EnvR.length {σ : L2.St} {ρ : Env} {t : Fp} (h : EnvR C F H σ ρ t) : σ.length = ρ.length := by
  induction h with
  | nil => rfl
  | skip _ ih => simp [ih]
  | here _ _ ih => simp [ih]
theorem EnvR.dom {σ : L2.St} {ρ : Env} {t : Fp} (h : EnvR C F H σ ρ t) : ∀ a, 0 < t a → ∃ o, H a = some o := by
  induction h with
  | nil => intro a p; exact absurd p (Nat.lt_irrefl _)
  | skip _ ih => exact ih
  | @here v m f σ ρ t h1 h2 ih =>
    intro a p
    rw [fa_at] at p
    rcases Nat.eq_zero_or_pos (f a) with z | z
    · exact ih a (by omega)
    · exact h1.dom _ _ _ a z
theorem EnvR.mono (e : Ex F F') {σ : L2.St} {ρ : Env} {t : Fp} (h : EnvR C F H σ ρ t) (k : ∀ a, 0 < t a → H' a = H a) : EnvR C F' H' σ ρ t := by
  induction h with
  | nil => exact .nil
  | skip _ ih => exact .skip (ih k)
  | here h1 h2 ih => exact .here (h1.mono e _ _ _ fun b p => k b (by rw [fa_at]; omega)) (ih fun b p => k b (by rw [fa_at]; omega))
/-- a slot taken out -/
theorem EnvR.get {σ : L2.St} {ρ : Env} {t : Fp} (h : EnvR C F H σ ρ t) : ∀ {i : Nat} {m : M}, ρ[i]? = some (some m) → ∃ v f t', σ[i]? = some (some v) ∧ MRep C F H v m f ∧ EnvR C F H σ (ρ.set i none) t' ∧ t = fa f t' := by
  induction h with
  | nil => intro i m e; simp at e
  | @skip x σ ρ t h ih =>
    intro i m e
    cases i with
    | zero => simp at e
    | succ i =>
      obtain ⟨v, f, t', e1, e2, e3, e4⟩ := ih (i := i) (m := m) (by simpa using e)
      exact ⟨v, f, t', by simpa using e1, e2, by simpa using EnvR.skip e3, e4⟩
  | @here v m' f σ ρ t h1 h2 ih =>
    intro i m e
    cases i with
    | zero =>
      have e' : m' = m := by simpa using e
      subst e'
      exact ⟨v, f, t, rfl, h1, by simpa using EnvR.skip h2, rfl⟩
    | succ i =>
      obtain ⟨u, g, t', e1, e2, e3, e4⟩ := ih (i := i) (m := m) (by simpa using e)
      refine ⟨u, g, fa f t', by simpa using e1, e2, by simpa using EnvR.here h1 e3, ?_⟩
      rw [e4, ← fa_assoc, ← fa_assoc, fa_comm f g]
/-- a slot filled, what it held forgotten -/
theorem EnvR.set {σ : L2.St} {ρ : Env} {t : Fp} (h : EnvR C F H σ ρ t) : ∀ {i : Nat} {v : V} {m : M} {f : Fp}, i < ρ.length → MRep C F H v m f → ∃ t', EnvR C F H (σ.set i (some v)) (ρ.set i (some m)) (fa f t') ∧ ∀ a, t' a ≤ t a := by
  induction h with
  | nil => intro i v m f e; simp at e
  | @skip x σ ρ t h ih =>
    intro i v m f e r
    cases i with
    | zero => exact ⟨t, by simpa using EnvR.here r h, fun _ => Nat.le_refl _⟩
    | succ i =>
      obtain ⟨t', e1, e2⟩ := ih (i := i) (by simpa using e) r
      exact ⟨t', by simpa using EnvR.skip e1, e2⟩
  | @here v' m' f' σ ρ t h1 h2 ih =>
    intro i v m f e r
    cases i with
    | zero => exact ⟨t, by simpa using EnvR.here r h2, fun a => by rw [fa_at]; omega⟩
    | succ i =>
      obtain ⟨t', e1, e2⟩ := ih (i := i) (by simpa using e) r
      refine ⟨fa f' t', ?_, fun a => by have := e2 a; rw [fa_at, fa_at]; omega⟩
      have := EnvR.here h1 e1
      rw [← fa_assoc, fa_comm f' f, fa_assoc] at this
      simpa using this
/-- a slot put back where it was -/
theorem EnvR.put {σ : L2.St} {ρ : Env} {t : Fp} (h : EnvR C F H σ ρ t) : ∀ {i : Nat} {v : V} {m : M} {f : Fp}, ρ[i]? = some none → σ[i]? = some (some v) → MRep C F H v m f → EnvR C F H σ (ρ.set i (some m)) (fa f t) := by
  induction h with
  | nil => intro i v m f e; simp at e
  | @skip x σ ρ t h ih =>
    intro i v m f e s r
    cases i with
    | zero =>
      have : x = some v := by simpa using s
      subst this
      simpa using EnvR.here r h
    | succ i => simpa using EnvR.skip (ih (i := i) (by simpa using e) (by simpa using s) r)
  | @here v' m' f' σ ρ t h1 h2 ih =>
    intro i v m f e s r
    cases i with
    | zero => simp at e
    | succ i =>
      have := EnvR.here h1 (ih (i := i) (by simpa using e) (by simpa using s) r)
      rw [← fa_assoc, fa_comm f' f, fa_assoc] at this
      simpa using this
/-- slots forgotten -/
theorem EnvR.drop {σ : L2.St} {ρ : Env} {t : Fp} (h : EnvR C F H σ ρ t) : ∀ {i : Nat} {x : Option V}, ∃ t', EnvR C F H (σ.set i x) (ρ.set i none) t' ∧ ∀ a, t' a ≤ t a := by
  induction h with
  | nil => intro i x; exact ⟨f0, by simpa using EnvR.nil, fun _ => Nat.le_refl _⟩
  | @skip y σ ρ t h ih =>
    intro i x
    cases i with
    | zero => exact ⟨t, by simpa using EnvR.skip h, fun _ => Nat.le_refl _⟩
    | succ i =>
      obtain ⟨t', e1, e2⟩ := ih (i := i) (x := x)
      exact ⟨t', by simpa using EnvR.skip e1, e2⟩
  | @here v' m' f' σ ρ t h1 h2 ih =>
    intro i x
    cases i with
    | zero => exact ⟨t, by simpa using EnvR.skip h2, fun a => by rw [fa_at]; omega⟩
    | succ i =>
      obtain ⟨t', e1, e2⟩ := ih (i := i) (x := x)
      exact ⟨fa f' t', by simpa using EnvR.here h1 e1, fun a => by have := e2 a; rw [fa_at, fa_at]; omega⟩
end

/-! ### what is kept -/
structure Wf (F H : Hp) (t : Fp) : Prop where
  sub : Ex F H
  one : ∀ a, t a ≤ 1
  own : ∀ a, 0 < t a → F a = none ∧ ∃ o, H a = some o
structure Step (F H : Hp) (t : Fp) (F' H' : Hp) (t' : Fp) : Prop where
  ex : Ex F F'
  wf : Wf F' H' t'
  fr : ∀ a o, H a = some o → t a = 0 → H' a = some o
  nw : ∀ a, 0 < t' a → 0 < t a ∨ H a = none
  nf : ∀ a o, F' a = some o → F a = some o ∨ 0 < t a ∨ H a = none
section
variable {F F' F'' H H' H'' : Hp} {t t' t'' c : Fp}
theorem Wf.le (h : Wf F H t) (l : ∀ a, t' a ≤ t a) : Wf F H t' := ⟨h.sub, fun a => Nat.le_trans (l a) (h.one a), fun a p => h.own a (Nat.lt_of_lt_of_le p (l a))⟩
theorem Step.refl (h : Wf F H t) : Step F H t F H t := ⟨Ex.refl F, h, fun _ _ e _ => e, fun _ p => .inl p, fun _ _ e => .inl e⟩
theorem Step.trans (a : Step F H t F' H' t') (b : Step F' H' t' F'' H'' t'') : Step F H t F'' H'' t'' := by
  have key : ∀ x, H' x = none → 0 < t x ∨ H x = none := fun x e => by
    rcases Nat.eq_zero_or_pos (t x) with z | z
    · right
      cases q : H x with
      | none => rfl
      | some o => rw [a.fr x o q z] at e; cases e
    · exact .inl z
  refine ⟨a.ex.trans b.ex, b.wf, fun x o e z => ?_, fun x p => ?_, fun x o e => ?_⟩
  · refine b.fr x o (a.fr x o e z) ?_
    rcases Nat.eq_zero_or_pos (t' x) with q | q
    · exact q
    · rcases a.nw x q with r | r
      · omega
      · rw [e] at r; cases r
  · rcases b.nw x p with q | q
    · exact a.nw x q
    · exact key x q
  · rcases b.nf x o e with q | q | q
    · exact a.nf x o q
    · exact .inr (a.nw x q)
    · exact .inr (key x q)
theorem Step.le (a : Step F H t F' H' t') (l : ∀ a, t'' a ≤ t' a) : Step F H t F' H' t'' := ⟨a.ex, a.wf.le l, a.fr, fun x p => a.nw x (Nat.lt_of_lt_of_le p (l x)), a.nf⟩
/-- what waits is kept -/
theorem Step.kept (a : Step F H t F' H' t') (w : Wf F H (fa t c)) : ∀ x, 0 < c x → H' x = H x := fun x p => by
  have h1 := w.one x
  rw [fa_at] at h1
  obtain ⟨_, o, e⟩ := w.own x (by rw [fa_at]; omega)
  rw [e]
  exact a.fr x o e (by omega)
theorem Step.frame (a : Step F H t F' H' t') (w : Wf F H (fa t c)) : Step F H (fa t c) F' H' (fa t' c) := by
  have cz : ∀ x, 0 < c x → t x = 0 ∧ t' x = 0 ∧ F' x = none := fun x p => by
    have h1 := w.one x
    rw [fa_at] at h1
    obtain ⟨fn, o, e⟩ := w.own x (by rw [fa_at]; omega)
    have z : t x = 0 := by omega
    refine ⟨z, ?_, ?_⟩
    · rcases Nat.eq_zero_or_pos (t' x) with q | q
      · exact q
      · rcases a.nw x q with r | r
        · omega
        · rw [e] at r; cases r
    · cases q : F' x with
      | none => rfl
      | some u =>
        rcases a.nf x u q with r | r | r
        · rw [fn] at r; cases r
        · omega
        · rw [e] at r; cases r
  refine ⟨a.ex, ⟨a.wf.sub, fun x => ?_, fun x p => ?_⟩, fun x o e z => a.fr x o e (by rw [fa_at] at z; omega), fun x p => ?_, fun x o e => ?_⟩
  · rw [fa_at]
    rcases Nat.eq_zero_or_pos (c x) with q | q
    · have := a.wf.one x; omega
    · obtain ⟨_, h2, _⟩ := cz x q
      have := w.one x
      rw [fa_at] at this
      omega
  · rw [fa_at] at p
    rcases Nat.eq_zero_or_pos (c x) with q | q
    · exact a.wf.own x (by omega)
    · refine ⟨(cz x q).2.2, ?_⟩
      obtain ⟨_, o, e⟩ := w.own x (by rw [fa_at]; omega)
      exact ⟨o, by rw [a.kept w x q, e]⟩
  · rw [fa_at] at p ⊢
    rcases Nat.eq_zero_or_pos (c x) with q | q
    · rcases a.nw x (by omega) with r | r
      · exact .inl (by omega)
      · exact .inr r
    · exact .inl (by omega)
  · rcases a.nf x o e with q | q | q
    · exact .inl q
    · exact .inr (.inl (by rw [fa_at]; omega))
    · exact .inr (.inr q)
/-- a new object that one owns -/
theorem Step.new {p : Addr} {o : HO} (w : Wf F H t) (hp : H p = none) : Step F H t F (upd H p o) (fa (f1 p) t) := by
  have tp : t p = 0 := by
    rcases Nat.eq_zero_or_pos (t p) with q | q
    · exact q
    · obtain ⟨_, u, e⟩ := w.own p q
      rw [hp] at e; cases e
  have fp : F p = none := by
    cases q : F p with
    | none => rfl
    | some u => rw [w.sub p u q] at hp; cases hp
  refine ⟨Ex.refl F, ⟨w.sub.trans (Ex.new hp), fun a => ?_, fun a z => ?_⟩, fun a u e _ => Ex.new hp a u e, fun a z => ?_, fun _ _ e => .inl e⟩
  · rw [fa_at]
    by_cases e : a = p
    · subst e; rw [f1_self]; omega
    · rw [f1_ne e]; have := w.one a; omega
  · by_cases e : a = p
    · subst e; exact ⟨fp, o, upd_same⟩
    · rw [fa_at, f1_ne e] at z
      obtain ⟨h1, u, h2⟩ := w.own a (by omega)
      exact ⟨h1, u, by rw [upd_ne e]; exact h2⟩
  · by_cases e : a = p
    · subst e; exact .inr hp
    · rw [fa_at, f1_ne e] at z
      exact .inl (by omega)
/-- a new object that never changes -/
theorem Step.newF {p : Addr} {o : HO} (w : Wf F H t) (hp : H p = none) : Step F H t (upd F p o) (upd H p o) t := by
  have fp : F p = none := by
    cases q : F p with
    | none => rfl
    | some u => rw [w.sub p u q] at hp; cases hp
  have tp : ∀ a, 0 < t a → a ≠ p := fun a z e => by
    subst e
    obtain ⟨_, u, e⟩ := w.own a z
    rw [hp] at e; cases e
  refine ⟨Ex.new fp, ⟨fun a u e => ?_, w.one, fun a z => ?_⟩, fun a u e _ => Ex.new hp a u e, fun a z => .inl z, fun a u e => ?_⟩
  · by_cases q : a = p
    · subst q; rw [upd_same] at e ⊢; exact e
    · rw [upd_ne q] at e ⊢; exact w.sub a u e
  · obtain ⟨h1, u, h2⟩ := w.own a z
    exact ⟨by rw [upd_ne (tp a z)]; exact h1, u, by rw [upd_ne (tp a z)]; exact h2⟩
  · by_cases q : a = p
    · subst q; exact .inr (.inr hp)
    · rw [upd_ne q] at e; exact .inl e
/-- an owned object changes -/
theorem Step.write {p : Addr} {o : HO} (w : Wf F H t) (hp : 0 < t p) : Step F H t F (upd H p o) t := by
  obtain ⟨fp, _⟩ := w.own p hp
  refine ⟨Ex.refl F, ⟨fun a u e => ?_, w.one, fun a z => ?_⟩, fun a u e z => ?_, fun a z => .inl z, fun _ _ e => .inl e⟩
  · have : a ≠ p := fun q => by subst q; rw [fp] at e; cases e
    rw [upd_ne this]; exact w.sub a u e
  · obtain ⟨h1, u, h2⟩ := w.own a z
    refine ⟨h1, ?_⟩
    by_cases q : a = p
    · subst q; exact ⟨o, upd_same⟩
    · exact ⟨u, by rw [upd_ne q]; exact h2⟩
  · have : a ≠ p := fun q => by subst q; omega
    rw [upd_ne this]; exact e
/-- what is owned is frozen: f goes from the owned to what never changes -/
theorem Step.freeze {f : Fp} (w : Wf F H (fa f t)) : Step F H (fa f t) (fun a => if 0 < f a then H a else F a) H t := by
  have ex : Ex F (fun a => if 0 < f a then H a else F a) := fun a o e => by
    show (if 0 < f a then H a else F a) = some o
    split
    · exact w.sub a o e
    · exact e
  refine ⟨ex, ⟨fun a o e => ?_, fun a => ?_, fun a z => ?_⟩, fun _ _ e _ => e, fun a z => .inl (by rw [fa_at]; omega), fun a o e => ?_⟩
  · have e : (if 0 < f a then H a else F a) = some o := e
    split at e
    · exact e
    · exact w.sub a o e
  · have := w.one a
    rw [fa_at] at this
    omega
  · have h1 := w.one a
    rw [fa_at] at h1
    obtain ⟨h2, h3⟩ := w.own a (by rw [fa_at]; omega)
    refine ⟨?_, h3⟩
    show (if 0 < f a then H a else F a) = none
    rw [if_neg (by omega)]
    exact h2
  · have e : (if 0 < f a then H a else F a) = some o := e
    split at e
    · exact .inr (.inl (by rw [fa_at]; omega))
    · exact .inl e
end
end Z

set_option Elab.async false
set_option linter.all false
set_option maxRecDepth 100000
set_option maxHeartbeats 2000000
/-! Z2: what is done with values; readings over environments. -/
namespace Z
open PySem L2 Evl

/-! ### views -/
def vals : List M → Option (List PyData)
  | [] => some []
  | .val d :: r => (vals r).map fun ds => d :: ds
  | .lst _ :: _ => none
  | .tup _ :: _ => none
  | .dct _ _ :: _ => none
  | .ins _ _ :: _ => none
  | .fz _ :: _ => none
/-- a value as data, its list (one's own, of data) at most -/
def sd : M → Option PyData
  | .val d => some d
  | .lst ms => (vals ms).map .list
  | .tup _ => none
  | .dct _ _ => none
  | .ins _ _ => none
  | .fz _ => none
mutual
/-- a value as data, lists in lists too -/
def deep : M → Option PyData
  | .val d => some d
  | .lst ms => (deeps ms).map .list
  | .tup ms => (deeps ms).map .tuple
  | .dct _ _ => none
  | .ins _ _ => none
  | .fz m => deep m
def deeps : List M → Option (List PyData)
  | [] => some []
  | m :: ms => (deep m).bind fun d => (deeps ms).map fun ds => d :: ds
end
/-- frozen -/
def frz (m : M) : M := match deep m with
  | some d => .val d
  | none => .fz m
def isP : M → Bool
  | .val _ => true
  | .fz _ => true
  | _ => false
theorem vals_map : ∀ ds : List PyData, vals (ds.map M.val) = some ds
  | [] => rfl
  | d :: ds => by simp [vals, vals_map ds]
theorem vals_eq : ∀ {ms : List M} {ds : List PyData}, vals ms = some ds → ms = ds.map M.val
  | [], ds, h => by simp [vals] at h; subst h; rfl
  | .val d :: r, ds, h => by
    simp only [vals, Option.map_eq_some_iff] at h
    obtain ⟨es, h1, rfl⟩ := h
    rw [vals_eq h1]; rfl
  | .lst _ :: _, ds, h => by simp [vals] at h
  | .tup _ :: _, ds, h => by simp [vals] at h
  | .dct _ _ :: _, ds, h => by simp [vals] at h
  | .ins _ _ :: _, ds, h => by simp [vals] at h
  | .fz _ :: _, ds, h => by simp [vals] at h

section
variable {K : PySem.W.Frag} {F : Hp}
theorem dp_length : ∀ {ds : List PyData} {vs : List V}, DpAll K F vs ds → vs.length = ds.length
  | [], _, h => by cases h; rfl
  | d :: ds, _, h => by
    cases h with
    | cons _ h2 => simp [dp_length h2]
theorem dp_get : ∀ {ds : List PyData} {vs : List V}, DpAll K F vs ds → ∀ {i : Nat} {d : PyData}, ds[i]? = some d → ∃ v, vs[i]? = some v ∧ Dp K F v d
  | [], _, h, i, d, e => by simp at e
  | x :: ds, _, h, i, d, e => by
    cases h with
    | cons h1 h2 =>
      cases i with
      | zero =>
        have : x = d := by simpa using e
        subst this
        exact ⟨_, rfl, h1⟩
      | succ i =>
        obtain ⟨v, e1, e2⟩ := dp_get h2 (i := i) (d := d) (by simpa using e)
        exact ⟨v, by simpa using e1, e2⟩
theorem dp_append : ∀ {ds es : List PyData} {vs us : List V}, DpAll K F vs ds → DpAll K F us es → DpAll K F (vs ++ us) (ds ++ es)
  | [], _, _, _, h, h' => by cases h; exact h'
  | d :: ds, _, _, _, h, h' => by
    cases h with
    | cons h1 h2 => exact .cons h1 (dp_append h2 h')
theorem dp_take : ∀ {ds : List PyData} {vs : List V} (n : Nat), DpAll K F vs ds → DpAll K F (vs.take n) (ds.take n)
  | _, _, 0, _ => .nil
  | [], _, n + 1, h => by cases h; exact .nil
  | d :: ds, _, n + 1, h => by
    cases h with
    | cons h1 h2 => exact .cons h1 (dp_take n h2)
theorem dp_drop : ∀ {ds : List PyData} {vs : List V} (n : Nat), DpAll K F vs ds → DpAll K F (vs.drop n) (ds.drop n)
  | _, _, 0, h => h
  | [], _, n + 1, h => by cases h; exact .nil
  | d :: ds, _, n + 1, h => by
    cases h with
    | cons h1 h2 => exact dp_drop n h2
theorem dp_reverse : ∀ {ds : List PyData} {vs : List V}, DpAll K F vs ds → DpAll K F vs.reverse ds.reverse
  | [], _, h => by cases h; exact .nil
  | d :: ds, _, h => by
    cases h with
    | cons h1 h2 => rw [List.reverse_cons, List.reverse_cons]; exact dp_append (dp_reverse h2) (.cons h1 .nil)
theorem dp_nil {ds : List PyData} (h : DpAll K F [] ds) : ds = [] := by cases h; rfl
end
section
variable {C : Ct} {F F' H H' : Hp}
/-- data never stand on what is one's own -/
theorem reps_vals : ∀ {ds : List PyData} {vs : List V} {f : Fp}, MReps C F H vs (ds.map M.val) f → DpAll C.K F vs ds ∧ f = f0
  | [], _, _, h => by cases h; exact ⟨.nil, rfl⟩
  | d :: ds, _, _, h => by
    cases h with
    | cons h1 h2 =>
      cases h1 with
      | val h1 =>
        obtain ⟨e1, e2⟩ := reps_vals h2
        subst e2
        exact ⟨.cons h1 e1, rfl⟩
theorem vals_reps : ∀ {ds : List PyData} {vs : List V}, DpAll C.K F vs ds → MReps C F H vs (ds.map M.val) f0
  | [], _, h => by cases h; exact .nil
  | d :: ds, _, h => by
    cases h with
    | cons h1 h2 => exact MReps.cons (f := f0) (g := f0) (.val h1) (vals_reps h2)
theorem reps_length : ∀ {ms : List M} {vs : List V} {f : Fp}, MReps C F H vs ms f → vs.length = ms.length
  | [], _, _, h => by cases h; rfl
  | m :: ms, _, _, h => by
    cases h with
    | cons _ h2 => simp [reps_length h2]
theorem reps_append : ∀ {ms ns : List M} {vs us : List V} {f g : Fp}, MReps C F H vs ms f → MReps C F H us ns g → MReps C F H (vs ++ us) (ms ++ ns) (fa f g)
  | [], _, _, _, _, _, h, h' => by cases h; rw [fa0l]; exact h'
  | m :: ms, _, _, _, _, _, h, h' => by
    cases h with
    | cons h1 h2 => rw [fa_assoc]; exact .cons h1 (reps_append h2 h')
/-- one item of a list taken out, something else put in its place -/
theorem reps_split : ∀ {ms : List M} {vs : List V} {f : Fp}, MReps C F H vs ms f → ∀ {i : Nat} {m : M}, ms[i]? = some m → ∃ v g h, vs[i]? = some v ∧ MRep C F H v m g ∧ f = fa g h ∧
    ∀ F' H' m' g', Ex F F' → (∀ a, 0 < h a → H' a = H a) → MRep C F' H' v m' g' → MReps C F' H' vs (ms.set i m') (fa g' h)
  | [], _, _, h, i, m, e => by simp at e
  | x :: ms, _, _, h, i, m, e => by
    cases h with
    | @cons _ v vs _ _ f g h1 h2 =>
      cases i with
      | zero =>
        have : x = m := by simpa using e
        subst this
        exact ⟨v, f, g, rfl, h1, rfl, fun F' H' m' g' ex k r => .cons r (h2.mono ex _ _ _ k)⟩
      | succ i =>
        obtain ⟨u, g1, h', e1, e2, e3, e4⟩ := reps_split h2 (i := i) (m := m) (by simpa using e)
        refine ⟨u, g1, fa f h', by simpa using e1, e2, ?_, fun F' H' m' g' ex k r => ?_⟩
        · rw [e3, ← fa_assoc, ← fa_assoc, fa_comm f g1]
        · have := MReps.cons (h1.mono ex _ _ _ fun a p => k a (by rw [fa_at]; omega)) (e4 F' H' m' g' ex (fun a p => k a (by rw [fa_at]; omega)) r)
          rw [← fa_assoc, fa_comm f g', fa_assoc] at this
          simpa using this

mutual
theorem deep_dp : ∀ (m : M) (v : V) (f : Fp) (d : PyData), MRep C F F v m f → deep m = some d → Dp C.K F v d
  | .val d', _, _, d, h, e => by
    cases h with
    | val h =>
      simp only [deep, Option.some.injEq] at e
      subst e; exact h
  | .lst ms, _, _, d, h, e => by
    cases h with
    | lst h1 h2 =>
      simp only [deep, Option.map_eq_some_iff] at e
      obtain ⟨ds, e1, rfl⟩ := e
      exact .lst (SqL.of h1) (deeps_dp ms _ _ ds h2 e1)
  | .tup ms, _, _, d, h, e => by
    cases h with
    | tup h1 h2 =>
      simp only [deep, Option.map_eq_some_iff] at e
      obtain ⟨ds, e1, rfl⟩ := e
      exact .tup (SqT.of h1) (deeps_dp ms _ _ ds h2 e1)
  | .dct _ _, _, _, d, h, e => by simp [deep] at e
  | .ins _ _, _, _, d, h, e => by simp [deep] at e
  | .fz m, _, _, d, h, e => by
    cases h with
    | fz h =>
      simp only [deep] at e
      exact deep_dp m _ _ d h e
theorem deeps_dp : ∀ (ms : List M) (vs : List V) (f : Fp) (ds : List PyData), MReps C F F vs ms f → deeps ms = some ds → DpAll C.K F vs ds
  | [], _, _, ds, h, e => by
    cases h
    simp only [deeps, Option.some.injEq] at e
    subst e; exact .nil
  | m :: ms, _, _, ds, h, e => by
    cases h with
    | cons h1 h2 =>
      simp only [deeps, Option.bind_eq_some_iff, Option.map_eq_some_iff] at e
      obtain ⟨d, e1, es, e2, rfl⟩ := e
      exact .cons (deep_dp m _ _ d h1 e1) (deeps_dp ms _ _ es h2 e2)
end
def frF (F H : Hp) (f : Fp) : Hp := fun a => if 0 < f a then H a else F a
theorem frF_ex {f : Fp} (s : Ex F H) : Ex F (frF F H f) := fun a o e => by
  show (if 0 < f a then H a else F a) = some o
  split
  · exact s a o e
  · exact e
theorem frz_rep {v : V} {m : M} {f : Fp} (s : Ex F H) (r : MRep C F H v m f) : MRep C (frF F H f) H v (frz m) f0 := by
  have r' : MRep C (frF F H f) (frF F H f) v m f := r.mono (frF_ex s) _ _ _ fun a p => by
    show (if 0 < f a then H a else F a) = H a
    rw [if_pos p]
  unfold frz
  split
  · rename_i d e
    exact .val (deep_dp m _ _ _ r' e)
  · exact .fz r'
theorem frz_p (m : M) : isP (frz m) = true := by
  unfold frz
  split <;> rfl
theorem rep_p {v : V} {m : M} {f : Fp} (p : isP m = true) (r : MRep C F H v m f) : f = f0 ∧ MRep C F H v m f0 := by
  cases m with
  | val d => cases r with | val r => exact ⟨rfl, .val r⟩
  | fz m => cases r with | fz r => exact ⟨rfl, .fz r⟩
  | lst _ => cases p
  | tup _ => cases p
  | dct _ _ => cases p
  | ins _ _ => cases p
theorem rep_pEx {v : V} {m : M} (p : isP m = true) (r : MRep C F H v m f0) (e : Ex F F') : MRep C F' H' v m f0 := by
  cases m with
  | val d => cases r with | val r => exact .val (Dp.ex e _ _ r)
  | fz m => cases r with
    | fz r => exact .fz (r.mono e _ _ _ fun a p => by
        obtain ⟨o, ho⟩ := r.dom _ _ _ a p
        rw [ho]; exact e a o ho)
  | lst _ => cases p
  | tup _ => cases p
  | dct _ _ => cases p
  | ins _ _ => cases p
end

/-- v is the data d; a list at most stands where it may change -/
inductive Sh (C : Ct) (F H : Hp) : V → PyData → Prop
  | p {v d} : Dp C.K F v d → Sh C F H v d
  | l {a vs ds} : H a = some (.lst vs) → DpAll C.K F vs ds → Sh C F H (.ref a) (.list ds)
theorem Sh.dp {C : Ct} {F H : Hp} {v : V} {d : PyData} (s : Ex F H) (h : Sh C F H v d) : Dp C.K H v d := by
  cases h with
  | p h => exact Dp.ex s _ _ h
  | l h1 h2 => exact .lst (SqL.of h1) (DpAll.ex s _ _ h2)
theorem Sh.ex {C : Ct} {F H F' H' : Hp} {v : V} {d : PyData} (e : Ex F F') (k : Ex H H') (h : Sh C F H v d) : Sh C F' H' v d := by
  cases h with
  | p h => exact .p (Dp.ex e _ _ h)
  | l h1 h2 => exact .l (k _ _ h1) (DpAll.ex e _ _ h2)
theorem sd_sh {C : Ct} {F H : Hp} {v : V} {m : M} {f : Fp} {d : PyData} (r : MRep C F H v m f) (e : sd m = some d) : Sh C F H v d := by
  cases m with
  | val d' =>
    cases r with
    | val r =>
      simp only [sd, Option.some.injEq] at e
      subst e; exact .p r
  | lst ms =>
    cases r with
    | lst h1 h2 =>
      simp only [sd, Option.map_eq_some_iff] at e
      obtain ⟨ds, e1, rfl⟩ := e
      obtain rfl := vals_eq e1
      exact .l h1 (reps_vals h2).1
  | tup _ => simp [sd] at e
  | dct _ _ => simp [sd] at e
  | ins _ _ => simp [sd] at e
  | fz _ => simp [sd] at e
/-- a sequence's items, and that they never change -/
theorem Sh.list {C : Ct} {F H : Hp} {v : V} {ds : List PyData} (s : Ex F H) (h : Sh C F H v (.list ds)) : ∃ a vs, v = .ref a ∧ SqL C.K H a vs ∧ DpAll C.K F vs ds := by
  cases h with
  | p h => cases h with | lst h1 h2 => exact ⟨_, _, rfl, ex_l s h1, h2⟩
  | l h1 h2 => exact ⟨_, _, rfl, SqL.of h1, h2⟩
theorem Sh.tup {C : Ct} {F H : Hp} {v : V} {ds : List PyData} (s : Ex F H) (h : Sh C F H v (.tuple ds)) : ∃ a vs, v = .ref a ∧ SqT C.K H a vs ∧ DpAll C.K F vs ds := by
  cases h with
  | p h => cases h with | tup h1 h2 => exact ⟨_, _, rfl, ex_t s h1, h2⟩

/-! ### readings over environments -/
abbrev EvE := Env → Option (M × Env)
abbrev EvO := Env → Option (PyData × Bool × Env)
abbrev EvA := Env → Option (List M × Env)
abbrev EvB := Env → Option (Bool × Env)
/-- what is known behind an evaluation from (F, H, t, ρ) to ρ' -/
structure Aft (C : Ct) (pu : Bool) (σ : L2.St) (F H : Hp) (t : Fp) (ρ : Env) (F' H' : Hp) (t' g : Fp) (ρ' : Env) : Prop where
  st : Step F H t F' H' (fa t' g)
  en : EnvR C F' H' σ ρ' t'
  pu : pu = true → Ex H H' ∧ ρ' = ρ ∧ t' = t
def tE (C : Ct) (pu : Bool) (A : EvE) : TE := fun σ H Q => ∃ F ρ t m ρ', Wf F H t ∧ EnvR C F H σ ρ t ∧ A ρ = some (m, ρ') ∧
  ∀ F' H' v g t', Aft C pu σ F H t ρ F' H' t' g ρ' → MRep C F' H' v m g → Q v H'
def tO (C : Ct) (pu : Bool) (A : EvO) : TE := fun σ H Q => ∃ F ρ t d p ρ', Wf F H t ∧ EnvR C F H σ ρ t ∧ A ρ = some (d, p, ρ') ∧
  ∀ F' H' v t', Aft C pu σ F H t ρ F' H' t' f0 ρ' → Sh C F' H' v d → (p = true → Dp C.K F' v d) → Q v H'
def tAs (C : Ct) (pu : Bool) (A : EvA) : TA := fun σ H Q => ∃ F ρ t ms ρ', Wf F H t ∧ EnvR C F H σ ρ t ∧ A ρ = some (ms, ρ') ∧
  ∀ F' H' vs g t', Aft C pu σ F H t ρ F' H' t' g ρ' → MReps C F' H' vs ms g → Q vs H'
def tBo (C : Ct) (pu : Bool) (A : EvB) : TT := fun σ H Q => ∃ F ρ t b ρ', Wf F H t ∧ EnvR C F H σ ρ t ∧ A ρ = some (b, ρ') ∧
  ∀ F' H' t', Aft C pu σ F H t ρ F' H' t' f0 ρ' → Q b H'
abbrev PZ (C : Ct) (X : Cx) (e : Expr) (pu : Bool) (A : EvE) : Prop := PE X e (tE C pu A)
abbrev PZo (C : Ct) (X : Cx) (e : Expr) (pu : Bool) (A : EvO) : Prop := PE X e (tO C pu A)
abbrev PZa (C : Ct) (X : Cx) (e : List Expr) (pu : Bool) (A : EvA) : Prop := PA X e (tAs C pu A)
abbrev PZt (C : Ct) (X : Cx) (e : Expr) (pu : Bool) (A : EvB) : Prop := PT X e (tBo C pu A)
theorem PE.imp {X : Cx} {e : Expr} {t t' : TE} (h : PE X e t) (k : ∀ σ H Q, t' σ H Q → t σ H Q) : PE X e t' := ⟨fun pins s σ H Q I q => h.run pins s σ H Q I (k σ H Q q)⟩
theorem PT.imp {X : Cx} {e : Expr} {t t' : TT} (h : PT X e t) (k : ∀ σ H Q, t' σ H Q → t σ H Q) : PT X e t' := ⟨fun pins s σ H Q I q => h.run pins s σ H Q I (k σ H Q q)⟩
theorem PA.imp {X : Cx} {e : List Expr} {t t' : TA} (h : PA X e t) (k : ∀ σ H Q, t' σ H Q → t σ H Q) : PA X e t' := ⟨fun pos pins s σ H Q I q => h.run pos pins s σ H Q I (k σ H Q q)⟩
theorem PS.imp {X : Cx} {e : Stmt} {t t' : TS} (h : PS X e t) (k : ∀ D σ H, t' D σ H → t D σ H) : PS X e t' := ⟨fun pins s σ H D I q => h.run pins s σ H D I (k D σ H q)⟩
theorem PSs.imp {X : Cx} {e : List Stmt} {t t' : TS} (h : PSs X e t) (k : ∀ D σ H, t' D σ H → t D σ H) : PSs X e t' := ⟨fun pins s σ H D I q => h.run pins s σ H D I (k D σ H q)⟩

section
variable {C : Ct} {pu pu' : Bool} {σ : L2.St} {F F' F'' H H' H'' : Hp} {t t' t'' g g' : Fp} {ρ ρ' ρ'' : Env}
theorem Aft.refl (w : Wf F H t) (e : EnvR C F H σ ρ t) : Aft C pu σ F H t ρ F H t f0 ρ := ⟨Step.refl w, e, fun _ => ⟨Ex.refl H, rfl, rfl⟩⟩
/-- one behind the other, what the first gave waits -/
theorem Aft.trans (a : Aft C pu σ F H t ρ F' H' t' g ρ') (b : Aft C pu' σ F' H' t' ρ' F'' H'' t'' g' ρ'') : Aft C (pu && pu') σ F H t ρ F'' H'' t'' (fa g g') ρ'' := by
  refine ⟨?_, b.en, fun e => ?_⟩
  · have := a.st.trans (b.st.frame (c := g) a.st.wf)
    rw [fa_assoc, fa_comm g' g] at this
    exact this
  · rw [Bool.and_eq_true] at e
    obtain ⟨h1, h2, h5⟩ := a.pu e.1
    obtain ⟨h3, h4, h6⟩ := b.pu e.2
    exact ⟨h1.trans h3, h4.trans h2, h6.trans h5⟩
theorem Aft.kept (a : Aft C pu σ F H t ρ F' H' t' g ρ') (b : Aft C pu' σ F' H' t' ρ' F'' H'' t'' g' ρ'') : ∀ x, 0 < g x → H'' x = H' x := b.st.kept a.st.wf
theorem Aft.wf (a : Aft C pu σ F H t ρ F' H' t' g ρ') : Wf F' H' t' := a.st.wf.le fun x => by rw [fa_at]; omega
theorem Aft.weak (a : Aft C pu σ F H t ρ F' H' t' g ρ') (l : pu' = true → pu = true) : Aft C pu' σ F H t ρ F' H' t' g ρ' := ⟨a.st, a.en, fun e => a.pu (l e)⟩
theorem Aft.drop (a : Aft C pu σ F H t ρ F' H' t' g ρ') : Aft C pu σ F H t ρ F' H' t' f0 ρ' := ⟨a.st.le fun x => by rw [fa_at, fa_at, f0_at]; omega, a.en, a.pu⟩
/-- what was given is frozen -/
theorem Aft.freeze {v : V} {m : M} (a : Aft C pu σ F H t ρ F' H' t' g ρ') (r : MRep C F' H' v m g) : ∃ F'', Aft C pu σ F H t ρ F'' H' t' f0 ρ' ∧ MRep C F'' H' v (frz m) f0 ∧ Ex F' F'' := by
  have w : Wf F' H' (fa g t') := by rw [fa_comm]; exact a.st.wf
  have s : Step F' H' (fa g t') (frF F' H' g) H' t' := Step.freeze w
  refine ⟨frF F' H' g, ⟨?_, ?_, a.pu⟩, frz_rep w.sub r, s.ex⟩
  · have := a.st.trans (by rw [fa_comm]; exact s)
    exact this
  · exact a.en.mono s.ex fun _ _ => rfl
end

/-! ### operands -/
/-- what is given, as data; p: it never changes -/
def oF (A : EvE) : EvO := fun ρ => (A ρ).bind fun (m, ρ') => (deep m).map fun d => (d, true, ρ')
theorem pz_o {C : Ct} {X : Cx} {e : Expr} {pu : Bool} {A : EvE} (h : PZ C X e pu A) : PZo C X e pu (oF A) := by
  refine PE.imp h fun σ H Q hq => ?_
  obtain ⟨F, ρ, t, d, p, ρ', w, en, e, k⟩ := hq
  simp only [oF, Option.bind_eq_some_iff, Option.map_eq_some_iff] at e
  obtain ⟨⟨m, ρ1⟩, e1, d', e2, e3⟩ := e
  simp only [Prod.mk.injEq] at e3
  obtain ⟨rfl, rfl, rfl⟩ := e3
  refine ⟨F, ρ, t, m, ρ1, w, en, e1, fun F' H' v g t' a r => ?_⟩
  obtain ⟨F'', a', r', _⟩ := a.freeze r
  have hd : Dp C.K F'' v d' := by
    unfold frz at r'
    rw [e2] at r'
    cases r' with | val r => exact r
  exact k F'' H' v t' a' (.p hd) fun _ => hd
end Z

set_option Elab.async false
set_option linter.all false
set_option maxRecDepth 100000
set_option maxHeartbeats 2000000
/-! Z3: operators on data. -/
namespace Z
open PySem L2 Evl PyProof.Rows

abbrev cOf (X : Cx) (ct : Str → Option Addr) : Ct := ⟨X.prog, X.w, X.K, ct⟩

inductive Bop where
  | add | sub | mul | mod | fdiv | pow
def Bop.op : Bop → Operator
  | .add => .Add
  | .sub => .Sub
  | .mul => .Mult
  | .mod => .Mod
  | .fdiv => .FloorDiv
  | .pow => .Pow
def ck (b : Prop) [Decidable b] (m : M) : Option M := if b then some m else none
theorem ck_eq {b : Prop} [Decidable b] {m m' : M} (h : ck b m = some m') : b ∧ m = m' := by
  unfold ck at h
  split at h
  · exact ⟨by assumption, Option.some.inj h⟩
  · cases h
def mulOk (i j : Int) : Bool := decide (i.natAbs.log2 + j.natAbs.log2 < 1000000) || decide (-(2 ^ 64) < i ∧ i < 2 ^ 64) || decide (-(2 ^ 64) < j ∧ j < 2 ^ 64)
def binM : Bop → PyData → PyData → Option M
  | .add, .int i, .int j => some (.val (.int (i + j)))
  | .add, .str x, .str y => ck (x.length + y.length ≤ sizeLine) (.val (.str (x ++ y)))
  | .add, .tuple xs, .tuple ys => ck (xs.length + ys.length ≤ sizeLine) (.val (.tuple (xs ++ ys)))
  | .add, .list xs, .list ys => ck (xs.length + ys.length ≤ sizeLine) (.lst ((xs ++ ys).map .val))
  | .sub, .int i, .int j => some (.val (.int (i - j)))
  | .mul, .int i, .int j => ck (mulOk i j = true) (.val (.int (i * j)))
  | .mod, .int i, .int j => ck (0 < j) (.val (.int (i % j)))
  | .fdiv, .int i, .int j => ck (0 < j ∧ j.natAbs.log2 < 9000) (.val (.int (i / j)))
  | .pow, .int i, .int j => ck (0 ≤ j ∧ j ≤ 1000000 ∧ i.natAbs < 2 ^ 64) (.val (.int (i ^ j.toNat)))
  | _, _, _ => none

def rBin (C : Ct) (o : Bop) : R2 := fun x y H Q => ∃ F t d e m, Wf F H t ∧ Sh C F H x d ∧ Sh C F H y e ∧ binM o d e = some m ∧
  ∀ F' H' v g, Step F H t F' H' (fa t g) → Ex H H' → MRep C F' H' v m g → Q v H'

section
variable {X : Cx} {ct : Str → Option Addr} {F H : Hp} {t : Fp} {v : V}
theorem sh_int {C : Ct} {i : Int} (h : Sh C F H v (.int i)) : v = .int i := by
  cases h with | p h => cases h; rfl
theorem sh_str {C : Ct} {i : Str} (h : Sh C F H v (.str i)) : v = .str i := by
  cases h with | p h => cases h; rfl
theorem sh_bl {C : Ct} {i : Bool} (h : Sh C F H v (.bool i)) : v = .bl i := by
  cases h with | p h => cases h; rfl
theorem sh_non {C : Ct} (h : Sh C F H v .none) : v = .non := by
  cases h with | p h => cases h; rfl
/-- a scalar result -/
theorem q_val {C : Ct} {Q : VK} {u : V} {d : PyData} (w : Wf F H t) (h : Dp C.K F u d) (q : ∀ F' H' v g, Step F H t F' H' (fa t g) → Ex H H' → MRep C F' H' v (.val d) g → Q v H') : Q u H :=
  q F H u f0 (Step.refl w) (Ex.refl H) (.val h)
/-- a new tuple of data -/
theorem q_tup {C : Ct} {Q : VK} {p : Addr} {us : List V} {ds : List PyData} (w : Wf F H t) (hp : H p = none) (h : DpAll C.K F us ds) (q : ∀ F' H' v g, Step F H t F' H' (fa t g) → Ex H H' → MRep C F' H' v (.val (.tuple ds)) g → Q v H') : Q (.ref p) (upd H p (.tup us)) := by
  have s := Step.newF (o := .tup us) w hp
  refine q _ _ _ f0 s (Ex.new hp) (.val (.tup (SqT.of upd_same) (DpAll.ex s.ex _ _ h)))
/-- a new list of data -/
theorem q_lst {C : Ct} {Q : VK} {p : Addr} {us : List V} {ds : List PyData} (w : Wf F H t) (hp : H p = none) (h : DpAll C.K F us ds) (q : ∀ F' H' v g, Step F H t F' H' (fa t g) → Ex H H' → MRep C F' H' v (.lst (ds.map .val)) g → Q v H') : Q (.ref p) (upd H p (.lst us)) := by
  have s := Step.new (o := .lst us) w hp
  rw [fa_comm] at s
  exact q _ _ _ (f1 p) s (Ex.new hp) (.lst (f := f0) upd_same (vals_reps h))

/-- list + list, whatever stands there -/
theorem op_catL : OpR X (binaryOp .Add) (fun x y H Q => ∃ l b xs zs, x = .ref l ∧ y = .ref b ∧ SqL X.K H l xs ∧ SqL X.K H b zs ∧ xs.length + zs.length ≤ sizeLine ∧ ∀ p, H p = none → Q (.ref p) (upd H p (.lst (xs ++ zs)))) := by
  intro pins s σ H x y v u Q I rx ry h
  obtain ⟨l, b, xs, zs, rfl, rfl, hH, hB, hz, q⟩ := h
  cases rx
  cases ry
  obtain ⟨its, r, ⟨o, n, e, hc, hd, hs⟩, _⟩ := I.list hH
  obtain ⟨its2, r2, ⟨o2, n2, e2, hc2, hd2, hs2⟩, _⟩ := I.list hB
  obtain ⟨cls, dd, data, sl⟩ := o
  obtain ⟨cls2, dd2, data2, sl2⟩ := o2
  simp only at hc hd hs hc2 hd2 hs2
  subst hc hd hs hc2 hd2 hs2
  have hsz : its.toArray.size + its2.toArray.size ≤ sizeLine := by rw [List.size_toArray, List.size_toArray, ← r.length, ← r2.length]; exact hz
  refine concat_meets ⟨_, e, rfl⟩ ⟨_, e2, rfl⟩ noFill_list_add seq_list_add F.slot_list_add F.entry_list_add (F.args_list_add_2 _ _) (list_addW l b its.toArray its2.toArray n n2 none none sl sl2 hsz) ⟨e, e2, ?_⟩
  have ea : its.toArray ++ its2.toArray = (its ++ its2).toArray := by simp
  rw [ea]
  exact ⟨.ref _, _, I.lnew (t' := s.toks) (r.append r2) (by rw [List.length_append]; omega), rfl, q _ I.fresh⟩
/-- a + b, a - b, a * b, a % b, a // b, a ** b on data -/
theorem op_bin : ∀ o : Bop, OpR X (binaryOp o.op) (rBin (cOf X ct) o) := by
  intro o pins s σ H x y v u Q I rx ry h
  obtain ⟨F, t, d, e, m, w, sx, sy, hm, q⟩ := h
  have sub := w.sub
  have ii : ∀ {i j k : Int}, d = .int i → e = .int j → m = .val (.int k) → Q (.int k) H := fun {i j k} _ _ em => by
    subst em
    exact q_val (C := cOf X ct) w (.int _) q
  cases o <;> cases d <;> cases e <;> simp only [binM] at hm <;> first | (cases hm; done) | skip
  -- add
  · rename_i i j
    cases hm
    exact op_add pins s σ H x y v u Q I rx ry ⟨i, j, sh_int sx, sh_int sy, ii rfl rfl rfl⟩
  · rename_i i j
    obtain ⟨hz, rfl⟩ := ck_eq hm
    exact op_add_str pins s σ H x y v u Q I rx ry ⟨i, j, sh_str sx, sh_str sy, hz, q_val (C := cOf X ct) w (.str _) q⟩
  · rename_i ds es
    obtain ⟨hz, rfl⟩ := ck_eq hm
    obtain ⟨a, us, rfl, h1, h2⟩ := sx.list sub
    obtain ⟨b, ws, rfl, h3, h4⟩ := sy.list sub
    exact op_catL pins s σ H _ _ v u Q I rx ry ⟨a, b, us, ws, rfl, rfl, h1, h3, by rw [dp_length h2, dp_length h4]; exact hz, fun p hp => q_lst (C := cOf X ct) w hp (dp_append h2 h4) q⟩
  · rename_i ds es
    obtain ⟨hz, rfl⟩ := ck_eq hm
    obtain ⟨a, us, e1, h1, h2⟩ := sx.tup sub
    obtain ⟨b, ws, e2, h3, h4⟩ := sy.tup sub
    have l1 := dp_length h2
    have l2 := dp_length h4
    refine op_catA pins s σ H _ _ v u Q I rx ry ⟨a, b, us, ws, e1, e2, h1, h3, by rw [l1, l2]; exact hz, fun z => ?_, fun _ z => ?_, fun _ _ p hp => q_tup (C := cOf X ct) w hp (dp_append h2 h4) q⟩
    · subst z
      obtain rfl := dp_nil h2
      rw [← e2]
      cases sy with | p sy => exact q_val (C := cOf X ct) w sy q
    · subst z
      obtain rfl := dp_nil h4
      rw [← e1]
      cases sx with | p sx => exact q_val (C := cOf X ct) w sx (by rw [List.append_nil] at q; exact q)
  -- sub
  · rename_i i j
    cases hm
    exact op_sub pins s σ H x y v u Q I rx ry ⟨i, j, sh_int sx, sh_int sy, ii rfl rfl rfl⟩
  -- mul
  · rename_i i j
    obtain ⟨hz, rfl⟩ := ck_eq hm
    simp only [mulOk, Bool.or_eq_true, decide_eq_true_eq] at hz
    rcases hz with (hz | hz) | hz
    · exact op_mulW pins s σ H x y v u Q I rx ry ⟨i, j, sh_int sx, sh_int sy, hz, ii rfl rfl rfl⟩
    · exact op_mul pins s σ H x y v u Q I rx ry ⟨i, j, sh_int sx, sh_int sy, .inl hz, ii rfl rfl rfl⟩
    · exact op_mul pins s σ H x y v u Q I rx ry ⟨i, j, sh_int sx, sh_int sy, .inr hz, ii rfl rfl rfl⟩
  -- mod
  · rename_i i j
    obtain ⟨hz, rfl⟩ := ck_eq hm
    exact op_mod pins s σ H x y v u Q I rx ry ⟨i, j, sh_int sx, sh_int sy, hz, ii rfl rfl rfl⟩
  -- floor
  · rename_i i j
    obtain ⟨hz, rfl⟩ := ck_eq hm
    exact op_fdivW pins s σ H x y v u Q I rx ry ⟨i, j, sh_int sx, sh_int sy, hz, ii rfl rfl rfl⟩
  -- power
  · rename_i i j
    obtain ⟨hz, rfl⟩ := ck_eq hm
    exact op_pow pins s σ H x y v u Q I rx ry ⟨i, j, sh_int sx, sh_int sy, hz, ii rfl rfl rfl⟩
end
end Z

set_option Elab.async false
set_option linter.all false
set_option maxRecDepth 100000
set_option maxHeartbeats 2000000
/-! Z4: expressions: names, constants, operators, comparisons, tests. -/
namespace Z
open PySem L2 Evl PyProof.Rows

section
variable {C : Ct} {σ : L2.St} {F H : Hp} {t : Fp} {ρ : Env}
/-- two operands -/
theorem o2 {pa pb p p2 : Bool} {A B : EvO} {d e : PyData} {ρ1 ρ2 : Env} {R : V → V → Hp → Prop} (w : Wf F H t) (en : EnvR C F H σ ρ t) (hA : A ρ = some (d, p, ρ1)) (hp : (p || pb) = true) (hB : B ρ1 = some (e, p2, ρ2))
    (k : ∀ F' H' x y t', Aft C (pa && pb) σ F H t ρ F' H' t' f0 ρ2 → Sh C F' H' x d → Sh C F' H' y e → (p = true → Dp C.K F' x d) → (p2 = true → Dp C.K F' y e) → R x y H') : tO C pa A σ H fun x H1 => tO C pb B σ H1 fun y H2 => R x y H2 := by
  refine ⟨F, ρ, t, d, p, ρ1, w, en, hA, fun F1 H1 x t1 a1 s1 p1 => ⟨F1, ρ1, t1, e, p2, ρ2, a1.wf, a1.en, hB, fun F2 H2 y t2 a2 s2 p2' => ?_⟩⟩
  have q1 : p = true → Dp C.K F2 x d := fun z => Dp.ex a2.st.ex _ _ (p1 z)
  refine k F2 H2 x y t2 (a1.trans a2) ?_ s2 q1 p2'
  rw [Bool.or_eq_true] at hp
  rcases hp with z | z
  · exact .p (q1 z)
  · exact s1.ex a2.st.ex (a2.pu z).1
end

section
variable {X : Cx} {ct : Str → Option Addr} {e a b c : Expr} {pos : Pos} {pa pb pc : Bool}

/-! ### names and constants -/
def zC (d : PyData) : EvE := fun ρ => some (.val d, ρ)
theorem pz_c {u : V} {d : PyData} (h : PE X e (tC u)) (hd : ∀ F, Dp X.K F u d) : PZ (cOf X ct) X e true (zC d) := by
  refine PE.imp h fun σ H Q ⟨F, ρ, t, m, ρ', w, en, e, k⟩ => ?_
  cases e
  exact k F H u f0 t ⟨Step.refl w, en, fun _ => ⟨Ex.refl H, rfl, rfl⟩⟩ (.val (hd F))
/-- the slot's value, copied -/
def zVar (i : Nat) : EvE := fun ρ => (ρ[i]?).bind fun o => o.bind fun m => if isP m then some (m, ρ) else none
theorem pz_var {i : Nat} {x : Str} (hN : X.N[i]? = some x) (hv : Vis X.env.scope x) (hd : (x == ("__debug__" : Str)) = false) (hcd : (x == ("__classdict__" : Str)) = false) : PZ (cOf X ct) X (.Name x pos) true (zVar i) := by
  refine PE.imp (pe_var hN hv hd hcd) fun σ H Q ⟨F, ρ, t, m, ρ', w, en, e, k⟩ => ?_
  simp only [zVar, Option.bind_eq_some_iff] at e
  obtain ⟨o, e1, m', e2, e3⟩ := e
  subst e2
  split at e3
  · rename_i hp
    simp only [Option.some.injEq, Prod.mk.injEq] at e3
    obtain ⟨rfl, rfl⟩ := e3
    obtain ⟨v, f, t', h1, h2, h3, h4⟩ := en.get e1
    exact ⟨v, h1, k F H v f0 t ⟨Step.refl w, en, fun _ => ⟨Ex.refl H, rfl, rfl⟩⟩ (rep_p hp h2).2⟩
  · cases e3
/-- .. taken -/
def zMv (i : Nat) : EvE := fun ρ => (ρ[i]?).bind fun o => o.map fun m => (m, ρ.set i none)
theorem pz_mv {i : Nat} {x : Str} (hN : X.N[i]? = some x) (hv : Vis X.env.scope x) (hd : (x == ("__debug__" : Str)) = false) (hcd : (x == ("__classdict__" : Str)) = false) : PZ (cOf X ct) X (.Name x pos) false (zMv i) := by
  refine PE.imp (pe_var hN hv hd hcd) fun σ H Q ⟨F, ρ, t, m, ρ', w, en, e, k⟩ => ?_
  simp only [zMv, Option.bind_eq_some_iff, Option.map_eq_some_iff, Prod.mk.injEq] at e
  obtain ⟨o, e1, m', e2, rfl, rfl⟩ := e
  subst e2
  obtain ⟨v, f, t', h1, h2, h3, h4⟩ := en.get e1
  refine ⟨v, h1, k F H v f t' ⟨?_, h3, fun z => by cases z⟩ h2⟩
  rw [fa_comm, ← h4]
  exact Step.refl w
/-- the slot's value, looked at -/
def zVarO (i : Nat) : EvO := fun ρ => (ρ[i]?).bind fun o => o.bind fun m => (sd m).map fun d => (d, isP m, ρ)
theorem pz_varO {i : Nat} {x : Str} (hN : X.N[i]? = some x) (hv : Vis X.env.scope x) (hd : (x == ("__debug__" : Str)) = false) (hcd : (x == ("__classdict__" : Str)) = false) : PZo (cOf X ct) X (.Name x pos) true (zVarO i) := by
  refine PE.imp (pe_var hN hv hd hcd) fun σ H Q ⟨F, ρ, t, d, p, ρ', w, en, e, k⟩ => ?_
  simp only [zVarO, Option.bind_eq_some_iff, Option.map_eq_some_iff, Prod.mk.injEq] at e
  obtain ⟨o, e1, m, e2, d', e3, rfl, rfl, rfl⟩ := e
  subst e2
  obtain ⟨v, f, t', h1, h2, h3, h4⟩ := en.get e1
  refine ⟨v, h1, k F H v t ⟨Step.refl w, en, fun _ => ⟨Ex.refl H, rfl, rfl⟩⟩ (sd_sh h2 e3) fun z => ?_⟩
  cases m with
  | val d'' =>
    cases h2 with
    | val h2 =>
      simp only [sd, Option.some.injEq] at e3
      subst e3; exact h2
  | fz _ => simp [sd] at e3
  | lst _ => cases z
  | tup _ => cases z
  | dct _ _ => cases z
  | ins _ _ => cases z

/-! ### operators -/
def zBin (o : Bop) (A B : EvO) (pb : Bool) : EvE := fun ρ => (A ρ).bind fun (d, p, ρ1) => if p || pb then (B ρ1).bind fun (e, _, ρ2) => (binM o d e).map fun m => (m, ρ2) else none
theorem pz_bin {o : Bop} {A B : EvO} (ha : PZo (cOf X ct) X a pa A) (hb : PZo (cOf X ct) X b pb B) : PZ (cOf X ct) X (.BinOp a o.op b pos) (pa && pb) (zBin o A B pb) := by
  refine PE.imp (pe_op (op_bin (ct := ct) o) ha hb) fun σ H Q ⟨F, ρ, t, m, ρ', w, en, e, k⟩ => ?_
  simp only [zBin, Option.bind_eq_some_iff] at e
  obtain ⟨⟨d, p, ρ1⟩, e1, e⟩ := e
  dsimp only at e
  split at e
  · rename_i hp
    simp only [Option.bind_eq_some_iff, Option.map_eq_some_iff] at e
    obtain ⟨⟨d2, p2, ρ2⟩, e2, m', e3, e4⟩ := e
    simp only [Prod.mk.injEq] at e4
    obtain ⟨rfl, rfl⟩ := e4
    refine o2 w en e1 hp e2 fun F' H' x y t' af s1 s2 _ _ => ⟨F', t', d, d2, m', af.wf, s1, s2, e3, fun F'' H'' v g st ex r => ?_⟩
    refine k F'' H'' v g t' ⟨?_, ?_, fun z => ?_⟩ r
    · have s0 := af.st
      rw [fa0] at s0
      exact s0.trans st
    · exact af.en.mono st.ex fun x px => by
        obtain ⟨o, ho⟩ := af.en.dom x px
        rw [ho]; exact ex x o ho
    · obtain ⟨z1, z2⟩ := af.pu z
      exact ⟨z1.trans ex, z2⟩
  · cases e

/-! ### comparisons -/
inductive Cop where
  | eq | ne | lt | le | gt | ge | isin | notin | is | isnot
def Cop.op : Cop → CmpOp
  | .eq => .Eq
  | .ne => .NotEq
  | .lt => .Lt
  | .le => .LtE
  | .gt => .Gt
  | .ge => .GtE
  | .isin => .In
  | .notin => .NotIn
  | .is => .Is
  | .isnot => .IsNot
abbrev shp (d : PyData) : Bool := SeqAt.shaped d
def sgn? (x : Str) : Option Nat := match x.cps.toList with
  | [c] => some c
  | _ => none
theorem sgn_eq {x : Str} {c : Nat} (h : sgn? x = some c) : x = ⟨#[c]⟩ := by
  unfold sgn? at h
  split at h
  · rename_i c' e
    cases h
    cases x with
    | mk cps =>
      congr
      exact Array.toList_inj.mp e
  · cases h
/-- the two can be compared in order -/
def ordOk (d e : PyData) : Bool := PySem.W.alike d e && (match d with | .none => false | _ => true) && decide (d.depth ≤ 64)
def okB (b : Bool) (v : Bool) : Option Bool := if b then some v else none
theorem okB_eq {b v r : Bool} (h : okB b v = some r) : b = true ∧ v = r := by
  unfold okB at h
  split at h
  · exact ⟨by assumption, Option.some.inj h⟩
  · cases h
def inB (d : PyData) : PyData → Option Bool
  | .list es => okB (shp d && shp (.list es)) (es.any fun z => PyData.eqv z d)
  | .tuple es => okB (shp d && shp (.tuple es)) (es.any fun z => PyData.eqv z d)
  | .str y => match d with
    | .str x => (sgn? x).map fun c => decide (c ∈ y.cps.toList)
    | _ => none
  | _ => none
def isNn : PyData → Bool
  | .none => true
  | _ => false
def isBl (b : Bool) : PyData → Bool
  | .bool a => decide (a = b)
  | _ => false
def isB (d : PyData) : PyData → Option Bool
  | .none => some (isNn d)
  | .bool b => some (isBl b d)
  | _ => none
def cmpB : Cop → PyData → PyData → Option Bool
  | .eq, d, e => okB (shp d && shp e) (PyData.eqv d e)
  | .ne, d, e => okB (shp d && shp e) (!PyData.eqv d e)
  | .lt, d, e => okB (ordOk d e) (PySem.W.dataLt d e)
  | .gt, d, e => okB (ordOk d e) (PySem.W.dataLt e d)
  | .le, d, e => okB (ordOk d e) (!PySem.W.dataLt e d)
  | .ge, d, e => okB (ordOk d e) (!PySem.W.dataLt d e)
  | .isin, d, e => inB d e
  | .notin, d, e => (inB d e).map fun b => !b
  | .is, d, e => isB d e
  | .isnot, d, e => (isB d e).map fun b => !b
def rCmp (C : Ct) (o : Cop) : R2 := fun x y H Q => ∃ F d e b, Ex F H ∧ Sh C F H x d ∧ Sh C F H y e ∧ cmpB o d e = some b ∧ Q (.bl b) H
theorem dp_non {K : PySem.W.Frag} {H : Hp} {v : V} {d : PyData} (h : Dp K H v d) : decide (v = .non) = isNn d := by
  cases h <;> simp [isNn]
theorem op_cmp (hu : X.A.units + 150 < cLine) : ∀ o : Cop, OpR X (compareOp o.op) (rCmp (cOf X ct) o) := by
  intro o pins s σ H x y v u Q I rx ry h
  obtain ⟨F, d, e, b, sub, sx, sy, hm, q⟩ := h
  have hx : Dp X.K H x d := sx.dp sub
  have hy : Dp X.K H y e := sy.dp sub
  obtain ⟨as, r1⟩ := Dp.reads I d x v hx rx
  obtain ⟨bs, r2⟩ := Dp.reads I e y u hy ry
  have fin : ∀ {c : Bool}, c = b → EP X pins σ Q (.bool c) s := fun {c} z => by
    subst z
    exact ⟨.bl c, H, I, rfl, q⟩
  have ord : ∀ {c d : PyData}, ordOk c d = true → PySem.W.alike c d = true ∧ c ≠ .none ∧ X.A.units + min c.depth d.depth < cLine := fun {c d} z => by
    simp only [ordOk, Bool.and_eq_true, decide_eq_true_eq] at z
    obtain ⟨⟨z1, z2⟩, z3⟩ := z
    refine ⟨z1, fun w => ?_, ?_⟩
    · subst w; simp at z2
    · have := Nat.min_le_left c.depth d.depth
      omega
  have sh2 : ∀ {c d : PyData}, (shp c && shp d) = true → SeqAt.shaped c = true ∧ SeqAt.shaped d = true := fun {c d} z => by
    rw [Bool.and_eq_true] at z
    exact z
  have ins : ∀ {r : Bool}, inB d e = some r → (∀ {Q' : Value → Shared → Prop}, Q' (.bool r) s → wpAny (model X.prog X.w) X.A (compareOp .In v u) Q' X.xe s) ∧ (∀ {Q' : Value → Shared → Prop}, Q' (.bool (!r)) s → wpAny (model X.prog X.w) X.A (compareOp .NotIn v u) Q' X.xe s) := fun {r} z => by
    cases e <;> simp only [inB] at z <;> first | (cases z; done) | skip
    · rename_i z'
      cases d <;> first | (cases z; done) | skip
      rename_i x'
      simp only [Option.map_eq_some_iff] at z
      obtain ⟨c, hc, rfl⟩ := z
      have e1 := sgn_eq hc
      subst e1
      cases hx
      cases hy
      obtain ⟨t1, rfl⟩ := rx
      obtain ⟨t2, rfl⟩ := ry
      have fo := (PySem.StrLaws.found_one z' c).symm
      exact ⟨fun hq => in_str (by rw [← fo]; exact hq), fun hq => notIn_str (by rw [← fo]; exact hq)⟩
    · obtain ⟨z1, z2⟩ := okB_eq z
      obtain ⟨s1, s2⟩ := sh2 z1
      exact ⟨fun hq => SeqAt.in_list_reads r2 r1 (SeqAt.canLay_of_shaped s2) (SeqAt.canLay_of_shaped s1) (room_in_shaped s1 (by omega)) (by rw [z2]; exact hq), fun hq => SeqAt.notIn_list_reads r2 r1 (SeqAt.canLay_of_shaped s2) (SeqAt.canLay_of_shaped s1) (room_in_shaped s1 (by omega)) (by rw [z2]; exact hq)⟩
    · obtain ⟨z1, z2⟩ := okB_eq z
      obtain ⟨s1, s2⟩ := sh2 z1
      exact ⟨fun hq => SeqAt.in_tuple_reads r2 r1 (SeqAt.canLay_of_shaped s2) (SeqAt.canLay_of_shaped s1) (room_in_shaped s1 (by omega)) (by rw [z2]; exact hq), fun hq => SeqAt.notIn_tuple_reads r2 r1 (SeqAt.canLay_of_shaped s2) (SeqAt.canLay_of_shaped s1) (room_in_shaped s1 (by omega)) (by rw [z2]; exact hq)⟩
  have isx : ∀ {r : Bool}, isB d e = some r → (Q (.bl r) H → wpAny (model X.prog X.w) X.A (compareOp .Is v u) (EP X pins σ Q) X.xe s) ∧ (Q (.bl (!r)) H → wpAny (model X.prog X.w) X.A (compareOp .IsNot v u) (EP X pins σ Q) X.xe s) := fun {r} z => by
    cases e <;> simp only [isB] at z <;> first | (cases z; done) | skip
    · cases hy
      have e1 : decide (x = .non) = r := by rw [dp_non hx]; exact Option.some.inj z
      exact ⟨fun hq => op_isN pins s σ H x .non v u Q I rx ry ⟨rfl, by rw [e1]; exact hq⟩, fun hq => op_notN pins s σ H x .non v u Q I rx ry ⟨rfl, by rw [e1]; exact hq⟩⟩
    · rename_i b'
      cases hy
      obtain rfl := Option.some.inj z
      have ry : u = Value.bool b' := ry
      subst ry
      have key : PySem.plainIs v (Value.bool b') = true ∧ (v == Value.bool b') = isBl b' d := by
        cases hx with
        | non => cases rx; exact ⟨rfl, rfl⟩
        | bl a' =>
          cases rx
          refine ⟨rfl, ?_⟩
          by_cases z : a' = b'
          · subst z; simp [isBl]
          · simp [isBl, z]
        | int i => obtain ⟨t, rfl⟩ := rx; exact ⟨rfl, rfl⟩
        | str i => obtain ⟨t, rfl⟩ := rx; exact ⟨rfl, rfl⟩
        | lst _ _ => cases rx; exact ⟨rfl, rfl⟩
        | tup _ _ => cases rx; exact ⟨rfl, rfl⟩
      exact ⟨fun hq => PySem.wpAny_is_plain key.1 (by rw [key.2]; exact ⟨.bl _, H, I, rfl, hq⟩), fun hq => PySem.wpAny_isNot_plain key.1 (by rw [key.2]; exact ⟨.bl _, H, I, rfl, hq⟩)⟩
  cases o <;> simp only [cmpB] at hm
  · obtain ⟨z1, z2⟩ := okB_eq hm
    obtain ⟨s1, s2⟩ := sh2 z1
    exact SeqAt.compareEq_shaped r1 r2 s1 s2 (by omega) (fin z2)
  · obtain ⟨z1, z2⟩ := okB_eq hm
    obtain ⟨s1, s2⟩ := sh2 z1
    exact SeqAt.compareNe_shaped r1 r2 s1 s2 (by omega) (fin z2)
  · obtain ⟨z1, z2⟩ := okB_eq hm
    obtain ⟨o1, o2, o3⟩ := ord z1
    exact PySem.W.lt_data r1 r2 o1 o2 o3 (fin z2)
  · obtain ⟨z1, z2⟩ := okB_eq hm
    obtain ⟨o1, o2, o3⟩ := ord z1
    exact PySem.W.le_data r1 r2 o1 o2 o3 (fin z2)
  · obtain ⟨z1, z2⟩ := okB_eq hm
    obtain ⟨o1, o2, o3⟩ := ord z1
    exact PySem.W.gt_data r1 r2 o1 o2 o3 (fin z2)
  · obtain ⟨z1, z2⟩ := okB_eq hm
    obtain ⟨o1, o2, o3⟩ := ord z1
    exact PySem.W.ge_data r1 r2 o1 o2 o3 (fin z2)
  · exact (ins hm).1 (fin rfl)
  · simp only [Option.map_eq_some_iff] at hm
    obtain ⟨r, e1, rfl⟩ := hm
    exact (ins e1).2 (fin rfl)
  · exact (isx hm).1 q
  · simp only [Option.map_eq_some_iff] at hm
    obtain ⟨r, e1, rfl⟩ := hm
    exact (isx e1).2 q
def zCmp (o : Cop) (A B : EvO) (pb : Bool) : EvB := fun ρ => (A ρ).bind fun (d, p, ρ1) => if p || pb then (B ρ1).bind fun (e, _, ρ2) => (cmpB o d e).map fun b => (b, ρ2) else none
/-- a test's answer as a value -/
def zBv (A : EvB) : EvE := fun ρ => (A ρ).map fun (b, ρ') => (.val (.bool b), ρ')
theorem cmp_core {o : Cop} {A B : EvO} {σ : L2.St} {F H : Hp} {t : Fp} {ρ ρ' : Env} {b : Bool} {Q : VK} (w : Wf F H t) (en : EnvR (cOf X ct) F H σ ρ t) (e : zCmp o A B pb ρ = some (b, ρ'))
    (k : ∀ F' H' t', Aft (cOf X ct) (pa && pb) σ F H t ρ F' H' t' f0 ρ' → Q (.bl b) H') : tOp (rCmp (cOf X ct) o) (tO (cOf X ct) pa A) (tO (cOf X ct) pb B) σ H Q := by
  simp only [zCmp, Option.bind_eq_some_iff] at e
  obtain ⟨⟨d, p, ρ1⟩, e1, e⟩ := e
  dsimp only at e
  split at e
  · rename_i hp
    simp only [Option.bind_eq_some_iff, Option.map_eq_some_iff] at e
    obtain ⟨⟨d2, p2, ρ2⟩, e2, b', e3, e4⟩ := e
    simp only [Prod.mk.injEq] at e4
    obtain ⟨rfl, rfl⟩ := e4
    exact o2 w en e1 hp e2 fun F' H' x y t' af s1 s2 _ _ => ⟨F', d, d2, b', af.wf.sub, s1, s2, e3, k F' H' t' af⟩
  · cases e
theorem pz_cmp (hu : X.A.units + 150 < cLine) {o : Cop} {A B : EvO} (ha : PZo (cOf X ct) X a pa A) (hb : PZo (cOf X ct) X b pb B) (hm : behindInMarks o.op b = false) : PZ (cOf X ct) X (.Compare a [o.op] [b] pos) (pa && pb) (zBv (zCmp o A B pb)) := by
  refine PE.imp (pe_cmpR (op_cmp (ct := ct) hu o) ha hb hm) fun σ H Q ⟨F, ρ, t, m, ρ', w, en, e, k⟩ => ?_
  simp only [zBv, Option.map_eq_some_iff] at e
  obtain ⟨⟨b', ρ1⟩, e1, e2⟩ := e
  simp only [Prod.mk.injEq] at e2
  obtain ⟨rfl, rfl⟩ := e2
  exact cmp_core w en e1 fun F' H' t' af => k F' H' _ f0 t' af (.val (.bl _))
theorem pt_cmpZ (hu : X.A.units + 150 < cLine) {o : Cop} {A B : EvO} (ha : PZo (cOf X ct) X a pa A) (hb : PZo (cOf X ct) X b pb B) (hm : behindInMarks o.op b = false) : PZt (cOf X ct) X (.Compare a [o.op] [b] pos) (pa && pb) (zCmp o A B pb) := by
  refine PT.imp (pt_cmpR (op_cmp (ct := ct) hu o) ha hb hm) fun σ H Q ⟨F, ρ, t, m, ρ', w, en, e, k⟩ => ?_
  exact cmp_core w en e fun F' H' t' af => ⟨_, rfl, k F' H' t' af⟩

/-! ### truth -/
def truD : PyData → Option Bool
  | .none => some false
  | .bool b => some b
  | .int i => some (i != 0)
  | .str x => okB (decide (x.length ≤ sizeLine)) (decide (x.length ≠ 0))
  | .list xs => some (!xs.isEmpty)
  | .tuple xs => some (!xs.isEmpty)
  | .dict _ => none
/-- the truth of what is given -/
def truM : M → Option Bool
  | .val d => truD d
  | .lst ms => some (!ms.isEmpty)
  | .tup ms => some (!ms.isEmpty)
  | .dct false kvs => some (!kvs.isEmpty)
  | .dct true _ => none
  | .ins _ _ => none
  | .fz _ => none
theorem dp_tru {K : PySem.W.Frag} {H : Hp} {v : V} {d : PyData} {b : Bool} (h : Dp K H v d) (e : truD d = some b) : TruV K v H b := by
  cases h with
  | non => cases e; rfl
  | bl _ => cases e; rfl
  | int _ => cases e; rfl
  | str x =>
    obtain ⟨e1, e2⟩ := okB_eq e
    refine ⟨by simpa using e1, ?_⟩
    rw [← e2]
    by_cases z : x.length = 0
    · simp [z]
    · have : (x.length : Int) ≠ 0 := by omega
      simp [z, this]
  | lst h1 h2 =>
    cases e
    refine .inl ⟨_, h1, ?_⟩
    cases h2 <;> rfl
  | tup h1 h2 =>
    cases e
    refine .inr (.inl ⟨_, h1, ?_⟩)
    cases h2 <;> rfl
theorem rep_tru {C : Ct} {F H : Hp} {v : V} {m : M} {f : Fp} {b : Bool} (s : Ex F H) (h : MRep C F H v m f) (e : truM m = some b) : TruV C.K v H b := by
  cases m with
  | val d => cases h with | val h => exact dp_tru (Dp.ex s _ _ h) e
  | lst ms =>
    cases h with
    | lst h1 h2 =>
      cases e
      refine .inl ⟨_, SqL.of h1, ?_⟩
      cases h2 <;> rfl
  | tup ms =>
    cases h with
    | tup h1 h2 =>
      cases e
      refine .inr (.inl ⟨_, SqT.of h1, ?_⟩)
      cases h2 <;> rfl
  | dct k kvs =>
    cases k with
    | true => cases e
    | false =>
      cases h with
      | dK h1 _ h2 =>
        cases e
        refine .inr (.inr ⟨_, h1, ?_⟩)
        cases h2 <;> rfl
  | ins _ _ => cases e
  | fz _ => cases e
abbrev PlT (X : Cx) (a : Expr) : Prop := ∀ whole, isTrue a X.env whole = (do let v ← whole; standAt a.pos; holding [v] (truthy v))
def zTru (A : EvE) : EvB := fun ρ => (A ρ).bind fun (m, ρ') => (truM m).map fun b => (b, ρ')
theorem pt_tru {A : EvE} (ha : PZ (cOf X ct) X a pa A) (he : PlT X a) : PZt (cOf X ct) X a pa (zTru A) := by
  refine PT.imp (pt_truth ha he) fun σ H Q ⟨F, ρ, t, b, ρ', w, en, e, k⟩ => ?_
  simp only [zTru, Option.bind_eq_some_iff, Option.map_eq_some_iff, Prod.mk.injEq] at e
  obtain ⟨⟨m, ρ1⟩, e1, b', e2, rfl, rfl⟩ := e
  exact ⟨F, ρ, t, m, ρ1, w, en, e1, fun F' H' v g t' af r => ⟨b', rep_tru af.st.wf.sub r e2, k F' H' t' af.drop⟩⟩
/-- the truth of a name's value, looked at -/
def zTruV (i : Nat) : EvB := fun ρ => (ρ[i]?).bind fun o => o.bind fun m => (truM m).map fun b => (b, ρ)
theorem pt_truV {i : Nat} {x : Str} (hN : X.N[i]? = some x) (hv : Vis X.env.scope x) (hd : (x == ("__debug__" : Str)) = false) (hcd : (x == ("__classdict__" : Str)) = false) (he : PlT X (.Name x pos)) : PZt (cOf X ct) X (.Name x pos) true (zTruV i) := by
  refine PT.imp (pt_truth (pe_var hN hv hd hcd) he) fun σ H Q ⟨F, ρ, t, b, ρ', w, en, e, k⟩ => ?_
  simp only [zTruV, Option.bind_eq_some_iff, Option.map_eq_some_iff, Prod.mk.injEq] at e
  obtain ⟨o, e1, m, e2, b', e3, rfl, rfl⟩ := e
  subst e2
  obtain ⟨v, f, t', h1, h2, h3, h4⟩ := en.get e1
  exact ⟨v, h1, b', rep_tru w.sub h2 e3, k F H t (Aft.refl w en)⟩

/-! ### and, or, not, if else -/
theorem tBo.imp' {C : Ct} {A : EvB} {σ : L2.St} {H : Hp} {Q Q' : Bool → Hp → Prop} (h : tBo C pa A σ H Q) (k : ∀ b H, Q b H → Q' b H) : tBo C pa A σ H Q' := by
  obtain ⟨F, ρ, t, b, ρ', w, en, e, q⟩ := h
  exact ⟨F, ρ, t, b, ρ', w, en, e, fun F' H' t' af => k _ _ (q F' H' t' af)⟩
def zNot (A : EvB) : EvB := fun ρ => (A ρ).map fun (b, ρ') => (!b, ρ')
theorem pt_notZ {A : EvB} (ha : PZt (cOf X ct) X a pa A) : PZt (cOf X ct) X (.UnaryOp .Not a pos) pa (zNot A) := by
  refine PT.imp (pt_not ha) fun σ H Q ⟨F, ρ, t, b, ρ', w, en, e, k⟩ => ?_
  simp only [zNot, Option.map_eq_some_iff] at e
  obtain ⟨⟨b', ρ1⟩, e1, e2⟩ := e
  simp only [Prod.mk.injEq] at e2
  obtain ⟨rfl, rfl⟩ := e2
  exact ⟨F, ρ, t, b', ρ1, w, en, e1, k⟩
/-- not a as a value: a is a truth value -/
def zNotV (A : EvE) : EvE := fun ρ => (A ρ).bind fun (m, ρ') => match m with
  | .val (.bool b) => some (.val (.bool (!b)), ρ')
  | _ => none
theorem pz_notV {A : EvE} (ha : PZ (cOf X ct) X a pa A) : PZ (cOf X ct) X (.UnaryOp .Not a pos) pa (zNotV A) := by
  refine PE.imp (pe_not ha) fun σ H Q ⟨F, ρ, t, m, ρ', w, en, e, k⟩ => ?_
  simp only [zNotV, Option.bind_eq_some_iff] at e
  obtain ⟨⟨m1, ρ1⟩, e1, e2⟩ := e
  split at e2
  · rename_i b hm
    cases e2
    subst hm
    refine ⟨F, ρ, t, _, _, w, en, e1, fun F' H' v g t' af r => ?_⟩
    cases r with | val r => cases r; exact ⟨b, rfl, k F' H' _ f0 t' af (.val (.bl _))⟩
  · cases e2
/-- a and b (k: or) as tests -/
def zAnd (k : Bool) (A B : EvB) : EvB := fun ρ => (A ρ).bind fun (b, ρ1) => if b = k then some (b, ρ1) else B ρ1
abbrev PZw (C : Ct) (X : Cx) (e : Expr) (pu : Bool) (A : EvB) : Prop := PW X e (tBo C pu A)
theorem PW.imp {X : Cx} {e : Expr} {t t' : TT} (h : PW X e t) (k : ∀ σ H Q, t' σ H Q → t σ H Q) : PW X e t' := ⟨fun wh pins s σ H Q I q => h.run wh pins s σ H Q I (k σ H Q q)⟩
def bop (k : Bool) : BoolOp := if k = true then .Or else .And
theorem bo_two {k : Bool} {A B : EvB} {σ : L2.St} {F H : Hp} {t : Fp} {ρ ρ' : Env} {b : Bool} {Q : Bool → Hp → Prop} (w : Wf F H t) (en : EnvR (cOf X ct) F H σ ρ t) (e : zAnd k A B ρ = some (b, ρ'))
    (q : ∀ F' H' t', Aft (cOf X ct) (pa && pb) σ F H t ρ F' H' t' f0 ρ' → Q b H') : tBo (cOf X ct) pa A σ H fun c H1 => if c = k then Q c H1 else tBo (cOf X ct) pb B σ H1 Q := by
  simp only [zAnd, Option.bind_eq_some_iff] at e
  obtain ⟨⟨b1, ρ1⟩, e1, e2⟩ := e
  refine ⟨F, ρ, t, b1, ρ1, w, en, e1, fun F' H' t' af => ?_⟩
  dsimp only at e2
  show if b1 = k then Q b1 H' else tBo (cOf X ct) pb B σ H' Q
  split
  · rename_i hk
    rw [if_pos hk] at e2
    cases e2
    exact q F' H' t' (af.weak fun z => by rw [Bool.and_eq_true] at z; exact z.1)
  · rename_i hk
    rw [if_neg hk] at e2
    exact ⟨F', ρ1, t', b, ρ', af.wf, af.en, e2, fun F'' H'' t'' af2 => q F'' H'' t'' (af.trans af2)⟩
theorem pw_1 {k : Bool} {A : EvB} (ha : PZt (cOf X ct) X a pa A) : PZw (cOf X ct) X (.BoolOp (bop k) [a] pos) pa A := by
  cases k
  · exact pw_and1 ha
  · exact pw_or1 ha
theorem pw_2 {k : Bool} {A B : EvB} {rest : List Expr} (ha : PZt (cOf X ct) X a pa A) (hb : PZw (cOf X ct) X (.BoolOp (bop k) (b :: rest) pos) pb B) : PZw (cOf X ct) X (.BoolOp (bop k) (a :: b :: rest) pos) (pa && pb) (zAnd k A B) := by
  cases k
  · refine PW.imp (pw_and ha hb) fun σ H Q ⟨F, ρ, t, b', ρ', w, en, e, q⟩ => ?_
    have := bo_two (pb := pb) w en e q
    refine this.imp' fun c H1 z => ?_
    cases c <;> simpa using z
  · refine PW.imp (pw_or ha hb) fun σ H Q ⟨F, ρ, t, b', ρ', w, en, e, q⟩ => ?_
    have := bo_two (pb := pb) w en e q
    refine this.imp' fun c H1 z => ?_
    cases c <;> simpa using z
/-- .. as values: all but the last are truth values -/
def zAndV (k : Bool) (A B : EvE) : EvE := fun ρ => (A ρ).bind fun (m, ρ1) => match m with
  | .val (.bool b) => if b = k then some (.val (.bool b), ρ1) else B ρ1
  | _ => none
theorem pz_1 {o : BoolOp} {A : EvE} (ha : PZ (cOf X ct) X a pa A) : PZ (cOf X ct) X (.BoolOp o [a] pos) pa A := pe_one ha
theorem bv_two {k : Bool} {A B : EvE} {σ : L2.St} {F H : Hp} {t : Fp} {ρ ρ' : Env} {m : M} {Q : VK} (w : Wf F H t) (en : EnvR (cOf X ct) F H σ ρ t) (e : zAndV k A B ρ = some (m, ρ'))
    (q : ∀ F' H' v g t', Aft (cOf X ct) (pa && pb) σ F H t ρ F' H' t' g ρ' → MRep (cOf X ct) F' H' v m g → Q v H') : tE (cOf X ct) pa A σ H fun x H1 => ∃ c, x = .bl c ∧ (c = k → Q (.bl c) H1) ∧ (c ≠ k → tE (cOf X ct) pb B σ H1 Q) := by
  simp only [zAndV, Option.bind_eq_some_iff] at e
  obtain ⟨⟨m1, ρ1⟩, e1, e2⟩ := e
  refine ⟨F, ρ, t, m1, ρ1, w, en, e1, fun F' H' v g t' af r => ?_⟩
  dsimp only at e2
  split at e2
  · rename_i b
    cases r with
    | val r =>
      cases r
      refine ⟨b, rfl, fun hk => ?_, fun hk => ?_⟩
      · rw [if_pos hk] at e2
        cases e2
        exact q F' H' _ f0 t' (af.weak fun z => by rw [Bool.and_eq_true] at z; exact z.1) (.val (.bl _))
      · rw [if_neg hk] at e2
        refine ⟨F', ρ1, t', m, ρ', af.wf, af.en, e2, fun F'' H'' v2 g2 t'' af2 r2 => q F'' H'' v2 g2 t'' ?_ r2⟩
        have := af.trans af2
        rw [fa0l] at this
        exact this
  · cases e2
theorem pz_2 {k : Bool} {A B : EvE} {rest : List Expr} (ha : PZ (cOf X ct) X a pa A) (hb : PZ (cOf X ct) X (.BoolOp (bop k) (b :: rest) pos) pb B) : PZ (cOf X ct) X (.BoolOp (bop k) (a :: b :: rest) pos) (pa && pb) (zAndV k A B) := by
  cases k
  · refine PE.imp (pe_and ha hb) fun σ H Q ⟨F, ρ, t, m, ρ', w, en, e, q⟩ => ?_
    obtain ⟨F1, r1, t1, m1, r1', w1, en1, e1, q1⟩ := bv_two (pb := pb) w en e q
    refine ⟨F1, r1, t1, m1, r1', w1, en1, e1, fun F' H' v g t' af r => ?_⟩
    obtain ⟨c, h1, h2, h3⟩ := q1 F' H' v g t' af r
    refine ⟨c, h1, ?_⟩
    cases c
    · rw [if_neg (by decide)]; exact h2 rfl
    · rw [if_pos rfl]; exact h3 (by decide)
  · refine PE.imp (pe_or ha hb) fun σ H Q ⟨F, ρ, t, m, ρ', w, en, e, q⟩ => ?_
    obtain ⟨F1, r1, t1, m1, r1', w1, en1, e1, q1⟩ := bv_two (pb := pb) w en e q
    refine ⟨F1, r1, t1, m1, r1', w1, en1, e1, fun F' H' v g t' af r => ?_⟩
    obtain ⟨c, h1, h2, h3⟩ := q1 F' H' v g t' af r
    refine ⟨c, h1, ?_⟩
    cases c
    · rw [if_neg (by decide)]; exact h3 (by decide)
    · rw [if_pos rfl]; exact h2 rfl
/-- a if c else b -/
def zIf (T : EvB) (A B : EvE) : EvE := fun ρ => (T ρ).bind fun (b, ρ1) => if b = true then A ρ1 else B ρ1
theorem pz_if {T : EvB} {A B : EvE} (hc : PZt (cOf X ct) X c pc T) (ha : PZ (cOf X ct) X a pa A) (hb : PZ (cOf X ct) X b pb B) : PZ (cOf X ct) X (.IfExp c a b pos) (pc && pa && pb) (zIf T A B) := by
  refine PE.imp (pe_ifExp hc ha hb) fun σ H Q ⟨F, ρ, t, m, ρ', w, en, e, q⟩ => ?_
  simp only [zIf, Option.bind_eq_some_iff] at e
  obtain ⟨⟨b1, ρ1⟩, e1, e2⟩ := e
  refine ⟨F, ρ, t, b1, ρ1, w, en, e1, fun F' H' t' af => ?_⟩
  dsimp only at e2
  cases b1
  · rw [if_neg Bool.false_ne_true] at e2
    show tE (cOf X ct) pb B σ H' Q
    refine ⟨F', ρ1, t', m, ρ', af.wf, af.en, e2, fun F'' H'' v g t'' af2 r => q F'' H'' v g t'' ?_ r⟩
    have := af.trans af2
    rw [fa0l] at this
    exact this.weak fun z => by simp only [Bool.and_eq_true] at z ⊢; exact ⟨z.1.1, z.2⟩
  · rw [if_pos rfl] at e2
    show tE (cOf X ct) pa A σ H' Q
    refine ⟨F', ρ1, t', m, ρ', af.wf, af.en, e2, fun F'' H'' v g t'' af2 r => q F'' H'' v g t'' ?_ r⟩
    have := af.trans af2
    rw [fa0l] at this
    exact this.weak fun z => by simp only [Bool.and_eq_true] at z ⊢; exact ⟨z.1.1, z.1.2⟩
/-- -a -/
def zNeg (A : EvO) : EvE := fun ρ => (A ρ).bind fun (d, _, ρ1) => match d with
  | .int i => some (.val (.int (-i)), ρ1)
  | _ => none
theorem pz_neg {A : EvO} (ha : PZo (cOf X ct) X a pa A) : PZ (cOf X ct) X (.UnaryOp .USub a pos) pa (zNeg A) := by
  refine PE.imp (pe_un un_neg ha) fun σ H Q ⟨F, ρ, t, m, ρ', w, en, e, q⟩ => ?_
  simp only [zNeg, Option.bind_eq_some_iff] at e
  obtain ⟨⟨d, p, ρ1⟩, e1, e2⟩ := e
  dsimp only at e2
  split at e2
  case h_2 => cases e2
  rename_i i
  refine ⟨F, ρ, t, _, p, ρ1, w, en, e1, fun F' H' v t' af s _ => ?_⟩
  cases e2
  exact ⟨i, sh_int s, q F' H' _ f0 t' af (.val (.int _))⟩
end
end Z

set_option Elab.async false
set_option linter.all false
set_option maxRecDepth 100000
set_option maxHeartbeats 2000000
/-! Z5: displays, subscripts, slices. -/
namespace Z
open PySem L2 Evl PyProof.Rows

section
variable {X : Cx} {ct : Str → Option Addr} {e a b c : Expr} {es : List Expr} {pos : Pos} {pa pb pc : Bool}

/-! ### rows of values -/
def zNil : EvA := fun ρ => some ([], ρ)
def zCons (A : EvE) (B : EvA) : EvA := fun ρ => (A ρ).bind fun (m, ρ1) => (B ρ1).map fun (ms, ρ2) => (m :: ms, ρ2)
theorem pz_nil : PZa (cOf X ct) X [] true zNil := by
  refine PA.imp pa_nil fun σ H Q ⟨F, ρ, t, ms, ρ', w, en, e, k⟩ => ?_
  cases e
  exact k F H [] f0 t (Aft.refl w en) .nil
abbrev NoStar (e : Expr) (es : List Expr) (env : PySem.Env) : Prop := starEach (e :: es) env = (false, eval e env) :: starEach es env
theorem pz_cons {A : EvE} {B : EvA} (ha : PZ (cOf X ct) X e pa A) (hb : PZa (cOf X ct) X es pb B) (hs : NoStar e es X.env) : PZa (cOf X ct) X (e :: es) (pa && pb) (zCons A B) := by
  refine PA.imp (pa_cons ha hb hs) fun σ H Q ⟨F, ρ, t, ms, ρ', w, en, e, k⟩ => ?_
  simp only [zCons, Option.bind_eq_some_iff, Option.map_eq_some_iff] at e
  obtain ⟨⟨m, ρ1⟩, e1, ⟨ms2, ρ2⟩, e2, e3⟩ := e
  simp only [Prod.mk.injEq] at e3
  obtain ⟨rfl, rfl⟩ := e3
  refine ⟨F, ρ, t, m, ρ1, w, en, e1, fun F1 H1 v g t1 a1 r1 => ⟨F1, ρ1, t1, ms2, ρ2, a1.wf, a1.en, e2, fun F2 H2 vs g2 t2 a2 r2 => ?_⟩⟩
  exact k F2 H2 (v :: vs) (fa g g2) t2 (a1.trans a2) (.cons (r1.mono a2.st.ex _ _ _ (a1.kept a2)) r2)

/-! ### displays -/
/-- a tuple of values: of data, it is data -/
def tupM (ms : List M) : M := match deeps ms with
  | some ds => .val (.tuple ds)
  | none => .tup ms
def zTup (A : EvA) : EvE := fun ρ => (A ρ).bind fun (ms, ρ') => if ms.length ≤ sizeLine then some (tupM ms, ρ') else none
def zLst (A : EvA) : EvE := fun ρ => (A ρ).bind fun (ms, ρ') => if ms.length ≤ sizeLine then some (.lst ms, ρ') else none
theorem Aft.new {C : Ct} {pu : Bool} {σ : L2.St} {F H F' H' : Hp} {t t' g : Fp} {ρ ρ' : Env} {p : Addr} {o : HO} (a : Aft C pu σ F H t ρ F' H' t' g ρ') (hp : H' p = none) : Aft C pu σ F H t ρ F' (upd H' p o) t' (fa (f1 p) g) ρ' := by
  have s := Step.new (o := o) a.st.wf hp
  refine ⟨?_, a.en.mono (Ex.refl _) fun x px => ?_, fun z => ?_⟩
  · have := a.st.trans s
    rw [← fa_assoc, fa_comm (f1 p) t', fa_assoc] at this
    exact this
  · obtain ⟨u, hu⟩ := a.en.dom x px
    exact upd_ne (ne_of_none hu hp)
  · obtain ⟨z1, z2⟩ := a.pu z
    exact ⟨z1.trans (Ex.new hp), z2⟩
theorem Aft.newF {C : Ct} {pu : Bool} {σ : L2.St} {F H F' H' : Hp} {t t' g : Fp} {ρ ρ' : Env} {p : Addr} {o : HO} (a : Aft C pu σ F H t ρ F' H' t' g ρ') (hp : H' p = none) : Aft C pu σ F H t ρ (upd F' p o) (upd H' p o) t' g ρ' := by
  have s := Step.newF (o := o) a.st.wf hp
  refine ⟨a.st.trans s, a.en.mono s.ex fun x px => ?_, fun z => ?_⟩
  · obtain ⟨u, hu⟩ := a.en.dom x px
    exact upd_ne (ne_of_none hu hp)
  · obtain ⟨z1, z2⟩ := a.pu z
    exact ⟨z1.trans (Ex.new hp), z2⟩
theorem MReps.new {C : Ct} {F H : Hp} {ms : List M} {vs : List V} {f : Fp} {p : Addr} {o : HO} (r : MReps C F H vs ms f) (hp : H p = none) : MReps C F (upd H p o) vs ms f :=
  r.mono (Ex.refl _) _ _ _ fun x px => by
    obtain ⟨u, hu⟩ := r.dom _ _ _ x px
    exact upd_ne (ne_of_none hu hp)
theorem pz_lst {A : EvA} (h : PZa (cOf X ct) X es pa A) : PZ (cOf X ct) X (.List es pos) pa (zLst A) := by
  refine PE.imp (pe_lst h) fun σ H Q ⟨F, ρ, t, m, ρ', w, en, e, k⟩ => ?_
  simp only [zLst, Option.bind_eq_some_iff] at e
  obtain ⟨⟨ms, ρ1⟩, e1, e2⟩ := e
  dsimp only at e2
  split at e2
  case isFalse => cases e2
  rename_i hz
  cases e2
  refine ⟨F, ρ, t, ms, _, w, en, e1, fun F' H' vs g t' a r => ⟨by rw [reps_length r]; exact hz, fun p hp => ?_⟩⟩
  exact k F' _ _ _ t' (a.new hp) (.lst upd_same (r.new hp))
theorem pz_tup {A : EvA} {x1 : Nat} (h : PZa (cOf X ct) X es pa A) : PZ (cOf X ct) X (.Tuple es x1 pos) pa (zTup A) := by
  refine PE.imp (pe_tup h) fun σ H Q ⟨F, ρ, t, m, ρ', w, en, e, k⟩ => ?_
  simp only [zTup, Option.bind_eq_some_iff] at e
  obtain ⟨⟨ms, ρ1⟩, e1, e2⟩ := e
  dsimp only at e2
  split at e2
  case isFalse => cases e2
  rename_i hz
  cases e2
  refine ⟨F, ρ, t, ms, _, w, en, e1, fun F' H' vs g t' a r => ⟨by rw [reps_length r]; exact hz, fun p hp => ?_⟩⟩
  cases hd : deeps ms with
  | none =>
    have et : tupM ms = .tup ms := by unfold tupM; rw [hd]
    rw [et] at k
    exact k F' _ _ _ t' (a.new hp) (.tup upd_same (r.new hp))
  | some ds =>
    have et : tupM ms = .val (.tuple ds) := by unfold tupM; rw [hd]
    rw [et] at k
    have w2 : Wf F' H' (fa g t') := by rw [fa_comm]; exact a.st.wf
    have s2 : Step F' H' (fa g t') (frF F' H' g) H' t' := Step.freeze w2
    have a2 : Aft (cOf X ct) pa σ F H t ρ (frF F' H' g) H' t' f0 ρ' := ⟨by
      have := a.st.trans (by rw [fa_comm]; exact s2)
      exact this, a.en.mono s2.ex fun _ _ => rfl, a.pu⟩
    have r' : MReps (cOf X ct) (frF F' H' g) (frF F' H' g) vs ms g := r.mono s2.ex _ _ _ fun x px => by
      show (if 0 < g x then H' x else F' x) = H' x
      rw [if_pos px]
    have dd : DpAll (cOf X ct).K (frF F' H' g) vs ds := deeps_dp ms vs g ds r' hd
    have a3 := a2.newF (o := .tup vs) hp
    exact k _ _ _ _ t' a3 (.val (.tup (SqT.of upd_same) (DpAll.ex (Ex.new (by
      cases q : frF F' H' g p with
      | none => rfl
      | some u => rw [s2.wf.sub p u q] at hp; cases hp)) _ _ dd)))

/-! ### a[b] on data -/
def ixD : PyData → PyData → Option PyData
  | .tuple ds, .int i => atI ds i
  | .list ds, .int i => atI ds i
  | .str s, .int i => if s.length ≤ sizeLine then (atI s.cps.toList i).map fun c => .str ⟨#[c]⟩ else none
  | _, _ => none
theorem atI_dp {K : PySem.W.Frag} {F : Hp} {ds : List PyData} {vs : List V} {i : Int} {d : PyData} (h : DpAll K F vs ds) (e : atI ds i = some d) : ∃ v, atI vs i = some v ∧ Dp K F v d := by
  unfold atI at e ⊢
  have hl : vs.length = ds.length := dp_length h
  rw [hl]
  simp only [Option.bind_eq_some_iff] at e ⊢
  obtain ⟨j, e1, e2⟩ := e
  obtain ⟨v, e3, e4⟩ := dp_get h e2
  exact ⟨v, ⟨j, e1, e3⟩, e4⟩
theorem ix_data : IxR X (fun x y H Q => ∃ F d e r, Ex F H ∧ Sh (cOf X ct) F H x d ∧ Sh (cOf X ct) F H y e ∧ ixD d e = some r ∧ ∀ v, Dp X.K F v r → Q v H) := by
  intro a b pins s σ H x y v u Q I rx ry h hs
  obtain ⟨F, d, e, r, sub, sx, sy, hr, q⟩ := h
  unfold ixD at hr
  split at hr
  · rename_i ds i
    obtain ⟨p, vs, rfl, h1, h2⟩ := sx.tup sub
    obtain ⟨z, e1, e2⟩ := atI_dp h2 hr
    exact ix_tup a b pins s σ H _ y v u Q I rx ry ⟨p, vs, i, z, rfl, sh_int sy, h1, e1, q z e2⟩ hs
  · rename_i ds i
    obtain ⟨p, vs, rfl, h1, h2⟩ := sx.list sub
    obtain ⟨z, e1, e2⟩ := atI_dp h2 hr
    exact ix_list a b pins s σ H _ y v u Q I rx ry ⟨p, vs, i, z, rfl, sh_int sy, h1, e1, q z e2⟩ hs
  · rename_i z i
    split at hr
    · rename_i hz
      simp only [Option.map_eq_some_iff] at hr
      obtain ⟨c, e1, rfl⟩ := hr
      exact ix_str a b pins s σ H _ y v u Q I rx ry ⟨z, i, c, sh_str sx, sh_int sy, hz, e1, q _ (.str _)⟩ hs
    · cases hr
  · cases hr
def zIx (A B : EvO) (pb : Bool) : EvE := fun ρ => (A ρ).bind fun (d, p, ρ1) => if p || pb then (B ρ1).bind fun (e, _, ρ2) => (ixD d e).map fun r => (.val r, ρ2) else none
theorem pz_ix {A B : EvO} (ha : PZo (cOf X ct) X a pa A) (hb : PZo (cOf X ct) X b pb B) (hs : PlainIx b) : PZ (cOf X ct) X (.Subscript a b pos) (pa && pb) (zIx A B pb) := by
  refine PE.imp (pe_ix (ix_data (ct := ct)) ha hb hs) fun σ H Q ⟨F, ρ, t, m, ρ', w, en, e, k⟩ => ?_
  simp only [zIx, Option.bind_eq_some_iff] at e
  obtain ⟨⟨d, p, ρ1⟩, e1, e⟩ := e
  dsimp only at e
  split at e
  · rename_i hp
    simp only [Option.bind_eq_some_iff, Option.map_eq_some_iff] at e
    obtain ⟨⟨d2, p2, ρ2⟩, e2, r, e3, e4⟩ := e
    simp only [Prod.mk.injEq] at e4
    obtain ⟨rfl, rfl⟩ := e4
    exact o2 w en e1 hp e2 fun F' H' x y t' af s1 s2 _ _ => ⟨F', d, d2, r, af.wf.sub, s1, s2, e3, fun v hv => k F' H' v f0 t' af (.val hv)⟩
  · cases e

/-! ### slices -/
def zPart (L : Option EvO) : Env → Option (Option Int × Env) := fun ρ => match L with
  | none => some (none, ρ)
  | some A => (A ρ).bind fun (d, _, ρ1) => match d with
    | .int i => some (some i, ρ1)
    | _ => none
def tPz (C : Ct) (pu : Bool) (L : Option EvO) : TO := fun σ H Q => ∃ F ρ t o ρ', Wf F H t ∧ EnvR C F H σ ρ t ∧ zPart L ρ = some (o, ρ') ∧ ∀ F' H' t', Aft C pu σ F H t ρ F' H' t' f0 ρ' → Q o H'
theorem PO.imp {e : Option Expr} {t t' : TO} (h : PO X e t) (k : ∀ σ H Q, t' σ H Q → t σ H Q) : PO X e t' := ⟨fun pins s σ H Q I q => h.run pins s σ H Q I (k σ H Q q)⟩
theorem po_noneZ : PO X none (tPz (cOf X ct) true none) := by
  refine PO.imp po_none fun σ H Q ⟨F, ρ, t, o, ρ', w, en, e, k⟩ => ?_
  cases e
  exact k F H t (Aft.refl w en)
theorem po_someZ {A : EvO} (ha : PZo (cOf X ct) X a pa A) : PO X (some a) (tPz (cOf X ct) pa (some A)) := by
  refine PO.imp (po_some ha) fun σ H Q ⟨F, ρ, t, o, ρ', w, en, e, k⟩ => ?_
  simp only [zPart, Option.bind_eq_some_iff] at e
  obtain ⟨⟨d, p, ρ1⟩, e1, e2⟩ := e
  dsimp only at e2
  split at e2
  case h_2 => cases e2
  rename_i i
  cases e2
  exact ⟨F, ρ, t, _, p, _, w, en, e1, fun F' H' v t' af s _ => ⟨i, sh_int s, k F' H' t' af⟩⟩
def cutP {α : Type} (xs : List α) (lo hi : Option Int) : List α := (xs.drop (HT.sIx xs.length 0 lo)).take (HT.sIx xs.length xs.length hi - HT.sIx xs.length 0 lo)
theorem cut_dp {K : PySem.W.Frag} {F : Hp} {ds : List PyData} {vs : List V} (lo hi : Option Int) (h : DpAll K F vs ds) : DpAll K F (cutV vs lo hi) (cutP ds lo hi) := by
  unfold cutV cutP
  rw [dp_length h]
  exact dp_take _ (dp_drop _ h)
def slM (d : PyData) (lo hi : Option Int) : Option M := match d with
  | .list ds => some (.lst ((cutP ds lo hi).map .val))
  | .tuple ds => some (.val (.tuple (cutP ds lo hi)))
  | .str z => if z.length ≤ sizeLine then some (.val (.str (cutS z lo hi))) else none
  | _ => none
theorem cut_whole {α : Type} (ds : List α) {lo hi : Option Int} (h : HT.sIx ds.length 0 lo = 0 ∧ HT.sIx ds.length ds.length hi = ds.length) : cutP ds lo hi = ds := by
  unfold cutP
  rw [h.1, h.2, Nat.sub_zero, List.drop_zero, List.take_length]
theorem sl_data : SlR X (fun x lo hi H Q => ∃ F t d m, Wf F H t ∧ Sh (cOf X ct) F H x d ∧ slM d lo hi = some m ∧ ∀ F' H' v g, Step F H t F' H' (fa t g) → Ex H H' → MRep (cOf X ct) F' H' v m g → Q v H') := by
  intro pins s σ H x v vl vu lo hi sl Q I rx hs pl pu h
  obtain ⟨F, t, d, m, w, sx, hm, q⟩ := h
  unfold slM at hm
  split at hm
  · rename_i ds
    cases hm
    obtain ⟨p, vs, rfl, h1, h2⟩ := sx.list w.sub
    exact sl_list pins s σ H _ v vl vu lo hi sl Q I rx hs pl pu ⟨p, vs, rfl, h1, fun p hp => q_lst (C := cOf X ct) w hp (cut_dp lo hi h2) q⟩
  · rename_i ds
    cases hm
    obtain ⟨p, vs, e1, h1, h2⟩ := sx.tup w.sub
    have hl := dp_length h2
    refine sl_tupA pins s σ H _ v vl vu lo hi sl Q I rx hs pl pu ⟨p, vs, e1, h1, fun hw => ?_, fun hw p hp => q_tup (C := cOf X ct) w hp (cut_dp lo hi h2) q⟩
    rw [hl] at hw
    rw [cut_whole ds hw] at q
    rw [← e1]
    cases sx with | p sx => exact q_val (C := cOf X ct) w sx q
  · rename_i z
    split at hm
    · rename_i hz
      cases hm
      exact sl_str pins s σ H _ v vl vu lo hi sl Q I rx hs pl pu ⟨z, sh_str sx, hz, q_val (C := cOf X ct) w (.str _) q⟩
    · cases hm
  · cases hm
def zSl (A : EvO) (L U : Option EvO) (pp : Bool) : EvE := fun ρ => (A ρ).bind fun (d, p, ρ1) => if p || pp then (zPart L ρ1).bind fun (lo, ρ2) => (zPart U ρ2).bind fun (hi, ρ3) => (slM d lo hi).map fun m => (m, ρ3) else none
theorem pz_sl {A : EvO} {L U : Option EvO} {lo hi : Option Expr} {p2 : Pos} (ha : PZo (cOf X ct) X a pa A) (hl : PO X lo (tPz (cOf X ct) pb L)) (hh : PO X hi (tPz (cOf X ct) pc U)) : PZ (cOf X ct) X (.Subscript a (.Slice lo hi none p2) pos) (pa && (pb && pc)) (zSl A L U (pb && pc)) := by
  refine PE.imp (pe_slice (sl_data (ct := ct)) ha hl hh) fun σ H Q ⟨F, ρ, t, m, ρ', w, en, e, k⟩ => ?_
  simp only [zSl, Option.bind_eq_some_iff] at e
  obtain ⟨⟨d, p, ρ1⟩, e1, e⟩ := e
  dsimp only at e
  split at e
  case isFalse => cases e
  rename_i hp
  simp only [Option.bind_eq_some_iff, Option.map_eq_some_iff] at e
  obtain ⟨⟨l, ρ2⟩, e2, ⟨u, ρ3⟩, e3, m', e4, e5⟩ := e
  simp only [Prod.mk.injEq] at e5
  obtain ⟨rfl, rfl⟩ := e5
  refine ⟨F, ρ, t, d, p, ρ1, w, en, e1, fun F1 H1 x t1 a1 s1 p1 => ⟨F1, ρ1, t1, l, ρ2, a1.wf, a1.en, e2, fun F2 H2 t2 a2 => ⟨F2, ρ2, t2, u, ρ3, a2.wf, a2.en, e3, fun F3 H3 t3 a3 => ?_⟩⟩⟩
  have a23 := a2.trans a3
  rw [fa0l] at a23
  have a123 := a1.trans a23
  rw [fa0l] at a123
  have s3 : Sh (cOf X ct) F3 H3 x d := by
    rw [Bool.or_eq_true] at hp
    rcases hp with z | z
    · exact .p (Dp.ex a23.st.ex _ _ (p1 z))
    · exact s1.ex a23.st.ex (a23.pu z).1
  refine ⟨F3, t3, d, m', a123.wf, s3, e4, fun F' H' v g st ex r => k F' H' v g t3 ⟨?_, ?_, fun z => ?_⟩ r⟩
  · have s0 := a123.st
    rw [fa0] at s0
    exact s0.trans st
  · exact a123.en.mono st.ex fun x px => by
      obtain ⟨o, ho⟩ := a123.en.dom x px
      rw [ho]; exact ex x o ho
  · obtain ⟨z1, z2⟩ := a123.pu z
    exact ⟨z1.trans ex, z2⟩
end
end Z

set_option Elab.async false
set_option linter.all false
set_option maxRecDepth 100000
set_option maxHeartbeats 2000000
/-! Z6: calls of the program's own defs. -/
namespace Z
open PySem L2 Evl PyProof.Rows

/-- an argument: a name's value (handed over, given back), or data made on the way -/
inductive Ag where
  | ref (i : Nat)
  | m (m : M)
abbrev EvG := Env → Option (List Ag × Env)
def AgR (C : Ct) (F H : Hp) (σ : L2.St) : V → Ag → Prop
  | v, .ref i => σ[i]? = some (some v)
  | v, .m m => isP m = true ∧ MRep C F H v m f0
theorem AgR.ex {C : Ct} {F F' H H' : Hp} {σ : L2.St} (e : Ex F F') : ∀ {v : V} {a : Ag}, AgR C F H σ v a → AgR C F' H' σ v a
  | _, .ref _, h => h
  | _, .m _, h => ⟨h.1, rep_pEx h.1 h.2 e⟩
theorem AgRs.ex {C : Ct} {F F' H H' : Hp} {σ : L2.St} (e : Ex F F') {vs : List V} {gs : List Ag} (h : Paired (AgR C F H σ) vs gs) : Paired (AgR C F' H' σ) vs gs := Paired.mapP h fun _ _ z => z.ex e
def tG (C : Ct) (pu : Bool) (A : EvG) : TA := fun σ H Q => ∃ F ρ t gs ρ', Wf F H t ∧ EnvR C F H σ ρ t ∧ A ρ = some (gs, ρ') ∧
  ∀ F' H' vs t', Aft C pu σ F H t ρ F' H' t' f0 ρ' → Paired (AgR C F' H' σ) vs gs → Q vs H'
abbrev PZg (C : Ct) (X : Cx) (es : List Expr) (pu : Bool) (A : EvG) : Prop := PA X es (tG C pu A)
def zgNil : EvG := fun ρ => some ([], ρ)
def zgRef (i : Nat) (B : EvG) : EvG := fun ρ => (ρ[i]?).bind fun o => o.bind fun _ => (B ρ).map fun (gs, ρ2) => (.ref i :: gs, ρ2)
def zgVal (A : EvE) (B : EvG) : EvG := fun ρ => (A ρ).bind fun (m, ρ1) => (B ρ1).map fun (gs, ρ2) => (.m (frz m) :: gs, ρ2)

/-- what the names hold, taken out of the frame -/
def takeG : List Ag → Env → Option (List M × Env)
  | [], ρ => some ([], ρ)
  | .m m :: gs, ρ => (takeG gs ρ).map fun (ms, ρ') => (m :: ms, ρ')
  | .ref i :: gs, ρ => (ρ[i]?).bind fun o => o.bind fun m => (takeG gs (if isP m then ρ else ρ.set i none)).map fun (ms, ρ') => (m :: ms, ρ')
/-- .. and put back -/
def backG : List Ag → List M → List (Option M) → Env → Option Env
  | [], _, _, ρ => some ρ
  | .m _ :: gs, _ :: ms, _ :: ns, ρ => backG gs ms ns ρ
  | .ref i :: gs, m :: ms, n :: ns, ρ => if isP m then backG gs ms ns ρ else match n, ρ[i]? with
    | some n, some none => backG gs ms ns (ρ.set i (some n))
    | _, _ => none
  | _ :: _, _, _, _ => none

/-- what a def promises: G is what it does with values -/
def spOf (C : Ct) (n : Nat) (G : List M → Option (M × List (Option M))) : Sp := fun vs H Q _ => vs.length = n ∧ ∃ F ms f m ms', Wf F H f ∧ MReps C F H vs ms f ∧ G ms = some (m, ms') ∧
  ∀ F' H' v g g', Step F H f F' H' (fa g' g) → EnvR C F' H' (vs.map some) ms' g' → MRep C F' H' v m g → Q v H'
def zCall (G : List M → Option (M × List (Option M))) (A : EvG) (dv : List PyData) : EvE := fun ρ => (A ρ).bind fun (gs, ρ1) => (takeG gs ρ1).bind fun (ms, ρ2) => (G (ms ++ dv.map .val)).bind fun (m, ms') => (backG gs ms ms' ρ2).map fun ρ3 => (m, ρ3)

section
variable {C : Ct} {F H : Hp} {σ : L2.St}
theorem takeG_ok : ∀ {gs : List Ag} {vs : List V} {ρ ρ' : Env} {t : Fp} {ms : List M}, EnvR C F H σ ρ t → Paired (AgR C F H σ) vs gs → takeG gs ρ = some (ms, ρ') → ∃ g t', MReps C F H vs ms g ∧ EnvR C F H σ ρ' t' ∧ t = fa g t'
  | [], _, ρ, ρ', t, ms, en, p, e => by
    cases p
    cases e
    exact ⟨f0, t, .nil, en, (fa0l t).symm⟩
  | .m m :: gs, _, ρ, ρ', t, ms, en, p, e => by
    cases p with
    | cons h p =>
      simp only [takeG, Option.map_eq_some_iff, Prod.mk.injEq] at e
      obtain ⟨⟨ms1, ρ1⟩, e1, rfl, rfl⟩ := e
      obtain ⟨g, t', h1, h2, h3⟩ := takeG_ok en p e1
      exact ⟨g, t', by rw [← fa0l g]; exact .cons h.2 h1, h2, h3⟩
  | .ref i :: gs, _, ρ, ρ', t, ms, en, p, e => by
    cases p with
    | cons h p =>
      simp only [takeG, Option.bind_eq_some_iff, Option.map_eq_some_iff, Prod.mk.injEq] at e
      obtain ⟨o, e0, m, eo, ⟨ms1, ρ1⟩, e1, rfl, rfl⟩ := e
      subst eo
      obtain ⟨v, f, t1, h1, h2, h3, h4⟩ := en.get e0
      have hv : σ[i]? = some (some _) := h
      rw [hv] at h1
      cases h1
      split at e1
      · rename_i hp
        obtain ⟨g, t', q1, q2, q3⟩ := takeG_ok en p e1
        exact ⟨g, t', by rw [← fa0l g]; exact .cons (rep_p hp h2).2 q1, q2, q3⟩
      · obtain ⟨g, t', q1, q2, q3⟩ := takeG_ok h3 p e1
        exact ⟨fa f g, t', .cons h2 q1, q2, by rw [h4, q3, fa_assoc]⟩
theorem backG_ok : ∀ {gs : List Ag} {vs us : List V} {ρ ρ' : Env} {t g : Fp} {ms : List M} {ns : List (Option M)}, EnvR C F H σ ρ t → Paired (AgR C F H σ) vs gs → EnvR C F H ((vs ++ us).map some) ns g → backG gs ms ns ρ = some ρ' →
    ∃ t', EnvR C F H σ ρ' t' ∧ ∀ a, t' a ≤ t a + g a
  | [], _, us, ρ, ρ', t, g, ms, ns, en, p, er, e => by
    cases p
    cases e
    exact ⟨t, en, fun a => Nat.le_add_right _ _⟩
  | .m m :: gs, _, us, ρ, ρ', t, g, [], ns, en, p, er, e => by simp [backG] at e
  | .m m :: gs, _, us, ρ, ρ', t, g, _ :: ms, [], en, p, er, e => by simp [backG] at e
  | .m m :: gs, _, us, ρ, ρ', t, g, _ :: ms, n :: ns, en, p, er, e => by
    cases p with
    | cons h p =>
      simp only [backG] at e
      cases er with
      | skip er => exact backG_ok en p er e
      | @here v m f _ _ t0 r er =>
        obtain ⟨t', h1, h2⟩ := backG_ok en p er e
        exact ⟨t', h1, fun a => by have := h2 a; rw [fa_at]; omega⟩
  | .ref i :: gs, _, us, ρ, ρ', t, g, [], ns, en, p, er, e => by simp [backG] at e
  | .ref i :: gs, _, us, ρ, ρ', t, g, _ :: ms, [], en, p, er, e => by simp [backG] at e
  | .ref i :: gs, _, us, ρ, ρ', t, g, m :: ms, n :: ns, en, p, er, e => by
    cases p with
    | cons h p =>
      simp only [backG] at e
      split at e
      · cases er with
        | skip er => exact backG_ok en p er e
        | @here v m f _ _ t0 r er =>
          obtain ⟨t', h1, h2⟩ := backG_ok en p er e
          exact ⟨t', h1, fun a => by have := h2 a; rw [fa_at]; omega⟩
      · split at e
        · rename_i n' hn
          cases er with
          | @here v m f _ _ t0 r er =>
            obtain ⟨t', h1, h2⟩ := backG_ok (en.put hn h r) p er e
            exact ⟨t', h1, fun a => by have := h2 a; rw [fa_at] at this; rw [fa_at]; omega⟩
        · cases e
end

section
variable {X : Cx} {ct : Str → Option Addr} {e a b c : Expr} {es : List Expr} {pos p : Pos} {pa pb pc : Bool}
theorem pg_nilZ : PZg (cOf X ct) X [] true zgNil := by
  refine PA.imp pa_nil fun σ H Q ⟨F, ρ, t, ms, ρ', w, en, e, k⟩ => ?_
  cases e
  exact k F H [] t (Aft.refl w en) .nil
theorem pg_ref {i : Nat} {x : Str} {B : EvG} (hN : X.N[i]? = some x) (hv : Vis X.env.scope x) (hd : (x == ("__debug__" : Str)) = false) (hcd : (x == ("__classdict__" : Str)) = false) (hb : PZg (cOf X ct) X es pb B) (hs : NoStar (.Name x pos) es X.env) : PZg (cOf X ct) X (.Name x pos :: es) pb (zgRef i B) := by
  refine PA.imp (pa_cons (pe_var hN hv hd hcd) hb hs) fun σ H Q ⟨F, ρ, t, gs, ρ', w, en, e, k⟩ => ?_
  simp only [zgRef, Option.bind_eq_some_iff, Option.map_eq_some_iff, Prod.mk.injEq] at e
  obtain ⟨o, e0, m, eo, ⟨gs1, ρ1⟩, e1, rfl, rfl⟩ := e
  subst eo
  obtain ⟨v, f, t1, h1, h2, h3, h4⟩ := en.get e0
  exact ⟨v, h1, F, ρ, t, gs1, ρ1, w, en, e1, fun F' H' vs t' af pr => k F' H' (v :: vs) t' af (.cons h1 pr)⟩
theorem pg_val {A : EvE} {B : EvG} (ha : PZ (cOf X ct) X e pa A) (hb : PZg (cOf X ct) X es pb B) (hs : NoStar e es X.env) : PZg (cOf X ct) X (e :: es) (pa && pb) (zgVal A B) := by
  refine PA.imp (pa_cons ha hb hs) fun σ H Q ⟨F, ρ, t, gs, ρ', w, en, e, k⟩ => ?_
  simp only [zgVal, Option.bind_eq_some_iff, Option.map_eq_some_iff, Prod.mk.injEq] at e
  obtain ⟨⟨m, ρ1⟩, e1, ⟨gs1, ρ2⟩, e2, rfl, rfl⟩ := e
  refine ⟨F, ρ, t, m, ρ1, w, en, e1, fun F1 H1 v g t1 a1 r1 => ?_⟩
  obtain ⟨F1', a1', r1', _⟩ := a1.freeze r1
  refine ⟨F1', ρ1, t1, gs1, ρ2, a1'.wf, a1'.en, e2, fun F2 H2 vs t2 a2 pr => ?_⟩
  have := a1'.trans a2
  rw [fa0l] at this
  exact k F2 H2 (v :: vs) t2 this (.cons ⟨frz_p m, rep_pEx (frz_p m) r1' a2.st.ex⟩ pr)

theorem env_of_reps {C : Ct} {F H : Hp} : ∀ {vs : List V} {ms : List M} {f : Fp}, MReps C F H vs ms f → EnvR C F H (vs.map some) (ms.map some) f
  | [], _, _, h => by cases h; exact .nil
  | v :: vs, _, _, h => by
    cases h with
    | cons h1 h2 => exact .here h1 (env_of_reps h2)
/-- the call itself -/
theorem call_core {G : List M → Option (M × List (Option M))} {A : EvG} {dv : List PyData} {dvs : List V} {n : Nat} {E : XK} {σ : L2.St} {F H : Hp} {t : Fp} {ρ ρ' : Env} {m : M} {Q : VK} (w : Wf F H t) (en : EnvR (cOf X ct) F H σ ρ t)
    (hdv : ∀ F, DpAll X.K F dvs dv) (e : zCall G A dv ρ = some (m, ρ')) (hn : ∀ gs ρ1, A ρ = some (gs, ρ1) → gs.length + dv.length = n)
    (k : ∀ F' H' v g t', Aft (cOf X ct) false σ F H t ρ F' H' t' g ρ' → MRep (cOf X ct) F' H' v m g → Q v H') : tG (cOf X ct) pa A σ H fun vs H1 => spOf (cOf X ct) n G (vs ++ dvs) H1 Q E := by
  simp only [zCall, Option.bind_eq_some_iff, Option.map_eq_some_iff, Prod.mk.injEq] at e
  obtain ⟨⟨gs, ρ1⟩, e1, ⟨ms, ρ2⟩, e2, ⟨m', ms'⟩, e3, ρ3, e4, rfl, rfl⟩ := e
  refine ⟨F, ρ, t, gs, ρ1, w, en, e1, fun F1 H1 vs t1 a1 pr => ?_⟩
  obtain ⟨g, t2, h1, h2, h3⟩ := takeG_ok a1.en pr e2
  have wf1 : Wf F1 H1 (fa g t2) := by rw [← h3]; exact a1.wf
  have rs := reps_append h1 (vals_reps (H := H1) (hdv F1))
  rw [fa0] at rs
  refine ⟨?_, F1, _, g, m', ms', wf1.le fun a => by rw [fa_at]; omega, rs, e3, fun F2 H2 v gv g' st er r => ?_⟩
  · rw [List.length_append, Paired.length pr, dp_length (hdv F1)]
    exact hn _ _ e1
  have fr := st.frame wf1
  have en2 : EnvR (cOf X ct) F2 H2 σ ρ2 t2 := h2.mono st.ex (st.kept wf1)
  obtain ⟨t3, h5, h6⟩ := backG_ok en2 (AgRs.ex st.ex pr) er e4
  refine k F2 H2 v gv t3 ⟨?_, h5, fun z => by cases z⟩ r
  have s1 := a1.st
  rw [fa0, h3] at s1
  exact (s1.trans fr).le fun a => by have := h6 a; simp only [fa_at]; omega
end
end Z

set_option Elab.async false
set_option linter.all false
set_option maxRecDepth 100000
set_option maxHeartbeats 2000000
/-! Z7: calls of defs and classes; places that are read. -/
namespace Z
open PySem L2 Evl PyProof.Rows

section
variable {X : Cx} {ct : Str → Option Addr} {e a b c : Expr} {es : List Expr} {pos p : Pos} {pa pb pc : Bool}
variable {k : Nat} {f : Addr} {fd : FuncData} {ps : List Str} {ds : List Value} {dvs : List V} {dv : List PyData} {n : Nat} {x : Str}

theorem pz_call {G : List M → Option (M × List (Option M))} {A : EvG} (Fk : FnOk X.prog X.w X.K X.mg X.base (L2.CX X.prog X.w) k f fd ps (spOf (cOf X ct) n G)) (hr : Room k X.A) (hg : Gl X x) (hm : X.mg x = some (.ref f)) (hk : PySem.W.keepIn X.K (.ref f) = true)
    (hb : Binds X.K fd ps ds) (hd : Vals dvs ds) (hdv : ∀ F, DpAll X.K F dvs dv) (ha : PZg (cOf X ct) X (e :: es) pa A) (hn : ∀ ρ gs ρ1, A ρ = some (gs, ρ1) → gs.length + dv.length = n)
    (hdb : (x == ("__debug__" : Str)) = false) (he : NoStar e es X.env) (hpl : (backTo pos (starEach es X.env)).any (·.1) = false) : PZ (cOf X ct) X (.Call (.Name x p) (e :: es) [] pos) false (zCall G A dv) := by
  refine PE.imp (pe_call Fk hr hg hm hk hb hd passL ha hdb he hpl) fun σ H Q ⟨F, ρ, t, m, ρ', w, en, e, q⟩ => ?_
  exact call_core w en hdv e (hn ρ) q
theorem pz_call0 {G : List M → Option (M × List (Option M))} (Fk : FnOk X.prog X.w X.K X.mg X.base (L2.CX X.prog X.w) k f fd ps (spOf (cOf X ct) n G)) (hr : Room k X.A) (hg : Gl X x) (hm : X.mg x = some (.ref f)) (hk : PySem.W.keepIn X.K (.ref f) = true)
    (hb : Binds X.K fd ps ds) (hd : Vals dvs ds) (hdv : ∀ F, DpAll X.K F dvs dv) (hn : dv.length = n) (hdb : (x == ("__debug__" : Str)) = false) : PZ (cOf X ct) X (.Call (.Name x p) [] [] pos) false (zCall G zgNil dv) := by
  refine PE.imp (pe_call0 Fk hr hg hm hk hb hd passL hdb) fun σ H Q ⟨F, ρ, t, m, ρ', w, en, e, q⟩ => ?_
  have := call_core (pa := true) (E := E0) (n := n) w en hdv e (fun gs ρ1 h => by cases h; simpa using hn) q
  obtain ⟨F1, r1, t1, gs, r1', w1, en1, e1, q1⟩ := this
  cases e1
  exact q1 F1 H [] t1 (Aft.refl w1 en1) .nil

/-! ### a class called -/
/-- an object that nobody here owns -/
theorem Step.add {F H : Hp} {t : Fp} {p : Addr} {o : HO} (w : Wf F H t) (hp : H p = none) : Step F H t F (upd H p o) t := by
  refine ⟨Ex.refl F, ⟨w.sub.trans (Ex.new hp), w.one, fun a z => ?_⟩, fun a u e _ => Ex.new hp a u e, fun a z => .inl z, fun _ _ e => .inl e⟩
  obtain ⟨h1, u, h2⟩ := w.own a z
  exact ⟨h1, u, Ex.new hp a u h2⟩
def zMake (c : Str) (G : List M → Option (M × List (Option M))) (A : EvG) (dv : List PyData) : EvE := fun ρ => (A ρ).bind fun (gs, ρ1) => (takeG gs ρ1).bind fun (ms, ρ2) => match G (.ins c [] :: (ms ++ dv.map .val)) with
  | some (.val .none, some m :: ms') => (backG gs ms ms' ρ2).map fun ρ3 => (m, ρ3)
  | _ => none
theorem make_core {G : List M → Option (M × List (Option M))} {A : EvG} {E : XK} {σ : L2.St} {F H : Hp} {t : Fp} {ρ ρ' : Env} {m : M} {Q : VK} {cn : Str} {Ca : Addr} (w : Wf F H t) (en : EnvR (cOf X ct) F H σ ρ t)
    (hc : ct cn = some Ca) (hdv : ∀ F, DpAll X.K F dvs dv) (e : zMake cn G A dv ρ = some (m, ρ')) (hn : ∀ gs ρ1, A ρ = some (gs, ρ1) → gs.length + dv.length + 1 = n)
    (k : ∀ F' H' v g t', Aft (cOf X ct) false σ F H t ρ F' H' t' g ρ' → MRep (cOf X ct) F' H' v m g → Q v H') :
    tG (cOf X ct) pa A σ H fun vs H1 => ∀ x dx, H1 x = none → H1 dx = none → dx ≠ x → spOf (cOf X ct) n G (.ref x :: (vs ++ dvs)) (upd (upd H1 dx (.own x)) x (.ins Ca dx [])) (fun v H2 => v = .non ∧ Q (.ref x) H2) E := by
  simp only [zMake, Option.bind_eq_some_iff] at e
  obtain ⟨⟨gs, ρ1⟩, e1, ⟨ms, ρ2⟩, e2, e3⟩ := e
  dsimp only at e3
  split at e3
  case h_2 => cases e3
  rename_i m0 ms' hG
  simp only [Option.map_eq_some_iff, Prod.mk.injEq] at e3
  obtain ⟨ρ3, e4, rfl, rfl⟩ := e3
  refine ⟨F, ρ, t, gs, ρ1, w, en, e1, fun F1 H1 vs t1 a1 pr x dx hx hdx hne => ?_⟩
  obtain ⟨g, t2, h1, h2, h3⟩ := takeG_ok a1.en pr e2
  have wf1 : Wf F1 H1 (fa g t2) := by rw [← h3]; exact a1.wf
  have s1 := Step.add (o := .own x) wf1 hdx
  have hx1 : upd H1 dx (.own x) x = none := by rw [upd_ne hne.symm]; exact hx
  have s2 := Step.new (o := .ins Ca dx []) s1.wf hx1
  have ex : Ex H1 (upd (upd H1 dx (.own x)) x (.ins Ca dx [])) := (Ex.new hdx).trans (Ex.new hx1)
  have kp : ∀ {u : Fp}, (∀ a, 0 < u a → ∃ o, H1 a = some o) → ∀ a, 0 < u a → upd (upd H1 dx (.own x)) x (.ins Ca dx []) a = H1 a := fun {u} hu a pu => by
    obtain ⟨o, ho⟩ := hu a pu
    rw [ho]; exact ex a o ho
  have rs := reps_append h1 (vals_reps (H := H1) (hdv F1))
  rw [fa0] at rs
  have rs2 : MReps (cOf X ct) F1 (upd (upd H1 dx (.own x)) x (.ins Ca dx [])) (vs ++ dvs) (ms ++ dv.map .val) g := rs.mono (Ex.refl _) _ _ _ (kp (rs.dom _ _ _))
  have en2 : EnvR (cOf X ct) F1 (upd (upd H1 dx (.own x)) x (.ins Ca dx [])) σ ρ2 t2 := h2.mono (Ex.refl _) (kp h2.dom)
  have wf2 : Wf F1 (upd (upd H1 dx (.own x)) x (.ins Ca dx [])) (fa (fa (f1 x) g) t2) := by rw [fa_assoc]; exact s2.wf
  have self : MRep (cOf X ct) F1 (upd (upd H1 dx (.own x)) x (.ins Ca dx [])) (.ref x) (.ins cn []) (f1 x) := by
    have := MRep.ins (C := cOf X ct) (F := F1) (H := upd (upd H1 dx (.own x)) x (.ins Ca dx [])) hc upd_same .nil
    rw [fa0] at this
    exact this
  refine ⟨?_, F1, _, _, _, _, wf2.le fun a => by simp only [fa_at]; omega, .cons self rs2, hG, fun F2 H2 v gv g' st er r => ?_⟩
  · rw [List.length_cons, List.length_append, Paired.length pr, dp_length (hdv F1)]
    exact hn _ _ e1
  cases r with
  | val r =>
    cases r
    refine ⟨rfl, ?_⟩
    cases er with
    | @here v' m' fx _ _ tx rx er =>
      have fr := st.frame wf2
      have en3 : EnvR (cOf X ct) F2 H2 σ ρ2 t2 := en2.mono st.ex (st.kept wf2)
      obtain ⟨t3, h5, h6⟩ := backG_ok en3 (AgRs.ex st.ex pr) er e4
      refine k F2 H2 _ fx t3 ⟨?_, h5, fun z => by cases z⟩ rx
      have s0 := a1.st
      rw [fa0, h3] at s0
      have s3 := s0.trans (s1.trans s2)
      rw [← fa_assoc] at s3
      exact (s3.trans fr).le fun a => by have := h6 a; simp only [fa_at, f0_at]; omega
theorem pz_make {G : List M → Option (M × List (Option M))} {A : EvG} {Ca fi : Addr} {cn : Str} (hc : ct cn = some Ca) (MK : Mk X.K Ca fi) (Fk : FnOk X.prog X.w X.K X.mg X.base (L2.CX X.prog X.w) k fi fd ps (spOf (cOf X ct) n G)) (hr : Room (k + 1) X.A) (hg : Gl X x) (hm : X.mg x = some (.ref Ca))
    (hb : Binds X.K fd ps ds) (hd : Vals dvs ds) (hdv : ∀ F, DpAll X.K F dvs dv) (ha : PZg (cOf X ct) X (e :: es) pa A) (hn : ∀ ρ gs ρ1, A ρ = some (gs, ρ1) → gs.length + dv.length + 1 = n)
    (hdb : (x == ("__debug__" : Str)) = false) (he : NoStar e es X.env) (hpl : (backTo pos (starEach es X.env)).any (·.1) = false) : PZ (cOf X ct) X (.Call (.Name x p) (e :: es) [] pos) false (zMake cn G A dv) := by
  refine PE.imp (pe_make MK Fk hr hg hm hb hd passL ha hdb he hpl) fun σ H Q ⟨F, ρ, t, m, ρ', w, en, e, q⟩ => ?_
  exact make_core w en hc hdv e (hn ρ) q
/-- what is made, frozen -/
def zFrz (A : EvE) : EvE := fun ρ => (A ρ).map fun (m, ρ') => (frz m, ρ')
theorem pz_frz {A : EvE} (h : PZ (cOf X ct) X e pa A) : PZ (cOf X ct) X e pa (zFrz A) := by
  refine PE.imp h fun σ H Q ⟨F, ρ, t, m, ρ', w, en, e, q⟩ => ?_
  simp only [zFrz, Option.map_eq_some_iff] at e
  obtain ⟨⟨m', ρ1⟩, e1, e2⟩ := e
  simp only [Prod.mk.injEq] at e2
  obtain ⟨rfl, rfl⟩ := e2
  refine ⟨F, ρ, t, m', ρ1, w, en, e1, fun F' H' v g t' a r => ?_⟩
  obtain ⟨F'', a', r', _⟩ := a.freeze r
  exact q F'' H' v f0 t' a' r'

/-! ### places that are read -/
inductive Acs where
  | ix (d : PyData)
  | fld (x : Str)
def lookF (x : Str) : List (Str × M) → Option M
  | [] => none
  | (y, m) :: r => if y = x then some m else lookF x r
def at1 : M → Acs → Option M
  | .val d, .ix e => (ixD d e).map .val
  | .lst ms, .ix (.int i) => atI ms i
  | .tup ms, .ix (.int i) => atI ms i
  | .ins _ fs, .fld x => lookF x fs
  | .fz m, k => (at1 m k).map frz
  | _, _ => none
abbrev EvR := Env → Option M
def tR (C : Ct) (A : EvR) : TE := fun σ H Q => ∃ F ρ t m, Wf F H t ∧ EnvR C F H σ ρ t ∧ A ρ = some m ∧ ∀ F' H' v f, Aft C true σ F H t ρ F' H' t f0 ρ → MRep C F' H' v m f → Q v H'
abbrev PR (C : Ct) (X : Cx) (e : Expr) (A : EvR) : Prop := PE X e (tR C A)
def rVar (i : Nat) : EvR := fun ρ => (ρ[i]?).bind fun o => o
def rIx (A : EvR) (B : EvO) : EvR := fun ρ => (A ρ).bind fun m => (B ρ).bind fun (d, _, _) => at1 m (.ix d)
def rFld (A : EvR) (x : Str) : EvR := fun ρ => (A ρ).bind fun m => at1 m (.fld x)
theorem pr_var {i : Nat} (hN : X.N[i]? = some x) (hv : Vis X.env.scope x) (hd : (x == ("__debug__" : Str)) = false) (hcd : (x == ("__classdict__" : Str)) = false) : PR (cOf X ct) X (.Name x pos) (rVar i) := by
  refine PE.imp (pe_var hN hv hd hcd) fun σ H Q ⟨F, ρ, t, m, w, en, e, k⟩ => ?_
  simp only [rVar, Option.bind_eq_some_iff] at e
  obtain ⟨o, e1, e2⟩ := e
  subst e2
  obtain ⟨v, f, t', h1, h2, h3, h4⟩ := en.get e1
  exact ⟨v, h1, k F H v f (Aft.refl w en) h2⟩
/-- a frozen value looked at -/
theorem frz_at {C : Ct} {F H : Hp} {v : V} {m : M} {g : Fp} (r : MRep C F F v m g) : MRep C F H v (frz m) f0 := by
  unfold frz
  split
  · rename_i d e
    exact .val (deep_dp m _ _ _ r e)
  · exact .fz r
theorem atI_reps {C : Ct} {F H : Hp} {ms : List M} {vs : List V} {f : Fp} {i : Int} {m : M} (h : MReps C F H vs ms f) (e : atI ms i = some m) : ∃ v g, atI vs i = some v ∧ MRep C F H v m g := by
  unfold atI at e ⊢
  rw [reps_length h]
  simp only [Option.bind_eq_some_iff] at e ⊢
  obtain ⟨j, e1, e2⟩ := e
  obtain ⟨v, g, _, e3, e4, _⟩ := reps_split h e2
  exact ⟨v, g, ⟨j, e1, e3⟩, e4⟩
/-- how an item is read -/
def IxV (K : PySem.W.Frag) (H : Hp) (v : V) (i : Int) (z : V) : Prop :=
  (∃ p xs, v = .ref p ∧ SqL K H p xs ∧ atI xs i = some z) ∨ (∃ p xs, v = .ref p ∧ SqT K H p xs ∧ atI xs i = some z) ∨ ∃ s c, v = .str s ∧ s.length ≤ sizeLine ∧ atI s.cps.toList i = some c ∧ z = .str ⟨#[c]⟩
theorem IxV.ex {K : PySem.W.Frag} {F H : Hp} {v z : V} {i : Int} (e : Ex F H) (h : IxV K F v i z) : IxV K H v i z := by
  rcases h with ⟨p, xs, h1, h2, h3⟩ | ⟨p, xs, h1, h2, h3⟩ | h
  · exact .inl ⟨p, xs, h1, ex_l e h2, h3⟩
  · exact .inr (.inl ⟨p, xs, h1, ex_t e h2, h3⟩)
  · exact .inr (.inr h)
theorem IxV.rd {K : PySem.W.Frag} {H : Hp} {v z : V} {i : Int} {Q : VK} (h : IxV K H v i z) (q : Q z H) : L2.rIx K v (.int i) H Q := by
  rcases h with ⟨p, xs, h1, h2, h3⟩ | ⟨p, xs, h1, h2, h3⟩ | ⟨s, c, h1, h2, h3, h4⟩
  · exact .inl ⟨p, xs, i, z, h1, rfl, h2, h3, q⟩
  · exact .inr (.inl ⟨p, xs, i, z, h1, rfl, h2, h3, q⟩)
  · subst h4
    exact .inr (.inr ⟨s, i, c, h1, rfl, h2, h3, q⟩)
theorem at_ix {C : Ct} {F : Hp} : ∀ (m : M) {H : Hp} {v : V} {f : Fp} {d : PyData} {m' : M}, Ex F H → MRep C F H v m f → at1 m (.ix d) = some m' → ∃ i v' f', d = .int i ∧ MRep C F H v' m' f' ∧ IxV C.K H v i v'
  | .val d0, H, v, f, d, m', s, r, e => by
    cases r with
    | val r =>
      simp only [at1, Option.map_eq_some_iff] at e
      obtain ⟨r0, e1, rfl⟩ := e
      unfold ixD at e1
      split at e1
      · rename_i ds i
        cases r with
        | tup h1 h2 =>
          obtain ⟨z, e2, e3⟩ := atI_dp h2 e1
          exact ⟨i, z, f0, rfl, .val e3, .inr (.inl ⟨_, _, rfl, ex_t s h1, e2⟩)⟩
      · rename_i ds i
        cases r with
        | lst h1 h2 =>
          obtain ⟨z, e2, e3⟩ := atI_dp h2 e1
          exact ⟨i, z, f0, rfl, .val e3, .inl ⟨_, _, rfl, ex_l s h1, e2⟩⟩
      · rename_i z i
        split at e1
        · rename_i hz
          simp only [Option.map_eq_some_iff] at e1
          obtain ⟨c, e2, rfl⟩ := e1
          cases r
          exact ⟨i, _, f0, rfl, .val (.str _), .inr (.inr ⟨z, c, rfl, hz, e2, rfl⟩)⟩
        · cases e1
      · cases e1
  | .lst ms, H, v, f, d, m', s, r, e => by
    cases r with
    | lst h1 h2 =>
      cases d <;> first | (simp [at1] at e; done) | skip
      rename_i i
      obtain ⟨z, g, e2, e3⟩ := atI_reps h2 (by simpa [at1] using e)
      exact ⟨i, z, g, rfl, e3, .inl ⟨_, _, rfl, SqL.of h1, e2⟩⟩
  | .tup ms, H, v, f, d, m', s, r, e => by
    cases r with
    | tup h1 h2 =>
      cases d <;> first | (simp [at1] at e; done) | skip
      rename_i i
      obtain ⟨z, g, e2, e3⟩ := atI_reps h2 (by simpa [at1] using e)
      exact ⟨i, z, g, rfl, e3, .inr (.inl ⟨_, _, rfl, SqT.of h1, e2⟩)⟩
  | .dct _ _, H, v, f, d, m', s, r, e => by simp [at1] at e
  | .ins _ _, H, v, f, d, m', s, r, e => by simp [at1] at e
  | .fz m, H, v, f, d, m', s, r, e => by
    cases r with
    | @fz _ _ _ g r =>
      simp only [at1, Option.map_eq_some_iff] at e
      obtain ⟨m1, e1, rfl⟩ := e
      obtain ⟨i, v', f', h1, h2, h3⟩ := at_ix m (Ex.refl F) r e1
      exact ⟨i, v', f0, h1, frz_at h2, h3.ex s⟩
theorem lookF_ok {C : Ct} {F H : Hp} {x : Str} : ∀ {fs : List (Str × M)} {vs : List (Str × V)} {f : Fp} {m : M}, MRepF C F H vs fs f → lookF x fs = some m → ∃ v g, vs.lookup x = some v ∧ MRep C F H v m g
  | [], _, _, m, r, e => by cases e
  | (y, m0) :: fs, _, _, m, r, e => by
    cases r with
    | cons h1 h2 =>
      unfold lookF at e
      split at e
      · rename_i hy
        cases e
        subst hy
        exact ⟨_, _, by simp [List.lookup], h1⟩
      · rename_i hy
        obtain ⟨v, g, e1, e2⟩ := lookF_ok h2 e
        refine ⟨v, g, ?_, e2⟩
        have : (x == y) = false := beq_eq_false_iff_ne.mpr fun z => hy z.symm
        simp [List.lookup, this, e1]
theorem at_fld {C : Ct} {F : Hp} {x : Str} : ∀ (m : M) {H : Hp} {v : V} {f : Fp} {m' : M}, Ex F H → MRep C F H v m f → at1 m (.fld x) = some m' → ∃ a c Ca dx fs v' f', v = .ref a ∧ C.ct c = some Ca ∧ H a = some (.ins Ca dx fs) ∧ fs.lookup x = some v' ∧ MRep C F H v' m' f'
  | .val d0, H, v, f, m', s, r, e => by simp [at1] at e
  | .lst ms, H, v, f, m', s, r, e => by simp [at1] at e
  | .tup ms, H, v, f, m', s, r, e => by simp [at1] at e
  | .dct _ _, H, v, f, m', s, r, e => by simp [at1] at e
  | .ins c fs, H, v, f, m', s, r, e => by
    cases r with
    | @ins _ a _ Ca dx vs _ _ hc h1 h2 =>
      obtain ⟨v', g, e1, e2⟩ := lookF_ok h2 (by simpa [at1] using e)
      exact ⟨a, c, Ca, dx, vs, v', g, rfl, hc, h1, e1, e2⟩
  | .fz m, H, v, f, m', s, r, e => by
    cases r with
    | @fz _ _ _ g r =>
      simp only [at1, Option.map_eq_some_iff] at e
      obtain ⟨m1, e1, rfl⟩ := e
      obtain ⟨a, c, Ca, dx, vs, v', g', h1, h2, h3, h4, h5⟩ := at_fld m (Ex.refl F) r e1
      exact ⟨a, c, Ca, dx, vs, v', f0, h1, h2, s _ _ h3, h4, frz_at h5⟩
theorem pr_ix {A : EvR} {B : EvO} (ha : PR (cOf X ct) X a A) (hb : PZo (cOf X ct) X b true B) (hs : PlainIx b) : PR (cOf X ct) X (.Subscript a b pos) (rIx A B) := by
  refine PE.imp (pe_ix ix_seq ha hb hs) fun σ H Q ⟨F, ρ, t, m, w, en, e, k⟩ => ?_
  simp only [rIx, Option.bind_eq_some_iff] at e
  obtain ⟨m0, e1, ⟨d, p, ρ1⟩, e2, e3⟩ := e
  refine ⟨F, ρ, t, m0, w, en, e1, fun F1 H1 v f a1 r1 => ⟨F1, ρ, t, d, p, ρ1, a1.wf, a1.en, e2, fun F2 H2 y t2 a2 s2 _ => ?_⟩⟩
  obtain ⟨z1, z2, z3⟩ := a2.pu rfl
  subst z2 z3
  have r2 : MRep (cOf X ct) F2 H2 v m0 f := r1.mono a2.st.ex _ _ _ fun x px => by
    obtain ⟨o, ho⟩ := r1.dom _ _ _ x px
    rw [ho]; exact z1 x o ho
  obtain ⟨i, v', f', h1, h2, h3⟩ := at_ix m0 a2.st.wf.sub r2 e3
  subst h1
  have := sh_int s2
  subst this
  have := a1.trans a2
  rw [fa0l] at this
  exact h3.rd (k F2 H2 v' f' this h2)
end
end Z

set_option Elab.async false
set_option linter.all false
set_option maxRecDepth 100000
set_option maxHeartbeats 2000000
/-! Z8: dicts. -/
namespace Z
open PySem L2 Evl PyProof.Rows

def keq (t : Bool) (k d : PyData) : Bool := match t with
  | true => decide (nkey k = nkey d)
  | false => decide (fkey k = fkey d)
def dget (t : Bool) : List (PyData × M) → PyData → Option M
  | [], _ => none
  | (k, m) :: r, d => if keq t k d then some m else dget t r d
def drep (t : Bool) (d : PyData) (n : M) : List (PyData × M) → List (PyData × M)
  | [] => []
  | (k, m) :: r => if keq t k d then (k, n) :: r else (k, m) :: drep t d n r
def dput (t : Bool) (kvs : List (PyData × M)) (d : PyData) (n : M) : List (PyData × M) := if (dget t kvs d).isSome then drep t d n kvs else kvs ++ [(d, n)]
/-- a key that such a dict may have -/
def kok (t : Bool) (d : PyData) : Bool := match t with
  | true => match d with
    | .tuple _ => match nkey d with
      | some k => decide (k.depth ≤ 8)
      | none => false
    | _ => false
  | false => (fkey d).isSome

section
variable {X : Cx} {pins : List (Addr × Obj)} {σ : L2.St} {H : Hp} {s : Shared}
mutual
theorem dp_nested (I : Inv X pins σ H s) : ∀ (d : PyData) (v : V) (u : Value) (k : NestedKey), Dp X.K H v d → RelV v u → nkey d = some k → NestedIs s.heap k u
  | .none, _, _, k, h, r, e => by
    cases h
    cases r
    simp only [nkey, Option.some.injEq] at e
    subst e; exact .none
  | .bool b, _, _, k, h, r, e => by simp [nkey] at e
  | .int i, _, _, k, h, r, e => by
    cases h
    obtain ⟨t, rfl⟩ := r
    simp only [nkey, Option.some.injEq] at e
    subst e; exact .int _ _
  | .str x, _, _, k, h, r, e => by
    cases h
    obtain ⟨t, rfl⟩ := r
    simp only [nkey, Option.some.injEq] at e
    subst e; exact .text _ _
  | .list ds, _, _, k, h, r, e => by simp [nkey] at e
  | .dict _, _, _, k, h, r, e => by simp [nkey] at e
  | .tuple ds, _, _, k, h, r, e => by
    cases h with
    | tup hs ha =>
      cases r
      simp only [nkey, Option.map_eq_some_iff] at e
      obtain ⟨ks, e1, rfl⟩ := e
      obtain ⟨its, rv, ⟨o, ho, hc, n, hd⟩, _⟩ := I.tuple hs
      exact .tup ho hc hd (dp_nesteds I ds _ its ks ha rv e1)
theorem dp_nesteds (I : Inv X pins σ H s) : ∀ (ds : List PyData) (vs : List V) (us : List Value) (ks : List NestedKey), DpAll X.K H vs ds → Vals vs us → nkeys ds = some ks → NestedAll s.heap ks us
  | [], _, _, ks, h, r, e => by
    cases h
    cases r
    simp only [nkeys, Option.some.injEq] at e
    subst e; exact .nil
  | d :: ds, _, _, ks, h, r, e => by
    cases h with
    | cons h1 h2 =>
      cases r with
      | cons r1 r2 =>
        simp only [nkeys, Option.bind_eq_some_iff, Option.map_eq_some_iff] at e
        obtain ⟨k, e1, ks', e2, rfl⟩ := e
        exact .cons (dp_nested I d _ _ k h1 r1 e1) (dp_nesteds I ds _ _ ks' h2 r2 e2)
end
end

section
variable {C : Ct} {F H : Hp}
theorem repT_len : ∀ {kvs : List (PyData × M)} {xs : List (NestedKey × Addr × Value)} {f : Fp}, MRepT C F H xs kvs f → xs.length = kvs.length
  | [], _, _, r => by cases r; rfl
  | (d, m) :: kvs, _, _, r => by
    cases r with
    | cons _ _ _ _ _ r => simp [repT_len r]
theorem repK_len : ∀ {kvs : List (PyData × M)} {xs : List (Key × V)} {f : Fp}, MRepK C F H xs kvs f → xs.length = kvs.length
  | [], _, _, r => by cases r; rfl
  | (d, m) :: kvs, _, _, r => by
    cases r with
    | cons _ _ r => simp [repK_len r]
/-- what a key finds -/
theorem repT_get {k : NestedKey} {d : PyData} (hk : nkey d = some k) : ∀ {kvs : List (PyData × M)} {xs : List (NestedKey × Addr × Value)} {f : Fp}, MRepT C F H xs kvs f →
    (dget true kvs d = none → atKey xs k = none) ∧ ∀ m, dget true kvs d = some m → ∃ b u v g, atKey xs k = some (b, u) ∧ RelV v u ∧ MRep C F H v m g
  | [], _, _, r => by cases r; exact ⟨fun _ => rfl, fun m e => by cases e⟩
  | (d0, m0) :: kvs, _, _, r => by
    cases r with
    | @cons _ k0 b d0 u v xs m0 _ f g hk0 hd hp hr h1 h2 =>
      obtain ⟨q1, q2⟩ := repT_get hk h2
      have ke : keq true d0 d = decide (k0 = k) := by simp [keq, hk0, hk]
      by_cases e : k0 = k
      · refine ⟨fun z => ?_, fun m z => ?_⟩
        · simp [dget, ke, e] at z
        · simp only [dget, ke, e, decide_true, if_true, Option.some.injEq] at z
          subst z
          exact ⟨b, u, v, f, by simp [atKey, e], hr, h1⟩
      · have ea : atKey ((k0, b, u) :: xs) k = atKey xs k := by simp [atKey, e]
        refine ⟨fun z => ?_, fun m z => ?_⟩
        · rw [ea]; exact q1 (by simpa [dget, ke, e] using z)
        · rw [ea]; exact q2 m (by simpa [dget, ke, e] using z)
theorem repK_get {k : Key} {d : PyData} (hk : fkey d = some k) : ∀ {kvs : List (PyData × M)} {xs : List (Key × V)} {f : Fp}, MRepK C F H xs kvs f →
    (dget false kvs d = none → valV xs k = none) ∧ ∀ m, dget false kvs d = some m → ∃ v g, valV xs k = some v ∧ MRep C F H v m g
  | [], _, _, r => by cases r; exact ⟨fun _ => rfl, fun m e => by cases e⟩
  | (d0, m0) :: kvs, _, _, r => by
    cases r with
    | @cons _ k0 d0 v xs m0 _ f g hk0 h1 h2 =>
      obtain ⟨q1, q2⟩ := repK_get hk h2
      have ke : keq false d0 d = decide (k0 = k) := by simp [keq, hk0, hk]
      by_cases e : k0 = k
      · refine ⟨fun z => ?_, fun m z => ?_⟩
        · simp [dget, ke, e] at z
        · simp only [dget, ke, e, decide_true, if_true, Option.some.injEq] at z
          subst z
          exact ⟨v, f, valV_pos e, h1⟩
      · refine ⟨fun z => ?_, fun m z => ?_⟩
        · rw [valV_neg e]; exact q1 (by simpa [dget, ke, e] using z)
        · rw [valV_neg e]; exact q2 m (by simpa [dget, ke, e] using z)
/-- a value replaced -/
theorem repT_rep {k : NestedKey} {d : PyData} {n : M} {v : V} {u : Value} {g : Fp} {F' H' : Hp} (hk : nkey d = some k) (hr : RelV v u) (rn : MRep C F' H' v n g) (e : Ex F F') : ∀ {kvs : List (PyData × M)} {xs : List (NestedKey × Addr × Value)} {f : Fp}, (xs.map (·.1)).Nodup → MRepT C F H xs kvs f → (∀ a, 0 < f a → H' a = H a) →
    ∃ f', MRepT C F' H' (xs.map (putAt k u)) (drep true d n kvs) f' ∧ ∀ a, f' a ≤ f a + g a
  | [], _, _, hn, r, kp => by cases r; exact ⟨f0, .nil, fun a => by rw [f0_at]; omega⟩
  | (d0, m0) :: kvs, _, _, hn, r, kp => by
    cases r with
    | @cons _ k0 b d0 u0 v0 xs m0 _ f g0 hk0 hd hp hr0 h1 h2 =>
      have ke : keq true d0 d = decide (k0 = k) := by simp [keq, hk0, hk]
      simp only [List.map_cons, List.nodup_cons] at hn
      by_cases z : k0 = k
      · -- it stands here; behind there is none
        have h2' : MRepT C F' H' xs kvs g0 := h2.mono e _ _ _ fun a p => kp a (by rw [fa_at]; omega)
        have nox : xs.map (putAt k u) = xs := by
          have key : ∀ l : List (NestedKey × Addr × Value), (∀ x ∈ l, x.1 ≠ k) → l.map (putAt k u) = l := fun l => by
            induction l with
            | nil => intro _; rfl
            | cons x l ih =>
              intro h
              rw [List.map_cons, ih fun y hy => h y (List.mem_cons_of_mem _ hy)]
              simp [putAt, h x List.mem_cons_self]
          exact key xs fun x hx q => hn.1 (by rw [z, ← q]; exact List.mem_map_of_mem hx)
        refine ⟨fa g g0, ?_, fun a => by simp only [fa_at]; omega⟩
        simp only [List.map_cons, drep, ke, z, decide_true, if_true, nox, putAt]
        exact .cons (z ▸ hk0) (z ▸ hd) (Dp.ex e _ _ hp) hr rn h2'
      · obtain ⟨f', q1, q2⟩ := repT_rep hk hr rn e hn.2 h2 fun a p => kp a (by rw [fa_at]; omega)
        refine ⟨fa f f', ?_, fun a => by have := q2 a; simp only [fa_at]; omega⟩
        simp only [List.map_cons, drep, ke, z, decide_false, Bool.false_eq_true, if_false, putAt]
        exact .cons hk0 hd (Dp.ex e _ _ hp) hr0 (h1.mono e _ _ _ fun a p => kp a (by rw [fa_at]; omega)) q1
theorem repT_app {F' H' : Hp} {k : NestedKey} {d : PyData} {n : M} {b : Addr} {v : V} {u : Value} {g : Fp} (e : Ex F F') (hk : nkey d = some k) (hd : k.depth ≤ 8) (hp : Dp C.K F' (.ref b) d) (hr : RelV v u) (rn : MRep C F' H' v n g) : ∀ {kvs : List (PyData × M)} {xs : List (NestedKey × Addr × Value)} {f : Fp}, MRepT C F H xs kvs f → (∀ a, 0 < f a → H' a = H a) →
    MRepT C F' H' (xs ++ [(k, b, u)]) (kvs ++ [(d, n)]) (fa f g)
  | [], _, _, r, kp => by
    cases r
    rw [fa0l, ← fa0 g]
    exact .cons hk hd hp hr rn .nil
  | (d0, m0) :: kvs, _, _, r, kp => by
    cases r with
    | cons a1 a2 a3 a4 h1 h2 =>
      rw [fa_assoc]
      exact .cons a1 a2 (Dp.ex e _ _ a3) a4 (h1.mono e _ _ _ fun a p => kp a (by rw [fa_at]; omega)) (repT_app e hk hd hp hr rn h2 fun a p => kp a (by rw [fa_at]; omega))
/-- .. d[k] = n -/
theorem repT_put {F' H' : Hp} {k : NestedKey} {d : PyData} {n : M} {b : Addr} {v : V} {u : Value} {g f : Fp} {kvs : List (PyData × M)} {xs : List (NestedKey × Addr × Value)} (e : Ex F F') (hk : nkey d = some k) (hd : k.depth ≤ 8) (hp : Dp C.K F' (.ref b) d) (hr : RelV v u) (rn : MRep C F' H' v n g) (hn : (xs.map (·.1)).Nodup)
    (r : MRepT C F H xs kvs f) (kp : ∀ a, 0 < f a → H' a = H a) : ∃ f', MRepT C F' H' (storedH xs k b u) (dput true kvs d n) f' ∧ ∀ a, f' a ≤ f a + g a := by
  obtain ⟨q1, q2⟩ := repT_get hk r
  unfold dput
  cases h : dget true kvs d with
  | none =>
    rw [storedH_new (q1 h)]
    simp only [Option.isSome_none, Bool.false_eq_true, if_false]
    exact ⟨fa f g, repT_app e hk hd hp hr rn r kp, fun a => by rw [fa_at]; omega⟩
  | some m =>
    obtain ⟨b0, u0, v0, g0, e0, _, _⟩ := q2 m h
    rw [storedH_old e0]
    simp only [Option.isSome_some, if_true]
    exact repT_rep hk hr rn e hn r kp
theorem repK_rep {F' H' : Hp} {k : L2.Key} {d : PyData} {n : M} {v : V} {g : Fp} (e : Ex F F') (hk : fkey d = some k) (rn : MRep C F' H' v n g) : ∀ {kvs : List (PyData × M)} {xs : List (L2.Key × V)} {f : Fp}, (xs.map (·.1)).Nodup → MRepK C F H xs kvs f → (∀ a, 0 < f a → H' a = H a) →
    ∃ f', MRepK C F' H' (xs.map fun kv => if kv.1 = k then (kv.1, v) else kv) (drep false d n kvs) f' ∧ ∀ a, f' a ≤ f a + g a
  | [], _, _, hn, r, kp => by cases r; exact ⟨f0, .nil, fun a => by rw [f0_at]; omega⟩
  | (d0, m0) :: kvs, _, _, hn, r, kp => by
    cases r with
    | @cons _ k0 d0 v0 xs m0 _ f g0 hk0 h1 h2 =>
      have ke : keq false d0 d = decide (k0 = k) := by simp [keq, hk0, hk]
      simp only [List.map_cons, List.nodup_cons] at hn
      by_cases z : k0 = k
      · have h2' : MRepK C F' H' xs kvs g0 := h2.mono e _ _ _ fun a p => kp a (by rw [fa_at]; omega)
        have nox : (xs.map fun kv => if kv.1 = k then (kv.1, v) else kv) = xs := by
          have key : ∀ l : List (L2.Key × V), (∀ x ∈ l, x.1 ≠ k) → (l.map fun kv => if kv.1 = k then (kv.1, v) else kv) = l := fun l => by
            induction l with
            | nil => intro _; rfl
            | cons x l ih =>
              intro h
              rw [List.map_cons, ih fun y hy => h y (List.mem_cons_of_mem _ hy), if_neg (h x List.mem_cons_self)]
          exact key xs fun x hx q => hn.1 (by rw [z, ← q]; exact List.mem_map_of_mem hx)
        refine ⟨fa g g0, ?_, fun a => by simp only [fa_at]; omega⟩
        simp only [List.map_cons, drep, ke, z, decide_true, if_true, nox]
        exact .cons (z ▸ hk0) rn h2'
      · obtain ⟨f', q1, q2⟩ := repK_rep e hk rn hn.2 h2 fun a p => kp a (by rw [fa_at]; omega)
        refine ⟨fa f f', ?_, fun a => by have := q2 a; simp only [fa_at]; omega⟩
        simp only [List.map_cons, drep, ke, z, decide_false, Bool.false_eq_true, if_false]
        exact .cons hk0 (h1.mono e _ _ _ fun a p => kp a (by rw [fa_at]; omega)) q1
theorem repK_app {F' H' : Hp} {k : L2.Key} {d : PyData} {n : M} {v : V} {g : Fp} (e : Ex F F') (hk : fkey d = some k) (rn : MRep C F' H' v n g) : ∀ {kvs : List (PyData × M)} {xs : List (L2.Key × V)} {f : Fp}, MRepK C F H xs kvs f → (∀ a, 0 < f a → H' a = H a) →
    MRepK C F' H' (xs ++ [(k, v)]) (kvs ++ [(d, n)]) (fa f g)
  | [], _, _, r, kp => by
    cases r
    rw [fa0l, ← fa0 g]
    exact .cons hk rn .nil
  | (d0, m0) :: kvs, _, _, r, kp => by
    cases r with
    | cons a1 h1 h2 =>
      rw [fa_assoc]
      exact .cons a1 (h1.mono e _ _ _ fun a p => kp a (by rw [fa_at]; omega)) (repK_app e hk rn h2 fun a p => kp a (by rw [fa_at]; omega))
theorem repK_put {F' H' : Hp} {k : L2.Key} {d : PyData} {n : M} {v : V} {g f : Fp} {kvs : List (PyData × M)} {xs : List (L2.Key × V)} (e : Ex F F') (hk : fkey d = some k) (rn : MRep C F' H' v n g) (hn : (xs.map (·.1)).Nodup) (r : MRepK C F H xs kvs f) (kp : ∀ a, 0 < f a → H' a = H a) :
    (∃ f', MRepK C F' H' (putK xs k v) (dput false kvs d n) f' ∧ ∀ a, f' a ≤ f a + g a) ∧ ((putK xs k v).map (·.1)).Nodup := by
  obtain ⟨q1, q2⟩ := repK_get hk r
  unfold dput
  cases h : dget false kvs d with
  | none =>
    have h1 := q1 h
    rw [putK_new v h1]
    simp only [Option.isSome_none, Bool.false_eq_true, if_false]
    refine ⟨⟨fa f g, repK_app e hk rn r kp, fun a => by rw [fa_at]; omega⟩, ?_⟩
    rw [List.map_append, List.nodup_append]
    refine ⟨hn, by simp, fun a ha b hb => ?_⟩
    have hb : b = k := by simpa using hb
    subst hb
    intro z
    subst z
    obtain ⟨x, hx, hxa⟩ := List.mem_map.mp ha
    have := valV_any a xs
    rw [h1] at this
    have h3 : (xs.any fun kv => decide (kv.1 = a)) = true := List.any_eq_true.mpr ⟨x, hx, by simp [hxa]⟩
    rw [h3] at this
    cases this
  | some m =>
    obtain ⟨v0, g0, e0, _⟩ := q2 m h
    have ha : (xs.any fun kv => decide (kv.1 = k)) = true := by rw [valV_any, e0]; rfl
    have he : putK xs k v = xs.map fun kv => if kv.1 = k then (kv.1, v) else kv := by unfold putK; rw [if_pos ha]
    rw [he]
    simp only [Option.isSome_some, if_true]
    refine ⟨repK_rep e hk rn hn r kp, ?_⟩
    have : (xs.map fun kv => if kv.1 = k then (kv.1, v) else kv).map (·.1) = xs.map (·.1) := by
      rw [List.map_map]
      refine List.map_congr_left fun x _ => ?_
      simp only [Function.comp]
      split <;> rfl
    rw [this]; exact hn
end

/-! ### the heap's dicts -/
section
variable {X : Cx} {ct : Str → Option Addr} {pins : List (Addr × Obj)} {σ : L2.St} {F H : Hp} {s : Shared}
theorem repT_is (I : Inv X pins σ H s) (sub : Ex F H) : ∀ {kvs : List (PyData × M)} {xs : List (NestedKey × Addr × Value)} {f : Fp} {G : Hp}, MRepT (cOf X ct) F G xs kvs f → ∀ x ∈ xs, (nestedKind X.prog X.w).is s.heap x.1 x.2.1
  | [], _, _, _, r, x, hx => by cases r; cases hx
  | (d, m) :: kvs, _, _, _, r, x, hx => by
    cases r with
    | cons hk hd hp _ _ h2 =>
      rcases List.mem_cons.mp hx with rfl | hx
      · exact ⟨dp_nested I d _ _ _ (Dp.ex sub _ _ hp) rfl hk, hd⟩
      · exact repT_is I sub h2 x hx
theorem dictT_of (I : Inv X pins σ H s) (sub : Ex F H) {a : Addr} {kvs : List (PyData × M)} {xs : List (NestedKey × Addr × Value)} {f : Fp} {G : Hp} (h1 : H a = some (hoT (cOf X ct) a xs)) (hn : (xs.map (·.1)).Nodup) (r : MRepT (cOf X ct) F G xs kvs f) : s.heap.DictOfH (nestedKind X.prog X.w) a xs := by
  obtain ⟨⟨o, es, ep, e1, e2, e3, e4⟩, _⟩ := I.hok a _ h1
  exact ⟨o, es, ep, e1, e2, e3, e4, repT_is I sub r, hn⟩
/-- a dict looked at -/
def dictAt : M → PyData → Option M
  | .dct t kvs, d => if kok t d then dget t kvs d else none
  | .fz m, d => (dictAt m d).map frz
  | _, _ => none
/-- is the key there -/
def dictIn : M → PyData → Option Bool
  | .dct t kvs, d => if kok t d then some (dget t kvs d).isSome else none
  | .fz m, d => dictIn m d
  | _, _ => none
theorem kok_t {d : PyData} (h : kok true d = true) : ∃ ds k, d = .tuple ds ∧ nkey d = some k ∧ k.depth ≤ 8 := by
  unfold kok at h
  dsimp only at h
  split at h
  · rename_i ds
    split at h
    · rename_i k hk
      exact ⟨ds, k, rfl, hk, by simpa using h⟩
    · cases h
  · cases h
theorem kok_f {d : PyData} (h : kok false d = true) : ∃ k, fkey d = some k := Option.isSome_iff_exists.mp h
theorem fkey_dp {K : PySem.W.Frag} {F : Hp} {d : PyData} {k : L2.Key} {y : V} (e : fkey d = some k) (h : Dp K F y d) : y = kV k := by
  cases h <;> simp [fkey] at e <;> subst e <;> rfl
/-- how a dict answers: None where the key isn't there -/
def DAns (X : Cx) (F H : Hp) (a : Addr) (y : V) (o : Option V) : Prop :=
  DGet H a y o ∨ ∃ xs k b d, H a = some (.ext (rawT ⟨X.prog, X.w, X.K, fun _ => none⟩ a xs)) ∧ (a == sysModules) = false ∧ (xs.map (·.1)).Nodup ∧ y = .ref b ∧ Dp X.K F y d ∧ nkey d = some k ∧ k.depth ≤ 8 ∧
    (∀ (σ : L2.St) (pins : List (Addr × Obj)) (s : Shared), Inv X pins σ H s → ∀ x ∈ xs, (nestedKind X.prog X.w).is s.heap x.1 x.2.1) ∧ RelO o ((atKey xs k).map (·.2))
theorem dict_ans {F H : Hp} (sub : Ex F H) : ∀ (m : M) {G : Hp} {v y : V} {f : Fp} {d : PyData} {b : Bool}, Ex F G → Ex G H → MRep (cOf X ct) F G v m f → Dp X.K F y d → dictIn m d = some b →
    ∃ a o, v = .ref a ∧ DAns X F H a y o ∧ o.isSome = b ∧ ∀ m', dictAt m d = some m' → ∃ z f', o = some z ∧ MRep (cOf X ct) F G z m' f'
  | .val _, _, _, _, _, _, _, _, _, r, _, e => by cases e
  | .lst _, _, _, _, _, _, _, _, _, r, _, e => by cases e
  | .tup _, _, _, _, _, _, _, _, _, r, _, e => by cases e
  | .ins _ _, _, _, _, _, _, _, _, _, r, _, e => by cases e
  | .dct false kvs, G, v, y, f, d, b, s1, s2, r, hy, e => by
    cases r with
    | @dK _ a xs _ f h1 hn h2 =>
      simp only [dictIn] at e
      split at e
      case isFalse => cases e
      rename_i hk
      cases e
      obtain ⟨k, hk'⟩ := kok_f hk
      obtain ⟨q1, q2⟩ := repK_get hk' h2
      have := fkey_dp hk' hy
      subst this
      refine ⟨a, valV xs k, rfl, .inl (DGet.k (s2 _ _ h1)), ?_, fun m' e => ?_⟩
      · cases z : dget false kvs d with
        | none => rw [q1 z]; rfl
        | some m =>
          obtain ⟨v0, g0, e0, _⟩ := q2 m z
          rw [e0]; rfl
      · simp only [dictAt, hk, if_true] at e
        obtain ⟨v0, g0, e0, r0⟩ := q2 m' e
        exact ⟨v0, g0, e0, r0⟩
  | .dct true kvs, G, v, y, f, d, b, s1, s2, r, hy, e => by
    cases r with
    | @dT _ a xs _ f h1 hs hn h2 =>
      simp only [dictIn] at e
      split at e
      case isFalse => cases e
      rename_i hk
      cases e
      obtain ⟨ds, k, rfl, hk', hd⟩ := kok_t hk
      obtain ⟨q1, q2⟩ := repT_get hk' h2
      have hb : ∃ b, y = .ref b := by cases hy with | tup _ _ => exact ⟨_, rfl⟩
      obtain ⟨b, rfl⟩ := hb
      cases z : dget true kvs (.tuple ds) with
      | none =>
        refine ⟨a, none, rfl, .inr ⟨xs, k, b, _, s2 _ _ h1, hs, hn, rfl, hy, hk', hd, fun σ pins s I => repT_is I sub h2, ?_⟩, rfl, fun m' e => ?_⟩
        · rw [q1 z]; trivial
        · simp only [dictAt, hk, if_true, z] at e
          cases e
      | some m =>
        obtain ⟨b0, u0, v0, g0, e0, r0, r1⟩ := q2 m z
        refine ⟨a, some v0, rfl, .inr ⟨xs, k, b, _, s2 _ _ h1, hs, hn, rfl, hy, hk', hd, fun σ pins s I => repT_is I sub h2, ?_⟩, rfl, fun m' e => ?_⟩
        · rw [e0]; exact r0
        · simp only [dictAt, hk, if_true, z, Option.some.injEq] at e
          subst e
          exact ⟨v0, g0, rfl, r1⟩
  | .fz m, G, v, y, f, d, b, s1, s2, r, hy, e => by
    cases r with
    | @fz _ _ _ g r =>
      obtain ⟨a, o, h1, h2, h3, h4⟩ := dict_ans sub m (Ex.refl F) sub r hy (by simpa [dictIn] using e)
      refine ⟨a, o, h1, h2, h3, fun m' e' => ?_⟩
      simp only [dictAt, Option.map_eq_some_iff] at e'
      obtain ⟨m1, e1, rfl⟩ := e'
      obtain ⟨z, f', h5, h6⟩ := h4 m1 e1
      exact ⟨z, f0, h5, frz_at h6⟩
theorem dans_at {H : Hp} {F : Hp} {a : Addr} {y : V} {o : Option V} (sub : Ex F H) (hu : X.A.units + 150 < cLine) (I : Inv X pins σ H s) {u : Value} (ry : RelV y u) (g : DAns X F H a y o) :
    s.TypeIs (.ref a) "dict" ∧ (∀ {Q : Value → Shared → Prop} {E : Value → Shared → Prop}, (∀ s', Inv X pins σ H s' → Q (.bool o.isSome) s') → wpAny (model X.prog X.w) X.A (compareOp .In u (.ref a)) Q E s) ∧
    (∀ {Q : Value → Shared → Prop} {E : Value → Shared → Prop}, (∀ s', Inv X pins σ H s' → Q (.bool (!o.isSome)) s') → wpAny (model X.prog X.w) X.A (compareOp .NotIn u (.ref a)) Q E s) ∧
    ∀ {Q : Value → Shared → Prop} {E : Value → Shared → Prop} {z : V}, o = some z → (∀ w' s', Inv X pins σ H s' → RelV z w' → Q w' s') → wpAny (model X.prog X.w) X.A (getItem (.ref a) u) Q E s := by
  rcases g with g | ⟨xs, k, b, d, h1, hs, hn, rfl, hy, hk, hd, hxs, ro⟩
  · exact ⟨dict_typeIs I g, fun h => d_in (by omega) I g ry h, fun h => d_notIn (by omega) I g ry h, fun {Q E z} hz h => by subst hz; exact d_getItem (by omega) I g ry h⟩
  · cases ry
    obtain ⟨⟨o', es, ep, e1, e2, e3, e4⟩, _⟩ := I.hok a _ h1
    have dd : s.heap.DictOfH (nestedKind X.prog X.w) a xs := ⟨o', es, ep, e1, e2, e3, e4, hxs σ pins s I, hn⟩
    have key : (nestedKind X.prog X.w).is s.heap k b := ⟨dp_nested I d _ _ k (Dp.ex sub _ _ hy) rfl hk, hd⟩
    have room : (nestedKind X.prog X.w).room X.A.in1 := by
      show X.A.in1.units + 8 < cLine
      show X.A.units + 1 + 8 < cLine
      omega
    have tk : ∀ n, Inv X pins σ H { s with toks := n } := fun n => I.tok n
    have io := ro.isSome_eq
    rw [Option.isSome_map] at io
    refine ⟨dd.typeIs, fun {Q E} h => wpAny_in_heap room key hs dd (by rw [← io]; exact h _ (tk _)), fun {Q E} h => ?_, fun {Q E z} hz h => ?_⟩
    · show wpAny _ _ (do return .bool (!(← contains (.ref a) (.ref b)))) Q E s
      exact wpAny_bind (wpAny_contains_heap room key hs dd (wpAny_pure (by rw [← io]; exact h _ (tk _))))
    · subst hz
      cases ha : atKey xs k with
      | none => rw [ha] at ro; cases ro
      | some p =>
        rw [ha] at ro
        exact wpAny_getItem_heap room key dd ha (h _ _ (tk _) ro)
end
end Z

set_option Elab.async false
set_option linter.all false
set_option maxRecDepth 100000
set_option maxHeartbeats 2000000
/-! Z9: places read: items of dicts, attributes; what is made of them. -/
namespace Z
open PySem L2 Evl PyProof.Rows

section
variable {X : Cx} {ct : Str → Option Addr} {e a b c : Expr} {es : List Expr} {pos p : Pos} {pa pb pc : Bool} {x : Str}
/-- m[d], sequences and dicts -/
def at2 (m : M) (d : PyData) : Option M := match at1 m (.ix d) with
  | some r => some r
  | none => dictAt m d
theorem dictIn_of : ∀ {m : M} {d : PyData} {m' : M}, dictAt m d = some m' → dictIn m d = some true
  | .val _, _, _, h => by cases h
  | .lst _, _, _, h => by cases h
  | .tup _, _, _, h => by cases h
  | .ins _ _, _, _, h => by cases h
  | .dct t kvs, d, m', h => by
    simp only [dictAt] at h
    split at h
    · rename_i hk
      simp [dictIn, hk, h]
    · cases h
  | .fz m, d, m', h => by
    simp only [dictAt, Option.map_eq_some_iff] at h
    obtain ⟨m1, h1, _⟩ := h
    show dictIn m d = some true
    exact dictIn_of h1
/-- what a subscript reads -/
def RdIx (X : Cx) : R2 := fun x y H Q => L2.rIx X.K x y H Q ∨ ∃ F a o z, Ex F H ∧ x = .ref a ∧ DAns X F H a y o ∧ o = some z ∧ Q z H
theorem rd_ix (hu : X.A.units + 150 < cLine) : IxR X (RdIx X) := by
  refine ix_seq.or ?_
  intro value slice pins s σ H x y v u Q I rx ry h hs
  obtain ⟨F, a, o, z, sub, rfl, g, ho, q⟩ := h
  cases rx
  obtain ⟨h1, _, _, h4⟩ := dans_at sub hu I ry g
  exact tail_any h1 PySem.F.slot_dict_getitem.lookup (h4 ho fun w' s' I' rw' => ⟨z, H, I', rw', q⟩) hs
theorem at2_rd {F H : Hp} {m : M} {v y : V} {f : Fp} {d : PyData} {m' : M} (s : Ex F H) (r : MRep (cOf X ct) F H v m f) (hy : Dp X.K F y d) (e : at2 m d = some m') :
    ∃ v' f', MRep (cOf X ct) F H v' m' f' ∧ ∀ Q : VK, Q v' H → RdIx X v y H Q := by
  unfold at2 at e
  cases h : at1 m (.ix d) with
  | some r0 =>
    rw [h] at e
    cases e
    obtain ⟨i, v', f', rfl, h2, h3⟩ := at_ix m s r h
    cases hy
    exact ⟨v', f', h2, fun Q q => .inl (h3.rd q)⟩
  | none =>
    rw [h] at e
    obtain ⟨a, o, rfl, g, _, h4⟩ := dict_ans (ct := ct) s m s (Ex.refl H) r hy (dictIn_of e)
    obtain ⟨z, f', h5, h6⟩ := h4 m' e
    exact ⟨z, f', h6, fun Q q => .inr ⟨F, a, o, z, s, rfl, g, h5, q⟩⟩
def rIx2 (A : EvR) (B : EvO) : EvR := fun ρ => (A ρ).bind fun m => (B ρ).bind fun (d, p, _) => if p then at2 m d else none
theorem pr_ix2 (hu : X.A.units + 150 < cLine) {A : EvR} {B : EvO} (ha : PR (cOf X ct) X a A) (hb : PZo (cOf X ct) X b true B) (hs : PlainIx b) : PR (cOf X ct) X (.Subscript a b pos) (rIx2 A B) := by
  refine PE.imp (pe_ix (rd_ix hu) ha hb hs) fun σ H Q ⟨F, ρ, t, m, w, en, e, k⟩ => ?_
  simp only [rIx2, Option.bind_eq_some_iff] at e
  obtain ⟨m0, e1, ⟨d, p, ρ1⟩, e2, e3⟩ := e
  dsimp only at e3
  split at e3
  case isFalse => cases e3
  rename_i hp
  refine ⟨F, ρ, t, m0, w, en, e1, fun F1 H1 v f a1 r1 => ⟨F1, ρ, t, d, p, ρ1, a1.wf, a1.en, e2, fun F2 H2 y t2 a2 s2 p2 => ?_⟩⟩
  obtain ⟨z1, z2, z3⟩ := a2.pu rfl
  subst z2 z3
  have r2 : MRep (cOf X ct) F2 H2 v m0 f := r1.mono a2.st.ex _ _ _ fun x px => by
    obtain ⟨o, ho⟩ := r1.dom _ _ _ x px
    rw [ho]; exact z1 x o ho
  obtain ⟨v', f', h2, h3⟩ := at2_rd a2.st.wf.sub r2 (p2 hp) e3
  have := a1.trans a2
  rw [fa0l] at this
  exact h3 Q (k F2 H2 v' f' this h2)
/-- x[b], the index is reckoned ahead of the look at what stands at x: b may change it -/
def zIxV (i : Nat) (B : EvO) : EvE := fun ρ => (ρ[i]?).bind fun o => o.bind fun _ => (B ρ).bind fun (d, p, ρ1) => if p then (ρ1[i]?).bind fun o => o.bind fun m => (at2 m d).bind fun m' => if isP m' then some (m', ρ1) else none else none
theorem pz_ixV (hu : X.A.units + 150 < cLine) {i : Nat} {B : EvO} (hN : X.N[i]? = some x) (hv : Vis X.env.scope x) (hd : (x == ("__debug__" : Str)) = false) (hcd : (x == ("__classdict__" : Str)) = false) (hb : PZo (cOf X ct) X b pb B) (hs : PlainIx b) : PZ (cOf X ct) X (.Subscript (.Name x p) b pos) pb (zIxV i B) := by
  refine PE.imp (pe_ix (rd_ix hu) (pe_var hN hv hd hcd) hb hs) fun σ H Q ⟨F, ρ, t, m, ρ', w, en, e, k⟩ => ?_
  simp only [zIxV, Option.bind_eq_some_iff] at e
  obtain ⟨o0, hm00, m00, eo, e⟩ := e
  subst eo
  obtain ⟨v, f, t', h1, h2, h3, h4⟩ := en.get hm00
  obtain ⟨⟨d, pp, ρ1⟩, e1, e⟩ := e
  dsimp only at e
  split at e
  case isFalse => cases e
  rename_i hp
  simp only [Option.bind_eq_some_iff] at e
  obtain ⟨o, e2, m0, e3, m', e4, e5⟩ := e
  subst e3
  split at e5
  case isFalse => cases e5
  rename_i hp'
  cases e5
  refine ⟨v, h1, F, ρ, t, d, pp, _, w, en, e1, fun F2 H2 y t2 a2 s2 p2 => ?_⟩
  obtain ⟨v2, f2, t3, g1, g2, g3, g4⟩ := a2.en.get e2
  rw [h1] at g1
  cases g1
  obtain ⟨v', f', q2, q3⟩ := at2_rd a2.st.wf.sub g2 (p2 hp) e4
  exact q3 Q (k F2 H2 v' f0 t2 a2 (rep_p hp' q2).2)
abbrev FldOk (X : Cx) (ct : Str → Option Addr) (x : Str) : Prop := ∀ c Ca, ct c = some Ca → Cls X.K Ca ∧ NoAttr X.K Ca x
theorem pr_fld {A : EvR} (ha : PR (cOf X ct) X a A) (hf : FldOk X ct x) (hb : attributeBase a x X.env (eval a X.env) = eval a X.env) : PR (cOf X ct) X (.Attribute a x pos) (rFld A x) := by
  refine PE.imp (pe_fld ha hb) fun σ H Q ⟨F, ρ, t, m, w, en, e, k⟩ => ?_
  simp only [rFld, Option.bind_eq_some_iff] at e
  obtain ⟨m0, e1, e3⟩ := e
  refine ⟨F, ρ, t, m0, w, en, e1, fun F1 H1 v f a1 r1 => ?_⟩
  obtain ⟨ad, c, Ca, dx, fs, v', f', h1, h2, h3, h4, h5⟩ := at_fld m0 a1.st.wf.sub r1 e3
  obtain ⟨c1, c2⟩ := hf c Ca h2
  exact ⟨ad, Ca, dx, fs, v', h1, h3, c1, c2, h4, k F1 H1 v' f' a1 h5⟩
/-- what stands at a place, copied -/
def zR (A : EvR) : EvE := fun ρ => (A ρ).bind fun m => if isP m then some (m, ρ) else none
theorem pz_r {A : EvR} (h : PR (cOf X ct) X e A) : PZ (cOf X ct) X e true (zR A) := by
  refine PE.imp h fun σ H Q ⟨F, ρ, t, m, ρ', w, en, e, k⟩ => ?_
  simp only [zR, Option.bind_eq_some_iff] at e
  obtain ⟨m0, e1, e2⟩ := e
  split at e2
  case isFalse => cases e2
  rename_i hp
  cases e2
  exact ⟨F, _, t, _, w, en, e1, fun F1 H1 v f a1 r1 => k F1 H1 v f0 t a1 (rep_p hp r1).2⟩
/-- .. as an operand -/
def oR (A : EvR) : EvO := fun ρ => (A ρ).bind fun m => (sd m).map fun d => (d, isP m, ρ)
theorem po_r {A : EvR} (h : PR (cOf X ct) X e A) : PZo (cOf X ct) X e true (oR A) := by
  refine PE.imp h fun σ H Q ⟨F, ρ, t, d, p, ρ', w, en, e, k⟩ => ?_
  simp only [oR, Option.bind_eq_some_iff, Option.map_eq_some_iff, Prod.mk.injEq] at e
  obtain ⟨m0, e1, d', e2, rfl, rfl, rfl⟩ := e
  refine ⟨F, _, t, m0, w, en, e1, fun F1 H1 v f a1 r1 => k F1 H1 v t a1 (sd_sh r1 e2) fun z => ?_⟩
  cases m0 with
  | val d'' =>
    cases r1 with
    | val r1 =>
      simp only [sd, Option.some.injEq] at e2
      subst e2; exact r1
  | fz _ => simp [sd] at e2
  | lst _ => cases z
  | tup _ => cases z
  | dct _ _ => cases z
  | ins _ _ => cases z
/-- .. its truth -/
def tRu (A : EvR) : EvB := fun ρ => (A ρ).bind fun m => (truM m).map fun b => (b, ρ)
theorem pt_r {A : EvR} (h : PR (cOf X ct) X e A) (he : PlT X e) : PZt (cOf X ct) X e true (tRu A) := by
  refine PT.imp (pt_truth h he) fun σ H Q ⟨F, ρ, t, b, ρ', w, en, e, k⟩ => ?_
  simp only [tRu, Option.bind_eq_some_iff, Option.map_eq_some_iff, Prod.mk.injEq] at e
  obtain ⟨m0, e1, b', e2, rfl, rfl⟩ := e
  exact ⟨F, _, t, m0, w, en, e1, fun F1 H1 v f a1 r1 => ⟨b', rep_tru a1.st.wf.sub r1 e2, k F1 H1 t a1⟩⟩
/-- k in d (ng: not in) -/
def zDin (ng : Bool) (K : EvO) (A : EvR) : EvB := fun ρ => (K ρ).bind fun (d, p, ρ1) => if p then (A ρ1).bind fun m => (dictIn m d).map fun b => (b != ng, ρ1) else none
theorem din_core {ng : Bool} {K : EvO} {A : EvR} {σ : L2.St} {F H : Hp} {t : Fp} {ρ ρ' : Env} {b : Bool} {R : V → V → Hp → Prop} (w : Wf F H t) (en : EnvR (cOf X ct) F H σ ρ t) (e : zDin ng K A ρ = some (b, ρ'))
    (k : ∀ F' H' y a o t', Aft (cOf X ct) pa σ F H t ρ F' H' t' f0 ρ' → DAns X F' H' a y o → (o.isSome != ng) = b → R y (.ref a) H') : tO (cOf X ct) pa K σ H fun y H1 => tR (cOf X ct) A σ H1 fun x H2 => R y x H2 := by
  simp only [zDin, Option.bind_eq_some_iff] at e
  obtain ⟨⟨d, p, ρ1⟩, e1, e⟩ := e
  dsimp only at e
  split at e
  case isFalse => cases e
  rename_i hp
  simp only [Option.bind_eq_some_iff, Option.map_eq_some_iff, Prod.mk.injEq] at e
  obtain ⟨m, e2, b0, e3, rfl, rfl⟩ := e
  refine ⟨F, ρ, t, d, p, ρ1, w, en, e1, fun F1 H1 y t1 a1 s1 p1 => ⟨F1, ρ1, t1, m, a1.wf, a1.en, e2, fun F2 H2 v f a2 r2 => ?_⟩⟩
  obtain ⟨a, o, rfl, g, h3, _⟩ := dict_ans (ct := ct) a2.st.wf.sub m a2.st.wf.sub (Ex.refl _) r2 (Dp.ex a2.st.ex _ _ (p1 hp)) e3
  have := a1.trans a2
  rw [fa0l, Bool.and_true] at this
  exact k F2 H2 y a o t1 this g (by rw [h3])
theorem pt_din (hu : X.A.units + 150 < cLine) {ng : Bool} {K : EvO} {A : EvR} (hk : PZo (cOf X ct) X a pa K) (ha : PR (cOf X ct) X b A) (hm : behindInMarks (if ng then .NotIn else .In) b = false) : PZt (cOf X ct) X (.Compare a [if ng then .NotIn else .In] [b] pos) pa (zDin ng K A) := by
  have op : OpR X (compareOp (if ng then .NotIn else .In)) (fun y x H Q => ∃ F a o, Ex F H ∧ x = .ref a ∧ DAns X F H a y o ∧ Q (.bl (o.isSome != ng)) H) := by
    intro pins s σ H y x v u Q I ry rx h
    obtain ⟨F, a, o, sub, rfl, g, q⟩ := h
    cases rx
    obtain ⟨_, h2, h3, _⟩ := dans_at sub hu I ry g
    cases ng
    · exact h2 fun s' I' => ⟨.bl o.isSome, H, I', rfl, by simpa using q⟩
    · exact h3 fun s' I' => ⟨.bl (!o.isSome), H, I', rfl, by simpa using q⟩
  refine PT.imp (pt_cmpR op hk ha hm) fun σ H Q ⟨F, ρ, t, b', ρ', w, en, e, k⟩ => ?_
  exact din_core w en e fun F' H' y a o t' af g hb => ⟨F', a, o, af.wf.sub, rfl, g, _, rfl, by rw [hb]; exact k F' H' t' af⟩
theorem pz_din (hu : X.A.units + 150 < cLine) {ng : Bool} {K : EvO} {A : EvR} (hk : PZo (cOf X ct) X a pa K) (ha : PR (cOf X ct) X b A) (hm : behindInMarks (if ng then .NotIn else .In) b = false) : PZ (cOf X ct) X (.Compare a [if ng then .NotIn else .In] [b] pos) pa (zBv (zDin ng K A)) := by
  have op : OpR X (compareOp (if ng then .NotIn else .In)) (fun y x H Q => ∃ F a o, Ex F H ∧ x = .ref a ∧ DAns X F H a y o ∧ Q (.bl (o.isSome != ng)) H) := by
    intro pins s σ H y x v u Q I ry rx h
    obtain ⟨F, a, o, sub, rfl, g, q⟩ := h
    cases rx
    obtain ⟨_, h2, h3, _⟩ := dans_at sub hu I ry g
    cases ng
    · exact h2 fun s' I' => ⟨.bl o.isSome, H, I', rfl, by simpa using q⟩
    · exact h3 fun s' I' => ⟨.bl (!o.isSome), H, I', rfl, by simpa using q⟩
  refine PE.imp (pe_cmpR op hk ha hm) fun σ H Q ⟨F, ρ, t, m, ρ', w, en, e, k⟩ => ?_
  simp only [zBv, Option.map_eq_some_iff] at e
  obtain ⟨⟨b', ρ1⟩, e1, e2⟩ := e
  simp only [Prod.mk.injEq] at e2
  obtain ⟨rfl, rfl⟩ := e2
  exact din_core w en e1 fun F' H' y a o t' af g hb => ⟨F', a, o, af.wf.sub, rfl, g, by rw [hb]; exact k F' H' _ f0 t' af (.val (.bl _))⟩
end
end Z

set_option Elab.async false
set_option linter.all false
set_option maxRecDepth 100000
set_option maxHeartbeats 2000000
/-! Z10: built-in functions on data. -/
namespace Z
open PySem L2 Evl PyProof.Rows

abbrev EvOs := Env → Option (List PyData × Env)
def tOs (C : Ct) (pu : Bool) (A : EvOs) : TA := fun σ H Q => ∃ F ρ t ds ρ', Wf F H t ∧ EnvR C F H σ ρ t ∧ A ρ = some (ds, ρ') ∧
  ∀ F' H' vs t', Aft C pu σ F H t ρ F' H' t' f0 ρ' → Paired (Sh C F' H') vs ds → Q vs H'
abbrev PZs (C : Ct) (X : Cx) (es : List Expr) (pu : Bool) (A : EvOs) : Prop := PA X es (tOs C pu A)
def zsNil : EvOs := fun ρ => some ([], ρ)
def zsCons (A : EvO) (B : EvOs) (pb : Bool) : EvOs := fun ρ => (A ρ).bind fun (d, p, ρ1) => if p || pb then (B ρ1).map fun (ds, ρ2) => (d :: ds, ρ2) else none
/-- what a built-in makes of data -/
def rBi (C : Ct) (bi : List PyData → Option M) : List V → Hp → VK → Prop := fun vs H Q => ∃ F t ds m, Wf F H t ∧ Paired (Sh C F H) vs ds ∧ bi ds = some m ∧
  ∀ F' H' v g, Step F H t F' H' (fa t g) → Ex H H' → MRep C F' H' v m g → Q v H'
def zBi (bi : List PyData → Option M) (A : EvOs) : EvE := fun ρ => (A ρ).bind fun (ds, ρ1) => (bi ds).map fun m => (m, ρ1)

section
variable {X : Cx} {ct : Str → Option Addr} {e a b c : Expr} {es : List Expr} {pos p : Pos} {pa pb pc : Bool} {x : Str} {id : String}
theorem ps_nil : PZs (cOf X ct) X [] true zsNil := by
  refine PA.imp pa_nil fun σ H Q ⟨F, ρ, t, ms, ρ', w, en, e, k⟩ => ?_
  cases e
  exact k F H [] t (Aft.refl w en) .nil
theorem ps_cons {A : EvO} {B : EvOs} (ha : PZo (cOf X ct) X e pa A) (hb : PZs (cOf X ct) X es pb B) (hs : NoStar e es X.env) : PZs (cOf X ct) X (e :: es) (pa && pb) (zsCons A B pb) := by
  refine PA.imp (pa_cons ha hb hs) fun σ H Q ⟨F, ρ, t, ms, ρ', w, en, e, k⟩ => ?_
  simp only [zsCons, Option.bind_eq_some_iff] at e
  obtain ⟨⟨d, pp, ρ1⟩, e1, e⟩ := e
  dsimp only at e
  split at e
  case isFalse => cases e
  rename_i hp
  simp only [Option.map_eq_some_iff, Prod.mk.injEq] at e
  obtain ⟨⟨ds, ρ2⟩, e2, rfl, rfl⟩ := e
  refine ⟨F, ρ, t, d, pp, ρ1, w, en, e1, fun F1 H1 v t1 a1 s1 p1 => ⟨F1, ρ1, t1, ds, ρ2, a1.wf, a1.en, e2, fun F2 H2 vs t2 a2 r2 => ?_⟩⟩
  refine k F2 H2 (v :: vs) t2 (a1.trans a2) (.cons ?_ r2)
  rw [Bool.or_eq_true] at hp
  rcases hp with z | z
  · exact .p (Dp.ex a2.st.ex _ _ (p1 z))
  · exact s1.ex a2.st.ex (a2.pu z).1
theorem bi_core {bi : List PyData → Option M} {A : EvOs} {σ : L2.St} {H : Hp} {Q : VK} (h : tE (cOf X ct) pa (zBi bi A) σ H Q) : tOs (cOf X ct) pa A σ H fun vs H1 => rBi (cOf X ct) bi vs H1 Q := by
  obtain ⟨F, ρ, t, m, ρ', w, en, e, k⟩ := h
  simp only [zBi, Option.bind_eq_some_iff, Option.map_eq_some_iff, Prod.mk.injEq] at e
  obtain ⟨⟨ds, ρ1⟩, e1, m', e2, rfl, rfl⟩ := e
  refine ⟨F, ρ, t, ds, ρ1, w, en, e1, fun F' H' vs t' af r => ⟨F', t', ds, m', af.wf, r, e2, fun F'' H'' v g st ex r2 => ?_⟩⟩
  refine k F'' H'' v g t' ⟨?_, ?_, fun z => ?_⟩ r2
  · have s0 := af.st
    rw [fa0] at s0
    exact s0.trans st
  · exact af.en.mono st.ex fun x px => by
      obtain ⟨o, ho⟩ := af.en.dom x px
      rw [ho]; exact ex x o ho
  · obtain ⟨z1, z2⟩ := af.pu z
    exact ⟨z1.trans ex, z2⟩
theorem pz_bi {bi : List PyData → Option M} {A : EvOs} (hc : CallR X (.builtin id) (rBi (cOf X ct) bi)) (hg : Gl X x) (hm : X.mg x = none) (hv : bootBuiltins x = some (.builtin id)) (ha : PZs (cOf X ct) X (e :: es) pa A) (hn : x ≠ "__name__") (hdb : (x == ("__debug__" : Str)) = false)
    (he : NoStar e es X.env) (hpl : (backTo pos (starEach es X.env)).any (·.1) = false) : PZ (cOf X ct) X (.Call (.Name x p) (e :: es) [] pos) pa (zBi bi A) :=
  PE.imp (pe_callB hc hg hm hv ha hn hdb he hpl) fun σ H Q h => bi_core h
theorem pz_biT {bi : List PyData → Option M} {A : EvOs} (hc : CallR X (.type id) (rBi (cOf X ct) bi)) (hg : Gl X x) (hm : X.mg x = none) (hv : bootBuiltins x = some (.type id)) (ha : PZs (cOf X ct) X (e :: es) pa A) (hn : x ≠ "__name__") (hdb : (x == ("__debug__" : Str)) = false)
    (he : NoStar e es X.env) (hpl : (backTo pos (starEach es X.env)).any (·.1) = false) : PZ (cOf X ct) X (.Call (.Name x p) (e :: es) [] pos) pa (zBi bi A) :=
  PE.imp (pe_callTy hc hg hm hv ha hn hdb he hpl) fun σ H Q h => bi_core h

/-! ### the functions -/
def vI (i : Int) : M := .val (.int i)
def vB (b : Bool) : M := .val (.bool b)
def biLen : List PyData → Option M
  | [.list ds] => some (vI ds.length)
  | [.tuple ds] => some (vI ds.length)
  | [.str z] => if z.length ≤ sizeLine then some (vI z.length) else none
  | _ => none
def biTuple : List PyData → Option M
  | [.list ds] => some (.val (.tuple ds))
  | [.tuple ds] => some (.val (.tuple ds))
  | _ => none
def biList : List PyData → Option M
  | [.list ds] => some (.lst (ds.map .val))
  | [.tuple ds] => some (.lst (ds.map .val))
  | _ => none
def boolsOf : List PyData → Option (List Bool)
  | [] => some []
  | .bool b :: r => (boolsOf r).map fun bs => b :: bs
  | _ => none
def intsOf : List PyData → Option (List Int)
  | [] => some []
  | .int b :: r => (intsOf r).map fun bs => b :: bs
  | _ => none
def biAll : List PyData → Option M
  | [.list ds] => (boolsOf ds).map fun bs => vB (bs.all fun b => b)
  | _ => none
def biAny : List PyData → Option M
  | [.list ds] => (boolsOf ds).map fun bs => vB (bs.any fun b => b)
  | _ => none
def biSum : List PyData → Option M
  | [.list ds] => (intsOf ds).map fun bs => vI bs.sum
  | _ => none
def biAbs : List PyData → Option M
  | [.int i] => some (vI (if i < 0 then -i else i))
  | _ => none
def biInt : List PyData → Option M
  | [.int i] => some (vI i)
  | [.bool b] => some (vI (if b then 1 else 0))
  | _ => none
def allAlike (ds : List PyData) : Bool := ds.all fun d => ds.all fun e => PySem.W.alike d e
def isTupNE : PyData → Bool
  | .tuple (_ :: _) => true
  | _ => false
def isNoneTup : PyData → Bool
  | .tuple _ => true
  | .none => true
  | _ => false
def srtOk (ds : List PyData) : Bool := decide (ds.length ≤ sizeLine) && (allAlike ds && ((ds.all isTupNE || ds.all fun d => !isNoneTup d) && ds.all fun d => decide (d.depth ≤ 64)))
def srt (ds : List PyData) : List PyData := ds.mergeSort (PySem.W.dataLe false fun d => d)
def biSorted : List PyData → Option M
  | [.list ds] => if srtOk ds = true then some (.lst ((srt ds).map .val)) else none
  | [.tuple ds] => if srtOk ds = true then some (.lst ((srt ds).map .val)) else none
  | _ => none
def mmOk (ds : List PyData) : Bool := allAlike ds && (ds.all (fun d => match d with | .none => false | _ => true) && (shp (.list ds) && decide (PyData.depthAll ds ≤ 64)))
def biMM (mx : Bool) : List PyData → Option M
  | [.list (d :: ds)] => if mmOk (d :: ds) = true then some (.val (if mx then PySem.W.maxD d ds else PySem.W.minD d ds)) else none
  | [.tuple (d :: ds)] => if mmOk (d :: ds) = true then some (.val (if mx then PySem.W.maxD d ds else PySem.W.minD d ds)) else none
  | [.int i, .int j] => some (vI (if mx then (if j > i then j else i) else (if j < i then j else i)))
  | _ => none

/-! ### .. are what is called -/
theorem pr1 {C : Ct} {F H : Hp} {vs : List V} {d : PyData} (h : Paired (Sh C F H) vs [d]) : ∃ v, vs = [v] ∧ Sh C F H v d := by
  cases h with
  | cons h1 h2 => cases h2; exact ⟨_, rfl, h1⟩
theorem pr2 {C : Ct} {F H : Hp} {vs : List V} {d e : PyData} (h : Paired (Sh C F H) vs [d, e]) : ∃ v u, vs = [v, u] ∧ Sh C F H v d ∧ Sh C F H u e := by
  cases h with
  | cons h1 h2 =>
    obtain ⟨u, rfl, h3⟩ := pr1 h2
    exact ⟨_, _, rfl, h1, h3⟩
theorem bools_of {K : PySem.W.Frag} {F : Hp} : ∀ {ds : List PyData} {bs : List Bool} {vs : List V}, boolsOf ds = some bs → DpAll K F vs ds → vs = bs.map V.bl
  | [], bs, vs, e, h => by
    cases e; cases h; rfl
  | .bool b :: r, bs, vs, e, h => by
    simp only [boolsOf, Option.map_eq_some_iff] at e
    obtain ⟨bs', e1, rfl⟩ := e
    cases h with
    | cons h1 h2 =>
      cases h1
      rw [bools_of e1 h2, List.map_cons]
  | .none :: r, bs, vs, e, h => by simp [boolsOf] at e
  | .int _ :: r, bs, vs, e, h => by simp [boolsOf] at e
  | .str _ :: r, bs, vs, e, h => by simp [boolsOf] at e
  | .list _ :: r, bs, vs, e, h => by simp [boolsOf] at e
  | .tuple _ :: r, bs, vs, e, h => by simp [boolsOf] at e
  | .dict _ :: r, bs, vs, e, h => by simp [boolsOf] at e
theorem ints_of {K : PySem.W.Frag} {F : Hp} : ∀ {ds : List PyData} {bs : List Int} {vs : List V}, intsOf ds = some bs → DpAll K F vs ds → vs = bs.map V.int
  | [], bs, vs, e, h => by
    cases e; cases h; rfl
  | .int b :: r, bs, vs, e, h => by
    simp only [intsOf, Option.map_eq_some_iff] at e
    obtain ⟨bs', e1, rfl⟩ := e
    cases h with
    | cons h1 h2 =>
      cases h1
      rw [ints_of e1 h2, List.map_cons]
  | .none :: r, bs, vs, e, h => by simp [intsOf] at e
  | .bool _ :: r, bs, vs, e, h => by simp [intsOf] at e
  | .str _ :: r, bs, vs, e, h => by simp [intsOf] at e
  | .list _ :: r, bs, vs, e, h => by simp [intsOf] at e
  | .tuple _ :: r, bs, vs, e, h => by simp [intsOf] at e
  | .dict _ :: r, bs, vs, e, h => by simp [intsOf] at e
theorem cr_len : CallR X (.builtin "len") (rBi (cOf X ct) biLen) := by
  intro pins s σ H xs us Q I r h
  obtain ⟨F, t, ds, m, w, pr, e, q⟩ := h
  unfold biLen at e
  split at e
  · rename_i ds
    cases e
    obtain ⟨v, rfl, s1⟩ := pr1 pr
    obtain ⟨a, vs, rfl, h1, h2⟩ := s1.list w.sub
    refine call_len_seq pins s σ H _ us Q I r ⟨a, vs, rfl, .inl h1, ?_⟩
    rw [dp_length h2]
    exact q_val (C := cOf X ct) w (.int _) q
  · rename_i ds
    cases e
    obtain ⟨v, rfl, s1⟩ := pr1 pr
    obtain ⟨a, vs, rfl, h1, h2⟩ := s1.tup w.sub
    refine call_len_seq pins s σ H _ us Q I r ⟨a, vs, rfl, .inr h1, ?_⟩
    rw [dp_length h2]
    exact q_val (C := cOf X ct) w (.int _) q
  · rename_i z
    split at e
    · rename_i hz
      cases e
      obtain ⟨v, rfl, s1⟩ := pr1 pr
      exact call_len_str pins s σ H _ us Q I r ⟨z, by rw [sh_str s1], hz, q_val (C := cOf X ct) w (.int _) q⟩
    · cases e
  · cases e
theorem cr_tuple : CallR X (.type "tuple") (rBi (cOf X ct) biTuple) := by
  intro pins s σ H xs us Q I r h
  obtain ⟨F, t, ds, m, w, pr, e, q⟩ := h
  unfold biTuple at e
  split at e
  · rename_i ds
    cases e
    obtain ⟨v, rfl, s1⟩ := pr1 pr
    obtain ⟨a, vs, rfl, h1, h2⟩ := s1.list w.sub
    exact call_tuple_of pins s σ H _ us Q I r ⟨a, vs, rfl, .inl ⟨h1, fun l hl => q_tup (C := cOf X ct) w hl h2 q⟩⟩
  · rename_i ds
    cases e
    obtain ⟨v, rfl, s1⟩ := pr1 pr
    obtain ⟨a, vs, rfl, h1, h2⟩ := s1.tup w.sub
    refine call_tuple_of pins s σ H _ us Q I r ⟨a, vs, rfl, .inr ⟨h1, ?_⟩⟩
    cases s1 with | p s1 => exact q_val (C := cOf X ct) w s1 q
  · cases e
theorem cr_list : CallR X (.type "list") (rBi (cOf X ct) biList) := by
  intro pins s σ H xs us Q I r h
  obtain ⟨F, t, ds, m, w, pr, e, q⟩ := h
  unfold biList at e
  split at e
  · rename_i ds
    cases e
    obtain ⟨v, rfl, s1⟩ := pr1 pr
    obtain ⟨a, vs, rfl, h1, h2⟩ := s1.list w.sub
    exact call_list_of pins s σ H _ us Q I r ⟨a, vs, rfl, .inl h1, fun l hl => q_lst (C := cOf X ct) w hl h2 q⟩
  · rename_i ds
    cases e
    obtain ⟨v, rfl, s1⟩ := pr1 pr
    obtain ⟨a, vs, rfl, h1, h2⟩ := s1.tup w.sub
    exact call_list_of pins s σ H _ us Q I r ⟨a, vs, rfl, .inr h1, fun l hl => q_lst (C := cOf X ct) w hl h2 q⟩
  · cases e
theorem cr_allZ (hc : X.calm = true) : CallR X (.builtin "all") (rBi (cOf X ct) biAll) := by
  intro pins s σ H xs us Q I r h
  obtain ⟨F, t, ds, m, w, pr, e, q⟩ := h
  unfold biAll at e
  split at e
  case h_2 => cases e
  rename_i ds
  simp only [Option.map_eq_some_iff] at e
  obtain ⟨bs, e1, rfl⟩ := e
  obtain ⟨v, rfl, s1⟩ := pr1 pr
  obtain ⟨a, vs, rfl, h1, h2⟩ := s1.list w.sub
  rw [bools_of e1 h2] at h1
  exact cr_all hc pins s σ H _ us Q I r ⟨a, bs, rfl, h1, q_val (C := cOf X ct) w (.bl _) q⟩
theorem cr_anyZ (hc : X.calm = true) : CallR X (.builtin "any") (rBi (cOf X ct) biAny) := by
  intro pins s σ H xs us Q I r h
  obtain ⟨F, t, ds, m, w, pr, e, q⟩ := h
  unfold biAny at e
  split at e
  case h_2 => cases e
  rename_i ds
  simp only [Option.map_eq_some_iff] at e
  obtain ⟨bs, e1, rfl⟩ := e
  obtain ⟨v, rfl, s1⟩ := pr1 pr
  obtain ⟨a, vs, rfl, h1, h2⟩ := s1.list w.sub
  rw [bools_of e1 h2] at h1
  exact cr_any hc pins s σ H _ us Q I r ⟨a, bs, rfl, h1, q_val (C := cOf X ct) w (.bl _) q⟩
theorem cr_sumZ (hc : X.calm = true) : CallR X (.builtin "sum") (rBi (cOf X ct) biSum) := by
  intro pins s σ H xs us Q I r h
  obtain ⟨F, t, ds, m, w, pr, e, q⟩ := h
  unfold biSum at e
  split at e
  case h_2 => cases e
  rename_i ds
  simp only [Option.map_eq_some_iff] at e
  obtain ⟨bs, e1, rfl⟩ := e
  obtain ⟨v, rfl, s1⟩ := pr1 pr
  obtain ⟨a, vs, rfl, h1, h2⟩ := s1.list w.sub
  rw [ints_of e1 h2] at h1
  exact cr_sum hc pins s σ H _ us Q I r ⟨a, bs, rfl, h1, q_val (C := cOf X ct) w (.int _) q⟩
theorem cr_absZ : CallR X (.builtin "abs") (rBi (cOf X ct) biAbs) := by
  intro pins s σ H xs us Q I r h
  obtain ⟨F, t, ds, m, w, pr, e, q⟩ := h
  unfold biAbs at e
  split at e
  case h_2 => cases e
  cases e
  obtain ⟨v, rfl, s1⟩ := pr1 pr
  exact call_abs pins s σ H _ us Q I r ⟨_, by rw [sh_int s1], q_val (C := cOf X ct) w (.int _) q⟩
theorem cr_intZ : CallR X (.type "int") (rBi (cOf X ct) biInt) := by
  intro pins s σ H xs us Q I r h
  obtain ⟨F, t, ds, m, w, pr, e, q⟩ := h
  unfold biInt at e
  split at e
  · cases e
    obtain ⟨v, rfl, s1⟩ := pr1 pr
    exact call_int1 pins s σ H _ us Q I r (.inl ⟨_, by rw [sh_int s1], q_val (C := cOf X ct) w (.int _) q⟩)
  · cases e
    obtain ⟨v, rfl, s1⟩ := pr1 pr
    exact call_int1 pins s σ H _ us Q I r (.inr ⟨_, by rw [sh_bl s1], q_val (C := cOf X ct) w (.int _) q⟩)
  · cases e
end
end Z

set_option Elab.async false
set_option linter.all false
set_option maxRecDepth 100000
set_option maxHeartbeats 2000000
/-! Z11: sorted, max, min, isinstance, ranges. -/
namespace Z
open PySem L2 Evl PyProof.Rows PySem.W

section
variable {prog : Program} {w : World} {A : Around} {E : Value → Shared → Prop} {s : Shared} {β : Type} {vs : List Value} {bs : List β} {enc : β → PyData} {R : Value → β → Prop}
/-- sorted(xs) of a list or a tuple -/
theorem sorted_any {l : Addr} {T : String} {o : Obj} {n : Nat} {Q : Value → Shared → Prop} (hT : T = "list" ∨ T = "tuple") (ho : s.heap.get? l = some o) (hc : o.cls = .type T) (hd : o.data = .seq vs.toArray n)
    (e : EachIs R vs bs) (er : EachIs (fun v b => ∃ as, Reads s.heap v (enc b) as) vs bs) (hal : AllAlike (bs.map enc)) (hk : Sortable (bs.map enc)) (hL : bs.length ≤ sizeLine) (hu : ∀ b, b ∈ bs → A.units + 2 + (enc b).depth < cLine)
    (h : ∀ (h1 h' : Heap) (p : Addr) (out : List Value) (c : Nat), (∀ b u, s.heap.get? b = some u → h1.get? b = some u) → (∀ b u, h1.get? b = some u → h'.get? b = some u) → h1.objs.size ≤ p → h'.get? p = some (seqObj "list" (List.toArray out) c) → out.length = bs.length → EachIs R out (bs.mergeSort (dataLe false enc)) → Q (.ref p) { s with heap := h' }) :
    wpAny (model prog w) A (call (.builtin "sorted") [.ref l]) Q E s := by
  have hlen : vs.length ≤ sizeLine := by rw [e.length]; exact hL
  refine call_function_entry_kw kind_sorted plain_sorted entry_sorted (args_sorted1 _) ?_
  unfold Builtin.«sorted»
  refine wpAny_bind (m := checkCount "sorted" 1 1 _) (wpAny_pure ?_)
  refine wpAny_bind (wpAny_collect_seq l hT ho hc hd (fun h1 kp => ?_) (by rw [List.size_toArray]; exact hlen))
  refine wpAny_bind (wpAny_newList ?_ hlen)
  have hat : (h1.push (seqObj "list" vs.toArray 0)).get? h1.objs.size = some (seqObj "list" vs.toArray 0) := Heap.get?_push_size _ rfl
  have lt1 : ∀ b u, s.heap.get? b = some u → b < h1.objs.size := fun b u q => Heap.lt_size (kp b u q)
  have keep : ∀ b u, s.heap.get? b = some u → (h1.push (seqObj "list" vs.toArray 0)).get? b = some u := fun b u q => Heap.get?_push_of_some _ (kp b u q)
  have er' : EachIs (fun v b => ∃ as, Reads (sortingHeap (h1.push (seqObj "list" vs.toArray 0)) h1.objs.size vs) v (enc b) as) vs bs :=
    er.mono fun _ _ ⟨as, r⟩ => ⟨as, PyProof.Rows.Reads.keeps (fun b u q => sortingHeap_old (Nat.ne_of_lt (lt1 b u q)) (keep b u q)) r⟩
  have S := SortsAt.data (prog := prog) (w := w) (A := A.in1.in1) (s := { s with heap := sortingHeap (h1.push (seqObj "list" vs.toArray 0)) h1.objs.size vs }) (each_map (R := fun v d => ∃ as, Reads (sortingHeap (h1.push (seqObj "list" vs.toArray 0)) h1.objs.size vs) v d as) enc er') hal hk (bound_map hu)
  show wpAny _ _ _ _ _ { s with heap := h1.push (seqObj "list" vs.toArray 0) }
  refine wpAny_bind (wpAny_holding (wpAny_call_entry_kw slot_list_sort ⟨_, hat, rfl⟩ entry_list_sort ?body (args_list_sort _)))
  case body =>
    show wpAny (model prog w) A.in1.in1 (Builtin.«list.sort» ⟨[.ref h1.objs.size], []⟩) _ _ _
    refine list_sort_vals (s := { s with heap := h1.push (seqObj "list" vs.toArray 0) }) hat S hlen ⟨_, rfl, wpAny_pure ⟨_, rfl, ?_⟩⟩
    obtain ⟨c, hcn⟩ := sortedHeap_at (out := (sortVals (dataKind (sortingHeap (h1.push (seqObj "list" vs.toArray 0)) h1.objs.size vs) (bs.map enc)) false vs vs).toArray) hat
    refine h h1 _ h1.objs.size _ c kp (fun b u q => ?_) (Nat.le_refl _) hcn (by rw [sortVals_length false rfl]; exact e.length) (sortVals_data false e er' hal)
    have lt := Heap.lt_size q
    rw [sortedHeap_old (Nat.ne_of_lt lt) (by rw [size_push']; exact Nat.lt_succ_of_lt lt)]
    exact Heap.get?_push_of_some _ q
end

section
variable {X : Cx} {ct : Str → Option Addr}
def RvD (K : PySem.W.Frag) (F : Hp) : Value → PyData × V → Prop := fun u b => RelV b.2 u ∧ Dp K F b.2 b.1
theorem each_of {K : PySem.W.Frag} {F : Hp} : ∀ {ds : List PyData} {vs : List V} {us : List Value}, DpAll K F vs ds → Vals vs us → ∃ bs : List (PyData × V), EachIs (RvD K F) us bs ∧ bs.map (fun b => b.1) = ds
  | [], _, _, h, r => by cases h; cases r; exact ⟨[], .nil, rfl⟩
  | d :: ds, _, _, h, r => by
    cases h with
    | @cons v vs _ _ h1 h2 =>
      cases r with
      | cons r1 r2 =>
        obtain ⟨bs, q1, q2⟩ := each_of h2 r2
        exact ⟨(d, v) :: bs, .cons ⟨r1, h1⟩ q1, by rw [List.map_cons, q2]⟩
theorem of_each {K : PySem.W.Frag} {F : Hp} : ∀ {bs : List (PyData × V)} {us : List Value}, EachIs (RvD K F) us bs → Vals (bs.map fun b => b.2) us ∧ DpAll K F (bs.map fun b => b.2) (bs.map fun b => b.1)
  | [], _, h => by cases h; exact ⟨.nil, .nil⟩
  | b :: bs, _, h => by
    cases h with
    | cons h1 h2 =>
      obtain ⟨q1, q2⟩ := of_each h2
      exact ⟨.cons h1.1 q1, .cons h1.2 q2⟩
theorem alike_of {ds : List PyData} (h : allAlike ds = true) : AllAlike ds := fun d hd e he => by
  have := List.all_eq_true.mp h d hd
  exact List.all_eq_true.mp this e he
theorem srt_len (ds : List PyData) : (srt ds).length = ds.length := List.length_mergeSort _
theorem sorted_core (hu : X.A.units + 150 < cLine) {pins : List (Addr × Obj)} {s : Shared} {σ : L2.St} {F H : Hp} {t : Fp} {Q : VK} {ds : List PyData} {vs : List V} {us : List Value} {l : Addr} {T : String} {o : Obj} {n : Nat} (I : Inv X pins σ H s) (w : Wf F H t) (hT : T = "list" ∨ T = "tuple")
    (ho : s.heap.get? l = some o) (hc : o.cls = .type T) (hd : o.data = .seq us.toArray n) (r : Vals vs us) (h : DpAll X.K F vs ds) (hs : srtOk ds = true)
    (q : ∀ F' H' v g, Step F H t F' H' (fa t g) → Ex H H' → MRep (cOf X ct) F' H' v (.lst ((srt ds).map .val)) g → Q v H') : wpAny (model X.prog X.w) X.A (call (.builtin "sorted") [.ref l]) (EP X pins σ Q) X.xe s := by
  simp only [srtOk, Bool.and_eq_true, decide_eq_true_eq] at hs
  obtain ⟨hz, hal, hso, hdep⟩ := hs
  obtain ⟨bs, e1, rfl⟩ := each_of h r
  have hdep' : ∀ b ∈ bs, b.1.depth ≤ 64 := fun b hb => by
    have := List.all_eq_true.mp hdep b.1 (List.mem_map_of_mem hb)
    simpa using this
  have hrd : EachIs (fun v (b : PyData × V) => ∃ as, Reads s.heap v b.1 as) us bs := e1.mono fun u b hb => Dp.reads I b.1 b.2 u (Dp.ex w.sub _ _ hb.2) hb.1
  have hsrt : Sortable (bs.map fun b => b.1) := by
    rw [Bool.or_eq_true] at hso
    rcases hso with z | z
    · refine .inl fun d hd => ?_
      have := List.all_eq_true.mp z d hd
      unfold isTupNE at this
      split at this
      · exact ⟨_, _, rfl⟩
      · cases this
    · refine .inr fun d hd => ?_
      have := List.all_eq_true.mp z d hd
      refine ⟨fun y => ?_, fun xs y => ?_⟩ <;> (subst y; simp [isNoneTup] at this)
  refine sorted_any (enc := fun b : PyData × V => b.1) hT ho hc hd e1 hrd (alike_of hal) hsrt (by rw [← List.length_map (f := fun b : PyData × V => b.1)]; exact hz) (fun b hb => by have := hdep' b hb; omega) fun h1 h' p out c kp1 kp hp hat hlen he => ?_
  obtain ⟨q1, q2⟩ := of_each he
  have em : (bs.mergeSort (dataLe false fun b => b.1)).map (fun b => b.1) = srt (bs.map fun b => b.1) := sort_maps (fun b : PyData × V => b.1) fun _ _ _ _ => rfl
  rw [em] at q2
  have hl2 : ((bs.mergeSort (dataLe false fun b => b.1)).map (fun b => b.2)).length ≤ sizeLine := by
    rw [q1.length, hlen, ← List.length_map (f := fun b : PyData × V => b.1)]; exact hz
  have I1 : Inv X pins σ H { s with heap := h1 } := I.kept (t' := s.toks) kp1
  have hfr : H p = none := I1.hok.fresh hp
  exact ⟨.ref p, _, I1.laid (t' := s.toks) kp hp (show ObjOk X.prog X.w _ h' p (.lst _) from ⟨hl2, out, c, q1, hat⟩), rfl, q_lst (C := cOf X ct) w hfr q2 q⟩
theorem cr_sortedZ (hu : X.A.units + 150 < cLine) : CallR X (.builtin "sorted") (rBi (cOf X ct) biSorted) := by
  intro pins s σ H xs us Q I r h
  obtain ⟨F, t, ds, m, w, pr, e, q⟩ := h
  unfold biSorted at e
  split at e
  · rename_i ds
    split at e
    case isFalse => cases e
    rename_i hs
    cases e
    obtain ⟨v, rfl, s1⟩ := pr1 pr
    obtain ⟨a, vs, rfl, h1, h2⟩ := s1.list w.sub
    obtain ⟨its, rv, pl, hz⟩ := I.list h1
    obtain ⟨o, ho, hc, n, hd⟩ := pl.isList
    rw [Vals.ref1 r]
    exact sorted_core hu I w (.inl rfl) ho hc hd rv h2 hs q
  · rename_i ds
    split at e
    case isFalse => cases e
    rename_i hs
    cases e
    obtain ⟨v, rfl, s1⟩ := pr1 pr
    obtain ⟨a, vs, rfl, h1, h2⟩ := s1.tup w.sub
    obtain ⟨its, rv, ⟨o, ho, hc, n, hd⟩, hz⟩ := I.tuple h1
    rw [Vals.ref1 r]
    exact sorted_core hu I w (.inr rfl) ho hc hd rv h2 hs q
  · cases e

/-! ### max, min -/
theorem shp_mem : ∀ {ds : List PyData} {i : Nat} {d : PyData}, PyData.canLayAll0 ds = true → ds[i]? = some d → d.canLay0 = true
  | [], i, d, h, e => by simp at e
  | x :: ds, i, d, h, e => by
    simp only [PyData.canLayAll0, Bool.and_eq_true] at h
    cases i with
    | zero =>
      have : x = d := by simpa using e
      subst this; exact h.1
    | succ i => exact shp_mem h.2 (by simpa using e)
theorem mm_item {K : PySem.W.Frag} {F : Hp} : ∀ {ds : List PyData} {vs : List V} {us : List Value} {i : Nat} {u : Value}, DpAll K F vs ds → Vals vs us → us[i]? = some u → ∃ d v, ds[i]? = some d ∧ RelV v u ∧ Dp K F v d
  | [], _, _, i, u, h, r, e => by cases h; cases r; simp at e
  | d :: ds, _, _, i, u, h, r, e => by
    cases h with
    | cons h1 h2 =>
      cases r with
      | cons r1 r2 =>
        cases i with
        | zero =>
          have := Option.some.inj (by simpa using e : some _ = some u)
          subst this
          exact ⟨d, _, rfl, r1, h1⟩
        | succ i =>
          obtain ⟨d', v', q1, q2, q3⟩ := mm_item h2 r2 (i := i) (u := u) (by simpa using e)
          exact ⟨d', v', by simpa using q1, q2, q3⟩
theorem mm_ok {ds : List PyData} (h : mmOk ds = true) : AlikeAll ds ∧ PyData.canLayAll0 ds = true ∧ PyData.depthAll ds ≤ 64 := by
  simp only [mmOk, Bool.and_eq_true, decide_eq_true_eq] at h
  obtain ⟨h1, h2, h3, h4⟩ := h
  refine ⟨⟨fun d hd e he => alike_of h1 d hd e he, fun d hd z => ?_⟩, ?_, h4⟩
  · have := List.all_eq_true.mp h2 d hd
    subst z; simp at this
  · have := (Bool.and_eq_true_iff.mp h3).1
    simpa [PyData.canLay0] using this
theorem mm_core (hc : X.calm = true) (hu : X.A.units + 150 < cLine) (mx : Bool) {pins : List (Addr × Obj)} {s : Shared} {σ : L2.St} {F H : Hp} {t : Fp} {Q : VK} {d : PyData} {ds : List PyData} {a : Addr} (tp : Bool) (I : Inv X pins σ H s) (w : Wf F H t) (s1 : Sh (cOf X ct) F H (.ref a) (if tp then .tuple (d :: ds) else .list (d :: ds))) (hm : mmOk (d :: ds) = true)
    (q : ∀ F' H' v g, Step F H t F' H' (fa t g) → Ex H H' → MRep (cOf X ct) F' H' v (.val (if mx then maxD d ds else minD d ds)) g → Q v H') : wpAny (model X.prog X.w) X.A (call (.builtin (if mx then "max" else "min")) [.ref a]) (EP X pins σ Q) X.xe s := by
  obtain ⟨m1, m2, m3⟩ := mm_ok hm
  have fin : ∀ {its : List Value} {vs : List V} (i : Nat) (u : Value) (h' : Heap) (tk : Nat) (bs : List Addr), DpAll X.K F vs (d :: ds) → Vals vs its → its[i]? = some u → Reads h' u (if mx then maxD d ds else minD d ds) bs → (∀ b o, s.heap.get? b = some o → h'.get? b = some o) → EP X pins σ Q u { s with heap := h', toks := tk } := fun {its vs} i u h' tk bs hd rv hi hr kp => by
    obtain ⟨d', v, e1, e2, e3⟩ := mm_item hd rv hi
    have I' : Inv X pins σ H { s with heap := h', toks := tk } := I.kept kp
    obtain ⟨as, r2⟩ := Dp.reads I' d' v u (Dp.ex w.sub _ _ e3) e2
    have := SeqAt.Reads.unique d' _ u as bs (shp_mem m2 e1) r2 hr
    subst this
    exact ⟨v, H, I', e2, q_val (C := cOf X ct) w e3 q⟩
  have hu1 : X.A.units + 1 + PyData.depthAll (d :: ds) < cLine := by omega
  cases tp
  · obtain ⟨a', vs, ea, h1, h2⟩ := s1.list w.sub
    cases ea
    obtain ⟨its, rv, pl, hz⟩ := I.list h1
    obtain ⟨as, ra⟩ := Dp.readsAll I (d :: ds) vs its (DpAll.ex w.sub _ _ h2) rv
    cases mx
    · exact min_list_data (I.ok.hd hc) pl.isList (by simpa using ra) m1 hu1 fun i u h' tk bs hi hr kp => fin i u h' tk bs h2 rv (by simpa using hi) hr kp
    · exact max_list_data (I.ok.hd hc) pl.isList (by simpa using ra) m1 hu1 fun i u h' tk bs hi hr kp => fin i u h' tk bs h2 rv (by simpa using hi) hr kp
  · obtain ⟨a', vs, ea, h1, h2⟩ := s1.tup w.sub
    cases ea
    obtain ⟨its, rv, pl, hz⟩ := I.tuple h1
    obtain ⟨as, ra⟩ := Dp.readsAll I (d :: ds) vs its (DpAll.ex w.sub _ _ h2) rv
    cases mx
    · exact min_tuple_data (I.ok.hd hc) pl (by simpa using ra) m1 hu1 fun i u h' tk bs hi hr kp => fin i u h' tk bs h2 rv (by simpa using hi) hr kp
    · exact max_tuple_data (I.ok.hd hc) pl (by simpa using ra) m1 hu1 fun i u h' tk bs hi hr kp => fin i u h' tk bs h2 rv (by simpa using hi) hr kp
theorem cr_mm (hc : X.calm = true) (hu : X.A.units + 150 < cLine) (mx : Bool) : CallR X (.builtin (if mx then "max" else "min")) (rBi (cOf X ct) (biMM mx)) := by
  intro pins s σ H xs us Q I r h
  obtain ⟨F, t, ds, m, w, pr, e, q⟩ := h
  unfold biMM at e
  split at e
  · rename_i d ds
    split at e
    case isFalse => cases e
    rename_i hs
    cases e
    obtain ⟨v, rfl, s1⟩ := pr1 pr
    obtain ⟨a, vs, rfl, h1, h2⟩ := s1.list w.sub
    rw [Vals.ref1 r]
    exact mm_core hc hu mx false I w s1 hs q
  · rename_i d ds
    split at e
    case isFalse => cases e
    rename_i hs
    cases e
    obtain ⟨v, rfl, s1⟩ := pr1 pr
    obtain ⟨a, vs, rfl, h1, h2⟩ := s1.tup w.sub
    rw [Vals.ref1 r]
    exact mm_core hc hu mx true I w s1 hs q
  · rename_i i j
    cases e
    obtain ⟨v, u, rfl, s1, s2⟩ := pr2 pr
    cases mx
    · exact call_min2 hc pins s σ H _ us Q I r ⟨i, j, by rw [sh_int s1, sh_int s2], q_val (C := cOf X ct) w (.int _) q⟩
    · exact call_max2 hc pins s σ H _ us Q I r ⟨i, j, by rw [sh_int s1, sh_int s2], q_val (C := cOf X ct) w (.int _) q⟩
  · cases e
end
end Z

set_option Elab.async false
set_option linter.all false
set_option maxRecDepth 100000
set_option maxHeartbeats 2000000
/-! Z12: isinstance, len and list of places, tuple and list of values, ranges. -/
namespace Z
open PySem L2 Evl PyProof.Rows PySem.W

/-! ### isinstance -/
inductive Tag where
  | non | bl | int | str | lst | tup | dct
deriving DecidableEq
def Tag.nm : Tag → String
  | .non => "NoneType"
  | .bl => "bool"
  | .int => "int"
  | .str => "str"
  | .lst => "list"
  | .tup => "tuple"
  | .dct => "dict"
def Tag.sub (a b : Tag) : Bool := decide (a = b) || (decide (a = .bl) && decide (b = .int))
theorem Tag.kit (a b : Tag) : kitB a.nm b.nm = some (a.sub b) := by
  cases a <;> cases b <;> decide +kernel
def tagD : PyData → Tag
  | .none => .non
  | .bool _ => .bl
  | .int _ => .int
  | .str _ => .str
  | .list _ => .lst
  | .tuple _ => .tup
  | .dict _ => .dct
def tagM : M → Option Tag
  | .val d => some (tagD d)
  | .lst _ => some .lst
  | .tup _ => some .tup
  | .dct false _ => some .dct
  | .dct true _ => none
  | .ins _ _ => none
  | .fz m => tagM m
section
variable {X : Cx} {ct : Str → Option Addr} {e a b c : Expr} {es : List Expr} {pos p p2 : Pos} {pa pb pc : Bool} {x : Str} {id : String}
theorem tyx_l {K : PySem.W.Frag} {H : Hp} {a : Addr} {xs : List V} (h : SqL K H a xs) : TyX K H (.ref a) (.type "list") := by
  rcases h with (h | ⟨o, h⟩) | ⟨o, its, n, h, hc, _⟩
  · exact .base (.lst h)
  · exact .base (.frz h)
  · exact .kList h hc
theorem tyx_t {K : PySem.W.Frag} {H : Hp} {a : Addr} {xs : List V} (h : SqT K H a xs) : TyX K H (.ref a) (.type "tuple") := by
  rcases h with (h | ⟨o, h⟩) | ⟨o, its, n, h, hc, _⟩
  · exact .base (.tup h)
  · exact .fTuple h
  · exact .kTuple h hc
theorem tyx_d {K : PySem.W.Frag} {H : Hp} {v : V} {d : PyData} (h : Dp K H v d) : TyX K H v (.type (tagD d).nm) := by
  cases h with
  | non => exact .base .non
  | bl _ => exact .base (.bl _)
  | int _ => exact .base (.int _)
  | str _ => exact .base (.str _)
  | lst h _ => exact tyx_l h
  | tup h _ => exact tyx_t h
theorem TyX.ex {K : PySem.W.Frag} {F H : Hp} {v : V} {t : Value} (e : Ex F H) (h : TyX K F v t) : TyX K H v t := by
  cases h with
  | base h =>
    cases h with
    | non => exact .base .non
    | bl _ => exact .base (.bl _)
    | int _ => exact .base (.int _)
    | str _ => exact .base (.str _)
    | flt _ => exact .base (.flt _)
    | lst h => exact .base (.lst (e _ _ h))
    | frz h => exact .base (.frz (e _ _ h))
    | tup h => exact .base (.tup (e _ _ h))
    | dK h => exact .base (.dK (e _ _ h))
    | dT h => exact .base (.dT (e _ _ h))
    | ins h a b c d f => exact .base (.ins (e _ _ h) a b c d f)
  | byt _ => exact .byt _
  | set h => exact .set (e _ _ h)
  | kList h c => exact .kList h c
  | kTuple h c => exact .kTuple h c
  | kDict h c => exact .kDict h c
  | fTuple h => exact .fTuple (e _ _ h)
  | fDict h => exact .fDict (e _ _ h)
theorem tyx_m {C : Ct} {F : Hp} : ∀ (m : M) {H : Hp} {v : V} {f : Fp} {g : Tag}, Ex F H → MRep C F H v m f → tagM m = some g → TyX C.K H v (.type g.nm)
  | .val d, H, v, f, g, s, r, e => by
    cases r with | val r => cases e; exact tyx_d (Dp.ex s _ _ r)
  | .lst ms, H, v, f, g, s, r, e => by
    cases r with | lst h1 h2 => cases e; exact tyx_l (SqL.of h1)
  | .tup ms, H, v, f, g, s, r, e => by
    cases r with | tup h1 h2 => cases e; exact tyx_t (SqT.of h1)
  | .dct false _, H, v, f, g, s, r, e => by
    cases r with | dK h1 _ _ => cases e; exact .base (.dK h1)
  | .dct true _, H, v, f, g, s, r, e => by cases e
  | .ins _ _, H, v, f, g, s, r, e => by cases e
  | .fz m, H, v, f, g, s, r, e => by
    cases r with | fz r => exact TyX.ex s (tyx_m m (Ex.refl F) r e)
/-- isinstance(a place, a built-in type) -/
def zIsi (A : EvR) (g : Tag) : EvB := fun ρ => (A ρ).bind fun m => (tagM m).map fun t => (t.sub g, ρ)
theorem pz_isi {A : EvR} {g : Tag} {x2 : Str} (ha : PR (cOf X ct) X a A) (hg : Gl X x) (hm : X.mg x = none) (hv : bootBuiltins x = some (.builtin "isinstance")) (hg2 : Gl X x2) (hm2 : X.mg x2 = none) (hv2 : bootBuiltins x2 = some (.type g.nm))
    (hn : x ≠ "__name__") (hdb : (x == ("__debug__" : Str)) = false) (hn2 : x2 ≠ "__name__") (hdb2 : (x2 == ("__debug__" : Str)) = false) (he : NoStar a [.Name x2 p2] X.env) (he2 : NoStar (.Name x2 p2) [] X.env) (hpl : (backTo pos (starEach [.Name x2 p2] X.env)).any (·.1) = false) : PZ (cOf X ct) X (.Call (.Name x p) [a, .Name x2 p2] [] pos) true (zBv (zIsi A g)) := by
  refine PE.imp (pe_callB call_isi hg hm hv (pa_cons ha (pa_cons (pe_bltn hg2 hm2 hv2 (v := .ty g.nm) rfl hn2 hdb2) pa_nil he2) he) hn hdb he hpl) fun σ H Q ⟨F, ρ, t, m, ρ', w, en, e, k⟩ => ?_
  simp only [zBv, zIsi, Option.map_eq_some_iff, Option.bind_eq_some_iff, Prod.mk.injEq] at e
  obtain ⟨⟨b, ρ1⟩, ⟨m0, e1, t0, e2, e3⟩, e4⟩ := e
  simp only [Prod.mk.injEq] at e3 e4
  obtain ⟨rfl, rfl⟩ := e3
  obtain ⟨rfl, rfl⟩ := e4
  refine ⟨F, _, t, m0, w, en, e1, fun F1 H1 v f a1 r1 => ?_⟩
  exact ⟨v, .ty g.nm, .type t0.nm, .type g.nm, _, rfl, .ty _, tyx_m m0 a1.st.wf.sub r1 e2, kit_ty (Tag.kit t0 g), k F1 H1 _ f0 t a1 (.val (.bl _))⟩

/-! ### len of a place -/
def lenM : M → Option Nat
  | .val (.list ds) => some ds.length
  | .val (.tuple ds) => some ds.length
  | .val (.str z) => if z.length ≤ sizeLine then some z.length else none
  | .val _ => none
  | .lst ms => some ms.length
  | .tup ms => some ms.length
  | .dct false kvs => some kvs.length
  | .dct true kvs => if kvs.length ≤ sizeLine then some kvs.length else none
  | .ins _ _ => none
  | .fz m => lenM m
/-- what len asks of the heap -/
def LenA (X : Cx) (H : Hp) (v : V) (n : Nat) : Prop := ∀ (pins : List (Addr × Obj)) (s : Shared) (σ : L2.St) (Q : VK) (us : List Value), Inv X pins σ H s → Vals [v] us → Q (.int n) H → wpAny (model X.prog X.w) X.A (call (.builtin "len") us) (EP X pins σ Q) X.xe s
theorem lenA_d {F H : Hp} {v : V} {d : PyData} {n : Nat} (s : Ex F H) (r : Dp X.K F v d) (e : lenM (.val d) = some n) : LenA X H v n := by
  have se := s
  intro pins s σ Q us I rv q
  cases r with
  | lst h1 h2 => cases e; exact call_len_seq pins s σ H _ us Q I rv ⟨_, _, rfl, .inl (ex_l se h1), by rw [dp_length h2]; exact q⟩
  | tup h1 h2 => cases e; exact call_len_seq pins s σ H _ us Q I rv ⟨_, _, rfl, .inr (ex_t se h1), by rw [dp_length h2]; exact q⟩
  | str z =>
    unfold lenM at e
    split at e
    · rename_i hz
      cases e
      exact call_len_str pins s σ H _ us Q I rv ⟨z, rfl, hz, q⟩
    · cases e
  | non => cases e
  | bl _ => cases e
  | int _ => cases e
theorem lenA_m {F : Hp} : ∀ (m : M) {H G : Hp} {v : V} {f : Fp} {n : Nat}, Ex F H → Ex G H → MRep (cOf X ct) F G v m f → lenM m = some n → LenA X H v n
  | .val d, H, G, v, f, n, s, sg, r, e => by
    cases r with | val r => exact lenA_d s r e
  | .lst ms, H, G, v, f, n, s, sg, r, e => by
    cases r with
    | lst h1 h2 =>
      cases e
      intro pins s σ Q us I rv q
      exact call_len_seq pins s σ H _ us Q I rv ⟨_, _, rfl, .inl (SqL.of (sg _ _ h1)), by rw [reps_length h2]; exact q⟩
  | .tup ms, H, G, v, f, n, s, sg, r, e => by
    cases r with
    | tup h1 h2 =>
      cases e
      intro pins s σ Q us I rv q
      exact call_len_seq pins s σ H _ us Q I rv ⟨_, _, rfl, .inr (SqT.of (sg _ _ h1)), by rw [reps_length h2]; exact q⟩
  | .dct false kvs, H, G, v, f, n, s, sg, r, e => by
    cases r with
    | dK h1 _ h2 =>
      cases e
      intro pins s σ Q us I rv q
      exact call_lenD pins s σ H _ us Q I rv ⟨_, _, rfl, sg _ _ h1, by rw [repK_len h2]; exact q⟩
  | .dct true kvs, H, G, v, f, n, s, sg, r, e => by
    cases r with
    | dT h1 hs hn h2 =>
      unfold lenM at e
      split at e
      case isFalse => cases e
      rename_i hz
      cases e
      have se := s
      intro pins s σ Q us I rv q
      have hl := repT_len h2
      rw [Vals.ref1 rv]
      refine call_len_dictH hs (dictT_of I se (sg _ _ h1) hn h2) (by rw [sizeLine_eq] at hz; omega) ?_
      rw [hl]
      exact ⟨.int _, H, I.tok _, ⟨_, rfl⟩, q⟩
  | .ins _ _, H, G, v, f, n, s, sg, r, e => by cases e
  | .fz m, H, G, v, f, n, s, sg, r, e => by
    cases r with | fz r => exact lenA_m m s s r e
def rLenA (X : Cx) : List V → Hp → VK → Prop := fun vs H Q => ∃ (v : V) (n : Nat), vs = [v] ∧ LenA X H v n ∧ Q (.int n) H
theorem cr_lenA : CallR X (.builtin "len") (rLenA X) := by
  intro pins s σ H xs us Q I r h
  obtain ⟨v, n, rfl, h1, q⟩ := h
  exact h1 pins s σ Q us I r q
def zLen (A : EvR) : EvE := fun ρ => (A ρ).bind fun m => (lenM m).map fun (n : Nat) => (vI (n : Int), ρ)
theorem pz_len {A : EvR} (ha : PR (cOf X ct) X a A) (hg : Gl X x) (hm : X.mg x = none) (hv : bootBuiltins x = some (.builtin "len")) (hn : x ≠ "__name__") (hdb : (x == ("__debug__" : Str)) = false)
    (he : NoStar a [] X.env) (hpl : (backTo pos (starEach [] X.env)).any (·.1) = false) : PZ (cOf X ct) X (.Call (.Name x p) [a] [] pos) true (zLen A) := by
  refine PE.imp (pe_callB cr_lenA hg hm hv (pa_cons ha pa_nil he) hn hdb he hpl) fun σ H Q ⟨F, ρ, t, m, ρ', w, en, e, k⟩ => ?_
  simp only [zLen, Option.map_eq_some_iff, Option.bind_eq_some_iff, Prod.mk.injEq] at e
  obtain ⟨m0, e1, n, e2, rfl, rfl⟩ := e
  refine ⟨F, _, t, m0, w, en, e1, fun F1 H1 v f a1 r1 => ?_⟩
  exact ⟨v, n, rfl, lenA_m (ct := ct) m0 a1.st.wf.sub (Ex.refl _) r1 e2, k F1 H1 _ f0 t a1 (.val (.int _))⟩

/-! ### the keys of a dict -/
def dkeys : M → Option (List PyData)
  | .dct _ kvs => if kvs.length ≤ sizeLine then some (kvs.map fun kv => kv.1) else none
  | .fz m => dkeys m
  | _ => none
theorem repK_keys {K : PySem.W.Frag} {C : Ct} {F G : Hp} : ∀ {ms : List (PyData × M)} {kvs : List (L2.Key × V)} {f : Fp}, MRepK C F G kvs ms f → DpAll K F (kvs.map fun kv => kV kv.1) (ms.map fun kv => kv.1)
  | [], _, _, r => by cases r; exact .nil
  | (d, m) :: ms, _, _, r => by
    cases r with
    | cons hk h1 h2 =>
      refine .cons ?_ (repK_keys h2)
      cases d <;> simp only [fkey, Option.some.injEq] at hk <;> first | (cases hk; done) | skip
      · subst hk; exact .int _
      · subst hk; exact .str _
theorem repT_keys {C : Ct} {F G : Hp} : ∀ {ms : List (PyData × M)} {xs : List (NestedKey × Addr × Value)} {f : Fp}, MRepT C F G xs ms f → DpAll C.K F (xs.map fun x => V.ref x.2.1) (ms.map fun kv => kv.1)
  | [], _, _, r => by cases r; exact .nil
  | (d, m) :: ms, _, _, r => by
    cases r with
    | cons hk hd hp hr h1 h2 => exact .cons hp (repT_keys h2)
/-- list(d) -/
def KeysA (X : Cx) (H : Hp) (v : V) (ks : List V) : Prop := ∀ (pins : List (Addr × Obj)) (s : Shared) (σ : L2.St) (Q : VK) (us : List Value), Inv X pins σ H s → Vals [v] us → (∀ q, H q = none → Q (.ref q) (upd H q (.lst ks))) → wpAny (model X.prog X.w) X.A (call (.type "list") us) (EP X pins σ Q) X.xe s
theorem keys_raw (hc : X.calm = true) {G H : Hp} {a : Addr} {xs : List (NestedKey × Addr × Value)} (sg : Ex G H) (h1 : G a = some (hoT (cOf X ct) a xs)) (hs : (a == sysModules) = false) (hz : xs.length ≤ sizeLine) : KeysA X H (.ref a) (xs.map fun x => V.ref x.2.1) := by
  intro pins s σ Q us I rv q
  obtain ⟨⟨o, es, ep, e1, e2, e3, e4⟩, _⟩ := I.hok a _ (sg _ _ h1)
  rw [Vals.ref1 rv]
  have l1 : es.size = xs.length := by
    have := congrArg List.length e4
    simpa using this
  refine PySem.W.kdl_call (kdl_raw hs e2 e3) (I.ok.hd hc) e1 (by omega) fun h' tk acc' c' kp e it => ?_
  refine ⟨.ref s.heap.objs.size, _, I.laid kp (Nat.le_refl _) (show ObjOk X.prog X.w _ _ _ (.lst (xs.map fun x => V.ref x.2.1)) from ⟨by rw [List.length_map]; exact hz, acc'.toList, c', ?_, by rw [Array.toArray_toList]; exact e⟩), rfl, q _ (I.hok.fresh (Nat.le_refl _))⟩
  refine vals_of_at (by rw [List.length_map, ← l1]; have := it.1; simpa using this.symm) fun j x w h2 h3 => ?_
  obtain ⟨en, q1, rfl⟩ := it.2 j w (by rw [← Array.getElem?_toList]; exact h3)
  rw [← Array.getElem?_toList, e4, List.getElem?_map] at q1
  rw [List.getElem?_map] at h2
  cases hx : xs[j]? with
  | none => rw [hx] at h2; cases h2
  | some y =>
    rw [hx] at h2 q1
    cases h2
    cases q1
    rfl
theorem keysA_m (hc : X.calm = true) {F : Hp} : ∀ (m : M) {H G : Hp} {v : V} {f : Fp} {ks : List PyData}, Ex F H → Ex G H → MRep (cOf X ct) F G v m f → dkeys m = some ks → ∃ vs, KeysA X H v vs ∧ DpAll X.K F vs ks
  | .dct false kvs, H, G, v, f, ks, s, sg, r, e => by
    cases r with
    | dK h1 _ h2 =>
      simp only [dkeys] at e
      split at e
      case isFalse => cases e
      cases e
      exact ⟨_, fun pins s σ Q us I rv q => call_list_dK hc pins s σ H _ us Q I rv ⟨_, _, rfl, sg _ _ h1, q⟩, repK_keys h2⟩
  | .dct true kvs, H, G, v, f, ks, s, sg, r, e => by
    cases r with
    | dT h1 hs hn h2 =>
      simp only [dkeys] at e
      split at e
      case isFalse => cases e
      rename_i hz
      cases e
      exact ⟨_, keys_raw (ct := ct) hc sg h1 hs (by rw [repT_len h2]; exact hz), repT_keys h2⟩
  | .fz m, H, G, v, f, ks, s, sg, r, e => by
    cases r with | fz r => exact keysA_m hc m s s r e
  | .val _, H, G, v, f, ks, s, sg, r, e => by cases e
  | .lst _, H, G, v, f, ks, s, sg, r, e => by cases e
  | .tup _, H, G, v, f, ks, s, sg, r, e => by cases e
  | .ins _ _, H, G, v, f, ks, s, sg, r, e => by cases e
def rKeysA (X : Cx) : List V → Hp → VK → Prop := fun vs H Q => ∃ (v : V) (ks : List V), vs = [v] ∧ KeysA X H v ks ∧ ∀ q, H q = none → Q (.ref q) (upd H q (.lst ks))
theorem cr_keysA : CallR X (.type "list") (rKeysA X) := by
  intro pins s σ H xs us Q I r h
  obtain ⟨v, n, rfl, h1, q⟩ := h
  exact h1 pins s σ Q us I r q
theorem Aft.act {C : Ct} {pu : Bool} {σ : L2.St} {F H F' H' F'' H'' : Hp} {t t' g : Fp} {ρ ρ' : Env} (af : Aft C pu σ F H t ρ F' H' t' f0 ρ') (st : Step F' H' t' F'' H'' (fa t' g)) (ex : Ex H' H'') : Aft C pu σ F H t ρ F'' H'' t' g ρ' := by
  refine ⟨?_, af.en.mono st.ex fun x px => ?_, fun z => ?_⟩
  · have s0 := af.st
    rw [fa0] at s0
    exact s0.trans st
  · obtain ⟨o, ho⟩ := af.en.dom x px
    rw [ho]; exact ex x o ho
  · obtain ⟨z1, z2⟩ := af.pu z
    exact ⟨z1.trans ex, z2⟩
def zKeys (A : EvR) : EvE := fun ρ => (A ρ).bind fun m => (dkeys m).map fun ks => (.lst (ks.map .val), ρ)
theorem pz_keys (hc : X.calm = true) {A : EvR} (ha : PR (cOf X ct) X a A) (hg : Gl X x) (hm : X.mg x = none) (hv : bootBuiltins x = some (.type "list")) (hn : x ≠ "__name__") (hdb : (x == ("__debug__" : Str)) = false)
    (he : NoStar a [] X.env) (hpl : (backTo pos (starEach [] X.env)).any (·.1) = false) : PZ (cOf X ct) X (.Call (.Name x p) [a] [] pos) true (zKeys A) := by
  refine PE.imp (pe_callTy cr_keysA hg hm hv (pa_cons ha pa_nil he) hn hdb he hpl) fun σ H Q ⟨F, ρ, t, m, ρ', w, en, e, k⟩ => ?_
  simp only [zKeys, Option.map_eq_some_iff, Option.bind_eq_some_iff, Prod.mk.injEq] at e
  obtain ⟨m0, e1, n, e2, rfl, rfl⟩ := e
  refine ⟨F, _, t, m0, w, en, e1, fun F1 H1 v f a1 r1 => ?_⟩
  obtain ⟨vs, h1, h2⟩ := keysA_m (ct := ct) hc m0 a1.st.wf.sub (Ex.refl _) r1 e2
  exact ⟨v, vs, rfl, h1, fun q hq => q_lst (C := cOf X ct) a1.wf hq h2 fun F' H' v g st ex r => k F' H' v g t (a1.act st ex) r⟩

/-! ### tuple and list of values that one owns -/
def tupOf : M → Option M
  | .lst ms => some (tupM ms)
  | .tup ms => some (.tup ms)
  | .val (.list ds) => some (.val (.tuple ds))
  | .val (.tuple ds) => some (.val (.tuple ds))
  | _ => none
def lstOf : M → Option M
  | .lst ms => some (.lst ms)
  | .tup ms => some (.lst ms)
  | .val (.list ds) => some (.lst (ds.map .val))
  | .val (.tuple ds) => some (.lst (ds.map .val))
  | _ => none
theorem tup_new {C : Ct} {F H : Hp} {t f : Fp} {ms : List M} {vs : List V} {Q : VK} {p : Addr} (w : Wf F H (fa t f)) (hp : H p = none) (r : MReps C F H vs ms f)
    (q : ∀ F' H' v g, Step F H (fa t f) F' H' (fa t g) → Ex H H' → MRep C F' H' v (tupM ms) g → Q v H') : Q (.ref p) (upd H p (.tup vs)) := by
  cases hd : deeps ms with
  | none =>
    have et : tupM ms = .tup ms := by unfold tupM; rw [hd]
    rw [et] at q
    have s := Step.new (o := .tup vs) w hp
    have e1 : fa (f1 p) (fa t f) = fa t (fa (f1 p) f) := by rw [← fa_assoc, fa_comm (f1 p) t, fa_assoc]
    rw [e1] at s
    exact q F _ _ _ s (Ex.new hp) (.tup upd_same (r.new hp))
  | some ds =>
    have et : tupM ms = .val (.tuple ds) := by unfold tupM; rw [hd]
    rw [et] at q
    have w2 : Wf F H (fa f t) := by rw [fa_comm]; exact w
    have s2 : Step F H (fa f t) (frF F H f) H t := Step.freeze w2
    have r' : MReps C (frF F H f) (frF F H f) vs ms f := r.mono s2.ex _ _ _ fun x px => by
      show (if 0 < f x then H x else F x) = H x
      rw [if_pos px]
    have dd : DpAll C.K (frF F H f) vs ds := deeps_dp ms vs f ds r' hd
    have s3 := s2.trans (Step.newF (o := .tup vs) s2.wf hp)
    rw [fa_comm] at s3
    refine q _ _ _ f0 s3 (Ex.new hp) (.val (.tup (SqT.of upd_same) (DpAll.ex (Ex.new ?_) _ _ dd)))
    cases q' : frF F H f p with
    | none => rfl
    | some u => rw [s2.wf.sub p u q'] at hp; cases hp
def zTupM (A : EvE) : EvE := fun ρ => (A ρ).bind fun (m, ρ1) => (tupOf m).map fun m' => (m', ρ1)
def zLstM (A : EvE) : EvE := fun ρ => (A ρ).bind fun (m, ρ1) => (lstOf m).map fun m' => (m', ρ1)
theorem Aft.mid {C : Ct} {pu : Bool} {σ : L2.St} {F H F' H' F'' H'' : Hp} {t t' f g : Fp} {ρ ρ' : Env} (af : Aft C pu σ F H t ρ F' H' t' f ρ') (st : Step F' H' (fa t' f) F'' H'' (fa t' g)) (ex : Ex H' H'') : Aft C pu σ F H t ρ F'' H'' t' g ρ' := by
  refine ⟨af.st.trans st, af.en.mono st.ex fun x px => ?_, fun z => ?_⟩
  · obtain ⟨o, ho⟩ := af.en.dom x px
    rw [ho]; exact ex x o ho
  · obtain ⟨z1, z2⟩ := af.pu z
    exact ⟨z1.trans ex, z2⟩
theorem pz_tupM {A : EvE} (ha : PZ (cOf X ct) X a pa A) (hg : Gl X x) (hm : X.mg x = none) (hv : bootBuiltins x = some (.type "tuple")) (hn : x ≠ "__name__") (hdb : (x == ("__debug__" : Str)) = false)
    (he : NoStar a [] X.env) (hpl : (backTo pos (starEach [] X.env)).any (·.1) = false) : PZ (cOf X ct) X (.Call (.Name x p) [a] [] pos) pa (zTupM A) := by
  refine PE.imp (pe_callTy call_tuple_of hg hm hv (pa_cons ha pa_nil he) hn hdb he hpl) fun σ H Q ⟨F, ρ, t, m, ρ', w, en, e, k⟩ => ?_
  simp only [zTupM, Option.map_eq_some_iff, Option.bind_eq_some_iff, Prod.mk.injEq] at e
  obtain ⟨⟨m0, ρ1⟩, e1, m1, e2, rfl, rfl⟩ := e
  refine ⟨F, ρ, t, m0, ρ1, w, en, e1, fun F1 H1 v f t1 a1 r1 => ?_⟩
  cases m0 with
  | lst ms0 =>
    cases e2
    cases r1 with
    | @lst _ a vs _ f h1 h2 =>
      refine ⟨_, _, rfl, .inl ⟨SqL.of h1, fun l hl => ?_⟩⟩
      have w' : Wf F1 H1 (fa t1 f) := a1.st.wf.le fun y => by simp only [fa_at]; omega
      have dr : Aft (cOf X ct) pa σ F H t ρ F1 H1 t1 f ρ1 := ⟨a1.st.le fun y => by simp only [fa_at]; omega, a1.en, a1.pu⟩
      exact tup_new w' hl h2 fun F' H' v g st ex r => k F' H' v g t1 (dr.mid st ex) r
  | tup ms0 =>
    cases e2
    cases r1 with
    | tup h1 h2 => exact ⟨_, _, rfl, .inr ⟨SqT.of h1, k F1 H1 _ _ t1 a1 (.tup h1 h2)⟩⟩
  | val d0 =>
    cases d0 with
    | list ds0 =>
      cases e2
      cases r1 with
      | val r1 =>
        cases r1 with
        | lst h1 h2 =>
          refine ⟨_, _, rfl, .inl ⟨ex_l a1.st.wf.sub h1, fun l hl => ?_⟩⟩
          exact q_tup (C := cOf X ct) a1.wf hl h2 fun F' H' v g st ex r => k F' H' v g t1 (a1.act st ex) r
    | tuple ds0 =>
      cases e2
      cases r1 with
      | val r1 =>
        cases r1 with
        | tup h1 h2 => exact ⟨_, _, rfl, .inr ⟨ex_t a1.st.wf.sub h1, k F1 H1 _ _ t1 a1 (.val (.tup h1 h2))⟩⟩
    | none => cases e2
    | bool _ => cases e2
    | int _ => cases e2
    | str _ => cases e2
    | dict _ => cases e2
  | dct _ _ => cases e2
  | ins _ _ => cases e2
  | fz _ => cases e2
theorem lst_new {C : Ct} {F H : Hp} {t f : Fp} {ms : List M} {vs : List V} {Q : VK} {p : Addr} (w : Wf F H (fa t f)) (hp : H p = none) (r : MReps C F H vs ms f)
    (q : ∀ F' H' v g, Step F H (fa t f) F' H' (fa t g) → Ex H H' → MRep C F' H' v (.lst ms) g → Q v H') : Q (.ref p) (upd H p (.lst vs)) := by
  have s := Step.new (o := .lst vs) w hp
  have e1 : fa (f1 p) (fa t f) = fa t (fa (f1 p) f) := by rw [← fa_assoc, fa_comm (f1 p) t, fa_assoc]
  rw [e1] at s
  exact q F _ _ _ s (Ex.new hp) (.lst upd_same (r.new hp))
theorem pz_lstM {A : EvE} (ha : PZ (cOf X ct) X a pa A) (hg : Gl X x) (hm : X.mg x = none) (hv : bootBuiltins x = some (.type "list")) (hn : x ≠ "__name__") (hdb : (x == ("__debug__" : Str)) = false)
    (he : NoStar a [] X.env) (hpl : (backTo pos (starEach [] X.env)).any (·.1) = false) : PZ (cOf X ct) X (.Call (.Name x p) [a] [] pos) pa (zLstM A) := by
  refine PE.imp (pe_callTy call_list_of hg hm hv (pa_cons ha pa_nil he) hn hdb he hpl) fun σ H Q ⟨F, ρ, t, m, ρ', w, en, e, k⟩ => ?_
  simp only [zLstM, Option.map_eq_some_iff, Option.bind_eq_some_iff, Prod.mk.injEq] at e
  obtain ⟨⟨m0, ρ1⟩, e1, m1, e2, rfl, rfl⟩ := e
  refine ⟨F, ρ, t, m0, ρ1, w, en, e1, fun F1 H1 v f t1 a1 r1 => ?_⟩
  cases m0 with
  | lst ms0 =>
    cases e2
    cases r1 with
    | @lst _ a vs _ f h1 h2 =>
      refine ⟨_, _, rfl, .inl (SqL.of h1), fun l hl => ?_⟩
      have w' : Wf F1 H1 (fa t1 f) := a1.st.wf.le fun y => by simp only [fa_at]; omega
      have dr : Aft (cOf X ct) pa σ F H t ρ F1 H1 t1 f ρ1 := ⟨a1.st.le fun y => by simp only [fa_at]; omega, a1.en, a1.pu⟩
      exact lst_new w' hl h2 fun F' H' v g st ex r => k F' H' v g t1 (dr.mid st ex) r
  | tup ms0 =>
    cases e2
    cases r1 with
    | @tup _ a vs _ f h1 h2 =>
      refine ⟨_, _, rfl, .inr (SqT.of h1), fun l hl => ?_⟩
      have w' : Wf F1 H1 (fa t1 f) := a1.st.wf.le fun y => by simp only [fa_at]; omega
      have dr : Aft (cOf X ct) pa σ F H t ρ F1 H1 t1 f ρ1 := ⟨a1.st.le fun y => by simp only [fa_at]; omega, a1.en, a1.pu⟩
      exact lst_new w' hl h2 fun F' H' v g st ex r => k F' H' v g t1 (dr.mid st ex) r
  | val d0 =>
    cases d0 with
    | list ds0 =>
      cases e2
      cases r1 with
      | val r1 =>
        cases r1 with
        | lst h1 h2 =>
          refine ⟨_, _, rfl, .inl (ex_l a1.st.wf.sub h1), fun l hl => ?_⟩
          exact q_lst (C := cOf X ct) a1.wf hl h2 fun F' H' v g st ex r => k F' H' v g t1 (a1.act st ex) r
    | tuple ds0 =>
      cases e2
      cases r1 with
      | val r1 =>
        cases r1 with
        | tup h1 h2 =>
          refine ⟨_, _, rfl, .inr (ex_t a1.st.wf.sub h1), fun l hl => ?_⟩
          exact q_lst (C := cOf X ct) a1.wf hl h2 fun F' H' v g st ex r => k F' H' v g t1 (a1.act st ex) r
    | none => cases e2
    | bool _ => cases e2
    | int _ => cases e2
    | str _ => cases e2
    | dict _ => cases e2
  | dct _ _ => cases e2
  | ins _ _ => cases e2
  | fz _ => cases e2

/-! ### ranges -/
def rgD (a b : Int) : List PyData := (List.range (b - a).toNat).map fun i => .int (a + (i : Nat))
def rgOk (a b : Int) : Bool := decide (-(2 ^ 62) ≤ a ∧ a < 2 ^ 62 ∧ -(2 ^ 62) ≤ b ∧ b < 2 ^ 62 ∧ (b - a).toNat ≤ 2 ^ 24)
theorem rg_dp {K : PySem.W.Frag} {F : Hp} (a b : Int) : DpAll K F (rgV a b) (rgD a b) := by
  have key : ∀ l : List Nat, DpAll K F (l.map fun i => V.int (a + (i : Nat))) (l.map fun i => .int (a + (i : Nat))) := fun l => by
    induction l with
    | nil => exact .nil
    | cons i l ih => exact .cons (.int _) ih
  exact key _
abbrev EvRg := Env → Option (Int × Int × Env)
def tRgZ (C : Ct) (pu : Bool) (A : EvRg) : L2.St → Hp → (Int → Int → Hp → Prop) → Prop := fun σ H Q => ∃ F ρ t i j ρ', Wf F H t ∧ EnvR C F H σ ρ t ∧ A ρ = some (i, j, ρ') ∧ ∀ F' H' t', Aft C pu σ F H t ρ F' H' t' f0 ρ' → Q i j H'
abbrev PRgZ (C : Ct) (X : Cx) (e : Expr) (pu : Bool) (A : EvRg) : Prop := PRg X e (tRgZ C pu A)
def gRg1 (A : EvO) : EvRg := fun ρ => (A ρ).bind fun (d, _, ρ1) => match d with
  | .int n => some (0, n, ρ1)
  | _ => none
def gRg2 (A B : EvO) : EvRg := fun ρ => (A ρ).bind fun (d, _, ρ1) => (B ρ1).bind fun (e, _, ρ2) => match d, e with
  | .int m, .int n => some (m, n, ρ2)
  | _, _ => none
theorem prg_1Z {A : EvO} (ha : PZo (cOf X ct) X a pa A) (hg : Gl X "range") (hm : X.mg "range" = none) (he : NoStar a [] X.env) : PRgZ (cOf X ct) X (.Call (.Name "range" p) [a] [] pos) pa (gRg1 A) := by
  intro pins s σ H Q I h
  refine prg_1 hg hm ha he pins s σ H Q I ?_
  obtain ⟨F, ρ, t, i, j, ρ', w, en, e, k⟩ := h
  simp only [gRg1, Option.bind_eq_some_iff] at e
  obtain ⟨⟨d, pp, ρ1⟩, e1, e2⟩ := e
  dsimp only at e2
  split at e2
  case h_2 => cases e2
  rename_i n
  cases e2
  exact ⟨F, ρ, t, _, pp, _, w, en, e1, fun F' H' v t' af sh _ => ⟨_, sh_int sh, k F' H' t' af⟩⟩
theorem prg_2Z {A B : EvO} (ha : PZo (cOf X ct) X a pa A) (hb : PZo (cOf X ct) X b pb B) (hg : Gl X "range") (hm : X.mg "range" = none) (he : NoStar a [b] X.env) (he2 : NoStar b [] X.env) (hpl : (backTo pos (starEach [b] X.env)).any (·.1) = false) : PRgZ (cOf X ct) X (.Call (.Name "range" p) [a, b] [] pos) (pa && pb) (gRg2 A B) := by
  intro pins s σ H Q I h
  refine prg_2 hg hm ha hb he he2 hpl pins s σ H Q I ?_
  obtain ⟨F, ρ, t, i, j, ρ', w, en, e, k⟩ := h
  simp only [gRg2, Option.bind_eq_some_iff] at e
  obtain ⟨⟨d, pp, ρ1⟩, e1, ⟨d2, pp2, ρ2⟩, e2, e3⟩ := e
  dsimp only at e3
  split at e3
  case h_2 => cases e3
  rename_i m n
  cases e3
  refine ⟨F, ρ, t, _, pp, _, w, en, e1, fun F1 H1 v t1 a1 s1 _ => ⟨F1, ρ1, t1, _, pp2, _, a1.wf, a1.en, e2, fun F2 H2 u t2 a2 s2 _ => ⟨_, _, sh_int s1, sh_int s2, ?_⟩⟩⟩
  exact k F2 H2 t2 (a1.trans a2)
def zRgL (A : EvRg) : EvE := fun ρ => (A ρ).bind fun (i, j, ρ1) => if rgOk i j = true then some (.lst ((rgD i j).map .val), ρ1) else none
def zRgT (A : EvRg) : EvE := fun ρ => (A ρ).bind fun (i, j, ρ1) => if rgOk i j = true then some (.val (.tuple (rgD i j)), ρ1) else none
theorem pz_rgL (hc : X.calm = true) {A : EvRg} (hg : Gl X "list") (hm : X.mg "list" = none) (ha : PRgZ (cOf X ct) X a pa A) (he : NoStar a [] X.env) : PZ (cOf X ct) X (.Call (.Name "list" p) [a] [] pos) pa (zRgL A) := by
  refine PE.imp (pe_listRg hc hg hm ha he) fun σ H Q ⟨F, ρ, t, m, ρ', w, en, e, k⟩ => ?_
  simp only [zRgL, Option.bind_eq_some_iff] at e
  obtain ⟨⟨i, j, ρ1⟩, e1, e2⟩ := e
  dsimp only at e2
  split at e2
  case isFalse => cases e2
  rename_i hok
  cases e2
  refine ⟨F, ρ, t, i, j, _, w, en, e1, fun F' H' t' af => ⟨by unfold RgOk; exact of_decide_eq_true hok, fun q hq => ?_⟩⟩
  exact q_lst (C := cOf X ct) af.wf hq (rg_dp i j) fun F'' H'' v g st ex r => k F'' H'' v g t' (af.act st ex) r
theorem pz_rgT (hc : X.calm = true) {A : EvRg} (hg : Gl X "tuple") (hm : X.mg "tuple" = none) (ha : PRgZ (cOf X ct) X a pa A) (he : NoStar a [] X.env) : PZ (cOf X ct) X (.Call (.Name "tuple" p) [a] [] pos) pa (zRgT A) := by
  refine PE.imp (pe_tupRg hc hg hm ha he) fun σ H Q ⟨F, ρ, t, m, ρ', w, en, e, k⟩ => ?_
  simp only [zRgT, Option.bind_eq_some_iff] at e
  obtain ⟨⟨i, j, ρ1⟩, e1, e2⟩ := e
  dsimp only at e2
  split at e2
  case isFalse => cases e2
  rename_i hok
  cases e2
  refine ⟨F, ρ, t, i, j, _, w, en, e1, fun F' H' t' af => ⟨by unfold RgOk; exact of_decide_eq_true hok, fun q hq => ?_⟩⟩
  exact q_tup (C := cOf X ct) af.wf hq (rg_dp i j) fun F'' H'' v g st ex r => k F'' H'' v g t' (af.act st ex) r
end
end Z

set_option Elab.async false
set_option linter.all false
set_option maxRecDepth 100000
set_option maxHeartbeats 2000000
/-! Z13: places that are written. -/
namespace Z
open PySem L2 Evl PyProof.Rows

/-! ### one step down, and something else put there -/
def repF (x : Str) (n : M) : List (Str × M) → List (Str × M)
  | [] => []
  | (y, m) :: r => if y = x then (y, n) :: r else (y, m) :: repF x n r
def dn : M → Acs → Option M
  | .lst ms, .ix (.int i) => atI ms i
  | .tup ms, .ix (.int i) => atI ms i
  | .dct t kvs, .ix d => if kok t d then dget t kvs d else none
  | .ins _ fs, .fld x => lookF x fs
  | _, _ => none
def up : M → Acs → M → Option M
  | .lst ms, .ix (.int i), n => (ixN ms.length i).map fun j => .lst (ms.set j n)
  | .tup ms, .ix (.int i), n => (ixN ms.length i).map fun j => .tup (ms.set j n)
  | .dct t kvs, .ix d, n => some (.dct t (drep t d n kvs))
  | .ins c fs, .fld x, n => some (.ins c (repF x n fs))
  | _, _, _ => none
/-- the way back to the root: last step first -/
def foc (m : M) : List Acs → Option M
  | [] => some m
  | a :: r => (foc m r).bind fun c => dn c a
def put (m : M) : List Acs → M → Option M
  | [], n => some n
  | a :: r, n => (foc m r).bind fun c => (up c a n).bind fun c' => put m r c'
/-- how the place is read -/
inductive StpV (C : Ct) (F H : Hp) : V → Acs → V → Prop
  | ix {v i u} : IxV C.K H v i u → StpV C F H v (.ix (.int i)) u
  | dK {a d k kvs u} : H a = some (.dK kvs) → fkey d = some k → valV kvs k = some u → StpV C F H (.ref a) (.ix d) u
  | dT {a d k xs kvs f b y u} : H a = some (hoT C a xs) → (a == sysModules) = false → (xs.map (·.1)).Nodup → MRepT C F H xs kvs f → nkey d = some k → k.depth ≤ 8 → atKey xs k = some (b, y) → RelV u y → (∃ ds, d = .tuple ds) → StpV C F H (.ref a) (.ix d) u
  | fld {a c Ca dx fs x u} : C.ct c = some Ca → H a = some (.ins Ca dx fs) → fs.lookup x = some u → StpV C F H (.ref a) (.fld x) u

/-- what is split: u stands for n within what stands for m0 (put: back) -/
structure Spl (C : Ct) (F H : Hp) (v : V) (bk : M → Option M) (u : V) (n : M) (f g h : Fp) : Prop where
  rep : MRep C F H u n g
  fp : f = fa g h
  back : ∀ F' H' n' g', Ex F F' → (∀ a, 0 < h a → H' a = H a) → MRep C F' H' u n' g' → ∃ m' f', bk n' = some m' ∧ MRep C F' H' v m' f' ∧ ∀ a, f' a ≤ g' a + h a

section
variable {C : Ct} {F H : Hp}
theorem repT_split {k : NestedKey} {d : PyData} (hk : nkey d = some k) : ∀ {kvs : List (PyData × M)} {xs : List (NestedKey × Addr × Value)} {f : Fp} {m : M}, MRepT C F H xs kvs f → dget true kvs d = some m →
    ∃ b y u g h, atKey xs k = some (b, y) ∧ RelV u y ∧ MRep C F H u m g ∧ f = fa g h ∧ ∀ F' H' n' g', Ex F F' → (∀ a, 0 < h a → H' a = H a) → MRep C F' H' u n' g' → MRepT C F' H' xs (drep true d n' kvs) (fa g' h)
  | [], _, _, m, r, e => by cases e
  | (d0, m0) :: kvs, _, _, m, r, e => by
    cases r with
    | @cons _ k0 b d0 u v xs m0 _ f g hk0 hd hp hr h1 h2 =>
      have ke : keq true d0 d = decide (k0 = k) := by simp [keq, hk0, hk]
      by_cases z : k0 = k
      · simp only [dget, ke, z, decide_true, if_true, Option.some.injEq] at e
        subst e
        refine ⟨b, u, v, f, g, by simp [atKey, z], hr, h1, rfl, fun F' H' n' g' ex kp rn => ?_⟩
        simp only [drep, ke, z, decide_true, if_true]
        exact .cons (z ▸ hk0) (z ▸ hd) (Dp.ex ex _ _ hp) hr rn (h2.mono ex _ _ _ kp)
      · simp only [dget, ke, z, decide_false, Bool.false_eq_true, if_false] at e
        obtain ⟨b1, y1, u1, g1, h1', q1, q2, q3, q4, q5⟩ := repT_split hk h2 e
        have ea : atKey ((k0, b, u) :: xs) k = atKey xs k := by simp [atKey, z]
        refine ⟨b1, y1, u1, g1, fa f h1', by rw [ea, q1], q2, q3, by rw [q4, ← fa_assoc, ← fa_assoc, fa_comm f g1], fun F' H' n' g' ex kp rn => ?_⟩
        simp only [drep, ke, z, decide_false, Bool.false_eq_true, if_false]
        rw [← fa_assoc, fa_comm g' f, fa_assoc]
        exact .cons hk0 hd (Dp.ex ex _ _ hp) hr (h1.mono ex _ _ _ fun a p => kp a (by rw [fa_at]; omega)) (q5 F' H' n' g' ex (fun a p => kp a (by rw [fa_at]; omega)) rn)
theorem repK_split {k : L2.Key} {d : PyData} (hk : fkey d = some k) : ∀ {kvs : List (PyData × M)} {xs : List (L2.Key × V)} {f : Fp} {m : M}, MRepK C F H xs kvs f → dget false kvs d = some m →
    ∃ u g h, valV xs k = some u ∧ MRep C F H u m g ∧ f = fa g h ∧ ∀ F' H' n' g', Ex F F' → (∀ a, 0 < h a → H' a = H a) → MRep C F' H' u n' g' → MRepK C F' H' xs (drep false d n' kvs) (fa g' h)
  | [], _, _, m, r, e => by cases e
  | (d0, m0) :: kvs, _, _, m, r, e => by
    cases r with
    | @cons _ k0 d0 v xs m0 _ f g hk0 h1 h2 =>
      have ke : keq false d0 d = decide (k0 = k) := by simp [keq, hk0, hk]
      by_cases z : k0 = k
      · simp only [dget, ke, z, decide_true, if_true, Option.some.injEq] at e
        subst e
        refine ⟨v, f, g, valV_pos z, h1, rfl, fun F' H' n' g' ex kp rn => ?_⟩
        simp only [drep, ke, z, decide_true, if_true]
        exact .cons (z ▸ hk0) rn (h2.mono ex _ _ _ kp)
      · simp only [dget, ke, z, decide_false, Bool.false_eq_true, if_false] at e
        obtain ⟨u1, g1, h1', q1, q3, q4, q5⟩ := repK_split hk h2 e
        refine ⟨u1, g1, fa f h1', by rw [valV_neg z, q1], q3, by rw [q4, ← fa_assoc, ← fa_assoc, fa_comm f g1], fun F' H' n' g' ex kp rn => ?_⟩
        simp only [drep, ke, z, decide_false, Bool.false_eq_true, if_false]
        rw [← fa_assoc, fa_comm g' f, fa_assoc]
        exact .cons hk0 (h1.mono ex _ _ _ fun a p => kp a (by rw [fa_at]; omega)) (q5 F' H' n' g' ex (fun a p => kp a (by rw [fa_at]; omega)) rn)
theorem repF_split {x : Str} : ∀ {fs : List (Str × M)} {vs : List (Str × V)} {f : Fp} {m : M}, MRepF C F H vs fs f → lookF x fs = some m →
    ∃ u g h, vs.lookup x = some u ∧ MRep C F H u m g ∧ f = fa g h ∧ ∀ F' H' n' g', Ex F F' → (∀ a, 0 < h a → H' a = H a) → MRep C F' H' u n' g' → MRepF C F' H' vs (repF x n' fs) (fa g' h)
  | [], _, _, m, r, e => by cases e
  | (y, m0) :: fs, _, _, m, r, e => by
    cases r with
    | @cons _ _ v vs _ _ f g h1 h2 =>
      by_cases z : y = x
      · simp only [lookF, z, if_true, Option.some.injEq] at e
        subst e
        refine ⟨v, f, g, by simp [List.lookup, z], h1, rfl, fun F' H' n' g' ex kp rn => ?_⟩
        simp only [repF, z, if_true]
        exact .cons rn (h2.mono ex _ _ _ kp)
      · simp only [lookF, z, if_false] at e
        obtain ⟨u1, g1, h1', q1, q3, q4, q5⟩ := repF_split h2 e
        have ne : (x == y) = false := beq_eq_false_iff_ne.mpr fun w => z w.symm
        refine ⟨u1, g1, fa f h1', by simp [List.lookup, ne, q1], q3, by rw [q4, ← fa_assoc, ← fa_assoc, fa_comm f g1], fun F' H' n' g' ex kp rn => ?_⟩
        simp only [repF, z, if_false]
        rw [← fa_assoc, fa_comm g' f, fa_assoc]
        exact .cons (h1.mono ex _ _ _ fun a p => kp a (by rw [fa_at]; omega)) (q5 F' H' n' g' ex (fun a p => kp a (by rw [fa_at]; omega)) rn)
/-- one step -/
theorem split1 {v : V} {m n : M} {f : Fp} {a : Acs} (r : MRep C F H v m f) (e : dn m a = some n) : ∃ u g h, StpV C F H v a u ∧ Spl C F H v (up m a) u n f g h := by
  cases m with
  | val d => simp [dn] at e
  | fz m => simp [dn] at e
  | lst ms =>
    cases a with
    | fld x => simp [dn] at e
    | ix d =>
      cases d <;> first | (simp [dn] at e; done) | skip
      rename_i i
      cases r with
      | @lst _ p vs _ f h1 h2 =>
        have e' : (ixN ms.length i).bind (fun j => ms[j]?) = some n := e
        simp only [Option.bind_eq_some_iff] at e'
        obtain ⟨j, e1, e2⟩ := e'
        obtain ⟨u, g, h, q1, q2, q3, q4⟩ := reps_split h2 e2
        refine ⟨u, g, fa (f1 p) h, .ix (.inl ⟨p, vs, rfl, SqL.of h1, ?_⟩), q2, by rw [q3, ← fa_assoc, ← fa_assoc, fa_comm (f1 p) g], fun F' H' n' g' ex kp rn => ?_⟩
        · unfold atI
          rw [reps_length h2, e1]
          exact q1
        · refine ⟨.lst (ms.set j n'), fa (f1 p) (fa g' h), by simp [up, e1], .lst ((kp p (by rw [fa_at, f1_self]; omega)).trans h1) (q4 F' H' n' g' ex (fun x px => kp x (by rw [fa_at]; omega)) rn), fun x => by simp only [fa_at]; omega⟩
  | tup ms =>
    cases a with
    | fld x => simp [dn] at e
    | ix d =>
      cases d <;> first | (simp [dn] at e; done) | skip
      rename_i i
      cases r with
      | @tup _ p vs _ f h1 h2 =>
        have e' : (ixN ms.length i).bind (fun j => ms[j]?) = some n := e
        simp only [Option.bind_eq_some_iff] at e'
        obtain ⟨j, e1, e2⟩ := e'
        obtain ⟨u, g, h, q1, q2, q3, q4⟩ := reps_split h2 e2
        refine ⟨u, g, fa (f1 p) h, .ix (.inr (.inl ⟨p, vs, rfl, SqT.of h1, ?_⟩)), q2, by rw [q3, ← fa_assoc, ← fa_assoc, fa_comm (f1 p) g], fun F' H' n' g' ex kp rn => ?_⟩
        · unfold atI
          rw [reps_length h2, e1]
          exact q1
        · refine ⟨.tup (ms.set j n'), fa (f1 p) (fa g' h), by simp [up, e1], .tup ((kp p (by rw [fa_at, f1_self]; omega)).trans h1) (q4 F' H' n' g' ex (fun x px => kp x (by rw [fa_at]; omega)) rn), fun x => by simp only [fa_at]; omega⟩
  | ins c fs =>
    cases a with
    | ix d => simp [dn] at e
    | fld x =>
      cases r with
      | @ins _ p _ Ca dx vs _ f hc h1 h2 =>
        obtain ⟨u, g, h, q1, q2, q3, q4⟩ := repF_split h2 (by simpa [dn] using e)
        refine ⟨u, g, fa (f1 p) h, .fld hc h1 q1, q2, by rw [q3, ← fa_assoc, ← fa_assoc, fa_comm (f1 p) g], fun F' H' n' g' ex kp rn => ?_⟩
        exact ⟨.ins c (repF x n' fs), fa (f1 p) (fa g' h), rfl, .ins hc ((kp p (by rw [fa_at, f1_self]; omega)).trans h1) (q4 F' H' n' g' ex (fun x px => kp x (by rw [fa_at]; omega)) rn), fun x => by simp only [fa_at]; omega⟩
  | dct t kvs =>
    cases a with
    | fld x => cases t <;> simp [dn] at e
    | ix d =>
      have e' : (if kok t d then dget t kvs d else none) = some n := by cases t <;> cases d <;> exact e
      split at e'
      case isFalse => cases e'
      rename_i hk
      cases t with
      | false =>
        obtain ⟨k, hk⟩ := kok_f hk
        cases r with
        | @dK _ p xs _ f h1 hn h2 =>
          obtain ⟨u, g, h, q1, q2, q3, q4⟩ := repK_split hk h2 e'
          refine ⟨u, g, fa (f1 p) h, .dK h1 hk q1, q2, by rw [q3, ← fa_assoc, ← fa_assoc, fa_comm (f1 p) g], fun F' H' n' g' ex kp rn => ?_⟩
          refine ⟨.dct false (drep false d n' kvs), fa (f1 p) (fa g' h), by cases d <;> rfl, .dK ((kp p (by rw [fa_at, f1_self]; omega)).trans h1) hn (q4 F' H' n' g' ex (fun x px => kp x (by rw [fa_at]; omega)) rn), fun x => by simp only [fa_at]; omega⟩
      | true =>
        obtain ⟨ds, k, rfl, hk, hd⟩ := kok_t hk
        cases r with
        | @dT _ p xs _ f h1 hs hn h2 =>
          obtain ⟨b, y, u, g, h, q1, qr, q2, q3, q4⟩ := repT_split hk h2 e'
          refine ⟨u, g, fa (f1 p) h, .dT h1 hs hn h2 hk hd q1 qr ⟨ds, rfl⟩, q2, by rw [q3, ← fa_assoc, ← fa_assoc, fa_comm (f1 p) g], fun F' H' n' g' ex kp rn => ?_⟩
          exact ⟨.dct true (drep true (.tuple ds) n' kvs), fa (f1 p) (fa g' h), rfl, .dT ((kp p (by rw [fa_at, f1_self]; omega)).trans h1) hs hn (q4 F' H' n' g' ex (fun x px => kp x (by rw [fa_at]; omega)) rn), fun x => by simp only [fa_at]; omega⟩
theorem Spl.refl {v : V} {m : M} {f : Fp} (r : MRep C F H v m f) : Spl C F H v some v m f f f0 := ⟨r, rfl, fun F' H' n' g' _ _ rn => ⟨n', g', rfl, rn, fun x => by rw [f0_at]; omega⟩⟩
theorem Spl.trans {v u z : V} {bk bk2 : M → Option M} {n c : M} {f g h g2 h2 : Fp} (s : Spl C F H v bk u n f g h) (s2 : Spl C F H u bk2 z c g g2 h2) : Spl C F H v (fun n' => (bk2 n').bind bk) z c f g2 (fa h2 h) := by
  refine ⟨s2.rep, by rw [s.fp, s2.fp, fa_assoc], fun F' H' n' g' ex kp rn => ?_⟩
  obtain ⟨c', gc, e1, r1, l1⟩ := s2.back F' H' n' g' ex (fun x px => kp x (by rw [fa_at]; omega)) rn
  obtain ⟨m', f', e2, r2, l2⟩ := s.back F' H' c' gc ex (fun x px => kp x (by rw [fa_at]; omega)) r1
  refine ⟨m', f', by rw [e1]; exact e2, r2, fun x => ?_⟩
  have a1 := l1 x
  have a2 := l2 x
  rw [fa_at]
  omega
theorem Spl.ex {v u : V} {bk : M → Option M} {n : M} {f g h : Fp} {F' H' : Hp} (s : Spl C F H v bk u n f g h) (ex : Ex F F') (kp : ∀ a, 0 < f a → H' a = H a) : Spl C F' H' v bk u n f g h := by
  refine ⟨s.rep.mono ex _ _ _ fun a p => kp a (by rw [s.fp, fa_at]; omega), s.fp, fun F2 H2 n' g' ex2 kp2 rn => ?_⟩
  exact s.back F2 H2 n' g' (ex.trans ex2) (fun a p => (kp2 a p).trans (kp a (by rw [s.fp, fa_at]; omega))) rn
end
end Z

set_option Elab.async false
set_option linter.all false
set_option maxRecDepth 100000
set_option maxHeartbeats 2000000
/-! Z14: places, and methods that write. -/
namespace Z
open PySem L2 Evl PyProof.Rows

abbrev EvP := Env → Option (Nat × List Acs)
def tP (C : Ct) (A : EvP) : TE := fun σ H Q => ∃ F ρ t i ac m0 n, Wf F H t ∧ EnvR C F H σ ρ t ∧ A ρ = some (i, ac) ∧ ρ[i]? = some (some m0) ∧ foc m0 ac = some n ∧
  ∀ F' H' v0 u f t' g h, Aft C true σ F H t ρ F' H' t f0 ρ → σ[i]? = some (some v0) → EnvR C F' H' σ (ρ.set i none) t' → t = fa f t' → Spl C F' H' v0 (put m0 ac) u n f g h → Q u H'
abbrev PP (C : Ct) (X : Cx) (e : Expr) (A : EvP) : Prop := PE X e (tP C A)
def pRoot (i : Nat) : EvP := fun _ => some (i, [])
def pIx (A : EvP) (B : EvO) : EvP := fun ρ => (A ρ).bind fun (i, ac) => (B ρ).bind fun (d, p, _) => if p then some (i, .ix d :: ac) else none
def pFld (A : EvP) (x : Str) : EvP := fun ρ => (A ρ).map fun (i, ac) => (i, .fld x :: ac)

section
variable {X : Cx} {ct : Str → Option Addr} {e a b c : Expr} {es : List Expr} {pos p p2 : Pos} {pa pb pc : Bool} {x : Str} {id : String}
theorem put_cons {m0 c : M} {ac : List Acs} {a : Acs} (e : foc m0 ac = some c) : put m0 (a :: ac) = fun n' => (up c a n').bind (put m0 ac) := by
  funext n'
  simp [put, e]
theorem stp_ix {F H : Hp} {v u y : V} {d : PyData} (s : Ex F H) (h : StpV (cOf X ct) F H v (.ix d) u) (hy : Dp X.K F y d) {Q : VK} (q : Q u H) : RdIx X v y H Q := by
  cases h with
  | ix h => cases hy; exact .inl (h.rd q)
  | @dK a d k kvs u h1 h2 h3 =>
    rw [fkey_dp h2 hy]
    exact .inr ⟨F, a, some u, u, s, rfl, .inl (.inl ⟨kvs, k, .inl h1, rfl, h3.symm⟩), rfl, q⟩
  | @dT a d k xs kvs f b y' u h1 h2 h3 h4 h5 h6 h7 h8 h9 =>
    obtain ⟨ds, rfl⟩ := h9
    have hb : ∃ b, y = .ref b := by cases hy with | tup _ _ => exact ⟨_, rfl⟩
    obtain ⟨b', rfl⟩ := hb
    refine .inr ⟨F, a, some u, u, s, rfl, .inr ⟨xs, k, b', _, h1, h2, h3, rfl, hy, h5, h6, fun σ pins s' I => repT_is I s h4, ?_⟩, rfl, q⟩
    rw [h7]; exact h8
theorem pp_root {i : Nat} (hN : X.N[i]? = some x) (hv : Vis X.env.scope x) (hd : (x == ("__debug__" : Str)) = false) (hcd : (x == ("__classdict__" : Str)) = false) : PP (cOf X ct) X (.Name x pos) (pRoot i) := by
  refine PE.imp (pe_var hN hv hd hcd) fun σ H Q ⟨F, ρ, t, j, ac, m0, n, w, en, e, e1, e2, k⟩ => ?_
  cases e
  cases e2
  obtain ⟨v, f, t', h1, h2, h3, h4⟩ := en.get e1
  exact ⟨v, h1, k F H v v f t' f f0 (Aft.refl w en) h1 h3 h4 (Spl.refl h2)⟩
theorem pp_ix (hu : X.A.units + 150 < cLine) {A : EvP} {B : EvO} (ha : PP (cOf X ct) X a A) (hb : PZo (cOf X ct) X b true B) (hs : PlainIx b) : PP (cOf X ct) X (.Subscript a b pos) (pIx A B) := by
  refine PE.imp (pe_ix (rd_ix hu) ha hb hs) fun σ H Q ⟨F, ρ, t, i, ac, m0, n, w, en, e, e1, e2, k⟩ => ?_
  simp only [pIx, Option.bind_eq_some_iff] at e
  obtain ⟨⟨i', ac'⟩, e3, ⟨d, p, ρ1⟩, e4, e5⟩ := e
  dsimp only at e5
  split at e5
  case isFalse => cases e5
  rename_i hp
  cases e5
  simp only [foc, Option.bind_eq_some_iff] at e2
  obtain ⟨c, e6, e7⟩ := e2
  refine ⟨F, ρ, t, i, ac', m0, c, w, en, e3, e1, e6, fun F1 H1 v0 u f t' g h a1 hσ en1 ht sp => ⟨F1, ρ, t, d, p, ρ1, a1.wf, a1.en, e4, fun F2 H2 y t2 a2 s2 p2 => ?_⟩⟩
  obtain ⟨z1, z2, z3⟩ := a2.pu rfl
  subst z2 z3
  have kp : ∀ a, 0 < t2 a → H2 a = H1 a := fun a pa => by
    obtain ⟨o, ho⟩ := a1.en.dom a pa
    rw [ho]; exact z1 a o ho
  have sp2 := sp.ex a2.st.ex fun a pa => kp a (by rw [ht, fa_at]; omega)
  obtain ⟨u2, g2, h2, q1, q2⟩ := split1 sp2.rep e7
  have a12 := a1.trans a2
  rw [fa0l] at a12
  have en2 : EnvR (cOf X ct) F2 H2 σ (ρ1.set i none) t' := en1.mono a2.st.ex fun a pa => kp a (by rw [ht, fa_at]; omega)
  refine stp_ix a2.st.wf.sub q1 (p2 hp) (k F2 H2 v0 u2 f t' g2 (fa h2 h) a12 hσ en2 ht ?_)
  rw [put_cons e6]
  exact sp2.trans q2
theorem pp_fld {A : EvP} (ha : PP (cOf X ct) X a A) (hf : FldOk X ct x) (hb : attributeBase a x X.env (eval a X.env) = eval a X.env) : PP (cOf X ct) X (.Attribute a x pos) (pFld A x) := by
  refine PE.imp (pe_fld ha hb) fun σ H Q ⟨F, ρ, t, i, ac, m0, n, w, en, e, e1, e2, k⟩ => ?_
  simp only [pFld, Option.map_eq_some_iff] at e
  obtain ⟨⟨i', ac'⟩, e3, e5⟩ := e
  cases e5
  simp only [foc, Option.bind_eq_some_iff] at e2
  obtain ⟨c, e6, e7⟩ := e2
  refine ⟨F, ρ, t, i', ac', m0, c, w, en, e3, e1, e6, fun F1 H1 v0 u f t' g h a1 hσ en1 ht sp => ?_⟩
  obtain ⟨u2, g2, h2, q1, q2⟩ := split1 sp.rep e7
  have := k F1 H1 v0 u2 f t' g2 (fa h2 h) a1 hσ en1 ht (by rw [put_cons e6]; exact sp.trans q2)
  cases q1 with
  | @fld ad cn Ca dx fs _ _ h3 h4 h5 =>
    obtain ⟨c1, c2⟩ := hf cn Ca h3
    exact ⟨ad, Ca, dx, fs, u2, rfl, h4, c1, c2, h5, this⟩

/-! ### methods -/
/-- what a method makes of its object and the arguments: the answer, the object behind -/
abbrev MOp := M → List M → Option (M × M)
def rMut (C : Ct) (op : MOp) : V → List V → Hp → VK → Prop := fun u vs H Q => ∃ F n ms g gA r n', Wf F H (fa g gA) ∧ MRep C F H u n g ∧ MReps C F H vs ms gA ∧ op n ms = some (r, n') ∧
  ∀ F' H' v gr g', Step F H (fa g gA) F' H' (fa g' gr) → MRep C F' H' u n' g' → MRep C F' H' v r gr → Q v H'
/-- the object's type -/
def tyM (T : String) : M → Bool
  | .lst _ => T == "list"
  | .dct _ _ => T == "dict"
  | _ => false
def tyMV (C : Ct) (T : String) (u : V) (H : Hp) : Prop := ∃ F n g, Ex F H ∧ MRep C F H u n g ∧ tyM T n = true
theorem ty_okM {T : String} : TyOk X T (tyMV (cOf X ct) T) := by
  intro pins σ H s u v I r ty
  obtain ⟨F, n, g, sub, rep, ht⟩ := ty
  cases n with
  | lst ms =>
    cases rep with
    | lst h1 h2 =>
      obtain rfl : T = "list" := by simpa [tyM] using ht
      exact tyV_is I r (.inl ⟨rfl, _, SqL.of h1⟩)
  | dct k kvs =>
    obtain rfl : T = "dict" := by simpa [tyM] using ht
    cases rep with
    | dK h1 _ h2 => exact tyV_is I r (.inr (.inr (.inl ⟨rfl, .inl ⟨_, h1⟩⟩)))
    | @dT _ a xs _ f h1 hs hn h2 =>
      cases r
      obtain ⟨⟨o, es, ep, e1, e2, e3, e4⟩, _⟩ := I.hok a _ h1
      refine ⟨⟨o, e1, e2.1⟩, fun b e => ?_⟩
      cases e
      exact ⟨o, e1, e2.2.1⟩
  | val _ => simp [tyM] at ht
  | tup _ => simp [tyM] at ht
  | ins _ _ => simp [tyM] at ht
  | fz _ => simp [tyM] at ht
def isHid (ρ : Env) (i : Nat) : Bool := match ρ[i]? with
  | some none => true
  | _ => false
theorem hid_eq {ρ : Env} {i : Nat} (h : isHid ρ i = true) : ρ[i]? = some none := by
  unfold isHid at h
  split at h
  · assumption
  · cases h
/-- o.m(..): the arguments leave everything as it is -/
def zMet (T : String) (op : MOp) (P : EvP) (A : EvA) : EvE := fun ρ => (P ρ).bind fun (i, ac) => (ρ[i]?).bind fun o => o.bind fun m0 => (foc m0 ac).bind fun n => if tyM T n = true then (A ρ).bind fun (ms, ρ1) => (op n ms).bind fun (r, n') => (put m0 ac n').map fun m' => (r, ρ.set i (some m')) else none
/-- o.m(..): the arguments don't look at the object's root -/
def zMetH (T : String) (op : MOp) (P : EvP) (A : EvA) : EvE := fun ρ => (P ρ).bind fun (i, ac) => (ρ[i]?).bind fun o => o.bind fun m0 => (foc m0 ac).bind fun n => if tyM T n = true then (A (ρ.set i none)).bind fun (ms, ρ1) => if isHid ρ1 i = true then (op n ms).bind fun (r, n') => (put m0 ac n').map fun m' => (r, ρ1.set i (some m')) else none else none
theorem mut_end {C : Ct} {pu : Bool} {σ : L2.St} {F H F1 H1 F2 H2 F3 H3 : Hp} {t t1 t2 f g h gA gr g' : Fp} {ρ ρ1 ρh : Env} {i : Nat} {m0 n' m' r : M} {ac : List Acs} {v0 u v : V} {n : M} {Q : VK}
    (w : Wf F H t) (st1 : Step F H t F1 H1 t) (ht : t = fa f t1) (hσ : σ[i]? = some (some v0)) (sp : Spl C F1 H1 v0 (put m0 ac) u n f g h)
    (a2 : Aft C pu σ F1 H1 t1 ρh F2 H2 t2 gA ρ1) (h0 : ρ1[i]? = some none) (hput : put m0 ac n' = some m')
    (st : Step F2 H2 (fa g gA) F3 H3 (fa g' gr)) (rn : MRep C F3 H3 u n' g') (rr : MRep C F3 H3 v r gr)
    (k : ∀ F' H' v g t', Aft C false σ F H t ρ F' H' t' g (ρ1.set i (some m')) → MRep C F' H' v r g → Q v H') : Q v H3 := by
  have wf1 : Wf F1 H1 (fa t1 f) := by rw [fa_comm, ← ht]; exact st1.wf
  have s2 : Step F1 H1 (fa t1 f) F2 H2 (fa (fa t2 gA) f) := a2.st.frame wf1
  have kp2 : ∀ a, 0 < f a → H2 a = H1 a := a2.st.kept wf1
  have hf : f = fa g h := sp.fp
  have e1 : fa (fa t2 gA) f = fa (fa g gA) (fa h t2) := by
    rw [hf]; funext a; simp only [fa_at]; omega
  have wf2 : Wf F2 H2 (fa (fa g gA) (fa h t2)) := by rw [← e1]; exact s2.wf
  have s3 : Step F2 H2 (fa (fa g gA) (fa h t2)) F3 H3 (fa (fa g' gr) (fa h t2)) := st.frame wf2
  have kp3 : ∀ a, 0 < (fa h t2) a → H3 a = H2 a := st.kept wf2
  obtain ⟨m2, f2, b1, b2, b3⟩ := sp.back F3 H3 n' g' (a2.st.ex.trans s3.ex) (fun a pa => (kp3 a (by rw [fa_at]; omega)).trans (kp2 a (by rw [hf, fa_at]; omega))) rn
  rw [hput] at b1
  cases b1
  have en3 : EnvR C F3 H3 σ ρ1 t2 := a2.en.mono s3.ex fun a pa => kp3 a (by rw [fa_at]; omega)
  have en4 := en3.put h0 hσ b2
  refine k F3 H3 v gr _ ⟨?_, en4, fun z => by cases z⟩ rr
  have s123 := (st1.trans (by rw [ht, fa_comm]; rw [e1] at s2; exact s2)).trans s3
  exact s123.le fun a => by have := b3 a; simp only [fa_at] at this ⊢; omega
end
end Z

set_option Elab.async false
set_option linter.all false
set_option maxRecDepth 100000
set_option maxHeartbeats 2000000
/-! Z15: methods of lists; stores. -/
namespace Z
open PySem L2 Evl PyProof.Rows

section
variable {C : Ct} {F H F' H' : Hp}
/-- the pure road is a hidden one -/
theorem Aft.hide {σ : L2.St} {t t1 t2 f gA : Fp} {ρ ρ1 : Env} {i : Nat} (w : Wf F H t) (a : Aft C true σ F H t ρ F' H' t2 gA ρ1) (ht : t = fa f t1) (en : EnvR C F H σ (ρ.set i none) t1) :
    Aft C true σ F H t1 (ρ.set i none) F' H' t1 gA (ρ.set i none) ∧ t2 = t ∧ ρ1 = ρ := by
  obtain ⟨z1, z2, z3⟩ := a.pu rfl
  subst z2 z3
  refine ⟨⟨⟨a.st.ex, a.st.wf.le fun x => by rw [ht]; simp only [fa_at]; omega, fun x o e _ => z1 x o e, fun x p => ?_, fun x o e => ?_⟩, ?_, fun _ => ⟨z1, rfl, rfl⟩⟩, rfl, rfl⟩
  · rw [fa_at] at p
    rcases Nat.eq_zero_or_pos (gA x) with q | q
    · exact .inl (by omega)
    · rcases a.st.nw x (by rw [fa_at]; omega) with r | r
      · have := a.st.wf.one x
        rw [fa_at] at this
        omega
      · exact .inr r
  · rcases a.st.nf x o e with q | q | q
    · exact .inl q
    · have := (a.st.wf.own x (by rw [fa_at]; omega)).1
      rw [this] at e; cases e
    · exact .inr (.inr q)
  · refine en.mono a.st.ex fun x p => ?_
    obtain ⟨o, ho⟩ := en.dom x p
    rw [ho]; exact z1 x o ho
theorem mut_wf {pu : Bool} {σ : L2.St} {F1 H1 F2 H2 : Hp} {t t1 t2 f g h gA : Fp} {ρh ρ1 : Env} {v u : V} {bk : M → Option M} {n : M} (w1 : Wf F1 H1 t) (ht : t = fa f t1) (sp : Spl C F1 H1 v bk u n f g h) (a2 : Aft C pu σ F1 H1 t1 ρh F2 H2 t2 gA ρ1) :
    Wf F2 H2 (fa g gA) ∧ MRep C F2 H2 u n g := by
  have wf1 : Wf F1 H1 (fa t1 f) := by rw [fa_comm, ← ht]; exact w1
  have s2 : Step F1 H1 (fa t1 f) F2 H2 (fa (fa t2 gA) f) := a2.st.frame wf1
  have kp2 : ∀ a, 0 < f a → H2 a = H1 a := a2.st.kept wf1
  exact ⟨s2.wf.le fun x => by rw [sp.fp]; simp only [fa_at]; omega, sp.rep.mono a2.st.ex _ _ _ fun x p => kp2 x (by rw [sp.fp, fa_at]; omega)⟩
end
theorem set_hid {ρ : Env} {i : Nat} {m0 : M} (h : ρ[i]? = some (some m0)) : (ρ.set i none)[i]? = some none := by
  have : i < ρ.length := (List.getElem?_eq_some_iff.mp h).1
  simp [this]

section
variable {X : Cx} {ct : Str → Option Addr} {e a b c o value : Expr} {es : List Expr} {pos p p2 apos cpos : Pos} {pa pb pc : Bool} {x name : Str} {id T : String}
theorem pz_met {op : MOp} {P : EvP} {A : EvA} (hm : MtR X id (rMut (cOf X ct) op)) (pl : PlainAttrs T) (slot : Slot T name id) (hty : typeOf (.builtin id) = pure (.type "method_descriptor")) (hp : PP (cOf X ct) X o P) (ha : PZa (cOf X ct) X (e :: es) true A)
    (hbase : attributeBase o name X.env (eval o X.env) = eval o X.env)
    (hfew : ((backTo cpos (starEach (e :: es) X.env)).all (fun x => !x.1) && (backToKw cpos (keywordEach [] X.env)).all (fun x => x.1.isSome) && decide ((e :: es).length + ([] : List Keyword).length + (if ([] : List Keyword).isEmpty then 0 else 1) < 30)) = true)
    (hline : (apos.endLine == cpos.line) = true) (hs : NoStar e es X.env) (hplain : (backTo cpos (starEach es X.env)).any (·.1) = false) : PZ (cOf X ct) X (.Call (.Attribute o name apos) (e :: es) [] cpos) false (zMet T op P A) := by
  refine PE.imp (pe_mG (ty_okM (ct := ct)) pl slot hty hm hp ha hbase hfew hline hs hplain) fun σ H Q ⟨F, ρ, t, m, ρ', w, en, e, k⟩ => ?_
  simp only [zMet, Option.bind_eq_some_iff] at e
  obtain ⟨⟨i, ac⟩, e1, oo, e2, m0, e3, n, e4, e5⟩ := e
  subst e3
  split at e5
  case isFalse => cases e5
  rename_i hT
  simp only [Option.bind_eq_some_iff, Option.map_eq_some_iff, Prod.mk.injEq] at e5
  obtain ⟨⟨ms, ρ1⟩, e6, ⟨r, n'⟩, e7, m', e8, rfl, rfl⟩ := e5
  refine ⟨F, ρ, t, i, ac, m0, n, w, en, e1, e2, e4, fun F1 H1 v0 u f t1 g h a1 hσ en1 ht sp => ⟨⟨F1, n, g, a1.wf.sub, sp.rep, hT⟩, F1, ρ, t, ms, ρ1, a1.wf, a1.en, e6, fun F2 H2 vs gA t2 a2 r2 => ?_⟩⟩
  obtain ⟨a3, z1, z2⟩ := a2.hide a1.wf ht en1
  obtain ⟨w3, rp3⟩ := mut_wf a1.wf ht sp a3
  refine ⟨F2, n, ms, g, gA, r, n', w3, rp3, r2, e7, fun F3 H3 v gr g' st rn rr => ?_⟩
  have s1 : Step F H t F1 H1 t := by have := a1.st; rw [fa0] at this; exact this
  refine mut_end (ρ := ρ) (ρ1 := ρ.set i none) w s1 ht hσ sp a3 (set_hid e2) e8 st rn rr ?_
  rw [List.set_set]
  exact k
theorem pz_metH {op : MOp} {P : EvP} {A : EvA} (hm : MtR X id (rMut (cOf X ct) op)) (pl : PlainAttrs T) (slot : Slot T name id) (hty : typeOf (.builtin id) = pure (.type "method_descriptor")) (hp : PP (cOf X ct) X o P) (ha : PZa (cOf X ct) X (e :: es) pa A)
    (hbase : attributeBase o name X.env (eval o X.env) = eval o X.env)
    (hfew : ((backTo cpos (starEach (e :: es) X.env)).all (fun x => !x.1) && (backToKw cpos (keywordEach [] X.env)).all (fun x => x.1.isSome) && decide ((e :: es).length + ([] : List Keyword).length + (if ([] : List Keyword).isEmpty then 0 else 1) < 30)) = true)
    (hline : (apos.endLine == cpos.line) = true) (hs : NoStar e es X.env) (hplain : (backTo cpos (starEach es X.env)).any (·.1) = false) : PZ (cOf X ct) X (.Call (.Attribute o name apos) (e :: es) [] cpos) false (zMetH T op P A) := by
  refine PE.imp (pe_mG (ty_okM (ct := ct)) pl slot hty hm hp ha hbase hfew hline hs hplain) fun σ H Q ⟨F, ρ, t, m, ρ', w, en, e, k⟩ => ?_
  simp only [zMetH, Option.bind_eq_some_iff] at e
  obtain ⟨⟨i, ac⟩, e1, oo, e2, m0, e3, n, e4, e5⟩ := e
  subst e3
  split at e5
  case isFalse => cases e5
  rename_i hT
  simp only [Option.bind_eq_some_iff] at e5
  obtain ⟨⟨ms, ρ1⟩, e6, e5⟩ := e5
  dsimp only at e5
  split at e5
  case isFalse => cases e5
  rename_i hh
  simp only [Option.bind_eq_some_iff, Option.map_eq_some_iff, Prod.mk.injEq] at e5
  obtain ⟨⟨r, n'⟩, e7, m', e8, rfl, rfl⟩ := e5
  refine ⟨F, ρ, t, i, ac, m0, n, w, en, e1, e2, e4, fun F1 H1 v0 u f t1 g h a1 hσ en1 ht sp => ⟨⟨F1, n, g, a1.wf.sub, sp.rep, hT⟩, F1, ρ.set i none, t1, ms, ρ1, a1.wf.le fun x => by rw [ht, fa_at]; omega, en1, e6, fun F2 H2 vs gA t2 a2 r2 => ?_⟩⟩
  obtain ⟨w3, rp3⟩ := mut_wf a1.wf ht sp a2
  refine ⟨F2, n, ms, g, gA, r, n', w3, rp3, r2, e7, fun F3 H3 v gr g' st rn rr => ?_⟩
  have s1 : Step F H t F1 H1 t := by have := a1.st; rw [fa0] at this; exact this
  exact mut_end w s1 ht hσ sp a2 (hid_eq hh) e8 st rn rr k
def zMet0 (T : String) (op : MOp) (P : EvP) : EvE := zMet T op P zNil
theorem pz_met0 {op : MOp} {P : EvP} (hm : MtR X id (rMut (cOf X ct) op)) (pl : PlainAttrs T) (slot : Slot T name id) (hty : typeOf (.builtin id) = pure (.type "method_descriptor")) (hp : PP (cOf X ct) X o P)
    (hbase : attributeBase o name X.env (eval o X.env) = eval o X.env) (hline : (apos.endLine == cpos.line) = true) : PZ (cOf X ct) X (.Call (.Attribute o name apos) [] [] cpos) false (zMet0 T op P) := by
  refine PE.imp (pe_mG0 (ty_okM (ct := ct)) pl slot hty hm hp hbase hline) fun σ H Q ⟨F, ρ, t, m, ρ', w, en, e, k⟩ => ?_
  simp only [zMet0, zMet, Option.bind_eq_some_iff] at e
  obtain ⟨⟨i, ac⟩, e1, oo, e2, m0, e3, n, e4, e5⟩ := e
  subst e3
  split at e5
  case isFalse => cases e5
  rename_i hT
  simp only [Option.bind_eq_some_iff, Option.map_eq_some_iff, Prod.mk.injEq] at e5
  obtain ⟨⟨ms, ρ1⟩, e6, ⟨r, n'⟩, e7, m', e8, rfl, rfl⟩ := e5
  cases e6
  refine ⟨F, ρ, t, i, ac, m0, n, w, en, e1, e2, e4, fun F1 H1 v0 u f t1 g h a1 hσ en1 ht sp => ⟨⟨F1, n, g, a1.wf.sub, sp.rep, hT⟩, ?_⟩⟩
  have a2 : Aft (cOf X ct) true σ F1 H1 t ρ F1 H1 t f0 ρ := Aft.refl a1.wf a1.en
  obtain ⟨a3, z1, z2⟩ := a2.hide a1.wf ht en1
  obtain ⟨w3, rp3⟩ := mut_wf a1.wf ht sp a3
  refine ⟨F1, n, [], g, f0, r, n', w3, rp3, .nil, e7, fun F3 H3 v gr g' st rn rr => ?_⟩
  have s1 : Step F H t F1 H1 t := by have := a1.st; rw [fa0] at this; exact this
  refine mut_end (ρ := ρ) (ρ1 := ρ.set i none) w s1 ht hσ sp a3 (set_hid e2) e8 st rn rr ?_
  rw [List.set_set]
  exact k

/-! ### lists -/
def opAppend : MOp
  | .lst ms, [m] => if ms.length < sizeLine then some (.val .none, .lst (ms ++ [m])) else none
  | _, _ => none
def opExtend : MOp
  | .lst ms, [.lst ns] => if ms.length + ns.length ≤ sizeLine then some (.val .none, .lst (ms ++ ns)) else none
  | _, _ => none
def opPop : MOp
  | .lst ms, [] => (ms[ms.length - 1]?).map fun m => (m, .lst ms.dropLast)
  | .lst ms, [.val (.int i)] => (ixN ms.length i).bind fun j => (ms[j]?).map fun m => (m, .lst (ms.eraseIdx j))
  | _, _ => none
theorem wr_step {F H : Hp} {p : Addr} {g gA : Fp} {o : HO} (w : Wf F H (fa (fa (f1 p) g) gA)) : Step F H (fa (fa (f1 p) g) gA) F (upd H p o) (fa (fa (f1 p) g) gA) ∧ (∀ a, 0 < (fa g gA) a → upd H p o a = H a) := by
  refine ⟨Step.write w (by rw [fa_at, fa_at, f1_self]; omega), fun a pa => upd_ne fun e => ?_⟩
  subst e
  have := w.one a
  rw [fa_at, fa_at, f1_self] at this
  rw [fa_at] at pa
  omega
theorem mt_appendZ : MtR X "list.append" (rMut (cOf X ct) opAppend) := by
  intro pins s σ H x vs v us Q I rx rv h
  obtain ⟨F, n, ms, g, gA, r, n', w, rep, reps, e, q⟩ := h
  unfold opAppend at e
  split at e
  case h_2 => cases e
  rename_i xs m
  split at e
  case isFalse => cases e
  rename_i hz
  cases e
  cases rep with
  | @lst _ p ws _ f h1 h2 =>
    cases reps with
    | @cons _ y ys _ _ g1 g2 h3 h4 =>
      cases h4
      rw [fa0] at w
      rw [fa0] at q
      obtain ⟨st, kp⟩ := wr_step (o := .lst (ws ++ [y])) w
      refine mt_append pins s σ H _ _ v us Q I rx rv ⟨p, ws, y, rfl, rfl, h1, by rw [reps_length h2]; exact hz, ?_⟩
      have r1 := reps_append (h2.mono (Ex.refl _) _ _ _ fun a pa => kp a (by rw [fa_at]; omega)) (MReps.cons (h3.mono (Ex.refl _) _ _ _ fun a pa => kp a (by rw [fa_at]; omega)) .nil)
      rw [fa0] at r1
      refine q F _ .non f0 (fa (f1 p) (fa f g1)) ?_ (.lst upd_same r1) (.val .non)
      rw [fa0, ← fa_assoc]
      exact st
theorem mt_extendZ : MtR X "list.extend" (rMut (cOf X ct) opExtend) := by
  intro pins s σ H x vs v us Q I rx rv h
  obtain ⟨F, n, ms, g, gA, r, n', w, rep, reps, e, q⟩ := h
  unfold opExtend at e
  split at e
  case h_2 => cases e
  rename_i xs ys
  split at e
  case isFalse => cases e
  rename_i hz
  cases e
  cases rep with
  | @lst _ p ws _ f h1 h2 =>
    cases reps with
    | @cons _ y _ _ _ g1 g2 h3 h4 =>
      cases h4
      cases h3 with
      | @lst _ p2 ws2 _ f2 h5 h6 =>
        rw [fa0] at w
        rw [fa0] at q
        obtain ⟨st, kp⟩ := wr_step (o := .lst (ws ++ ws2)) w
        refine mt_extend pins s σ H _ _ v us Q I rx rv ⟨p, p2, ws, ws2, rfl, rfl, h1, h5, by rw [reps_length h2, reps_length h6]; exact hz, ?_⟩
        have r1 := reps_append (h2.mono (Ex.refl _) _ _ _ fun a pa => kp a (by simp only [fa_at]; omega)) (h6.mono (Ex.refl _) _ _ _ fun a pa => kp a (by simp only [fa_at]; omega))
        refine q F _ .non f0 (fa (f1 p) (fa f f2)) ?_ (.lst upd_same r1) (.val .non)
        rw [fa0]
        exact st.le fun a => by simp only [fa_at]; omega
theorem reps_back : ∀ {ms : List M} {vs : List V} {f : Fp} {C : Ct} {F H : Hp}, MReps C F H vs ms f → ∀ {m : M}, ms[ms.length - 1]? = some m → ∃ u g h, vs[vs.length - 1]? = some u ∧ MRep C F H u m g ∧ MReps C F H vs.dropLast ms.dropLast h ∧ ∀ a, g a + h a ≤ f a
  | [], _, _, _, _, _, h, m, e => by simp at e
  | [x], _, _, _, _, _, h, m, e => by
    cases h with
    | @cons _ v vs _ _ f g h1 h2 =>
      cases h2
      have : x = m := by simpa using e
      subst this
      exact ⟨v, f, f0, rfl, h1, .nil, fun a => by simp only [fa_at]; omega⟩
  | x :: y :: ms, _, _, _, _, _, h, m, e => by
    cases h with
    | @cons _ v vs _ _ f g h1 h2 =>
      obtain ⟨u, g1, h', q1, q2, q3, q4⟩ := reps_back h2 (m := m) (by simpa using e)
      have hl := reps_length h2
      cases vs with
      | nil => simp at hl
      | cons v2 vs =>
        refine ⟨u, g1, fa f h', by simpa using q1, q2, by simpa using MReps.cons h1 q3, fun a => ?_⟩
        have := q4 a
        simp only [fa_at]
        omega
theorem reps_out : ∀ {ms : List M} {vs : List V} {f : Fp} {C : Ct} {F H : Hp}, MReps C F H vs ms f → ∀ {j : Nat} {m : M}, ms[j]? = some m → ∃ u g h, vs[j]? = some u ∧ MRep C F H u m g ∧ MReps C F H (vs.eraseIdx j) (ms.eraseIdx j) h ∧ ∀ a, g a + h a ≤ f a
  | [], _, _, _, _, _, h, j, m, e => by simp at e
  | x :: ms, _, _, _, _, _, h, j, m, e => by
    cases h with
    | @cons _ v vs _ _ f g h1 h2 =>
      cases j with
      | zero =>
        have : x = m := by simpa using e
        subst this
        exact ⟨v, f, g, rfl, h1, h2, fun a => by simp only [fa_at]; omega⟩
      | succ j =>
        obtain ⟨u, g1, h', q1, q2, q3, q4⟩ := reps_out h2 (j := j) (m := m) (by simpa using e)
        refine ⟨u, g1, fa f h', by simpa using q1, q2, by simpa using MReps.cons h1 q3, fun a => ?_⟩
        have := q4 a
        simp only [fa_at]
        omega
theorem mt_popZ : MtR X "list.pop" (rMut (cOf X ct) opPop) := by
  intro pins s σ H x vs v us Q I rx rv h
  obtain ⟨F, n, ms, g, gA, r, n', w, rep, reps, e, q⟩ := h
  unfold opPop at e
  split at e
  case h_3 => cases e
  · rename_i xs
    simp only [Option.map_eq_some_iff, Prod.mk.injEq] at e
    obtain ⟨m, e1, rfl, rfl⟩ := e
    cases rep with
    | @lst _ p ws _ f h1 h2 =>
      cases reps
      rw [fa0] at w q
      obtain ⟨u, g1, h', q1, q2, q3, q4⟩ := reps_back h2 e1
      have st := Step.write (o := .lst ws.dropLast) w (by rw [fa_at, f1_self]; omega)
      have kp : ∀ a, 0 < f a → upd H p (.lst ws.dropLast) a = H a := fun a pa => upd_ne fun e => by
        subst e
        have := w.one a
        rw [fa_at, f1_self] at this
        omega
      refine mt_pop pins s σ H _ _ v us Q I rx rv ⟨p, ws, u, rfl, rfl, h1, q1, ?_⟩
      exact q F _ u g1 (fa (f1 p) h') (st.le fun a => by have := q4 a; simp only [fa_at]; omega) (.lst upd_same (q3.mono (Ex.refl _) _ _ _ fun a pa => kp a (by have := q4 a; omega))) (q2.mono (Ex.refl _) _ _ _ fun a pa => kp a (by have := q4 a; omega))
  · rename_i xs i
    simp only [Option.bind_eq_some_iff, Option.map_eq_some_iff, Prod.mk.injEq] at e
    obtain ⟨j, e0, m, e1, rfl, rfl⟩ := e
    cases rep with
    | @lst _ p ws _ f h1 h2 =>
      cases reps with
      | cons h3 h4 =>
        cases h4
        cases h3 with
        | val h3 =>
          cases h3
          rw [fa0, fa0] at w q
          obtain ⟨u, g1, h', q1, q2, q3, q4⟩ := reps_out h2 e1
          have st := Step.write (o := .lst (ws.eraseIdx j)) w (by rw [fa_at, f1_self]; omega)
          have kp : ∀ a, 0 < f a → upd H p (.lst (ws.eraseIdx j)) a = H a := fun a pa => upd_ne fun e => by
            subst e
            have := w.one a
            rw [fa_at, f1_self] at this
            omega
          obtain ⟨i1, i2, i3, i4⟩ := ixN_seq e0
          obtain ⟨its, nn, rr, ho, hz⟩ := I.lst h1
          have hl := reps_length h2
          have hn := line63
          refine mt_popAt pins s σ H _ _ v us Q I rx rv ⟨p, ws, i, j, u, rfl, rfl, h1, by omega, by omega, by rw [hl]; exact i1, q1, ?_⟩
          exact q F _ u g1 (fa (f1 p) h') (st.le fun a => by have := q4 a; simp only [fa_at]; omega) (.lst upd_same (q3.mono (Ex.refl _) _ _ _ fun a pa => kp a (by have := q4 a; omega))) (q2.mono (Ex.refl _) _ _ _ fun a pa => kp a (by have := q4 a; omega))
end
end Z

set_option Elab.async false
set_option linter.all false
set_option maxRecDepth 100000
set_option maxHeartbeats 2000000
/-! Z16: targets. -/
namespace Z
open PySem L2 Evl PyProof.Rows

/-- the slots that stay as they are -/
def Lk (lk : Nat → Bool) (σ σ' : L2.St) : Prop := ∀ i, lk i = true → σ'[i]? = σ[i]?
theorem Lk.refl {lk : Nat → Bool} {σ : L2.St} : Lk lk σ σ := fun _ _ => rfl
theorem Lk.trans {lk : Nat → Bool} {σ σ' σ'' : L2.St} (a : Lk lk σ σ') (b : Lk lk σ' σ'') : Lk lk σ σ'' := fun i h => (b i h).trans (a i h)
theorem Lk.set {lk : Nat → Bool} {σ : L2.St} {i : Nat} {v : Option V} (h : lk i = false) : Lk lk σ (σ.set i v) := fun j hj => by
  have : i ≠ j := fun e => by subst e; rw [h] at hj; cases hj
  rw [List.getElem?_set_ne this]
abbrev EvT := M → Env → Option Env
abbrev EvTs := List M → Env → Option Env
def tT (C : Ct) (lk : Nat → Bool) (A : EvT) : TG := fun v σ H Q => ∃ F ρ t m g ρ', Wf F H (fa t g) ∧ EnvR C F H σ ρ t ∧ MRep C F H v m g ∧ A m ρ = some ρ' ∧ ∀ F' H' σ' t', Step F H (fa t g) F' H' t' → EnvR C F' H' σ' ρ' t' → Lk lk σ σ' → Q σ' H'
def tTs (C : Ct) (lk : Nat → Bool) (A : EvTs) : TGs := fun vs σ H Q => ∃ F ρ t ms g ρ', Wf F H (fa t g) ∧ EnvR C F H σ ρ t ∧ MReps C F H vs ms g ∧ A ms ρ = some ρ' ∧ ∀ F' H' σ' t', Step F H (fa t g) F' H' t' → EnvR C F' H' σ' ρ' t' → Lk lk σ σ' → Q σ' H'
abbrev PGZ (C : Ct) (X : Cx) (lk : Nat → Bool) (e : Expr) (A : EvT) : Prop := PG X e (tT C lk A)
abbrev PGsZ (C : Ct) (X : Cx) (lk : Nat → Bool) (e : List Expr) (A : EvTs) : Prop := PGs X e (tTs C lk A)
theorem PG.imp {X : Cx} {e : Expr} {t t' : TG} (h : PG X e t) (k : ∀ v σ H Q, t' v σ H Q → t v σ H Q) : PG X e t' := ⟨fun pins s σ H v u Q I r q => h.run pins s σ H v u Q I r (k v σ H Q q)⟩
theorem PGs.imp {X : Cx} {e : List Expr} {t t' : TGs} (h : PGs X e t) (k : ∀ v σ H Q, t' v σ H Q → t v σ H Q) : PGs X e t' := ⟨fun pins s σ H v u Q I r q => h.run pins s σ H v u Q I r (k v σ H Q q)⟩
def wName (lk : Nat → Bool) (i : Nat) : EvT := fun m ρ => if lk i = true then none else if i < ρ.length then some (ρ.set i (some m)) else none
def wsNil : EvTs := fun ms ρ => match ms with
  | [] => some ρ
  | _ => none
def wsCons (A : EvT) (B : EvTs) : EvTs := fun ms ρ => match ms with
  | m :: r => (A m ρ).bind fun ρ1 => B r ρ1
  | _ => none
def wTup (n : Nat) (A : EvTs) : EvT := fun m ρ => match m with
  | .val (.tuple ds) => if ds.length = n then A (ds.map .val) ρ else none
  | .tup ms => if ms.length = n then A ms ρ else none
  | _ => none
/-- what an item assignment makes -/
def stoM : M → PyData → M → Option M
  | .lst ms, .int i, m => (ixN ms.length i).map fun j => .lst (ms.set j m)
  | .dct t kvs, d, m => if kok t d = true ∧ kvs.length < sizeLine then some (.dct t (dput t kvs d m)) else none
  | _, _, _ => none
def wSub (P : EvP) (K : EvO) : EvT := fun m ρ => (P ρ).bind fun (i, ac) => (ρ[i]?).bind fun o => o.bind fun m0 => (foc m0 ac).bind fun n => (K ρ).bind fun (d, p, ρ1) => if p then (stoM n d m).bind fun n' => (put m0 ac n').map fun m' => ρ.set i (some m') else none
def wSubH (P : EvP) (K : EvO) : EvT := fun m ρ => (P ρ).bind fun (i, ac) => (ρ[i]?).bind fun o => o.bind fun m0 => (foc m0 ac).bind fun n => (K (ρ.set i none)).bind fun (d, p, ρ1) => if (p && isHid ρ1 i) then (stoM n d m).bind fun n' => (put m0 ac n').map fun m' => ρ1.set i (some m') else none

section
variable {C : Ct} {F H : Hp}
theorem reps_set : ∀ {ms : List M} {vs : List V} {f g : Fp} {j : Nat} {v : V} {m : M}, MReps C F H vs ms f → MRep C F H v m g → ∃ f', MReps C F H (vs.set j v) (ms.set j m) f' ∧ ∀ a, f' a ≤ f a + g a
  | [], _, _, g, j, v, m, h, r => by cases h; exact ⟨f0, .nil, fun a => by rw [f0_at]; omega⟩
  | x :: ms, _, _, g, j, v, m, h, r => by
    cases h with
    | @cons _ w ws _ _ f f2 h1 h2 =>
      cases j with
      | zero => exact ⟨fa g f2, .cons r h2, fun a => by simp only [fa_at]; omega⟩
      | succ j =>
        obtain ⟨f', q1, q2⟩ := reps_set (j := j) h2 r
        exact ⟨fa f f', .cons h1 q1, fun a => by have := q2 a; simp only [fa_at]; omega⟩
end

section
variable {X : Cx} {ct : Str → Option Addr} {e a b c o i value : Expr} {es : List Expr} {pos p p2 apos cpos : Pos} {pa pb pc : Bool} {x name : Str} {id T : String} {lk : Nat → Bool}
theorem pg_nameZ {j : Nat} (hN : X.N.Nodup) (hi : X.N[j]? = some x) (hx : Loc X.env.scope x) (hf : X.fn x = true ∨ X.env.scope.names.lookup x = some .local) : PGZ (cOf X ct) X lk (.Name x pos) (wName lk j) := by
  refine PG.imp (pg_name hN hi hx hf) fun v σ H Q ⟨F, ρ, t, m, g, ρ', w, en, r, e, k⟩ => ?_
  simp only [wName] at e
  split at e
  · cases e
  · rename_i hl
    split at e
    case isFalse => cases e
    rename_i hlt
    cases e
    obtain ⟨t', h1, h2⟩ := en.set hlt r
    refine k F H _ (fa g t') ?_ h1 (Lk.set (by simpa using hl))
    exact (Step.refl w).le fun a => by have := h2 a; simp only [fa_at]; omega
theorem pgs_nilZ : PGsZ (cOf X ct) X lk [] wsNil := by
  refine PGs.imp pgs_nil fun v σ H Q ⟨F, ρ, t, ms, g, ρ', w, en, r, e, k⟩ => ?_
  unfold wsNil at e
  split at e
  case h_2 => cases e
  cases e
  cases r
  exact ⟨rfl, k F H σ t (by have := Step.refl w; rw [fa0] at this ⊢; exact this) en Lk.refl⟩
theorem pgs_consZ {A : EvT} {B : EvTs} (ha : PGZ (cOf X ct) X lk e A) (hb : PGsZ (cOf X ct) X lk es B) (hs : (assignEach (e :: es) X.env).map (·.2) = assign e X.env :: (assignEach es X.env).map (·.2)) : PGsZ (cOf X ct) X lk (e :: es) (wsCons A B) := by
  refine PGs.imp (pgs_cons ha hb hs) fun v σ H Q ⟨F, ρ, t, ms, g, ρ', w, en, r, e, k⟩ => ?_
  unfold wsCons at e
  split at e
  case h_2 => cases e
  rename_i m ms'
  simp only [Option.bind_eq_some_iff] at e
  obtain ⟨ρ1, e1, e2⟩ := e
  cases r with
  | @cons _ v vs _ _ g1 g2 r1 r2 =>
    have e0 : fa t (fa g1 g2) = fa (fa t g1) g2 := by rw [fa_assoc]
    rw [e0] at w k
    refine ⟨v, vs, rfl, F, ρ, t, m, g1, ρ1, w.le fun a => by simp only [fa_at]; omega, en, r1, e1, fun F1 H1 σ1 t1 st en1 l1 => ?_⟩
    have fr := st.frame w
    refine ⟨F1, ρ1, t1, ms', g2, ρ', fr.wf, en1, r2.mono st.ex _ _ _ (st.kept w), e2, fun F2 H2 σ2 t2 st2 en2 l2 => ?_⟩
    exact k F2 H2 σ2 t2 (fr.trans st2) en2 (l1.trans l2)
theorem pg_tupZ {A : EvTs} {n k : Nat} (hc : X.calm = true) (h : PGsZ (cOf X ct) X lk es A) (hn : (assignEach es X.env).length = n) (hst : (assignEach es X.env).findIdx? (·.1) = none) : PGZ (cOf X ct) X lk (.Tuple es k pos) (wTup n A) := by
  refine PG.imp (pg_tup hc h hn hst) fun v σ H Q ⟨F, ρ, t, m, g, ρ', w, en, r, e, k⟩ => ?_
  cases m with
  | val d =>
    cases d <;> first | (cases e; done) | skip
    rename_i ds
    simp only [wTup] at e
    split at e
    case isFalse => cases e
    rename_i hl
    cases r with
    | val r =>
      cases r with
      | @tup a vs _ h1 h2 =>
        exact ⟨a, vs, rfl, ex_t w.sub h1, by rw [dp_length h2]; exact hl, F, ρ, t, ds.map .val, f0, ρ', w, en, vals_reps h2, e, k⟩
  | tup ms =>
    simp only [wTup] at e
    split at e
    case isFalse => cases e
    rename_i hl
    cases r with
    | @tup _ a vs _ f h1 h2 =>
      refine ⟨a, vs, rfl, SqT.of h1, by rw [reps_length h2]; exact hl, F, ρ, t, ms, f, ρ', w.le fun x => by simp only [fa_at]; omega, en, h2, e, fun F' H' σ' t' st en' l => ?_⟩
      refine k F' H' σ' t' ?_ en' l
      have e0 : fa t (fa (f1 a) f) = fa (fa t f) (f1 a) := by funext x; simp only [fa_at]; omega
      rw [e0] at w ⊢
      exact (st.frame w).le fun x => by simp only [fa_at]; omega
  | lst _ => cases e
  | dct _ _ => cases e
  | ins _ _ => cases e
  | fz _ => cases e

/-! ### o[i] = v -/
def rSto (C : Ct) : TSet := fun o i v H Q => ∃ F n g gv d m n', Wf F H (fa g gv) ∧ MRep C F H o n g ∧ Dp C.K F i d ∧ MRep C F H v m gv ∧ stoM n d m = some n' ∧ ∀ F' H' g', Step F H (fa g gv) F' H' g' → MRep C F' H' o n' g' → Q H'
theorem set_sto (hu : X.A.units + 150 < cLine) : PSet X (rSto (cOf X ct)) := by
  intro pins s σ H o i v ov iv u Q I ro ri rv h
  obtain ⟨F, n, g, gv, d, m, n', w, rep, hd, rm, e, q⟩ := h
  cases n with
  | lst ms =>
    cases d <;> first | (simp [stoM] at e; done) | skip
    rename_i k
    simp only [stoM, Option.map_eq_some_iff] at e
    obtain ⟨j, e1, rfl⟩ := e
    cases hd
    cases rep with
    | @lst _ p ws _ f h1 h2 =>
      obtain ⟨st, kp⟩ := wr_step (o := .lst (ws.set j v)) w
      refine set_list pins s σ H _ _ v ov iv u Q I ro ri rv ⟨p, ws, k, j, rfl, rfl, h1, by rw [reps_length h2]; exact e1, ?_⟩
      obtain ⟨f', q1, q2⟩ := reps_set (j := j) (h2.mono (Ex.refl _) _ _ _ fun a pa => kp a (by rw [fa_at]; omega)) (rm.mono (Ex.refl _) _ _ _ fun a pa => kp a (by rw [fa_at]; omega))
      exact q F _ (fa (f1 p) f') (st.le fun a => by have := q2 a; simp only [fa_at]; omega) (.lst upd_same q1)
  | dct t kvs =>
    simp only [stoM] at e
    split at e
    case isFalse => cases e
    rename_i hk
    obtain ⟨hk, hz⟩ := hk
    cases e
    cases t with
    | false =>
      obtain ⟨k, hk⟩ := kok_f hk
      have hy := fkey_dp hk hd
      subst hy
      cases rep with
      | @dK _ p xs _ f h1 hn h2 =>
        cases ro
        obtain ⟨st, kp⟩ := wr_step (o := .dK (putK xs k v)) w
        refine d_setItem (by omega) I (DPut.k h1 (by rw [repK_len h2]; exact hz)) ri rv fun s' I' => ⟨_, I', ?_⟩
        obtain ⟨⟨f', q1, q2⟩, q3⟩ := repK_put (Ex.refl F) hk (rm.mono (Ex.refl _) _ _ _ fun a pa => kp a (by rw [fa_at]; omega)) hn h2 fun a pa => kp a (by rw [fa_at]; omega)
        exact q F _ (fa (f1 p) f') (st.le fun a => by have := q2 a; simp only [fa_at]; omega) (.dK upd_same q3 q1)
    | true =>
      obtain ⟨ds, k, rfl, hk, hdp⟩ := kok_t hk
      have hb : ∃ b, i = .ref b := by cases hd with | tup _ _ => exact ⟨_, rfl⟩
      obtain ⟨b, rfl⟩ := hb
      cases rep with
      | @dT _ p xs _ f h1 hs hn h2 =>
        cases ro
        cases ri
        have key : (nestedKind X.prog X.w).is s.heap k b := ⟨dp_nested I _ _ _ k (Dp.ex w.sub _ _ hd) rfl hk, hdp⟩
        have room : (nestedKind X.prog X.w).room X.A.in1 := by
          show X.A.in1.units + 8 < cLine
          show X.A.units + 1 + 8 < cLine
          omega
        have dd := dictT_of I w.sub h1 hn h2
        refine wpAny_setItem_heap room key dd (fun h' dd' sb => ?_) (by rw [repT_len h2]; omega)
        obtain ⟨st, kp⟩ := wr_step (o := hoT (cOf X ct) p (storedH xs k b u)) w
        obtain ⟨o', es', ep', z1, z2, z3, z4, z5, z6⟩ := dd'
        have I' : Inv X pins σ (upd H p (hoT (cOf X ct) p (storedH xs k b u))) { s with heap := h', toks := s.toks + (nestedKind X.prog X.w).draws k } := by
          refine d_write I (by rw [h1]; exact trivial) sb ⟨o', z1⟩ ⟨⟨o', es', ep', z1, z2, z3, z4⟩, ⟨o', z1⟩, fun h1 h2 hr hk => ?_⟩
          obtain ⟨o2, es2, ep2, y1, y2, y3, y4⟩ := hr
          exact ⟨o2, es2, ep2, hk o2 y1, y2, y3, y4⟩
        refine ⟨_, I', ?_⟩
        obtain ⟨f', q1, q2⟩ := repT_put (Ex.refl F) hk hdp hd rv (rm.mono (Ex.refl _) _ _ _ fun a pa => kp a (by rw [fa_at]; omega)) hn h2 fun a pa => kp a (by rw [fa_at]; omega)
        exact q F _ (fa (f1 p) f') (st.le fun a => by have := q2 a; simp only [fa_at]; omega) (.dT upd_same hs z6 q1)
  | val _ => simp [stoM] at e
  | tup _ => simp [stoM] at e
  | ins _ _ => simp [stoM] at e
  | fz _ => simp [stoM] at e
end
end Z

set_option Elab.async false
set_option linter.all false
set_option maxRecDepth 100000
set_option maxHeartbeats 2000000
/-! Z17: targets with items; statements. -/
namespace Z
open PySem L2 Evl PyProof.Rows

section
variable {X : Cx} {ct : Str → Option Addr} {e a b c o i value : Expr} {es : List Expr} {pos p p2 apos cpos pos' : Pos} {pa pb pc : Bool} {x name : Str} {id T : String} {lk : Nat → Bool}
theorem sto_end {C : Ct} {pu : Bool} {σ : L2.St} {F H F1 H1 F2 H2 F3 H3 : Hp} {t t1 t2 f g h gm g' : Fp} {ρ1 ρh : Env} {j : Nat} {m0 n' m' : M} {ac : List Acs} {v0 u : V} {n : M} {Q : L2.St → Hp → Prop}
    (w : Wf F H (fa t gm)) (st1 : Step F H t F1 H1 t) (ht : t = fa f t1) (hσ : σ[j]? = some (some v0)) (sp : Spl C F1 H1 v0 (put m0 ac) u n f g h)
    (a2 : Aft C pu σ F1 H1 t1 ρh F2 H2 t2 f0 ρ1) (h0 : ρ1[j]? = some none) (hput : put m0 ac n' = some m')
    (st : Step F2 H2 (fa g gm) F3 H3 g') (rn : MRep C F3 H3 u n' g')
    (k : ∀ F' H' σ' t', Step F H (fa t gm) F' H' t' → EnvR C F' H' σ' (ρ1.set j (some m')) t' → Lk lk σ σ' → Q σ' H') : Q σ H3 := by
  have s1 : Step F H (fa t gm) F1 H1 (fa t gm) := st1.frame w
  have wf1 : Wf F1 H1 (fa t1 (fa f gm)) := by
    have e0 : fa t1 (fa f gm) = fa t gm := by rw [ht]; funext x; simp only [fa_at]; omega
    rw [e0]; exact s1.wf
  have sa : Step F1 H1 t1 F2 H2 t2 := by have := a2.st; rw [fa0] at this; exact this
  have s2 : Step F1 H1 (fa t1 (fa f gm)) F2 H2 (fa t2 (fa f gm)) := sa.frame wf1
  have kp2 : ∀ a, 0 < (fa f gm) a → H2 a = H1 a := sa.kept wf1
  have hf : f = fa g h := sp.fp
  have e1 : fa t2 (fa f gm) = fa (fa g gm) (fa h t2) := by
    rw [hf]; funext a; simp only [fa_at]; omega
  have wf2 : Wf F2 H2 (fa (fa g gm) (fa h t2)) := by rw [← e1]; exact s2.wf
  have s3 : Step F2 H2 (fa (fa g gm) (fa h t2)) F3 H3 (fa g' (fa h t2)) := st.frame wf2
  have kp3 : ∀ a, 0 < (fa h t2) a → H3 a = H2 a := st.kept wf2
  obtain ⟨m2, f2, b1, b2, b3⟩ := sp.back F3 H3 n' g' (sa.ex.trans s3.ex) (fun a pa => (kp3 a (by rw [fa_at]; omega)).trans (kp2 a (by rw [fa_at, hf, fa_at]; omega))) rn
  rw [hput] at b1
  cases b1
  have en3 : EnvR C F3 H3 σ ρ1 t2 := a2.en.mono s3.ex fun a pa => kp3 a (by rw [fa_at]; omega)
  have en4 := en3.put h0 hσ b2
  refine k F3 H3 σ _ ?_ en4 Lk.refl
  have e2 : fa t gm = fa t1 (fa f gm) := by rw [ht]; funext x; simp only [fa_at]; omega
  rw [e1] at s2
  have s123 := (s1.trans (by rw [e2]; exact s2)).trans s3
  exact s123.le fun a => by have := b3 a; simp only [fa_at] at this ⊢; omega
theorem sto_wf {C : Ct} {pu : Bool} {σ : L2.St} {F H F1 H1 F2 H2 : Hp} {t t1 t2 f g h gm : Fp} {ρh ρ1 : Env} {v u v2 : V} {bk : M → Option M} {n m : M} (w : Wf F H (fa t gm)) (st1 : Step F H t F1 H1 t) (ht : t = fa f t1) (sp : Spl C F1 H1 v bk u n f g h) (a2 : Aft C pu σ F1 H1 t1 ρh F2 H2 t2 f0 ρ1) (r : MRep C F H v2 m gm) :
    Wf F2 H2 (fa g gm) ∧ MRep C F2 H2 u n g ∧ MRep C F2 H2 v2 m gm := by
  have s1 : Step F H (fa t gm) F1 H1 (fa t gm) := st1.frame w
  have wf1 : Wf F1 H1 (fa t1 (fa f gm)) := by
    have e0 : fa t1 (fa f gm) = fa t gm := by rw [ht]; funext x; simp only [fa_at]; omega
    rw [e0]; exact s1.wf
  have sa : Step F1 H1 t1 F2 H2 t2 := by have := a2.st; rw [fa0] at this; exact this
  have s2 : Step F1 H1 (fa t1 (fa f gm)) F2 H2 (fa t2 (fa f gm)) := sa.frame wf1
  have kp2 : ∀ a, 0 < (fa f gm) a → H2 a = H1 a := sa.kept wf1
  exact ⟨s2.wf.le fun x => by rw [sp.fp]; simp only [fa_at]; omega, sp.rep.mono sa.ex _ _ _ fun x p => kp2 x (by rw [fa_at, sp.fp, fa_at]; omega), (r.mono st1.ex _ _ _ (st1.kept w)).mono sa.ex _ _ _ fun x p => kp2 x (by rw [fa_at]; omega)⟩
abbrev AsgSub (X : Cx) (o i : Expr) (pos : Pos) : Prop := ∀ v, assign (.Subscript o i pos) X.env v = (do
      let ov ← holding [v] (eval o X.env)
      let iv ← holding [v, ov] (eval i X.env)
      standAt pos
      holding [v, ov, iv] (setItem ov iv v)
      release [v, ov, iv] [])
theorem pg_subZ (hu : X.A.units + 150 < cLine) {P : EvP} {K : EvO} (hp : PP (cOf X ct) X o P) (hk : PZo (cOf X ct) X i true K) (ha : AsgSub X o i pos) : PGZ (cOf X ct) X lk (.Subscript o i pos) (wSub P K) := by
  refine PG.imp (pg_sub hp hk (set_sto (ct := ct) hu) ha) fun v σ H Q ⟨F, ρ, t, m, gm, ρ', w, en, r, e, k⟩ => ?_
  simp only [wSub, Option.bind_eq_some_iff] at e
  obtain ⟨⟨j, ac⟩, e1, oo, e2, m0, e3, n, e4, ⟨d, pp, ρ1⟩, e5, e6⟩ := e
  subst e3
  dsimp only at e6
  split at e6
  case isFalse => cases e6
  rename_i hpp
  simp only [Option.bind_eq_some_iff, Option.map_eq_some_iff] at e6
  obtain ⟨n', e7, m', e8, rfl⟩ := e6
  have w0 : Wf F H t := w.le fun a => by rw [fa_at]; omega
  refine ⟨F, ρ, t, j, ac, m0, n, w0, en, e1, e2, e4, fun F1 H1 v0 u f t1 g h a1 hσ en1 ht sp => ⟨F1, ρ, t, d, pp, ρ1, a1.wf, a1.en, e5, fun F2 H2 y t2 a2 s2 p2 => ?_⟩⟩
  obtain ⟨a3, z1, z2⟩ := a2.hide a1.wf ht en1
  have s1 : Step F H t F1 H1 t := by have := a1.st; rw [fa0] at this; exact this
  obtain ⟨q1, q2, q3⟩ := sto_wf w s1 ht sp a3 r
  refine ⟨F2, n, g, gm, d, m, n', q1, q2, p2 hpp, q3, e7, fun F3 H3 g' st rn => ?_⟩
  refine sto_end (lk := lk) (ρ1 := ρ.set j none) w s1 ht hσ sp a3 (set_hid e2) e8 st rn ?_
  rw [List.set_set]
  exact k
theorem pg_subH (hu : X.A.units + 150 < cLine) {P : EvP} {K : EvO} (hp : PP (cOf X ct) X o P) (hk : PZo (cOf X ct) X i pb K) (ha : AsgSub X o i pos) : PGZ (cOf X ct) X lk (.Subscript o i pos) (wSubH P K) := by
  refine PG.imp (pg_sub hp hk (set_sto (ct := ct) hu) ha) fun v σ H Q ⟨F, ρ, t, m, gm, ρ', w, en, r, e, k⟩ => ?_
  simp only [wSubH, Option.bind_eq_some_iff] at e
  obtain ⟨⟨j, ac⟩, e1, oo, e2, m0, e3, n, e4, ⟨d, pp, ρ1⟩, e5, e6⟩ := e
  subst e3
  dsimp only at e6
  split at e6
  case isFalse => cases e6
  rename_i hpp
  rw [Bool.and_eq_true] at hpp
  simp only [Option.bind_eq_some_iff, Option.map_eq_some_iff] at e6
  obtain ⟨n', e7, m', e8, rfl⟩ := e6
  have w0 : Wf F H t := w.le fun a => by rw [fa_at]; omega
  -- the value waits while the index is reckoned
  refine ⟨F, ρ, t, j, ac, m0, n, w0, en, e1, e2, e4, fun F1 H1 v0 u f t1 g h a1 hσ en1 ht sp => ⟨F1, ρ.set j none, t1, d, pp, ρ1, a1.wf.le fun x => by rw [ht, fa_at]; omega, en1, e5, fun F2 H2 y t2 a2 s2 p2 => ?_⟩⟩
  have s1 : Step F H t F1 H1 t := by have := a1.st; rw [fa0] at this; exact this
  obtain ⟨q1, q2, q3⟩ := sto_wf w s1 ht sp a2 r
  refine ⟨F2, n, g, gm, d, m, n', q1, q2, p2 hpp.1, q3, e7, fun F3 H3 g' st rn => ?_⟩
  exact sto_end (lk := lk) w s1 ht hσ sp a2 (hid_eq hpp.2) e8 st rn k

/-! ### statements -/
inductive Res where
  | nx (ρ : Env)
  | br (ρ : Env)
  | ct (ρ : Env)
  | rt (m : M) (ρ : Env)
abbrev EvS := Env → Option Res
def FinS (C : Ct) (lk : Nat → Bool) (F H : Hp) (t : Fp) (σ : L2.St) (D : Ends) : Res → Prop
  | .nx ρ' => ∀ F' H' σ' t', Step F H t F' H' t' → EnvR C F' H' σ' ρ' t' → Lk lk σ σ' → D.nx σ' H'
  | .br ρ' => ∀ F' H' σ' t', Step F H t F' H' t' → EnvR C F' H' σ' ρ' t' → Lk lk σ σ' → D.bk σ' H'
  | .ct ρ' => ∀ F' H' σ' t', Step F H t F' H' t' → EnvR C F' H' σ' ρ' t' → Lk lk σ σ' → D.ct σ' H'
  | .rt m ρ' => ∀ F' H' σ' t' v g, Step F H t F' H' (fa t' g) → EnvR C F' H' σ' ρ' t' → MRep C F' H' v m g → Lk lk σ σ' → D.rt v H'
def tSt (C : Ct) (lk : Nat → Bool) (A : EvS) : TS := fun D σ H => ∃ F ρ t r, Wf F H t ∧ EnvR C F H σ ρ t ∧ A ρ = some r ∧ FinS C lk F H t σ D r
abbrev PSZ (C : Ct) (X : Cx) (lk : Nat → Bool) (st : Stmt) (A : EvS) : Prop := PS X st (tSt C lk A)
abbrev PSsZ (C : Ct) (X : Cx) (lk : Nat → Bool) (st : List Stmt) (A : EvS) : Prop := PSs X st (tSt C lk A)
theorem FinS.of {C : Ct} {F H F1 H1 : Hp} {t t1 : Fp} {σ σ1 : L2.St} {D : Ends} {r : Res} (s : Step F H t F1 H1 t1) (l : Lk lk σ σ1) (h : FinS C lk F H t σ D r) : FinS C lk F1 H1 t1 σ1 D r := by
  cases r with
  | nx ρ => exact fun F' H' σ' t' st en l' => h F' H' σ' t' (s.trans st) en (l.trans l')
  | br ρ => exact fun F' H' σ' t' st en l' => h F' H' σ' t' (s.trans st) en (l.trans l')
  | ct ρ => exact fun F' H' σ' t' st en l' => h F' H' σ' t' (s.trans st) en (l.trans l')
  | rt m ρ => exact fun F' H' σ' t' v g st en rr l' => h F' H' σ' t' v g (s.trans st) en rr (l.trans l')
def sNext : EvS := fun ρ => some (.nx ρ)
def sBreak : EvS := fun ρ => some (.br ρ)
def sCont : EvS := fun ρ => some (.ct ρ)
def sSeq (A B : EvS) : EvS := fun ρ => (A ρ).bind fun r => match r with
  | .nx ρ1 => B ρ1
  | r => some r
def sIf (T : EvB) (A B : EvS) : EvS := fun ρ => (T ρ).bind fun (b, ρ1) => if b = true then A ρ1 else B ρ1
def sExpr (A : EvE) : EvS := fun ρ => (A ρ).map fun (_, ρ1) => .nx ρ1
def sRet (A : EvE) : EvS := fun ρ => (A ρ).map fun (m, ρ1) => .rt m ρ1
def sRetN : EvS := fun ρ => some (.rt (.val .none) ρ)
def sAsg (A : EvE) (W : EvT) : EvS := fun ρ => (A ρ).bind fun (m, ρ1) => (W m ρ1).map fun ρ2 => .nx ρ2
theorem ps_next {st : Stmt} (h : PS X st tNext) : PSZ (cOf X ct) X lk st sNext := by
  refine PS.imp h fun D σ H ⟨F, ρ, t, r, w, en, e, k⟩ => ?_
  cases e
  exact k F H σ t (Step.refl w) en Lk.refl
theorem ps_brk : PSZ (cOf X ct) X lk (.Break pos) sBreak := by
  refine PS.imp ps_break fun D σ H ⟨F, ρ, t, r, w, en, e, k⟩ => ?_
  cases e
  exact k F H σ t (Step.refl w) en Lk.refl
theorem ps_cnt : PSZ (cOf X ct) X lk (.Continue pos) sCont := by
  refine PS.imp ps_continue fun D σ H ⟨F, ρ, t, r, w, en, e, k⟩ => ?_
  cases e
  exact k F H σ t (Step.refl w) en Lk.refl
theorem pss_nilZ : PSsZ (cOf X ct) X lk [] sNext := by
  refine PSs.imp pss_nil fun D σ H ⟨F, ρ, t, r, w, en, e, k⟩ => ?_
  cases e
  exact k F H σ t (Step.refl w) en Lk.refl
theorem pss_consZ {st : Stmt} {sts : List Stmt} {A B : EvS} (ha : PSZ (cOf X ct) X lk st A) (hb : PSsZ (cOf X ct) X lk sts B) : PSsZ (cOf X ct) X lk (st :: sts) (sSeq A B) := by
  refine PSs.imp (pss_cons ha hb) fun D σ H ⟨F, ρ, t, r, w, en, e, k⟩ => ?_
  simp only [sSeq, Option.bind_eq_some_iff] at e
  obtain ⟨r1, e1, e2⟩ := e
  refine ⟨F, ρ, t, r1, w, en, e1, ?_⟩
  cases r1 with
  | nx ρ1 => exact fun F1 H1 σ1 t1 st en1 l => ⟨F1, ρ1, t1, r, st.wf, en1, e2, k.of st l⟩
  | br ρ1 => cases e2; exact k
  | ct ρ1 => cases e2; exact k
  | rt m ρ1 => cases e2; exact k
theorem ps_ifZ {T : EvB} {A B : EvS} {s1 s2 : List Stmt} (hc : PZt (cOf X ct) X c pc T) (ha : PSsZ (cOf X ct) X lk s1 A) (hb : PSsZ (cOf X ct) X lk s2 B) : PSZ (cOf X ct) X lk (.If c s1 s2 pos) (sIf T A B) := by
  refine PS.imp (ps_if hc ha hb) fun D σ H ⟨F, ρ, t, r, w, en, e, k⟩ => ?_
  simp only [sIf, Option.bind_eq_some_iff] at e
  obtain ⟨⟨b1, ρ1⟩, e1, e2⟩ := e
  refine ⟨F, ρ, t, b1, ρ1, w, en, e1, fun F' H' t' af => ?_⟩
  have s0 := af.st
  rw [fa0] at s0
  cases b1 with
  | true => exact ⟨F', ρ1, t', r, af.wf, af.en, e2, k.of s0 Lk.refl⟩
  | false => exact ⟨F', ρ1, t', r, af.wf, af.en, e2, k.of s0 Lk.refl⟩
theorem ps_exprZ {A : EvE} (ha : PZ (cOf X ct) X e pa A) (hs : swapsWith e none pos.line X.env = pure false) : PSZ (cOf X ct) X lk (.Expr e pos) (sExpr A) := by
  refine PS.imp (ps_expr ha hs) fun D σ H ⟨F, ρ, t, r, w, en, e, k⟩ => ?_
  simp only [sExpr, Option.map_eq_some_iff] at e
  obtain ⟨⟨m, ρ1⟩, e1, rfl⟩ := e
  exact ⟨F, ρ, t, m, ρ1, w, en, e1, fun F' H' v g t' af _ => k F' H' σ t' (by have := af.drop.st; rw [fa0] at this; exact this) af.en Lk.refl⟩
theorem ps_retZ {A : EvE} (ha : PZ (cOf X ct) X e pa A) : PSZ (cOf X ct) X lk (.Return (some e) pos) (sRet A) := by
  refine PS.imp (ps_ret ha) fun D σ H ⟨F, ρ, t, r, w, en, e, k⟩ => ?_
  simp only [sRet, Option.map_eq_some_iff] at e
  obtain ⟨⟨m, ρ1⟩, e1, rfl⟩ := e
  exact ⟨F, ρ, t, m, ρ1, w, en, e1, fun F' H' v g t' af rr => k F' H' σ t' v g af.st af.en rr Lk.refl⟩
theorem ps_retNZ : PSZ (cOf X ct) X lk (.Return none pos) sRetN := by
  refine PS.imp ps_retN fun D σ H ⟨F, ρ, t, r, w, en, e, k⟩ => ?_
  cases e
  exact k F H σ t .non f0 (by rw [fa0]; exact Step.refl w) en (.val .non) Lk.refl
theorem asg_core {A : EvE} {W : EvT} {D : Ends} {σ : L2.St} {H : Hp} (h : tSt (cOf X ct) lk (sAsg A W) D σ H) : tE (cOf X ct) pa A σ H fun v H1 => tT (cOf X ct) lk W v σ H1 D.nx := by
  obtain ⟨F, ρ, t, r, w, en, e, k⟩ := h
  simp only [sAsg, Option.bind_eq_some_iff, Option.map_eq_some_iff] at e
  obtain ⟨⟨m, ρ1⟩, e1, ρ2, e2, rfl⟩ := e
  exact ⟨F, ρ, t, m, ρ1, w, en, e1, fun F' H' v g t' af rr => ⟨F', ρ1, t', m, g, ρ2, af.st.wf, af.en, rr, e2, fun F2 H2 σ2 t2 st en2 l => k F2 H2 σ2 t2 (af.st.trans st) en2 l⟩⟩
theorem ps_setZ {A : EvE} {j : Nat} (ha : PZ (cOf X ct) X e pa A) (hN : X.N.Nodup) (hi : X.N[j]? = some x) (hx : Loc X.env.scope x) (hs : swapsWith e (some (.Name x pos')) pos.line X.env = pure false) (hf : X.fn x = true ∨ X.env.scope.names.lookup x = some .local) : PSZ (cOf X ct) X lk (.Assign [.Name x pos'] e pos) (sAsg A (wName lk j)) := by
  refine PS.imp (ps_set hN hi hx ha hs hf) fun D σ H h => ?_
  obtain ⟨F, ρ, t, m, ρ1, w, en, e1, q⟩ := asg_core (pa := pa) h
  refine ⟨F, ρ, t, m, ρ1, w, en, e1, fun F' H' v g t' af rr => ?_⟩
  obtain ⟨F2, r2, t2, m2, g2, ρ2, w2, en2, rr2, e2, k⟩ := q F' H' v g t' af rr
  simp only [wName] at e2
  split at e2
  · cases e2
  · rename_i hl
    split at e2
    case isFalse => cases e2
    rename_i hlt
    cases e2
    obtain ⟨t3, h1, h2⟩ := en2.set hlt rr2
    refine k F2 H' _ (fa g2 t3) ?_ h1 (Lk.set (by simpa using hl))
    exact (Step.refl w2).le fun a => by have := h2 a; simp only [fa_at]; omega
theorem ps_asgZ {A : EvE} {W : EvT} {tg : Expr} (ha : PZ (cOf X ct) X e pa A) (hg : PGZ (cOf X ct) X lk tg W) (hs : swapsWithSole [tg] e pos.line X.env = pure false) (hw : swappedStores [tg] e X.env = pure none) (h1 : (assignEach [tg] X.env).map (·.2) = [assign tg X.env]) : PSZ (cOf X ct) X lk (.Assign [tg] e pos) (sAsg A W) :=
  PS.imp (ps_asg ha hg hs hw h1) fun D σ H h => asg_core h
/-- a, b = x, y: stored from the right -/
def sPar (A : EvA) (i j : Nat) (lk : Nat → Bool) : EvS := fun ρ => (A ρ).bind fun (ms, ρ1) => match ms with
  | [m, n] => if lk i = true ∨ lk j = true then none else if i < ρ1.length ∧ j < ρ1.length then some (.nx ((ρ1.set i (some m)).set j (some n))) else none
  | _ => none
theorem ps_parZ {i j : Nat} {x y : Str} {a b : Expr} {A : EvA} {px py pt : Pos} {kt k2 pt2} (hc : X.calm = true) (hN : X.N.Nodup) (hi : X.N[i]? = some x) (hj : X.N[j]? = some y) (hij : i ≠ j)
    (hx : X.env.scope.names.lookup x = some .local) (hy : X.env.scope.names.lookup y = some .local) (ha : PZa (cOf X ct) X [a, b] pa A)
    (hw : swappedStores [.Tuple [.Name x px, .Name y py] kt pt] (.Tuple [a, b] k2 pt2) X.env = pure (some [x, y]))
    (hs : swapsWithSole [.Tuple [.Name x px, .Name y py] kt pt] (.Tuple [a, b] k2 pt2) pos.line X.env = pure false) :
    PSZ (cOf X ct) X lk (.Assign [.Tuple [.Name x px, .Name y py] kt pt] (.Tuple [a, b] k2 pt2) pos) (sPar A i j lk) := by
  refine PS.imp (ps_par hc hN hi hj hij hx hy ha hw hs) fun D σ H ⟨F, ρ, t, r, w, en, e, k⟩ => ?_
  simp only [sPar, Option.bind_eq_some_iff] at e
  obtain ⟨⟨ms, ρ1⟩, e1, e2⟩ := e
  dsimp only at e2
  split at e2
  case h_2 => cases e2
  rename_i m n
  split at e2
  · cases e2
  rename_i hl
  split at e2
  case isFalse => cases e2
  rename_i hlt
  cases e2
  rw [not_or] at hl
  refine ⟨F, ρ, t, [m, n], ρ1, w, en, e1, fun F' H' vs g t' af rr => ?_⟩
  cases rr with
  | @cons _ v vs _ _ g1 g2 r1 rr =>
    cases rr with
    | @cons _ u us _ _ g3 g4 r2 rr =>
      cases rr
      refine ⟨v, u, rfl, ?_⟩
      obtain ⟨t3, h1, h2⟩ := af.en.set hlt.1 r1
      obtain ⟨t4, h3, h4⟩ := h1.set (i := j) (by simpa using hlt.2) r2
      refine k F' H' _ _ (af.st.le fun a => ?_) h3 ((Lk.set (by simpa using hl.1)).trans (Lk.set (by simpa using hl.2)))
      have q1 := h2 a
      have q2 := h4 a
      simp only [fa_at, f0_at] at q2 ⊢
      omega
/-- a slot's value is frozen (nothing is run) -/
def sFrz (i : Nat) (A : EvS) : EvS := fun ρ => (ρ[i]?).bind fun o => o.bind fun m => A (ρ.set i (some (frz m)))
theorem ps_frz {i : Nat} {st : List Stmt} {A : EvS} (h : PSsZ (cOf X ct) X lk st A) : PSsZ (cOf X ct) X lk st (sFrz i A) := by
  refine PSs.imp h fun D σ H ⟨F, ρ, t, r, w, en, e, k⟩ => ?_
  simp only [sFrz, Option.bind_eq_some_iff] at e
  obtain ⟨o, e1, m, e2, e3⟩ := e
  subst e2
  obtain ⟨v, f, t', h1, h2, h3, h4⟩ := en.get e1
  rw [h4] at w k
  have s := Step.freeze w
  have en2 : EnvR (cOf X ct) (frF F H f) H σ (ρ.set i none) t' := h3.mono s.ex fun _ _ => rfl
  have en3 := en2.put (set_hid e1) h1 (frz_rep w.sub h2)
  rw [List.set_set, fa0l] at en3
  exact ⟨_, _, t', r, s.wf, en3, e3, k.of s Lk.refl⟩
end
end Z

set_option Elab.async false
set_option linter.all false
set_option maxRecDepth 100000
set_option maxHeartbeats 2000000
/-! Z18: loops. -/
namespace Z
open PySem L2 Evl PyProof.Rows

/-- the iterator yields ds -/
def JD (C : Ct) (F : Hp) (J : It) (ds : List M) : Prop := ∀ F1 H t, Ex F F1 → Wf F1 H t → (∀ i, ds.length ≤ i → J.stop i H) ∧ ∀ i d, ds[i]? = some d → J.go i H ∧ ∀ x H', J.yld i H x H' → ∃ F2, Step F1 H t F2 H' t ∧ Ex H H' ∧ isP d = true ∧ MRep C F2 H' x d f0
/-- .. data -/
def JDd (C : Ct) (F : Hp) (J : It) (ds : List PyData) : Prop := ∀ F1 H t, Ex F F1 → Wf F1 H t → (∀ i, ds.length ≤ i → J.stop i H) ∧ ∀ i d, ds[i]? = some d → J.go i H ∧ ∀ x H', J.yld i H x H' → ∃ F2, Step F1 H t F2 H' t ∧ Ex H H' ∧ Dp C.K F2 x d
theorem JDd.m {C : Ct} {F : Hp} {J : It} {ds : List PyData} (h : JDd C F J ds) : JD C F J (ds.map .val) := by
  intro F1 H t ex w
  obtain ⟨h1, h2⟩ := h F1 H t ex w
  refine ⟨fun i hi => h1 i (by rw [List.length_map] at hi; exact hi), fun i m e => ?_⟩
  rw [List.getElem?_map] at e
  cases q : ds[i]? with
  | none => rw [q] at e; cases e
  | some d =>
    rw [q] at e
    cases e
    obtain ⟨g1, g2⟩ := h2 i d q
    refine ⟨g1, fun x H' y => ?_⟩
    obtain ⟨F2, a1, a2, a3⟩ := g2 x H' y
    exact ⟨F2, a1, a2, rfl, .val a3⟩
abbrev EvI := Env → Option (List M × Env)
def iZ (C : Ct) (pu : Bool) (A : EvI) : TI := fun σ H R => ∃ F ρ t ds ρ', Wf F H t ∧ EnvR C F H σ ρ t ∧ A ρ = some (ds, ρ') ∧ ∀ F' H' t' J, Aft C pu σ F H t ρ F' H' t' f0 ρ' → JD C F' J ds → R J H'
abbrev PIZ (C : Ct) (X : Cx) (tg e : Expr) (pu : Bool) (A : EvI) : Prop := PI X tg e (iZ C pu A)
theorem PI.imp {X : Cx} {tg e : Expr} {t t' : TI} (h : PI X tg e t) (k : ∀ σ H Q, t' σ H Q → t σ H Q) : PI X tg e t' := ⟨fun pins s σ H R I q => h.run pins s σ H R I (k σ H R q)⟩
def seqD : PyData → Option (List PyData)
  | .list ds => some ds
  | .tuple ds => some ds
  | _ => none
def iSeq (A : EvO) : EvI := fun ρ => (A ρ).bind fun (d, p, ρ1) => if p then (seqD d).map fun ds => (ds.map .val, ρ1) else none
def enumD : Int → List PyData → List PyData
  | _, [] => []
  | n, d :: ds => .tuple [.int n, d] :: enumD (n + 1) ds
def zipD : List PyData → List PyData → List PyData
  | d :: ds, e :: es => .tuple [d, e] :: zipD ds es
  | _, _ => []
def iZp (A : EvOs) : EvI := fun ρ => (A ρ).bind fun (xs, ρ1) => match xs with
  | [.list ds, .list es] => some ((zipD ds es).map .val, ρ1)
  | [.tuple ds, .tuple es] => some ((zipD ds es).map .val, ρ1)
  | _ => none

section
variable {C : Ct} {F : Hp}
theorem dpAll_get {K : PySem.W.Frag} {F : Hp} {ds : List PyData} {vs : List V} (h : DpAll K F vs ds) {i : Nat} {d : PyData} (e : ds[i]? = some d) : ∃ v, vs[i]? = some v ∧ Dp K F v d := dp_get h e
theorem jd_list {a : Addr} {vs : List V} {ds : List PyData} (h1 : SqL C.K F a vs) (h2 : DpAll C.K F vs ds) : JDd C F (Itl C.K a) ds := by
  intro F1 H t ex w
  have h3 : SqL C.K H a vs := ex_l w.sub (ex_l ex h1)
  refine ⟨fun i hi => ⟨vs, h3, by rw [dp_length h2]; exact hi⟩, fun i d e => ?_⟩
  obtain ⟨v, e1, e2⟩ := dp_get h2 e
  refine ⟨⟨vs, v, h3, e1⟩, fun x H' y => ?_⟩
  obtain ⟨rfl, y⟩ := y
  have := y vs h3
  rw [e1] at this
  cases this
  exact ⟨F1, Step.refl w, Ex.refl _, Dp.ex ex _ _ e2⟩
theorem jd_tup {a : Addr} {vs : List V} {ds : List PyData} (h1 : SqT C.K F a vs) (h2 : DpAll C.K F vs ds) : JDd C F (Itt C.K a) ds := by
  intro F1 H t ex w
  have h3 : SqT C.K H a vs := ex_t w.sub (ex_t ex h1)
  refine ⟨fun i hi => ⟨vs, h3, by rw [dp_length h2]; exact hi⟩, fun i d e => ?_⟩
  obtain ⟨v, e1, e2⟩ := dp_get h2 e
  refine ⟨⟨vs, v, h3, e1⟩, fun x H' y => ?_⟩
  obtain ⟨rfl, y⟩ := y
  have := y vs h3
  rw [e1] at this
  cases this
  exact ⟨F1, Step.refl w, Ex.refl _, Dp.ex ex _ _ e2⟩
theorem rgD_len (a b : Int) : (rgD a b).length = (b - a).toNat := by unfold rgD; rw [List.length_map, List.length_range]
theorem rgD_get {a b : Int} {i : Nat} {d : PyData} (h : (rgD a b)[i]? = some d) : i < (b - a).toNat ∧ d = .int (a + (i : Nat)) := by
  unfold rgD at h
  rw [List.getElem?_map] at h
  cases q : (List.range (b - a).toNat)[i]? with
  | none => rw [q] at h; cases h
  | some j =>
    rw [q] at h
    obtain ⟨hl, hj⟩ := List.getElem?_eq_some_iff.mp q
    rw [List.length_range] at hl
    rw [List.getElem_range] at hj
    subst hj
    cases h
    exact ⟨hl, rfl⟩
theorem jd_rg {a b : Int} {n : Nat} (hn : n = (b - a).toNat) : JDd C F (Itr a n) (rgD a b) := by
  intro F1 H t ex w
  refine ⟨fun i hi => by rw [rgD_len] at hi; show n ≤ i; omega, fun i d e => ?_⟩
  obtain ⟨h1, rfl⟩ := rgD_get e
  refine ⟨by show i < n; omega, fun x H' y => ?_⟩
  obtain ⟨rfl, rfl⟩ := y
  exact ⟨F1, Step.refl w, Ex.refl _, .int _⟩
theorem enumD_len : ∀ (n : Int) (ds : List PyData), (enumD n ds).length = ds.length
  | _, [] => rfl
  | n, d :: ds => by simp [enumD, enumD_len (n + 1) ds]
theorem enumD_get : ∀ {ds : List PyData} {n : Int} {i : Nat} {d : PyData}, (enumD n ds)[i]? = some d → ∃ e, ds[i]? = some e ∧ d = .tuple [.int (n + i), e]
  | [], n, i, d, h => by simp [enumD] at h
  | x :: ds, n, 0, d, h => by
    have : d = .tuple [.int n, x] := by simpa [enumD] using h.symm
    exact ⟨x, rfl, by rw [this]; simp⟩
  | x :: ds, n, i + 1, d, h => by
    obtain ⟨e, h1, h2⟩ := enumD_get (ds := ds) (n := n + 1) (i := i) (d := d) (by simpa [enumD] using h)
    refine ⟨e, by simpa using h1, ?_⟩
    rw [h2]
    have : n + 1 + (i : Int) = n + ((i + 1 : Nat) : Int) := by omega
    rw [this]
theorem zipD_len : ∀ (ds es : List PyData), (zipD ds es).length = min ds.length es.length
  | [], _ => by simp [zipD]
  | _ :: _, [] => by simp [zipD]
  | d :: ds, e :: es => by simp [zipD, zipD_len ds es]
theorem zipD_get : ∀ {ds es : List PyData} {i : Nat} {d : PyData}, (zipD ds es)[i]? = some d → ∃ x y, ds[i]? = some x ∧ es[i]? = some y ∧ d = .tuple [x, y]
  | [], _, i, d, h => by simp [zipD] at h
  | _ :: _, [], i, d, h => by simp [zipD] at h
  | x :: ds, y :: es, 0, d, h => ⟨x, y, rfl, rfl, by simpa [zipD] using h.symm⟩
  | x :: ds, y :: es, i + 1, d, h => by
    obtain ⟨a, b, h1, h2, h3⟩ := zipD_get (ds := ds) (es := es) (i := i) (d := d) (by simpa [zipD] using h)
    exact ⟨a, b, by simpa using h1, by simpa using h2, h3⟩
theorem pair_new {F1 H : Hp} {t : Fp} {T : Addr} {x y : V} {d e : PyData} (w : Wf F1 H t) (hT : H T = none) (hx : Dp C.K F1 x d) (hy : Dp C.K F1 y e) : ∃ F2, Step F1 H t F2 (upd H T (.tup [x, y])) t ∧ Ex H (upd H T (.tup [x, y])) ∧ Dp C.K F2 (.ref T) (.tuple [d, e]) := by
  have s := Step.newF (o := .tup [x, y]) w hT
  exact ⟨_, s, Ex.new hT, .tup (SqT.of upd_same) (.cons (Dp.ex s.ex _ _ hx) (.cons (Dp.ex s.ex _ _ hy) .nil))⟩
theorem jd_zipL {a b : Addr} {xs ys : List V} {ds es : List PyData} (h1 : SqL C.K F a xs) (h2 : DpAll C.K F xs ds) (h3 : SqL C.K F b ys) (h4 : DpAll C.K F ys es) : JDd C F (Itz C.K a b) (zipD ds es) := by
  intro F1 H t ex w
  have q1 : SqL C.K H a xs := ex_l w.sub (ex_l ex h1)
  have q2 : SqL C.K H b ys := ex_l w.sub (ex_l ex h3)
  refine ⟨fun i hi => ⟨xs, ys, q1, q2, by rw [dp_length h2, dp_length h4]; rw [zipD_len] at hi; omega⟩, fun i d e => ?_⟩
  obtain ⟨dx, dy, e1, e2, rfl⟩ := zipD_get e
  obtain ⟨x, f1, f2⟩ := dp_get h2 e1
  obtain ⟨y, f3, f4⟩ := dp_get h4 e2
  refine ⟨⟨xs, ys, x, y, q1, q2, f1, f3⟩, fun v H' z => ?_⟩
  obtain ⟨T, x', y', rfl, hT, rfl, g1, g2⟩ := z
  have g1 := g1 xs q1
  have g2 := g2 ys q2
  rw [f1] at g1
  rw [f3] at g2
  cases g1
  cases g2
  exact pair_new w hT (Dp.ex ex _ _ f2) (Dp.ex ex _ _ f4)
theorem jd_zipT {a b : Addr} {xs ys : List V} {ds es : List PyData} (h1 : SqT C.K F a xs) (h2 : DpAll C.K F xs ds) (h3 : SqT C.K F b ys) (h4 : DpAll C.K F ys es) : JDd C F (RZ.ItzT C.K a b) (zipD ds es) := by
  intro F1 H t ex w
  have q1 : SqT C.K H a xs := ex_t w.sub (ex_t ex h1)
  have q2 : SqT C.K H b ys := ex_t w.sub (ex_t ex h3)
  refine ⟨fun i hi => ⟨xs, ys, q1, q2, by rw [dp_length h2, dp_length h4]; rw [zipD_len] at hi; omega⟩, fun i d e => ?_⟩
  obtain ⟨dx, dy, e1, e2, rfl⟩ := zipD_get e
  obtain ⟨x, f1, f2⟩ := dp_get h2 e1
  obtain ⟨y, f3, f4⟩ := dp_get h4 e2
  refine ⟨⟨xs, ys, x, y, q1, q2, f1, f3⟩, fun v H' z => ?_⟩
  obtain ⟨T, x', y', rfl, hT, rfl, g1, g2⟩ := z
  have g1 := g1 xs q1
  have g2 := g2 ys q2
  rw [f1] at g1
  rw [f3] at g2
  cases g1
  cases g2
  exact pair_new w hT (Dp.ex ex _ _ f2) (Dp.ex ex _ _ f4)
end

section
variable {X : Cx} {ct : Str → Option Addr} {e a b c o i value tg : Expr} {es : List Expr} {pos p p2 apos cpos pos' : Pos} {pa pb pc : Bool} {x name : Str} {id T : String} {lk : Nat → Bool}
def iLT (K : PySem.W.Frag) (tl : TE) : TI := fun σ H R => tl σ H fun x H1 => ∃ a, x = .ref a ∧ ((∃ xs, SqL K H1 a xs) ∧ R (Itl K a) H1 ∨ (∃ xs, SqT K H1 a xs) ∧ R (Itt K a) H1)
theorem pi_lt {l : Expr} {tl : TE} (hl : PE X l tl) : PI X tg l (iLT X.K tl) := by
  refine ⟨fun pins s σ H R I h => ?_⟩
  refine thn (hl.run pins s σ H _ I h) fun v s1 ⟨x, H1, I1, r1, q1⟩ => ?_
  obtain ⟨a, e, q⟩ := q1
  subst e
  cases r1
  have fpk : ∀ b ∈ [s1.heap.objs.size], FpOk X pins H1 b := fun b hb => by
    have e : b = s1.heap.objs.size := by simpa using hb
    subst e
    exact I1.fpOk (Nat.le_refl _) (I1.hok.fresh (Nat.le_refl _))
  rcases q with ⟨⟨xs, hq⟩, q⟩ | ⟨⟨xs, hq⟩, q⟩
  · obtain ⟨its, rv, p, hz⟩ := I1.list hq
    refine wpAny_pyIter_list p.isList ?_
    exact ⟨s1.heap.objs.size, [s1.heap.objs.size], _, _, H1, rfl, I1.kept (t' := s1.toks) fun b o e => Heap.get?_push_of_some _ e, turn_list a _, ⟨_, Heap.get?_push_size _ rfl, rfl, rfl⟩, fpk, q⟩
  · obtain ⟨its, rv, p, hz⟩ := I1.tuple hq
    refine wpAny_pyIter_tuple (show s1.heap.IsTuple a its.toArray from p) ?_
    exact ⟨s1.heap.objs.size, [s1.heap.objs.size], _, _, H1, rfl, I1.kept (t' := s1.toks) fun b o e => Heap.get?_push_of_some _ e, turn_tuple a _, ⟨_, Heap.get?_push_size _ rfl, rfl, rfl⟩, fpk, q⟩
theorem pi_seqZ {A : EvO} (ha : PZo (cOf X ct) X e pa A) : PIZ (cOf X ct) X tg e pa (iSeq A) := by
  refine PI.imp (pi_lt ha) fun σ H R ⟨F, ρ, t, ds, ρ', w, en, e, k⟩ => ?_
  simp only [iSeq, Option.bind_eq_some_iff] at e
  obtain ⟨⟨d, pp, ρ1⟩, e1, e2⟩ := e
  dsimp only at e2
  split at e2
  case isFalse => cases e2
  rename_i hp
  simp only [Option.map_eq_some_iff, Prod.mk.injEq] at e2
  obtain ⟨ds', e3, rfl, rfl⟩ := e2
  refine ⟨F, ρ, t, d, pp, ρ1, w, en, e1, fun F' H' v t' af sh hd => ?_⟩
  have hd := hd hp
  cases hd with
  | lst h1 h2 => cases e3; exact ⟨_, rfl, .inl ⟨⟨_, ex_l af.wf.sub h1⟩, k F' H' t' _ af (jd_list (C := cOf X ct) h1 h2).m⟩⟩
  | tup h1 h2 => cases e3; exact ⟨_, rfl, .inr ⟨⟨_, ex_t af.wf.sub h1⟩, k F' H' t' _ af (jd_tup (C := cOf X ct) h1 h2).m⟩⟩
  | non => cases e3
  | bl _ => cases e3
  | int _ => cases e3
  | str _ => cases e3
/-- what a place holds, item by item -/
def itemsM : M → Option (List M)
  | .val (.list ds) => some (ds.map .val)
  | .val (.tuple ds) => some (ds.map .val)
  | .fz (.lst ms) => some (ms.map frz)
  | .fz (.tup ms) => some (ms.map frz)
  | _ => none
theorem jd_fz {C : Ct} {F : Hp} {J : It} {vs : List V} {ms : List M} {f : Fp} (r : MReps C F F vs ms f) (hs : ∀ H, Ex F H → ∀ i, ms.length ≤ i → J.stop i H) (hg : ∀ H, Ex F H → ∀ i v, vs[i]? = some v → J.go i H ∧ ∀ x H', J.yld i H x H' → H' = H ∧ x = v) : JD C F J (ms.map frz) := by
  intro F1 H t ex w
  have exH : Ex F H := ex.trans w.sub
  refine ⟨fun i hi => hs H exH i (by rw [List.length_map] at hi; exact hi), fun i m e => ?_⟩
  rw [List.getElem?_map] at e
  cases q : ms[i]? with
  | none => rw [q] at e; cases e
  | some d =>
    rw [q] at e
    cases e
    obtain ⟨v, g, h, e1, e2, _⟩ := reps_split r q
    obtain ⟨g1, g2⟩ := hg H exH i v e1
    refine ⟨g1, fun x H' y => ?_⟩
    obtain ⟨rfl, rfl⟩ := g2 x H' y
    exact ⟨F1, Step.refl w, Ex.refl _, frz_p d, rep_pEx (frz_p d) (frz_at (H := H') e2) ex⟩
theorem reps_get_len {C : Ct} {F H : Hp} {vs : List V} {ms : List M} {f : Fp} (r : MReps C F H vs ms f) : vs.length = ms.length := reps_length r
def iSeqR (A : EvR) : EvI := fun ρ => (A ρ).bind fun m => (itemsM m).map fun ms => (ms, ρ)
theorem pi_seqR {A : EvR} (ha : PR (cOf X ct) X e A) : PIZ (cOf X ct) X tg e true (iSeqR A) := by
  refine PI.imp (pi_lt ha) fun σ H R ⟨F, ρ, t, ds, ρ', w, en, e, k⟩ => ?_
  simp only [iSeqR, Option.bind_eq_some_iff, Option.map_eq_some_iff, Prod.mk.injEq] at e
  obtain ⟨m, e1, ms, e2, rfl, rfl⟩ := e
  refine ⟨F, ρ, t, m, w, en, e1, fun F' H' v f af r => ?_⟩
  cases m with
  | val d =>
    cases r with
    | val r =>
      cases r with
      | lst h1 h2 => cases e2; exact ⟨_, rfl, .inl ⟨⟨_, ex_l af.wf.sub h1⟩, k F' H' t _ af (jd_list (C := cOf X ct) h1 h2).m⟩⟩
      | tup h1 h2 => cases e2; exact ⟨_, rfl, .inr ⟨⟨_, ex_t af.wf.sub h1⟩, k F' H' t _ af (jd_tup (C := cOf X ct) h1 h2).m⟩⟩
      | non => cases e2
      | bl _ => cases e2
      | int _ => cases e2
      | str _ => cases e2
  | fz m =>
    cases m with
    | lst xs =>
      cases e2
      cases r with
      | fz r =>
        cases r with
        | @lst _ a vs _ f h1 h2 =>
          refine ⟨a, rfl, .inl ⟨⟨_, SqL.of (af.wf.sub _ _ h1)⟩, k F' H' t _ af (jd_fz h2 (fun H ex i hi => ⟨vs, SqL.of (ex _ _ h1), by rw [reps_length h2]; exact hi⟩) fun H ex i v hv => ⟨⟨vs, v, SqL.of (ex _ _ h1), hv⟩, fun x H' y => ⟨y.1, ?_⟩⟩)⟩⟩
          have := y.2 vs (SqL.of (ex _ _ h1))
          rw [hv] at this
          exact (Option.some.inj this).symm
    | tup xs =>
      cases e2
      cases r with
      | fz r =>
        cases r with
        | @tup _ a vs _ f h1 h2 =>
          refine ⟨a, rfl, .inr ⟨⟨_, SqT.of (af.wf.sub _ _ h1)⟩, k F' H' t _ af (jd_fz h2 (fun H ex i hi => ⟨vs, SqT.of (ex _ _ h1), by rw [reps_length h2]; exact hi⟩) fun H ex i v hv => ⟨⟨vs, v, SqT.of (ex _ _ h1), hv⟩, fun x H' y => ⟨y.1, ?_⟩⟩)⟩⟩
          have := y.2 vs (SqT.of (ex _ _ h1))
          rw [hv] at this
          exact (Option.some.inj this).symm
    | val _ => cases e2
    | dct _ _ => cases e2
    | ins _ _ => cases e2
    | fz _ => cases e2
  | lst _ => cases e2
  | tup _ => cases e2
  | dct _ _ => cases e2
  | ins _ _ => cases e2
def rgI1 (A : EvOs) : EvRg := fun ρ => (A ρ).bind fun (xs, ρ1) => match xs with
  | [.int j] => some (0, j, ρ1)
  | [.int i, .int j] => some (i, j, ρ1)
  | _ => none
theorem pi_rg1Z {A : EvOs} (ha : PZs (cOf X ct) X [a] pa A) (hg : Gl X "range") (hm : X.mg "range" = none) (hs : starEach [a] X.env = [(false, eval a X.env)]) : PIZ (cOf X ct) X tg (.Call (.Name "range" p) [a] [] pos) pa (fun ρ => (A ρ).bind fun (xs, ρ1) => match xs with | [.int j] => if rgOk 0 j = true then some ((rgD 0 j).map .val, ρ1) else none | _ => none) := by
  refine PI.imp (pi_range1 hg hm ha hs) fun σ H R ⟨F, ρ, t, ds, ρ', w, en, e, k⟩ => ?_
  simp only [Option.bind_eq_some_iff] at e
  obtain ⟨⟨xs, ρ1⟩, e1, e2⟩ := e
  dsimp only at e2
  split at e2
  case h_2 => cases e2
  rename_i j
  split at e2
  case isFalse => cases e2
  rename_i hok
  cases e2
  refine ⟨F, ρ, t, _, _, w, en, e1, fun F' H' vs t' af pr => ?_⟩
  obtain ⟨v, rfl, s1⟩ := pr1 pr
  have hok := of_decide_eq_true hok
  exact ⟨j, by rw [sh_int s1], by omega, by omega, k F' H' t' _ af (jd_rg (by simp)).m⟩
theorem pi_rg2Z {A : EvOs} (ha : PZs (cOf X ct) X [a, b] pa A) (hg : Gl X "range") (hm : X.mg "range" = none) (hs : starEach [a, b] X.env = [(false, eval a X.env), (false, eval b X.env)]) (hs2 : starEach [b] X.env = [(false, eval b X.env)]) : PIZ (cOf X ct) X tg (.Call (.Name "range" p) [a, b] [] pos) pa (fun ρ => (A ρ).bind fun (xs, ρ1) => match xs with | [.int i, .int j] => if rgOk i j = true then some ((rgD i j).map .val, ρ1) else none | _ => none) := by
  refine PI.imp (pi_range2 hg hm ha hs hs2) fun σ H R ⟨F, ρ, t, ds, ρ', w, en, e, k⟩ => ?_
  simp only [Option.bind_eq_some_iff] at e
  obtain ⟨⟨xs, ρ1⟩, e1, e2⟩ := e
  dsimp only at e2
  split at e2
  case h_2 => cases e2
  rename_i i j
  split at e2
  case isFalse => cases e2
  rename_i hok
  cases e2
  refine ⟨F, ρ, t, _, _, w, en, e1, fun F' H' vs t' af pr => ?_⟩
  obtain ⟨v, u, rfl, s1, s2⟩ := pr2 pr
  have hok := of_decide_eq_true hok
  exact ⟨i, j, by rw [sh_int s1, sh_int s2], ⟨by omega, by omega, by omega, by omega⟩, k F' H' t' _ af (jd_rg rfl).m⟩

def tDs (C : Ct) (pu : Bool) (A : EvOs) : TA := fun σ H Q => ∃ F ρ t ds ρ', Wf F H t ∧ EnvR C F H σ ρ t ∧ A ρ = some (ds, ρ') ∧
  ∀ F' H' vs t', Aft C pu σ F H t ρ F' H' t' f0 ρ' → DpAll C.K F' vs ds → Q vs H'
abbrev PZd (C : Ct) (X : Cx) (es : List Expr) (pu : Bool) (A : EvOs) : Prop := PA X es (tDs C pu A)
def zdCons (A : EvO) (B : EvOs) : EvOs := fun ρ => (A ρ).bind fun (d, p, ρ1) => if p then (B ρ1).map fun (ds, ρ2) => (d :: ds, ρ2) else none
theorem pd_nil : PZd (cOf X ct) X [] true zsNil := by
  refine PA.imp pa_nil fun σ H Q ⟨F, ρ, t, ms, ρ', w, en, e, k⟩ => ?_
  cases e
  exact k F H [] t (Aft.refl w en) .nil
theorem pd_cons {A : EvO} {B : EvOs} (ha : PZo (cOf X ct) X e pa A) (hb : PZd (cOf X ct) X es pb B) (hs : NoStar e es X.env) : PZd (cOf X ct) X (e :: es) (pa && pb) (zdCons A B) := by
  refine PA.imp (pa_cons ha hb hs) fun σ H Q ⟨F, ρ, t, ms, ρ', w, en, e, k⟩ => ?_
  simp only [zdCons, Option.bind_eq_some_iff] at e
  obtain ⟨⟨d, pp, ρ1⟩, e1, e⟩ := e
  dsimp only at e
  split at e
  case isFalse => cases e
  rename_i hp
  simp only [Option.map_eq_some_iff, Prod.mk.injEq] at e
  obtain ⟨⟨ds, ρ2⟩, e2, rfl, rfl⟩ := e
  refine ⟨F, ρ, t, d, pp, ρ1, w, en, e1, fun F1 H1 v t1 a1 s1 p1 => ⟨F1, ρ1, t1, ds, ρ2, a1.wf, a1.en, e2, fun F2 H2 vs t2 a2 r2 => ?_⟩⟩
  exact k F2 H2 (v :: vs) t2 (a1.trans a2) (.cons (Dp.ex a2.st.ex _ _ (p1 hp)) r2)
theorem dd1 {K : PySem.W.Frag} {F : Hp} {vs : List V} {d : PyData} (h : DpAll K F vs [d]) : ∃ v, vs = [v] ∧ Dp K F v d := by
  cases h with
  | cons h1 h2 => cases h2; exact ⟨_, rfl, h1⟩
theorem dd2 {K : PySem.W.Frag} {F : Hp} {vs : List V} {d e : PyData} (h : DpAll K F vs [d, e]) : ∃ v u, vs = [v, u] ∧ Dp K F v d ∧ Dp K F u e := by
  cases h with
  | cons h1 h2 =>
    obtain ⟨u, rfl, h3⟩ := dd1 h2
    exact ⟨_, _, rfl, h1, h3⟩
theorem pi_zipZ {A : EvOs} {elts : List Expr} {kk : Nat} {tpos : Pos} (ha : PZd (cOf X ct) X [a, b] pa A) (hg : Gl X "zip") (hm : X.mg "zip" = none) (hs : starEach [a, b] X.env = (false, eval a X.env) :: starEach [b] X.env) (hpl : (backTo pos (starEach [b] X.env)).any (·.1) = false) : PIZ (cOf X ct) X (.Tuple elts kk tpos) (.Call (.Name "zip" p) [a, b] [] pos) pa (iZp A) := by
  refine PI.imp (RZ.pi_zipA hg hm ha hs hpl) fun σ H R ⟨F, ρ, t, ds, ρ', w, en, e, k⟩ => ?_
  simp only [iZp, Option.bind_eq_some_iff] at e
  obtain ⟨⟨xs, ρ1⟩, e1, e2⟩ := e
  refine ⟨F, ρ, t, xs, ρ1, w, en, e1, fun F' H' vs t' af pr => ?_⟩
  dsimp only at e2
  split at e2
  · cases e2
    obtain ⟨v, u, rfl, s1, s2⟩ := dd2 pr
    cases s1 with
    | lst h1 h2 =>
      cases s2 with
      | lst h3 h4 => exact ⟨_, _, _, _, rfl, .inl ⟨ex_l af.wf.sub h1, ex_l af.wf.sub h3, k F' H' t' _ af (jd_zipL (C := cOf X ct) h1 h2 h3 h4).m⟩⟩
  · cases e2
    obtain ⟨v, u, rfl, s1, s2⟩ := dd2 pr
    cases s1 with
    | tup h1 h2 =>
      cases s2 with
      | tup h3 h4 => exact ⟨_, _, _, _, rfl, .inr ⟨ex_t af.wf.sub h1, ex_t af.wf.sub h3, k F' H' t' _ af (jd_zipT (C := cOf X ct) h1 h2 h3 h4).m⟩⟩
  · cases e2

/-! ### for, while -/
def forD (W : EvT) (B : EvS) : List M → Env → Option Res
  | [], ρ => some (.nx ρ)
  | d :: ds, ρ => (W d ρ).bind fun ρ1 => (B ρ1).bind fun r => match r with
    | .nx ρ2 => forD W B ds ρ2
    | .ct ρ2 => forD W B ds ρ2
    | .br ρ2 => some (.nx ρ2)
    | .rt m ρ2 => some (.rt m ρ2)
def sFor (A : EvI) (W : EvT) (B : EvS) : EvS := fun ρ => (A ρ).bind fun (ds, ρ1) => forD W B ds ρ1
def whileF (T : EvB) (B : EvS) : Nat → Env → Option Res
  | 0, _ => none
  | k + 1, ρ => (T ρ).bind fun (b, ρ1) => if b = true then (B ρ1).bind fun r => match r with
    | .nx ρ2 => whileF T B k ρ2
    | .ct ρ2 => whileF T B k ρ2
    | .br ρ2 => some (.nx ρ2)
    | .rt m ρ2 => some (.rt m ρ2) else some (.nx ρ1)
def sWhile (k : Nat) (T : EvB) (B : EvS) : EvS := whileF T B k
theorem ps_forZ {A : EvI} {W : EvT} {B : EvS} {body : List Stmt} (hp : PassesOwn (model X.prog X.w) X.A X.env X.xe) (hc : X.calm = true) (hi : PIZ (cOf X ct) X tg e pa A) (hg : PGZ (cOf X ct) X lk tg W) (hb : PSsZ (cOf X ct) X lk body B)
    (hs : ∀ x, foldedSetIterable e X.env x = pure x) : PSZ (cOf X ct) X lk (.For tg e body [] pos) (sFor A W B) := by
  refine PS.imp (ps_for hp hc hi hg hb hs) fun D σ H ⟨F, ρ, t, r, w, en, e, k⟩ => ?_
  simp only [sFor, Option.bind_eq_some_iff] at e
  obtain ⟨⟨ds, ρ1⟩, e1, e2⟩ := e
  refine ⟨F, ρ, t, ds, ρ1, w, en, e1, fun F0 H0 t0 J af jd => ?_⟩
  have s0 : Step F H t F0 H0 t0 := by have := af.st; rw [fa0] at this; exact this
  refine ⟨fun i m σ H => i ≤ ds.length ∧ m = ds.length - i ∧ ∃ F ρ t r, Wf F H t ∧ EnvR (cOf X ct) F H σ ρ t ∧ Ex F0 F ∧ forD W B (ds.drop i) ρ = some r ∧ FinS (cOf X ct) lk F H t σ D r, ⟨ds.length, Nat.zero_le _, rfl, F0, ρ1, t0, r, af.wf, af.en, Ex.refl _, e2, k.of s0 Lk.refl⟩, ?_⟩
  rintro i m σ1 H1 ⟨hi', rfl, F1, ρ2, t1, r1, w1, en1, ex1, e3, k1⟩
  obtain ⟨j1, j2⟩ := jd F1 H1 t1 ex1 w1
  by_cases hlt : i < ds.length
  · refine .inr ?_
    have hd : ds[i]? = some ds[i] := List.getElem?_eq_getElem hlt
    obtain ⟨g1, g2⟩ := j2 i _ hd
    rw [List.drop_eq_getElem_cons hlt] at e3
    simp only [forD, Option.bind_eq_some_iff] at e3
    obtain ⟨ρ3, e4, rb, e5, e6⟩ := e3
    refine ⟨g1, fun σ' H' => ∃ F ρ t r, Wf F H' t ∧ EnvR (cOf X ct) F H' σ' ρ t ∧ Ex F0 F ∧ forD W B (ds.drop (i + 1)) ρ = some r ∧ FinS (cOf X ct) lk F H' t σ' D r, fun σ' H' q => ⟨ds.length - (i + 1), by omega, hlt, rfl, q⟩, fun x H' y => ?_⟩
    obtain ⟨F2, st2, exH, _, hx⟩ := g2 x H' y
    have en2 : EnvR (cOf X ct) F2 H' σ1 ρ2 t1 := en1.mono st2.ex fun a pa => by
      obtain ⟨o, ho⟩ := en1.dom a pa
      rw [ho]; exact exH a o ho
    refine ⟨F2, ρ2, t1, ds[i], f0, ρ3, by rw [fa0]; exact st2.wf, en2, hx, e4, fun F3 H3 σ3 t3 st3 en3 l3 => ?_⟩
    rw [fa0] at st3
    have st13 := st2.trans st3
    refine ⟨F3, ρ3, t3, rb, st3.wf, en3, e5, ?_⟩
    have ex3 : Ex F0 F3 := ex1.trans st13.ex
    cases rb with
    | nx ρ4 => exact fun F4 H4 σ4 t4 st4 en4 l4 => ⟨F4, ρ4, t4, r1, st4.wf, en4, ex3.trans st4.ex, e6, k1.of (st13.trans st4) (l3.trans l4)⟩
    | ct ρ4 => exact fun F4 H4 σ4 t4 st4 en4 l4 => ⟨F4, ρ4, t4, r1, st4.wf, en4, ex3.trans st4.ex, e6, k1.of (st13.trans st4) (l3.trans l4)⟩
    | br ρ4 => cases e6; exact fun F4 H4 σ4 t4 st4 en4 l4 => k1 F4 H4 σ4 t4 (st13.trans st4) en4 (l3.trans l4)
    | rt m ρ4 => cases e6; exact fun F4 H4 σ4 t4 v g st4 en4 rr l4 => k1 F4 H4 σ4 t4 v g (st13.trans st4) en4 rr (l3.trans l4)
  · have e : i = ds.length := by omega
    subst e
    rw [List.drop_length] at e3
    cases e3
    exact .inl ⟨j1 _ (Nat.le_refl _), k1 F1 H1 σ1 t1 (Step.refl w1) en1 Lk.refl⟩
theorem ps_whileZ {T : EvB} {B : EvS} {n : Nat} {body : List Stmt} (hp : PassesOwn (model X.prog X.w) X.A X.env X.xe) (hc : PZt (cOf X ct) X c pc T) (hb : PSsZ (cOf X ct) X lk body B) : PSZ (cOf X ct) X lk (.While c body [] pos) (sWhile n T B) := by
  refine PS.imp (ps_while hp hc hb) fun D σ H ⟨F, ρ, t, r, w, en, e, k⟩ => ?_
  refine ⟨fun m σ H => ∃ F ρ t r, Wf F H t ∧ EnvR (cOf X ct) F H σ ρ t ∧ whileF T B m ρ = some r ∧ FinS (cOf X ct) lk F H t σ D r, ⟨n, F, ρ, t, r, w, en, e, k⟩, ?_⟩
  rintro m σ1 H1 ⟨F1, ρ1, t1, r1, w1, en1, e1, k1⟩
  cases m with
  | zero => cases e1
  | succ m =>
    simp only [whileF, Option.bind_eq_some_iff] at e1
    obtain ⟨⟨b, ρ2⟩, e2, e3⟩ := e1
    refine ⟨F1, ρ1, t1, b, ρ2, w1, en1, e2, fun F2 H2 t2 af => ?_⟩
    have s0 : Step F1 H1 t1 F2 H2 t2 := by have := af.st; rw [fa0] at this; exact this
    cases b with
    | false =>
      cases e3
      exact k1 F2 H2 σ1 t2 s0 af.en Lk.refl
    | true =>
      simp only [if_true, Option.bind_eq_some_iff] at e3
      obtain ⟨rb, e4, e5⟩ := e3
      refine ⟨fun σ' H' => ∃ F ρ t r, Wf F H' t ∧ EnvR (cOf X ct) F H' σ' ρ t ∧ whileF T B m ρ = some r ∧ FinS (cOf X ct) lk F H' t σ' D r, fun σ' H' q => ⟨m, Nat.lt_succ_self m, q⟩, F2, ρ2, t2, rb, af.wf, af.en, e4, ?_⟩
      cases rb with
      | nx ρ4 => exact fun F4 H4 σ4 t4 st4 en4 l4 => ⟨F4, ρ4, t4, r1, st4.wf, en4, e5, k1.of (s0.trans st4) l4⟩
      | ct ρ4 => exact fun F4 H4 σ4 t4 st4 en4 l4 => ⟨F4, ρ4, t4, r1, st4.wf, en4, e5, k1.of (s0.trans st4) l4⟩
      | br ρ4 => cases e5; exact fun F4 H4 σ4 t4 st4 en4 l4 => k1 F4 H4 σ4 t4 (s0.trans st4) en4 l4
      | rt m' ρ4 => cases e5; exact fun F4 H4 σ4 t4 v g st4 en4 rr l4 => k1 F4 H4 σ4 t4 v g (s0.trans st4) en4 rr l4
end
end Z

set_option Elab.async false
set_option linter.all false
set_option maxRecDepth 100000
set_option maxHeartbeats 2000000
/-! Z19: enumerate of tuples; attributes stored; pure calls. -/
namespace PySem
theorem enum1_new {v : Value} {o : Obj} {P : Heap → Prop} (B : Begins v o P) : Meets (Builtin.«enumerate.__new__» ⟨[.type "enumerate", v], []⟩) (fun _ R s => P s.heap ∧ R (.ok (.ret (.ref (s.heap.push o).objs.size)))
    { s with heap := (s.heap.push o).push { cls := .type "enumerate", data := .fields #[.none, .bool false, .ref s.heap.objs.size, rawInt 0, .none, .none] } }) := by
  refine .of_wp fun prog w A R s h => ?_
  rcases s with ⟨hp, g, d, tk, os⟩
  rcases h with ⟨h0, h⟩
  have sb := sub_enumerate
  have go : ∀ {A' : Around} {E Q : Value → Shared → Prop}, Q (.ref hp.objs.size) ⟨hp.push o, g, d, tk, os⟩ → wpAny (model prog w) A' (pyIter v) Q E ⟨hp, g, d, tk, os⟩ := fun z => B.iter prog w _ _ ⟨hp, g, d, tk, os⟩ _ h0 z
  wp_walk using go
  refine wpAny_stack_any fun st => wpAny_pure ?_
  split
  · rename_i c _ _ _ _ _
    cases (c == Value.type "enumerate") <;> (wp_walk using go; exact ⟨_, rfl, h⟩)
  · wp_walk using go; exact ⟨_, rfl, h⟩
theorem enum1_call {prog : Program} {w : World} {A : Around} {E : Value → Shared → Prop} {s : Shared} {v : Value} {o : Obj} {P : Heap → Prop} {Q : Value → Shared → Prop} (B : Begins v o P) (h0 : P s.heap)
    (h : ∀ h', IsEnum h' (s.heap.objs.size + 1) s.heap.objs.size 0 .none → h'.get? s.heap.objs.size = some o → (∀ b u, s.heap.get? b = some u → h'.get? b = some u) → Q (.ref (s.heap.objs.size + 1)) { s with heap := h' }) :
    wpAny (model prog w) A (call (.type "enumerate") [v]) Q E s := by
  refine callType_new F.called_enumerate (by decide) (F.typeCall_enumerate_1 _) (F.newCall_enumerate_1 _) (fun obj => F.args_object_init_2 obj _) F.entry_enumerate_new (enum1_new B) ⟨h0, ?_⟩
  have z1 : (s.heap.push o).objs.size = s.heap.objs.size + 1 := Heap.size_push ..
  have z2 := Heap.get?_push_size (s.heap.push o) (o := { cls := .type "enumerate", data := .fields #[.none, .bool false, .ref s.heap.objs.size, rawInt 0, .none, .none] }) rfl
  rw [z1] at z2
  show _ ∧ _
  rw [z1]
  exact ⟨⟨_, z2, rfl⟩, h _ z2 (Heap.get?_push_of_some _ (Heap.get?_push_size _ B.free)) fun b u x => Heap.get?_push_of_some _ (Heap.get?_push_of_some _ x)⟩
end PySem
namespace Z
open PySem L2 Evl PyProof.Rows

/-- the tuple at a, each item in a new pair -/
def IteT (K : PySem.W.Frag) (a : Addr) : It where
  go := fun i H => ∃ (xs : List V) (x : V), SqT K H a xs ∧ xs[i]? = some x
  yld := fun i H v H' => ∃ T x, v = .ref T ∧ H T = none ∧ H' = upd H T (.tup [.int (i : Nat), x]) ∧ ∀ xs, SqT K H a xs → xs[i]? = some x
  stop := fun i H => ∃ xs : List V, SqT K H a xs ∧ xs.length ≤ i
theorem turn_enumT {P : Program} {w : World} {K : PySem.W.Frag} {elts : List Expr} {kk : Nat} {tpos : Pos} (a e it : Addr) :
    Turn P w K (.Tuple elts kk tpos) (IteT K a) [e, it] e (fun i h => (∃ old, IsEnum h e it ((i : Nat) : Int) old) ∧ h.IsTupleIter it a i ∧ e ≠ it) := by
  refine ⟨by simp, ?_, ?_, ?_, ?_, ?_⟩
  · rintro i h ⟨⟨old, he⟩, ⟨o, ho, hc, hd⟩, _⟩ b hb
    rcases (by simpa using hb : b = e ∨ b = it) with rfl | rfl
    · exact ⟨_, he, fun v q => nomatch q⟩
    · exact ⟨o, ho, fun v q => by rw [hd] at q; cases q⟩
  · rintro i h h' ⟨⟨old, he⟩, hi, hne⟩ k
    exact ⟨⟨old, k e (by simp) _ he⟩, hi.at fun o q => k it (by simp) o q, hne⟩
  · intro X hP hw hK hc i pins s σ H E I hf st hg
    subst hP hw hK
    obtain ⟨⟨old, he⟩, hit, hne⟩ := st
    obtain ⟨xs, x, hq, hx⟩ := hg
    obtain ⟨its, rv, pt, hz⟩ := I.tuple hq
    obtain ⟨u, hu, ru⟩ := rv.get hx
    have lte : e < s.heap.objs.size := Heap.lt_size he
    have lti : it < s.heap.objs.size := by obtain ⟨_, q, _⟩ := hit; exact Heap.lt_size q
    have nea : a ≠ it := fun z => by
      subst z
      obtain ⟨o1, p1, c1, _⟩ := pt
      obtain ⟨o2, p2, c2, _⟩ := hit
      rw [p1] at p2
      cases p2
      rw [c1] at c2
      injection c2 with c2
      exact absurd c2 (by decide)
    have nee : e ≠ a := fun z => by
      subst z
      obtain ⟨o1, p1, c1, _⟩ := pt
      rw [he] at p1
      cases p1
      injection c1 with c1
      exact absurd c1 (by decide)
    have D := Draws.tuple (prog := X.prog) (w := X.w) (A := X.A.in1) (I.ok.hd hc) it a nea its.toArray
    have hlt : i < its.toArray.size := by
      rw [List.size_toArray, ← rv.length]
      exact (List.getElem?_eq_some_iff.mp hx).1
    refine wpAny_pyNext_enum_itemD D he ⟨hit, pt⟩ hlt hne (by simp [hne, nee]) fun y h' tk hy ho st' hT hsz hk => ?_
    have ey : y = u := by
      have h1 : its[i]? = some y := by simpa using hy
      rw [hu] at h1
      exact (Option.some.inj h1).symm
    subst ey
    refine ⟨_, rfl, wpAny_letOwnedTupleGo_enum (s := { s with heap := h', toks := tk + 1 }) ho fun h'' he' sb => ?_⟩
    have hT2 : h''.get? s.heap.objs.size = some { cls := .type "tuple", data := .seq #[.int i tk, y] } := (sb.2 _ (Nat.ne_of_gt lte)).trans hT
    have new : ObjOk X.prog X.w (upd H s.heap.objs.size (.tup [.int (i : Nat), x])) h'' s.heap.objs.size (.tup [.int (i : Nat), x]) := by
      refine ⟨?_, [.int i tk, y], .cons ⟨_, rfl⟩ (.cons ru .nil), ⟨_, hT2, rfl, _, rfl⟩⟩
      show 2 ≤ sizeLine
      decide
    have I1 : Inv X pins σ (upd H s.heap.objs.size (.tup [.int (i : Nat), x])) { s with heap := h'', toks := tk + 1 } := by
      refine I.turnedNew (ch := [e, it]) (fun b ob hb q => ?_) hf (Nat.le_refl _) new
      have b1 : b ≠ e := fun z => hb (by simp [z])
      have b2 : b ≠ it := fun z => hb (by simp [z])
      exact (sb.2 b b1).trans (hk b ob b1 b2 q)
    refine ⟨.ref s.heap.objs.size, _, I1, rfl, ⟨_, x, rfl, I.hok.fresh (Nat.le_refl _), rfl, fun ys hy => by rw [I.tuple_inj hy hq]; exact hx⟩, ⟨⟨y, ?_⟩, st'.1.at fun o q => (sb.2 it (Ne.symm hne)).trans q, hne⟩, fun b hb => ?_⟩
    · have e1 : ((i + 1 : Nat) : Int) = (i : Int) + 1 := by omega
      rw [e1]; exact he'
    · have lb : b < s.heap.objs.size := by
        rcases (by simpa using hb : b = e ∨ b = it) with rfl | rfl
        · exact lte
        · exact lti
      rw [upd_ne (Nat.ne_of_lt lb)]
      exact (hf b hb).1
  · intro X hP hw hK hc i pins s σ H E I hf st hg
    subst hP hw hK
    obtain ⟨⟨old, he⟩, hit, hne⟩ := st
    obtain ⟨xs, hq, hx⟩ := hg
    obtain ⟨its, rv, pt, hz⟩ := I.tuple hq
    obtain ⟨q0, q1, q2, q3, q4, q5⟩ := hf it (by simp)
    have nea : a ≠ it := fun z => by
      subst z
      obtain ⟨o1, p1, c1, _⟩ := pt
      obtain ⟨o2, p2, c2, _⟩ := hit
      rw [p1] at p2
      cases p2
      rw [c1] at c2
      injection c2 with c2
      exact absurd c2 (by decide)
    have hT : s.TypeIs (.ref e) "enumerate" := ⟨_, he, rfl⟩
    have hl := rv.length
    unfold pyNext
    refine wpAny_bind (wpAny_attempt (wpAny_callSpecial?_slot (name := Str.ofString "__next__") hT F.slot_enumerate_next (wpAny_call_entry F.slot_enumerate_next hT F.entry_enumerate_next ?_ (F.args_enumerate_next_1 _))))
    show wpAny _ _ (field (.ref e) 2 >>= _) _ _ _
    refine wpAny_bind (wpAny_field he rfl (x := .ref it) rfl ?_)
    refine wpAny_bind (wpAny_nextOf_tuple_end (I.ok.hd hc) hit pt (by rw [← Array.getElem?_toList]; simp; omega) fun h' x' he' hx' => ?_)
    obtain ⟨o, ho, hoc⟩ := hx'
    refine wpAny_bind (wpAny_isInstance (T := "StopIteration") (b := true) ⟨o, ho, hoc⟩ isSubtype_stop (wpAny_pure ?_))
    exact ⟨rfl, I.turned (t' := s.toks) (fun b o hb q => he' b o hb q) q0 q1 q3 q4 q5⟩
  · rintro A i s Q E ⟨⟨_, he⟩, _⟩ h
    exact wpAny_pyIter_enum he h
end Z

set_option Elab.async false
set_option linter.all false
set_option maxRecDepth 100000
set_option maxHeartbeats 2000000
/-! Z20: enumerate, attributes stored, op=, pure calls. -/
namespace Z
open PySem L2 Evl PyProof.Rows

section
variable {C : Ct} {F : Hp}
theorem jd_enumL {a : Addr} {xs : List V} {ds : List PyData} (h1 : SqL C.K F a xs) (h2 : DpAll C.K F xs ds) : JDd C F (Ite C.K a) (enumD 0 ds) := by
  intro F1 H t ex w
  have q1 : SqL C.K H a xs := ex_l w.sub (ex_l ex h1)
  refine ⟨fun i hi => ⟨xs, q1, by rw [dp_length h2]; rw [enumD_len] at hi; exact hi⟩, fun i d e => ?_⟩
  obtain ⟨y, e1, rfl⟩ := enumD_get e
  obtain ⟨v, f1, f2⟩ := dp_get h2 e1
  refine ⟨⟨xs, v, q1, f1⟩, fun x H' z => ?_⟩
  obtain ⟨T, x', rfl, hT, rfl, g⟩ := z
  have g := g xs q1
  rw [f1] at g
  cases g
  rw [Int.zero_add]
  exact pair_new w hT (.int _) (Dp.ex ex _ _ f2)
theorem jd_enumT {a : Addr} {xs : List V} {ds : List PyData} (h1 : SqT C.K F a xs) (h2 : DpAll C.K F xs ds) : JDd C F (IteT C.K a) (enumD 0 ds) := by
  intro F1 H t ex w
  have q1 : SqT C.K H a xs := ex_t w.sub (ex_t ex h1)
  refine ⟨fun i hi => ⟨xs, q1, by rw [dp_length h2]; rw [enumD_len] at hi; exact hi⟩, fun i d e => ?_⟩
  obtain ⟨y, e1, rfl⟩ := enumD_get e
  obtain ⟨v, f1, f2⟩ := dp_get h2 e1
  refine ⟨⟨xs, v, q1, f1⟩, fun x H' z => ?_⟩
  obtain ⟨T, x', rfl, hT, rfl, g⟩ := z
  have g := g xs q1
  rw [f1] at g
  cases g
  rw [Int.zero_add]
  exact pair_new w hT (.int _) (Dp.ex ex _ _ f2)
end

section
variable {X : Cx} {ct : Str → Option Addr} {e a b c o i value tg : Expr} {es : List Expr} {pos p p2 apos cpos pos' : Pos} {pa pb pc : Bool} {x name : Str} {id T : String} {lk : Nat → Bool}
def iEnLT (K : PySem.W.Frag) (ta : TA) : TI := fun σ H R => ta σ H fun vs H1 => ∃ a xs, vs = [.ref a] ∧ (SqL K H1 a xs ∧ R (Ite K a) H1 ∨ SqT K H1 a xs ∧ R (IteT K a) H1)
theorem pi_enLT {ta : TA} {tpos : Pos} {elts : List Expr} {kk : Nat} (hg : Gl X "enumerate") (hm : X.mg "enumerate" = none) (ha : PA X [e] ta) (hs : starEach [e] X.env = [(false, eval e X.env)]) : PI X (.Tuple elts kk tpos) (.Call (.Name "enumerate" p) [e] [] pos) (iEnLT X.K ta) := by
  refine ⟨fun pins s σ H R I h => ?_⟩
  refine Call_ (ld_blt I hg hm boot_enumerate (PyProof.Rows.callWith_type1 (thn (ha.run pos pins s σ H _ I h) fun us s1 ⟨vs, H1, I1, r1, q1⟩ => ?_) hs rfl))
  obtain ⟨a, xs, rfl, q⟩ := q1
  rw [Vals.ref1 r1]
  have fpk : ∀ b ∈ [s1.heap.objs.size + 1, s1.heap.objs.size], FpOk X pins H1 b := fun b hb => by
    have hle : s1.heap.objs.size ≤ b := by
      rcases (by simpa using hb : b = s1.heap.objs.size + 1 ∨ b = s1.heap.objs.size) with rfl | rfl
      · exact Nat.le_succ _
      · exact Nat.le_refl _
    exact I1.fpOk hle (I1.hok.fresh hle)
  rcases q with ⟨hq, q⟩ | ⟨hq, q⟩
  · obtain ⟨its, rv, pl, hz⟩ := I1.list hq
    refine enum1_call (begins_list a its.toArray) pl.isList fun h' he hi hk => wpAny_pyIter_enum he ?_
    exact ⟨s1.heap.objs.size + 1, [s1.heap.objs.size + 1, s1.heap.objs.size], _, _, H1, rfl, I1.kept (t' := s1.toks) hk, turn_enum a (s1.heap.objs.size + 1) s1.heap.objs.size, ⟨⟨.none, he⟩, ⟨_, hi, rfl, rfl⟩, Nat.succ_ne_self _⟩, fpk, q⟩
  · obtain ⟨its, rv, pl, hz⟩ := I1.tuple hq
    refine enum1_call (begins_tuple a its.toArray) (show s1.heap.IsTuple a its.toArray from pl) fun h' he hi hk => wpAny_pyIter_enum he ?_
    exact ⟨s1.heap.objs.size + 1, [s1.heap.objs.size + 1, s1.heap.objs.size], _, _, H1, rfl, I1.kept (t' := s1.toks) hk, turn_enumT a (s1.heap.objs.size + 1) s1.heap.objs.size, ⟨⟨.none, he⟩, ⟨_, hi, rfl, rfl⟩, Nat.succ_ne_self _⟩, fpk, q⟩
def iEn (A : EvOs) : EvI := fun ρ => (A ρ).bind fun (xs, ρ1) => match xs with
  | [.list ds] => some ((enumD 0 ds).map .val, ρ1)
  | [.tuple ds] => some ((enumD 0 ds).map .val, ρ1)
  | _ => none
theorem pi_enumZ {A : EvOs} {elts : List Expr} {kk : Nat} {tpos : Pos} (ha : PZd (cOf X ct) X [a] pa A) (hg : Gl X "enumerate") (hm : X.mg "enumerate" = none) (hs : starEach [a] X.env = [(false, eval a X.env)]) : PIZ (cOf X ct) X (.Tuple elts kk tpos) (.Call (.Name "enumerate" p) [a] [] pos) pa (iEn A) := by
  refine PI.imp (pi_enLT hg hm ha hs) fun σ H R ⟨F, ρ, t, ds, ρ', w, en, e, k⟩ => ?_
  simp only [iEn, Option.bind_eq_some_iff] at e
  obtain ⟨⟨xs, ρ1⟩, e1, e2⟩ := e
  refine ⟨F, ρ, t, xs, ρ1, w, en, e1, fun F' H' vs t' af pr => ?_⟩
  dsimp only at e2
  split at e2
  · cases e2
    obtain ⟨v, rfl, s1⟩ := dd1 pr
    cases s1 with
    | lst h1 h2 => exact ⟨_, _, rfl, .inl ⟨ex_l af.wf.sub h1, k F' H' t' _ af (jd_enumL (C := cOf X ct) h1 h2).m⟩⟩
  · cases e2
    obtain ⟨v, rfl, s1⟩ := dd1 pr
    cases s1 with
    | tup h1 h2 => exact ⟨_, _, rfl, .inr ⟨ex_t af.wf.sub h1, k F' H' t' _ af (jd_enumT (C := cOf X ct) h1 h2).m⟩⟩
  · cases e2

/-! ### o.x = v -/
def pF (x : Str) (m : M) : List (Str × M) → List (Str × M)
  | [] => [(x, m)]
  | (y, n) :: r => if y = x then (y, m) :: r else (y, n) :: pF x m r
theorem repF_put {C : Ct} {F H F' H' : Hp} {x : Str} {m : M} {v : V} {g : Fp} (ex : Ex F F') (rm : MRep C F' H' v m g) : ∀ {fs : List (Str × M)} {vs : List (Str × V)} {f : Fp}, MRepF C F H vs fs f → (∀ a, 0 < f a → H' a = H a) → ∃ f', MRepF C F' H' (putF x v vs) (pF x m fs) f' ∧ (∀ a, f' a ≤ f a + g a)
  | [], _, _, r, kp => by
    cases r
    exact ⟨fa g f0, .cons rm .nil, fun a => by simp only [fa_at, f0_at]; omega⟩
  | (y, n) :: fs, _, _, r, kp => by
    cases r with
    | @cons _ _ u us _ _ f1' f2' h1 h2 =>
      by_cases z : y = x
      · refine ⟨fa g f2', ?_, fun a => by simp only [fa_at]; omega⟩
        simp only [putF, pF, z, if_true]
        exact .cons rm (h2.mono ex _ _ _ fun a pa => kp a (by rw [fa_at]; omega))
      · obtain ⟨f', q1, q2⟩ := repF_put ex rm h2 fun a pa => kp a (by rw [fa_at]; omega)
        refine ⟨fa f1' f', ?_, fun a => by have := q2 a; simp only [fa_at]; omega⟩
        simp only [putF, pF, z, if_false]
        exact .cons (h1.mono ex _ _ _ fun a pa => kp a (by rw [fa_at]; omega)) q1
theorem repF_len {C : Ct} {F H : Hp} : ∀ {fs : List (Str × M)} {vs : List (Str × V)} {f : Fp}, MRepF C F H vs fs f → vs.length = fs.length
  | [], _, _, r => by cases r; rfl
  | _ :: fs, _, _, r => by cases r with | cons _ h => simp [repF_len h]
def sFldS (A : EvE) (P : EvP) (x : Str) : EvS := fun ρ => (A ρ).bind fun (m, ρ1) => (P ρ1).bind fun (i, ac) => (ρ1[i]?).bind fun o => o.bind fun m0 => (foc m0 ac).bind fun n => match n with
  | .ins c fs => if fs.length < 1000 then (put m0 ac (.ins c (pF x m fs))).map fun m' => .nx (ρ1.set i (some m')) else none
  | _ => none
theorem ps_fldZ {A : EvE} {P : EvP} (ha : PZ (cOf X ct) X value pa A) (hp : PP (cOf X ct) X o P) (hf : FldOk X ct x) (hs : swapsWith value (some (.Attribute o x pos')) pos.line X.env = pure false) : PSZ (cOf X ct) X lk (.Assign [.Attribute o x pos'] value pos) (sFldS A P x) := by
  refine PS.imp (ps_fld hp ha hs) fun D σ H ⟨F, ρ, t, r, w, en, e, k⟩ => ?_
  simp only [sFldS, Option.bind_eq_some_iff] at e
  obtain ⟨⟨m, ρ1⟩, e1, ⟨i, ac⟩, e2, oo, e3, m0, e4, n, e5, e6⟩ := e
  subst e4
  dsimp only at e6
  split at e6
  case h_2 => cases e6
  rename_i c fs
  split at e6
  case isFalse => cases e6
  rename_i hlen
  simp only [Option.map_eq_some_iff] at e6
  obtain ⟨m', e7, rfl⟩ := e6
  refine ⟨F, ρ, t, m, ρ1, w, en, e1, fun F1 H1 v gm t1 af rm => ?_⟩
  have w1 : Wf F1 H1 (fa t1 gm) := af.st.wf
  refine ⟨F1, ρ1, t1, i, ac, m0, _, af.wf, af.en, e2, e3, e5, fun F2 H2 v0 u f t2 g h a2 hσ en2 ht sp => ?_⟩
  have s1 : Step F1 H1 t1 F2 H2 t1 := by have := a2.st; rw [fa0] at this; exact this
  have a0 : Aft (cOf X ct) true σ F2 H2 t1 ρ1 F2 H2 t1 f0 ρ1 := Aft.refl a2.wf a2.en
  obtain ⟨a3, z1, z2⟩ := a0.hide a2.wf ht en2
  obtain ⟨q1, q2, q3⟩ := sto_wf w1 s1 ht sp a3 rm
  cases q2 with
  | @ins _ ad _ Ca dx vs _ f hc h1 h2 =>
    obtain ⟨c1, c2⟩ := hf c Ca hc
    refine ⟨ad, Ca, dx, vs, rfl, h1, c1, c2, by rw [repF_len h2]; exact hlen, ?_⟩
    obtain ⟨st, kp⟩ := wr_step (o := .ins Ca dx (putF x v vs)) q1
    obtain ⟨f', y1, y2⟩ := repF_put (x := x) (Ex.refl F2) (q3.mono (Ex.refl _) _ _ _ fun a pa => kp a (by rw [fa_at]; omega)) h2 fun a pa => kp a (by rw [fa_at]; omega)
    refine sto_end (lk := lk) (Q := D.nx) (ρ1 := ρ1.set i none) w1 s1 ht hσ sp a3 (set_hid e3) e7 (st.le fun a => ?_) (.ins hc upd_same y1) ?_
    · have := y2 a; simp only [fa_at]; omega
    · rw [List.set_set]
      intro F' H' σ' t' st' en' l
      exact k F' H' σ' t' (af.st.trans st') en' l

/-! ### x op= e -/
def sAug (lk : Nat → Bool) (s : Bool) (i : Nat) (A : EvO) : EvS := fun ρ => (ρ[i]?).bind fun o => o.bind fun m => match m with
  | .val (.int a) => if lk i = true then none else (A ρ).bind fun (d, _, ρ1) => match d with
    | .int b => if i < ρ1.length then some (.nx (ρ1.set i (some (.val (.int (if s then a - b else a + b)))))) else none
    | _ => none
  | _ => none
theorem ps_augZ {s : Bool} {j : Nat} {A : EvO} (ha : PZo (cOf X ct) X e pa A) (hN : X.N.Nodup) (hi : X.N[j]? = some x) (hx : Loc X.env.scope x) (hf : X.fn x = true ∨ X.env.scope.names.lookup x = some .local) : PSZ (cOf X ct) X lk (.AugAssign (.Name x pos') (if s then .Sub else .Add) e pos) (sAug lk s j A) := by
  have op : PIp X (if s then .Sub else .Add) (ipI fun a b => if s then a - b else a + b) := by
    cases s
    · exact ip_add
    · exact ip_sub
  refine PS.imp (ps_aug hN hi hx ha op hf) fun D σ H ⟨F, ρ, t, r, w, en, e, k⟩ => ?_
  simp only [sAug, Option.bind_eq_some_iff] at e
  obtain ⟨oo, e1, m, e2, e3⟩ := e
  subst e2
  split at e3
  case h_2 => cases e3
  rename_i n
  split at e3
  · cases e3
  rename_i hl
  simp only [Option.bind_eq_some_iff] at e3
  obtain ⟨⟨d, pp, ρ1⟩, e4, e5⟩ := e3
  dsimp only at e5
  split at e5
  case h_2 => cases e5
  rename_i b
  split at e5
  case isFalse => cases e5
  rename_i hlt
  cases e5
  obtain ⟨v, f, t', h1, h2, h3, h4⟩ := en.get e1
  cases h2 with
  | val h2 =>
    cases h2
    refine ⟨.int n, h1, F, ρ, t, _, pp, ρ1, w, en, e4, fun F' H' u t1 af sh _ => ⟨n, b, rfl, sh_int sh, ?_⟩⟩
    obtain ⟨t3, g1, g2⟩ := af.en.set (v := .int (if s then n - b else n + b)) (m := .val (.int (if s then n - b else n + b))) (f := f0) hlt (.val (.int _))
    refine k F' H' _ _ (af.st.le fun a => ?_) g1 (Lk.set (by simpa using hl))
    have := g2 a
    simp only [fa_at, f0_at]
    omega

/-! ### calls whose arguments are data -/
def pureA (ρ : Env) : Ag → Bool
  | .m _ => true
  | .ref i => match ρ[i]? with
    | some (some m) => isP m
    | _ => false
def zCallP (G : List M → Option (M × List (Option M))) (A : EvG) (dv : List PyData) : EvE := fun ρ => (A ρ).bind fun (gs, ρ1) => if gs.all (pureA ρ1) = true then (takeG gs ρ1).bind fun (ms, _) => (G (ms ++ dv.map .val)).map fun (m, _) => (m, ρ1) else none
theorem takeP_ok {C : Ct} {F H : Hp} {σ : L2.St} : ∀ {gs : List Ag} {vs : List V} {ρ ρ' : Env} {t : Fp} {ms : List M}, EnvR C F H σ ρ t → Paired (AgR C F H σ) vs gs → gs.all (pureA ρ) = true → takeG gs ρ = some (ms, ρ') → MReps C F H vs ms f0
  | [], _, ρ, ρ', t, ms, en, p, hp, e => by
    cases p
    cases e
    exact .nil
  | .m m :: gs, _, ρ, ρ', t, ms, en, p, hp, e => by
    cases p with
    | cons h p =>
      simp only [takeG, Option.map_eq_some_iff, Prod.mk.injEq] at e
      obtain ⟨⟨ms1, ρ1⟩, e1, rfl, rfl⟩ := e
      rw [List.all_cons, Bool.and_eq_true] at hp
      exact MReps.cons (f := f0) (g := f0) h.2 (takeP_ok en p hp.2 e1)
  | .ref i :: gs, _, ρ, ρ', t, ms, en, p, hp, e => by
    cases p with
    | cons h p =>
      simp only [takeG, Option.bind_eq_some_iff, Option.map_eq_some_iff, Prod.mk.injEq] at e
      obtain ⟨o, e0, m, eo, ⟨ms1, ρ1⟩, e1, rfl, rfl⟩ := e
      subst eo
      rw [List.all_cons, Bool.and_eq_true] at hp
      obtain ⟨hp1, hp2⟩ := hp
      have hpm : isP m = true := by simpa [pureA, e0] using hp1
      obtain ⟨v, f, t1, h1, h2, h3, h4⟩ := en.get e0
      have hv : σ[i]? = some (some _) := h
      rw [hv] at h1
      cases h1
      rw [if_pos hpm] at e1
      exact MReps.cons (f := f0) (g := f0) (rep_p hpm h2).2 (takeP_ok en p hp2 e1)
theorem callP_core {G : List M → Option (M × List (Option M))} {A : EvG} {dv : List PyData} {dvs : List V} {n : Nat} {E : XK} {σ : L2.St} {F H : Hp} {t : Fp} {ρ ρ' : Env} {m : M} {Q : VK} (w : Wf F H t) (en : EnvR (cOf X ct) F H σ ρ t)
    (hdv : ∀ F, DpAll X.K F dvs dv) (e : zCallP G A dv ρ = some (m, ρ')) (hn : ∀ gs ρ1, A ρ = some (gs, ρ1) → gs.length + dv.length = n)
    (k : ∀ F' H' v g t', Aft (cOf X ct) pa σ F H t ρ F' H' t' g ρ' → MRep (cOf X ct) F' H' v m g → Q v H') : tG (cOf X ct) pa A σ H fun vs H1 => spOf (cOf X ct) n G (vs ++ dvs) H1 Q E := by
  simp only [zCallP, Option.bind_eq_some_iff] at e
  obtain ⟨⟨gs, ρ1⟩, e1, e2⟩ := e
  dsimp only at e2
  split at e2
  case isFalse => cases e2
  rename_i hp
  simp only [Option.bind_eq_some_iff, Option.map_eq_some_iff, Prod.mk.injEq] at e2
  obtain ⟨⟨ms, ρ2⟩, e3, ⟨m', ms'⟩, e4, rfl, rfl⟩ := e2
  refine ⟨F, ρ, t, gs, ρ1, w, en, e1, fun F1 H1 vs t1 a1 pr => ?_⟩
  have rs := reps_append (takeP_ok a1.en pr hp e3) (vals_reps (H := H1) (hdv F1))
  rw [fa0] at rs
  have w0 : Wf F1 H1 (fa f0 t1) := by rw [fa0l]; exact a1.wf
  refine ⟨?_, F1, _, f0, m', ms', a1.wf.le fun a => by rw [f0_at]; omega, rs, e4, fun F2 H2 v gv g' st er r => ?_⟩
  · rw [List.length_append, Paired.length pr, dp_length (hdv F1)]
    exact hn _ _ e1
  have fr := st.frame w0
  have exH : Ex H1 H2 := fun a o e => st.fr a o e rfl
  refine k F2 H2 v gv t1 ⟨?_, a1.en.mono st.ex (st.kept w0), fun z => ?_⟩ r
  · have s1 := a1.st
    rw [fa0] at s1
    rw [fa0l] at fr
    exact (s1.trans fr).le fun a => by simp only [fa_at]; omega
  · obtain ⟨z1, z2⟩ := a1.pu z
    exact ⟨z1.trans exH, z2⟩
variable {k : Nat} {f : Addr} {fd : FuncData} {ps : List Str} {ds : List Value} {dvs : List V} {dv : List PyData} {n : Nat}
theorem pz_callP {G : List M → Option (M × List (Option M))} {A : EvG} (Fk : FnOk X.prog X.w X.K X.mg X.base (L2.CX X.prog X.w) k f fd ps (spOf (cOf X ct) n G)) (hr : Room k X.A) (hg : Gl X x) (hm : X.mg x = some (.ref f)) (hk : PySem.W.keepIn X.K (.ref f) = true)
    (hb : Binds X.K fd ps ds) (hd : Vals dvs ds) (hdv : ∀ F, DpAll X.K F dvs dv) (ha : PZg (cOf X ct) X (e :: es) pa A) (hn : ∀ ρ gs ρ1, A ρ = some (gs, ρ1) → gs.length + dv.length = n)
    (hdb : (x == ("__debug__" : Str)) = false) (he : NoStar e es X.env) (hpl : (backTo pos (starEach es X.env)).any (·.1) = false) : PZ (cOf X ct) X (.Call (.Name x p) (e :: es) [] pos) pa (zCallP G A dv) := by
  refine PE.imp (pe_call Fk hr hg hm hk hb hd passL ha hdb he hpl) fun σ H Q ⟨F, ρ, t, m, ρ', w, en, e, q⟩ => ?_
  exact callP_core w en hdv e (hn ρ) q
end
end Z

set_option Elab.async false
set_option linter.all false
set_option maxRecDepth 100000
set_option maxHeartbeats 2000000
/-! Z21: list comprehensions. -/
namespace Z
open PySem L2 Evl PyProof.Rows

section
variable {C : Ct} {F H F' H' : Hp}
/-- a slot that the environment doesn't know may hold anything -/
theorem EnvR.swap {σ : L2.St} {ρ : Env} {t : Fp} (h : EnvR C F H σ ρ t) : ∀ {i : Nat} {x : Option V}, ρ[i]? = some none → EnvR C F H (σ.set i x) ρ t := by
  induction h with
  | nil => intro i x e; simp at e
  | @skip y σ ρ t h ih =>
    intro i x e
    cases i with
    | zero => exact .skip h
    | succ i => exact .skip (ih (i := i) (x := x) (by simpa using e))
  | @here v m f σ ρ t h1 h2 ih =>
    intro i x e
    cases i with
    | zero => simp at e
    | succ i => exact .here h1 (ih (i := i) (x := x) (by simpa using e))
theorem EnvR.bind {σ : L2.St} {ρ : Env} {t : Fp} {i : Nat} {v : V} {d : M} (h : EnvR C F H σ ρ t) (e : ρ[i]? = some none) (r : MRep C F H v d f0) : EnvR C F H (σ.set i (some v)) (ρ.set i (some d)) t := by
  have h1 := h.swap (x := some v) e
  have hl : i < σ.length := by rw [h.length]; exact (List.getElem?_eq_some_iff.mp e).1
  have := h1.put (i := i) (v := v) (m := d) (f := f0) e (by simp [hl]) r
  rw [fa0l] at this
  exact this
def wipeE (ρ : Env) : List Nat → Env
  | [] => ρ
  | v :: vs => (wipeE ρ vs).set v none
theorem wipeE_len (ρ : Env) : ∀ vs : List Nat, (wipeE ρ vs).length = ρ.length
  | [] => rfl
  | v :: vs => by unfold wipeE; rw [List.length_set, wipeE_len ρ vs]
theorem wipeE_none {ρ : Env} {i : Nat} : ∀ {vs : List Nat}, i ∈ vs → i < ρ.length → (wipeE ρ vs)[i]? = some none
  | v :: vs, h, hl => by
    unfold wipeE
    by_cases e : v = i
    · subst e
      rw [List.getElem?_set_self (by rw [wipeE_len]; exact hl)]
    · rw [List.getElem?_set_ne e]
      rcases List.mem_cons.mp h with h | h
      · exact absurd h.symm e
      · exact wipeE_none h hl
theorem EnvR.wipe {σ : L2.St} {ρ : Env} {t : Fp} (h : EnvR C F H σ ρ t) : ∀ vs : List Nat, ∃ t', EnvR C F H (L2.wipe σ vs) (wipeE ρ vs) t' ∧ ∀ a, t' a ≤ t a
  | [] => ⟨t, h, fun _ => Nat.le_refl _⟩
  | v :: vs => by
    obtain ⟨t1, h1, l1⟩ := h.wipe vs
    obtain ⟨t2, h2, l2⟩ := h1.drop (i := v) (x := none)
    exact ⟨t2, h2, fun a => Nat.le_trans (l2 a) (l1 a)⟩
theorem EnvR.unwipe {σ : L2.St} {ρ : Env} {t : Fp} : ∀ {vs : List Nat}, EnvR C F H (L2.wipe σ vs) ρ t → (∀ i ∈ vs, i < ρ.length → ρ[i]? = some none) → EnvR C F H σ ρ t
  | [], h, _ => h
  | v :: vs, h, hn => by
    refine EnvR.unwipe (vs := vs) ?_ fun i hi => hn i (List.mem_cons_of_mem _ hi)
    unfold L2.wipe at h
    by_cases hv : v < ρ.length
    · have hl := h.length
      rw [List.length_set] at hl
      have h2 := h.swap (x := (L2.wipe σ vs)[v]'(by rw [hl]; exact hv)) (hn v List.mem_cons_self hv)
      rw [List.set_set, List.set_getElem_self] at h2
      exact h2
    · have hl := h.length
      rw [List.length_set] at hl
      rw [List.set_eq_of_length_le (by rw [hl]; omega)] at h
      exact h
theorem wipe_same {σ σ' : L2.St} {vs : List Nat} (hl : σ'.length = σ.length) (h : Lk (fun i => !vs.contains i) (L2.wipe σ vs) σ') : L2.wipe σ' vs = L2.wipe σ vs := by
  apply List.ext_getElem?
  intro i
  by_cases hi : i ∈ vs
  · have key : ∀ τ : L2.St, ∀ ws : List Nat, i ∈ ws → (L2.wipe τ ws)[i]? = if i < τ.length then some none else none := fun τ ws => by
      induction ws with
      | nil => intro h; cases h
      | cons w ws ih =>
        intro h
        unfold L2.wipe
        by_cases e : w = i
        · subst e
          by_cases hz : w < τ.length
          · rw [if_pos hz, List.getElem?_set_self (by rw [wipe_length]; exact hz)]
          · rw [if_neg hz, List.getElem?_eq_none]
            rw [List.length_set, wipe_length]; omega
        · rw [List.getElem?_set_ne e]
          rcases List.mem_cons.mp h with h | h
          · exact absurd h.symm e
          · exact ih h
    rw [key _ _ hi, key _ _ hi, hl]
  · rw [wipe_out hi]
    exact h i (by simpa using hi)
end

/-! ### a block's names -/
abbrev EvW := M → Env → Option Env
abbrev EvWs := List M → Env → Option Env
def tW (C : Ct) (own : List Nat) (A : EvW) : TG := fun v σ H Q => ∃ F ρ t d ρ', EnvR C F H σ ρ t ∧ MRep C F H v d f0 ∧ Ex F H ∧ A d ρ = some ρ' ∧ ∀ σ', EnvR C F H σ' ρ' t → Lk (fun i => !own.contains i) σ σ' → σ'.length = σ.length → Q σ' H
def tWs (C : Ct) (own : List Nat) (A : EvWs) : TGs := fun vs σ H Q => ∃ F ρ t ds ρ', EnvR C F H σ ρ t ∧ Paired (fun v m => MRep C F H v m f0) vs ds ∧ Ex F H ∧ A ds ρ = some ρ' ∧ ∀ σ', EnvR C F H σ' ρ' t → Lk (fun i => !own.contains i) σ σ' → σ'.length = σ.length → Q σ' H
abbrev PW1 (C : Ct) (X : Cx) (own : List Nat) (e : Expr) (A : EvW) : Prop := PG X e (tW C own A)
abbrev PWs (C : Ct) (X : Cx) (own : List Nat) (e : List Expr) (A : EvWs) : Prop := PGs X e (tWs C own A)
def bName (own : List Nat) (i : Nat) : EvW := fun d ρ => if (own.contains i && isHid ρ i) = true then some (ρ.set i (some d)) else none
def bsNil : EvWs := fun ds ρ => match ds with
  | [] => some ρ
  | _ => none
def bsCons (A : EvW) (B : EvWs) : EvWs := fun ds ρ => match ds with
  | d :: r => (A d ρ).bind fun ρ1 => B r ρ1
  | _ => none
def bTup (n : Nat) (A : EvWs) : EvW := fun d ρ => match d with
  | .val (.tuple ds) => if ds.length = n then A (ds.map .val) ρ else none
  | _ => none
theorem pair_dp {C : Ct} {F H : Hp} : ∀ {ds : List PyData} {vs : List V}, DpAll C.K F vs ds → Paired (fun v m => MRep C F H v m f0) vs (ds.map M.val)
  | [], _, h => by cases h; exact .nil
  | d :: ds, _, h => by cases h with | cons h1 h2 => exact .cons (.val h1) (pair_dp h2)
section
variable {X : Cx} {ct : Str → Option Addr} {e a b c elt iter tg : Expr} {es ifs : List Expr} {pos p : Pos} {pa pb pc : Bool} {x : Str} {own : List Nat}
theorem pw_name {j : Nat} (hN : X.N.Nodup) (hi : X.N[j]? = some x) (hx : Loc X.env.scope x) (hf : X.fn x = true ∨ X.env.scope.names.lookup x = some .local) : PW1 (cOf X ct) X own (.Name x pos) (bName own j) := by
  refine PG.imp (pg_name hN hi hx hf) fun v σ H Q ⟨F, ρ, t, d, ρ', en, r, sub, e, k⟩ => ?_
  simp only [bName] at e
  split at e
  case isFalse => cases e
  rename_i h
  cases e
  rw [Bool.and_eq_true] at h
  exact k _ (en.bind (hid_eq h.2) r) (Lk.set (by rw [h.1]; rfl)) (List.length_set ..)
theorem pws_nil : PWs (cOf X ct) X own [] bsNil := by
  refine PGs.imp pgs_nil fun v σ H Q ⟨F, ρ, t, ds, ρ', en, r, sub, e, k⟩ => ?_
  unfold bsNil at e
  split at e
  case h_2 => cases e
  cases e
  cases r
  exact ⟨rfl, k σ en Lk.refl rfl⟩
theorem pws_cons {A : EvW} {B : EvWs} (ha : PW1 (cOf X ct) X own e A) (hb : PWs (cOf X ct) X own es B) (hs : (assignEach (e :: es) X.env).map (·.2) = assign e X.env :: (assignEach es X.env).map (·.2)) : PWs (cOf X ct) X own (e :: es) (bsCons A B) := by
  refine PGs.imp (pgs_cons ha hb hs) fun v σ H Q ⟨F, ρ, t, ds, ρ', en, r, sub, e, k⟩ => ?_
  unfold bsCons at e
  split at e
  case h_2 => cases e
  rename_i d ds'
  simp only [Option.bind_eq_some_iff] at e
  obtain ⟨ρ1, e1, e2⟩ := e
  cases r with
  | cons r1 r2 => exact ⟨_, _, rfl, F, ρ, t, d, ρ1, en, r1, sub, e1, fun σ1 en1 l1 z1 => ⟨F, ρ1, t, ds', ρ', en1, r2, sub, e2, fun σ2 en2 l2 z2 => k σ2 en2 (l1.trans l2) (z2.trans z1)⟩⟩
theorem pw_tup {A : EvWs} {n k : Nat} (hc : X.calm = true) (h : PWs (cOf X ct) X own es A) (hn : (assignEach es X.env).length = n) (hst : (assignEach es X.env).findIdx? (·.1) = none) : PW1 (cOf X ct) X own (.Tuple es k pos) (bTup n A) := by
  refine PG.imp (pg_tup hc h hn hst) fun v σ H Q ⟨F, ρ, t, d, ρ', en, r, sub, e, k⟩ => ?_
  unfold bTup at e
  split at e
  case h_2 => cases e
  rename_i ds
  split at e
  case isFalse => cases e
  rename_i hl
  cases r with
  | val r =>
    cases r with
    | tup h1 h2 => exact ⟨_, _, rfl, ex_t sub h1, by rw [dp_length h2]; exact hl, F, ρ, t, ds.map .val, ρ', en, pair_dp h2, sub, e, k⟩

/-! ### tests -/
abbrev PZts (C : Ct) (X : Cx) (e : List Expr) (pu : Bool) (A : EvB) : Prop := PTs X e (tBo C pu A)
theorem PTs.imp {e : List Expr} {t t' : TT} (h : PTs X e t) (k : ∀ σ H Q, t' σ H Q → t σ H Q) : PTs X e t' := ⟨fun pins s σ H Q I q => h.run pins s σ H Q I (k σ H Q q)⟩
def zYes : EvB := fun ρ => some (true, ρ)
theorem pts_nilZ : PZts (cOf X ct) X [] true zYes := by
  refine PTs.imp pts_nil fun σ H Q ⟨F, ρ, t, b, ρ', w, en, e, k⟩ => ?_
  cases e
  exact k F H t (Aft.refl w en)
theorem pts_oneZ {A : EvB} (h : PZt (cOf X ct) X c pa A) : PZts (cOf X ct) X [c] pa A := pts_one h

/-! ### the comprehension -/
/-- pure: each turn starts from the same environment -/
def lcP (W : EvW) (T : EvB) (A : EvE) (ρ : Env) : List M → List M → Option (List M)
  | [], acc => some acc
  | d :: ds, acc => (W d ρ).bind fun ρ1 => (T ρ1).bind fun (b, ρ2) => if b = true then (A ρ2).bind fun (m, _) => if acc.length < sizeLine then lcP W T A ρ ds (acc ++ [m]) else none else lcP W T A ρ ds acc
def zLcP (I : EvI) (W : EvW) (T : EvB) (A : EvE) (own : List Nat) : EvE := fun ρ => (I ρ).bind fun (ds, ρ1) => (lcP W T A (wipeE ρ1 own) ds []).map fun ms => (.lst ms, ρ1)
/-- not so -/
def lcF (W : EvW) (T : EvB) (A : EvE) (own : List Nat) : List M → List M → Env → Option (List M × Env)
  | [], acc, ρ => some (acc, ρ)
  | d :: ds, acc, ρ => (W d ρ).bind fun ρ1 => (T ρ1).bind fun (b, ρ2) => if b = true then (A ρ2).bind fun (m, ρ3) => if acc.length < sizeLine then lcF W T A own ds (acc ++ [m]) (wipeE ρ3 own) else none else lcF W T A own ds acc (wipeE ρ2 own)
def zLcF (I : EvI) (W : EvW) (T : EvB) (A : EvE) (own : List Nat) : EvE := fun ρ => (I ρ).bind fun (ds, ρ1) => (lcF W T A own ds [] (wipeE ρ1 own)).map fun (ms, ρ2) => (.lst ms, ρ2)
theorem app_step {C : Ct} {F H : Hp} {D : Addr} {T f g : Fp} {ms : List M} {m : M} {vs : List V} {v : V} (w : Wf F H (fa (fa T (fa (f1 D) f)) g)) (rs : MReps C F H vs ms f) (r : MRep C F H v m g) :
    Step F H (fa (fa T (fa (f1 D) f)) g) F (upd H D (.lst (vs ++ [v]))) (fa T (fa (f1 D) (fa f g))) ∧ MReps C F (upd H D (.lst (vs ++ [v]))) (vs ++ [v]) (ms ++ [m]) (fa f g) := by
  have kp : ∀ a, 0 < (fa f g) a → upd H D (.lst (vs ++ [v])) a = H a := fun a pa => upd_ne fun e => by
    subst e
    have := w.one a
    simp only [fa_at, f1_self] at this pa
    omega
  refine ⟨(Step.write w (by simp only [fa_at, f1_self]; omega)).le fun a => by simp only [fa_at]; omega, ?_⟩
  have := reps_append (rs.mono (Ex.refl _) _ _ _ fun a pa => kp a (by rw [fa_at]; omega)) (MReps.cons (r.mono (Ex.refl _) _ _ _ fun a pa => kp a (by rw [fa_at]; omega)) .nil)
  rw [fa0] at this
  exact this
theorem lcP_core {I : EvI} {W : EvW} {T : EvB} {A : EvE} {σ : L2.St} {H : Hp} {Q : VK} (h : tE (cOf X ct) pa (zLcP I W T A own) σ H Q) : tLc (iZ (cOf X ct) pa I) (tW (cOf X ct) own W) (tBo (cOf X ct) true T) (tE (cOf X ct) true A) own σ H Q := by
  obtain ⟨F0, ρ0, t0, m, ρ', w0, en0, e, k⟩ := h
  simp only [zLcP, Option.bind_eq_some_iff, Option.map_eq_some_iff, Prod.mk.injEq] at e
  obtain ⟨⟨ds, ρ1⟩, e1, me, e2, rfl, rfl⟩ := e
  refine ⟨F0, ρ0, t0, ds, ρ1, w0, en0, e1, fun F1 H1 t1 J af jd D hD => ?_⟩
  have s0 : Step F0 H t0 F1 H1 t1 := by have := af.st; rw [fa0] at this; exact this
  obtain ⟨tw, enw, lw⟩ := af.en.wipe own
  -- the rest of what is owned
  obtain ⟨c, hc⟩ : ∃ c : Fp, t1 = fa tw c := ⟨fun a => t1 a - tw a, by funext a; have := lw a; simp only [fa_at]; omega⟩
  refine ⟨fun i m H => i ≤ ds.length ∧ m = ds.length - i ∧ ∃ F ms vs f, Step F1 H1 t1 F H (fa t1 (fa (f1 D) f)) ∧ Ex H1 H ∧ H D = some (.lst vs) ∧ MReps (cOf X ct) F H vs ms f ∧ lcP W T A (wipeE ρ1 own) (ds.drop i) ms = some me, ⟨ds.length, Nat.zero_le _, rfl, F1, [], [], f0, ?_, Ex.new hD, upd_same, .nil, e2⟩, ?_⟩
  · rw [fa0]
    have := Step.new (o := .lst []) af.wf hD
    rw [fa_comm] at this
    exact this
  rintro i m H2 ⟨hi, rfl, F2, ms, vs, f, st2, ex2, hDv, rs, e3⟩
  obtain ⟨j1, j2⟩ := jd F2 H2 _ st2.ex st2.wf
  by_cases hlt : i < ds.length
  · refine .inr ?_
    obtain ⟨g1, g2⟩ := j2 i _ (List.getElem?_eq_getElem hlt)
    rw [List.drop_eq_getElem_cons hlt] at e3
    simp only [lcP, Option.bind_eq_some_iff] at e3
    obtain ⟨ρ2, e4, ⟨b, ρ3⟩, e5, e6⟩ := e3
    refine ⟨g1, fun H' => ∃ F ms vs f, Step F1 H1 t1 F H' (fa t1 (fa (f1 D) f)) ∧ Ex H1 H' ∧ H' D = some (.lst vs) ∧ MReps (cOf X ct) F H' vs ms f ∧ lcP W T A (wipeE ρ1 own) (ds.drop (i + 1)) ms = some me, fun H' q => ⟨_, by omega, hlt, rfl, q⟩, fun x H3 y => ?_⟩
    obtain ⟨F3, st3, exH3, _, hx⟩ := g2 x H3 y
    have st13 := st2.trans st3
    have ex13 : Ex H1 H3 := ex2.trans exH3
    have enh : EnvR (cOf X ct) F3 H3 (wipe σ own) (wipeE ρ1 own) tw := enw.mono st13.ex fun a pa => by
      obtain ⟨o, ho⟩ := enw.dom a pa
      rw [ho]; exact ex13 a o ho
    refine ⟨F3, wipeE ρ1 own, tw, ds[i], ρ2, enh, hx, st3.wf.sub, e4, fun σ2 en2 l2 z2 => ⟨wipe_same (by rw [z2, wipe_length]) l2, ?_⟩⟩
    have eT : fa t1 (fa (f1 D) f) = fa tw (fa c (fa (f1 D) f)) := by rw [hc, fa_assoc]
    have w3 : Wf F3 H3 (fa tw (fa c (fa (f1 D) f))) := by rw [← eT]; exact st3.wf
    refine ⟨F3, ρ2, tw, b, ρ3, w3.le fun a => by rw [fa_at]; omega, en2, e5, fun F4 H4 t4 a4 => ?_⟩
    obtain ⟨z1, rfl, rfl⟩ := a4.pu rfl
    have s4 : Step F3 H3 t4 F4 H4 t4 := by have := a4.st; rw [fa0] at this; exact this
    have s4f := s4.frame w3
    have kp4 := s4.kept w3
    have st14 : Step F1 H1 t1 F4 H4 (fa t4 (fa c (fa (f1 D) f))) := (eT ▸ st13).trans s4f
    have hD4 : H4 D = some (.lst vs) := z1 _ _ (exH3 _ _ hDv)
    have rs4 : MReps (cOf X ct) F4 H4 vs ms f := rs.mono (st3.ex.trans s4.ex) _ _ _ fun a pa => by
      obtain ⟨o, ho⟩ := rs.dom _ _ _ a pa
      rw [ho]; exact z1 _ _ (exH3 _ _ ho)
    cases b with
    | false =>
      exact ⟨F4, ms, vs, f, by rw [eT]; exact st14, ex13.trans z1, hD4, rs4, e6⟩
    | true =>
      simp only [if_true, Option.bind_eq_some_iff] at e6
      obtain ⟨⟨m, ρ5⟩, e7, e8⟩ := e6
      dsimp only at e8
      split at e8
      case isFalse => cases e8
      rename_i hz
      refine ⟨F4, ρ3, t4, m, ρ5, s4.wf, a4.en, e7, fun F5 H5 v g t5 a5 r5 => ?_⟩
      obtain ⟨z3, rfl, rfl⟩ := a5.pu rfl
      have s5f := a5.st.frame s4f.wf
      have kp5 := a5.st.kept s4f.wf
      have hD5 : H5 D = some (.lst vs) := z3 _ _ hD4
      have rs5 : MReps (cOf X ct) F5 H5 vs ms f := rs4.mono a5.st.ex _ _ _ fun a pa => kp5 a (by simp only [fa_at]; omega)
      have e5T : fa (fa t5 g) (fa c (fa (f1 D) f)) = fa (fa t1 (fa (f1 D) f)) g := by rw [hc]; funext a; simp only [fa_at]; omega
      have w5 : Wf F5 H5 (fa (fa t1 (fa (f1 D) f)) g) := by rw [← e5T]; exact s5f.wf
      obtain ⟨s6, rs6⟩ := app_step w5 rs5 r5
      refine ⟨vs, hD5, by rw [reps_length rs]; exact hz, F5, ms ++ [m], vs ++ [v], fa f g, ?_, ?_, upd_same, rs6, e8⟩
      · exact (st14.trans (e5T ▸ s5f)).trans s6
      · intro a o ho
        have hne : a ≠ D := fun e => by subst e; rw [hD] at ho; cases ho
        rw [upd_ne hne]
        exact z3 _ _ (z1 _ _ (ex13 _ _ ho))
  · have ei : i = ds.length := by omega
    subst ei
    rw [List.drop_length] at e3
    cases e3
    refine .inl ⟨j1 _ (Nat.le_refl _), k F2 H2 _ (fa (f1 D) f) t1 ⟨s0.trans st2, af.en.mono st2.ex fun a pa => ?_, fun z => ?_⟩ (.lst hDv rs)⟩
    · obtain ⟨o, ho⟩ := af.en.dom a pa
      rw [ho]; exact ex2 a o ho
    · obtain ⟨z1, z2⟩ := af.pu z
      exact ⟨z1.trans ex2, z2⟩
end
end Z

set_option Elab.async false
set_option linter.all false
set_option maxRecDepth 100000
set_option maxHeartbeats 2000000
/-! Z22: comprehensions that change things; the rules. -/
namespace Z
open PySem L2 Evl PyProof.Rows

section
variable {X : Cx} {ct : Str → Option Addr} {e a b c elt iter tg : Expr} {es ifs : List Expr} {pos p spos : Pos} {pa pb pc : Bool} {x : Str} {own : List Nat} {lk : Nat → Bool}
theorem lcF_core {I : EvI} {W : EvW} {T : EvB} {A : EvE} {σ : L2.St} {H : Hp} {Q : VK} (h : tE (cOf X ct) false (zLcF I W T A own) σ H Q) : tLc (iZ (cOf X ct) pa I) (tW (cOf X ct) own W) (tBo (cOf X ct) pb T) (tE (cOf X ct) pc A) own σ H Q := by
  obtain ⟨F0, ρ0, t0, m, ρ', w0, en0, e, k⟩ := h
  simp only [zLcF, Option.bind_eq_some_iff, Option.map_eq_some_iff, Prod.mk.injEq] at e
  obtain ⟨⟨ds, ρ1⟩, e1, ⟨me, ρe⟩, e2, rfl, rfl⟩ := e
  refine ⟨F0, ρ0, t0, ds, ρ1, w0, en0, e1, fun F1 H1 t1 J af jd D hD => ?_⟩
  have s0 : Step F0 H t0 F1 H1 t1 := by have := af.st; rw [fa0] at this; exact this
  obtain ⟨tw, enw, lw⟩ := af.en.wipe own
  have hidw : ∀ ρ : Env, ∀ i ∈ own, i < (wipeE ρ own).length → (wipeE ρ own)[i]? = some none := fun ρ i hi hl => wipeE_none hi (by rw [wipeE_len] at hl; exact hl)
  refine ⟨fun i m H => i ≤ ds.length ∧ m = ds.length - i ∧ ∃ F ρ t ms vs f, Step F1 H1 t1 F H (fa t (fa (f1 D) f)) ∧ EnvR (cOf X ct) F H (wipe σ own) ρ t ∧ (∀ i ∈ own, i < ρ.length → ρ[i]? = some none) ∧ H D = some (.lst vs) ∧ MReps (cOf X ct) F H vs ms f ∧ lcF W T A own (ds.drop i) ms ρ = some (me, ρe), ⟨ds.length, Nat.zero_le _, rfl, F1, wipeE ρ1 own, tw, [], [], f0, ?_, ?_, hidw ρ1, upd_same, .nil, e2⟩, ?_⟩
  · rw [fa0]
    have := Step.new (o := .lst []) af.wf hD
    rw [fa_comm] at this
    exact this.le fun a => by have := lw a; simp only [fa_at]; omega
  · exact enw.mono (Ex.refl _) fun a pa => by
      obtain ⟨o, ho⟩ := enw.dom a pa
      exact upd_ne (ne_of_none ho hD)
  rintro i m H2 ⟨hi, rfl, F2, ρ2, t2, ms, vs, f, st2, en2, hid2, hDv, rs, e3⟩
  obtain ⟨j1, j2⟩ := jd F2 H2 _ st2.ex st2.wf
  by_cases hlt : i < ds.length
  · refine .inr ?_
    obtain ⟨g1, g2⟩ := j2 i _ (List.getElem?_eq_getElem hlt)
    rw [List.drop_eq_getElem_cons hlt] at e3
    simp only [lcF, Option.bind_eq_some_iff] at e3
    obtain ⟨ρ3, e4, ⟨b, ρ4⟩, e5, e6⟩ := e3
    refine ⟨g1, fun H' => ∃ F ρ t ms vs f, Step F1 H1 t1 F H' (fa t (fa (f1 D) f)) ∧ EnvR (cOf X ct) F H' (wipe σ own) ρ t ∧ (∀ i ∈ own, i < ρ.length → ρ[i]? = some none) ∧ H' D = some (.lst vs) ∧ MReps (cOf X ct) F H' vs ms f ∧ lcF W T A own (ds.drop (i + 1)) ms ρ = some (me, ρe), fun H' q => ⟨_, by omega, hlt, rfl, q⟩, fun x H3 y => ?_⟩
    obtain ⟨F3, st3, exH3, _, hx⟩ := g2 x H3 y
    have st13 := st2.trans st3
    have en3 : EnvR (cOf X ct) F3 H3 (wipe σ own) ρ2 t2 := en2.mono st3.ex fun a pa => by
      obtain ⟨o, ho⟩ := en2.dom a pa
      rw [ho]; exact exH3 a o ho
    have rs3 : MReps (cOf X ct) F3 H3 vs ms f := rs.mono st3.ex _ _ _ fun a pa => by
      obtain ⟨o, ho⟩ := rs.dom _ _ _ a pa
      rw [ho]; exact exH3 a o ho
    have hD3 : H3 D = some (.lst vs) := exH3 _ _ hDv
    refine ⟨F3, ρ2, t2, ds[i], ρ3, en3, hx, st3.wf.sub, e4, fun σ2 enσ l2 z2 => ?_⟩
    have hw : wipe σ2 own = wipe σ own := wipe_same (by rw [z2, wipe_length]) l2
    refine ⟨hw, ?_⟩
    refine ⟨F3, ρ3, t2, b, ρ4, st3.wf.le fun a => by rw [fa_at]; omega, enσ, e5, fun F4 H4 t4 a4 => ?_⟩
    have s4 : Step F3 H3 t2 F4 H4 t4 := by have := a4.st; rw [fa0] at this; exact this
    have s4f := s4.frame st3.wf
    have kp4 := s4.kept st3.wf
    have st14 := st13.trans s4f
    have hD4 : H4 D = some (.lst vs) := (kp4 D (by simp only [fa_at, f1_self]; omega)).trans hD3
    have rs4 : MReps (cOf X ct) F4 H4 vs ms f := rs3.mono s4.ex _ _ _ fun a pa => kp4 a (by simp only [fa_at]; omega)
    cases b with
    | false =>
      obtain ⟨t5, en5, l5⟩ := a4.en.wipe own
      rw [hw] at en5
      exact ⟨F4, wipeE ρ4 own, t5, ms, vs, f, st14.le fun a => by have := l5 a; simp only [fa_at]; omega, en5, hidw ρ4, hD4, rs4, e6⟩
    | true =>
      simp only [if_true, Option.bind_eq_some_iff] at e6
      obtain ⟨⟨m, ρ5⟩, e7, e8⟩ := e6
      dsimp only at e8
      split at e8
      case isFalse => cases e8
      rename_i hz
      refine ⟨F4, ρ4, t4, m, ρ5, s4.wf, a4.en, e7, fun F5 H5 v g t5 a5 r5 => ?_⟩
      have s5f := a5.st.frame s4f.wf
      have kp5 := a5.st.kept s4f.wf
      have hD5 : H5 D = some (.lst vs) := (kp5 D (by simp only [fa_at, f1_self]; omega)).trans hD4
      have rs5 : MReps (cOf X ct) F5 H5 vs ms f := rs4.mono a5.st.ex _ _ _ fun a pa => kp5 a (by simp only [fa_at]; omega)
      have e5T : fa (fa t5 g) (fa (f1 D) f) = fa (fa t5 (fa (f1 D) f)) g := by funext a; simp only [fa_at]; omega
      have w5 : Wf F5 H5 (fa (fa t5 (fa (f1 D) f)) g) := by rw [← e5T]; exact s5f.wf
      obtain ⟨s6, rs6⟩ := app_step w5 rs5 r5
      obtain ⟨t6, en6, l6⟩ := a5.en.wipe own
      rw [hw] at en6
      have nD : t5 D = 0 := by have := w5.one D; simp only [fa_at, f1_self] at this; omega
      refine ⟨vs, hD5, by rw [reps_length rs]; exact hz, F5, wipeE ρ5 own, t6, ms ++ [m], vs ++ [v], fa f g, ?_, ?_, hidw ρ5, upd_same, rs6, e8⟩
      · exact ((st14.trans (e5T ▸ s5f)).trans s6).le fun a => by have := l6 a; simp only [fa_at]; omega
      · exact en6.mono (Ex.refl _) fun a pa => upd_ne fun e => by
          subst e
          have := l6 a
          omega
  · have ei : i = ds.length := by omega
    subst ei
    rw [List.drop_length] at e3
    cases e3
    exact .inl ⟨j1 _ (Nat.le_refl _), k F2 H2 _ (fa (f1 D) f) t2 ⟨s0.trans st2, en2.unwipe hid2, fun z => by cases z⟩ (.lst hDv rs)⟩
abbrev BlkW (X : Cx) (ct : Str → Option Addr) (scope : Scope) (own : List Nat) (tg : Expr) (W : EvW) : Prop := ∀ (s : Shared) (H : Hp) (C : Addr) (cl : List (Str × Addr)) (fp : List Addr), PW1 (cOf (X.blk s H scope (compEnvC scope cl C X.env) fp) ct) (X.blk s H scope (compEnvC scope cl C X.env) fp) own tg W
abbrev BlkT (X : Cx) (ct : Str → Option Addr) (scope : Scope) (ifs : List Expr) (pu : Bool) (T : EvB) : Prop := ∀ (s : Shared) (H : Hp) (C : Addr) (cl : List (Str × Addr)) (fp : List Addr), PZts (cOf (X.blk s H scope (compEnvC scope cl C X.env) fp) ct) (X.blk s H scope (compEnvC scope cl C X.env) fp) ifs pu T
abbrev BlkE (X : Cx) (ct : Str → Option Addr) (scope : Scope) (e : Expr) (pu : Bool) (A : EvE) : Prop := ∀ (s : Shared) (H : Hp) (C : Addr) (cl : List (Str × Addr)) (fp : List Addr), PZ (cOf (X.blk s H scope (compEnvC scope cl C X.env) fp) ct) (X.blk s H scope (compEnvC scope cl C X.env) fp) e pu A
variable {scope : Scope} {ow : List (Str × Nat)} {I : EvI} {W : EvW} {T : EvB} {A : EvE} {j : Nat} {y : Str} {py : Pos}
theorem pz_lcP (hc : X.calm = true) (hN : X.N.Nodup) (hi : PIZ (cOf X ct) X tg iter pa I) (ok : BlkOk X.N X.env.scope scope ow) (hg : BlkW X ct scope (ow.map (·.2)) tg W) (ht : BlkT X ct scope ifs true T) (he : BlkE X ct scope elt true A) (hs : ∀ x, foldedSetIterable iter X.env x = pure x) :
    PZ (cOf X ct) X (.ListComp elt [⟨tg, iter, ifs, 0⟩] scope pos) pa (zLcP I W T A (ow.map (·.2))) :=
  PE.imp (pe_lc hc hN hi ok hg ht he hs) fun σ H Q h => lcP_core h
theorem pz_lcF (hc : X.calm = true) (hN : X.N.Nodup) (hi : PIZ (cOf X ct) X tg iter pa I) (ok : BlkOk X.N X.env.scope scope ow) (hg : BlkW X ct scope (ow.map (·.2)) tg W) (ht : BlkT X ct scope ifs pb T) (he : BlkE X ct scope elt pc A) (hs : ∀ x, foldedSetIterable iter X.env x = pure x) :
    PZ (cOf X ct) X (.ListComp elt [⟨tg, iter, ifs, 0⟩] scope pos) false (zLcF I W T A (ow.map (·.2))) :=
  PE.imp (pe_lc hc hN hi ok hg ht he hs) fun σ H Q h => lcF_core h
theorem set_name {C : Ct} {σ : L2.St} {F H : Hp} {t g : Fp} {ρ ρ' : Env} {m : M} {v : V} {D : Ends} (w : Wf F H (fa t g)) (en : EnvR C F H σ ρ t) (r : MRep C F H v m g) (e : wName lk j m ρ = some ρ')
    (k : ∀ F' H' σ' t', Step F H (fa t g) F' H' t' → EnvR C F' H' σ' ρ' t' → Lk lk σ σ' → D.nx σ' H') : gName j v σ H D.nx := by
  simp only [wName] at e
  split at e
  · cases e
  · rename_i hl
    split at e
    case isFalse => cases e
    rename_i hlt
    cases e
    obtain ⟨t3, h1, h2⟩ := en.set hlt r
    refine k F H _ (fa g t3) ?_ h1 (Lk.set (by simpa using hl))
    exact (Step.refl w).le fun a => by have := h2 a; simp only [fa_at]; omega
theorem asg_tE {pu : Bool} {A : EvE} {D : Ends} {σ : L2.St} {H : Hp} (h : tSt (cOf X ct) lk (sAsg A (wName lk j)) D σ H) : tE (cOf X ct) pu A σ H fun v H1 => gName j v σ H1 D.nx := by
  obtain ⟨F, ρ, t, m, ρ1, w, en, e1, q⟩ := asg_core (pa := pu) h
  refine ⟨F, ρ, t, m, ρ1, w, en, e1, fun F' H' v g t' af rr => ?_⟩
  obtain ⟨F2, r2, t2, m2, g2, ρ2, w2, en2, rr2, e2, k⟩ := q F' H' v g t' af rr
  exact set_name w2 en2 rr2 e2 k
theorem ps_setLcP (hc : X.calm = true) (hN : X.N.Nodup) (hy : X.N[j]? = some y) (hyl : X.env.scope.names.lookup y = some .local) (hsw : swapsWith (.ListComp elt [⟨tg, iter, ifs, 0⟩] scope pos) (some (.Name y py)) spos.line X.env = pure true)
    (hi : PIZ (cOf X ct) X tg iter pa I) (ok : BlkOk X.N X.env.scope scope ow) (hg : BlkW X ct scope (ow.map (·.2)) tg W) (ht : BlkT X ct scope ifs true T) (he : BlkE X ct scope elt true A) (hs : ∀ x, foldedSetIterable iter X.env x = pure x) :
    PSZ (cOf X ct) X lk (.Assign [.Name y py] (.ListComp elt [⟨tg, iter, ifs, 0⟩] scope pos) spos) (sAsg (zLcP I W T A (ow.map (·.2))) (wName lk j)) :=
  PS.imp (ps_setLc hc hN hy hyl hsw hi ok hg ht he hs) fun D σ H h => lcP_core (asg_tE (pu := pa) h)
theorem ps_setLcF (hc : X.calm = true) (hN : X.N.Nodup) (hy : X.N[j]? = some y) (hyl : X.env.scope.names.lookup y = some .local) (hsw : swapsWith (.ListComp elt [⟨tg, iter, ifs, 0⟩] scope pos) (some (.Name y py)) spos.line X.env = pure true)
    (hi : PIZ (cOf X ct) X tg iter pa I) (ok : BlkOk X.N X.env.scope scope ow) (hg : BlkW X ct scope (ow.map (·.2)) tg W) (ht : BlkT X ct scope ifs pb T) (he : BlkE X ct scope elt pc A) (hs : ∀ x, foldedSetIterable iter X.env x = pure x) :
    PSZ (cOf X ct) X lk (.Assign [.Name y py] (.ListComp elt [⟨tg, iter, ifs, 0⟩] scope pos) spos) (sAsg (zLcF I W T A (ow.map (·.2))) (wName lk j)) :=
  PS.imp (ps_setLc hc hN hy hyl hsw hi ok hg ht he hs) fun D σ H h => lcF_core (asg_tE (pu := false) h)
end
end Z

set_option Elab.async false
set_option linter.all false
set_option maxRecDepth 100000
set_option maxHeartbeats 2000000
/-! Z23: dict displays. -/
namespace Z
open PySem L2 Evl PyProof.Rows

def zDict0 (t : Bool) : EvE := fun ρ => some (.dct t [], ρ)
def zDict1 (t : Bool) (K : EvO) (V : EvE) : EvE := fun ρ => (K ρ).bind fun (d, p, ρ1) => if p then (V ρ1).bind fun (m, ρ2) => if kok t d = true then some (.dct t [(d, m)], ρ2) else none else none
section
variable {X : Cx} {ct : Str → Option Addr} {e a b c : Expr} {es : List Expr} {pos p : Pos} {pa pb pc : Bool}
theorem ext_ok {C : Ct} {P : Program} {w : World} {H : Hp} {h : Heap} {a : Addr} {xs : List (NestedKey × Addr × Value)} (hr : rawT C a xs h) : ObjOk P w H h a (hoT C a xs) := by
  obtain ⟨o, es, ep, e1, e2, e3, e4⟩ := id hr
  refine ⟨hr, ⟨o, e1⟩, fun h1 h2 q1 q2 => ?_⟩
  obtain ⟨o2, es2, ep2, y1, y2, y3, y4⟩ := q1
  exact ⟨o2, es2, ep2, q2 o2 y1, y2, y3, y4⟩
def tDisT (C : Ct) (tk tv : TE) : TE := fun σ H Q => ∀ p, H p = none → (p == sysModules) = false → tk σ (upd H p (hoT C p [])) fun x H1 => tv σ H1 fun y H2 => H2 p = some (hoT C p []) ∧ ∃ F d k b, Ex F H2 ∧ x = .ref b ∧ Dp C.K F x d ∧ nkey d = some k ∧ k.depth ≤ 8 ∧ ∀ u, RelV y u → Q (.ref p) (upd H2 p (hoT C p [(k, b, u)]))
theorem pe_disT (hu : X.A.units + 150 < cLine) {tk tv : TE} (ha : PE X a tk) (hb : PE X b tv) : PE X (.Dict [some a] [b] pos) (tDisT (cOf X ct) tk tv) := by
  refine ⟨fun pins s σ H Q I q => ?_⟩
  have hn := I.hok.fresh (Nat.le_refl s.heap.objs.size)
  have raw0 : rawT (cOf X ct) s.heap.objs.size [] (s.heap.push { cls := .type "dict", data := .dict #[] }) := ⟨_, #[], 0, Heap.get?_push_size _ rfl, ⟨rfl, rfl, rfl⟩, rfl, rfl⟩
  have I1 := I.laid (a := s.heap.objs.size) (o := hoT (cOf X ct) s.heap.objs.size []) (h' := s.heap.push { cls := .type "dict", data := .dict #[] }) (t' := s.toks) (fun _ _ q => Heap.get?_push_of_some _ q) (Nat.le_refl _) (ext_ok raw0)
  refine wpAny_Dict_any (by rfl) (by rfl) (by simp) (by simp) ?_
  refine pairTrees_cons_walk (thn (ha.run pins _ σ _ _ I1 (q _ hn (beq_eq_false_iff_ne.mpr (Nat.ne_of_gt I.big)))) fun u s1 ⟨x, H1, I2, rx, q1⟩ => thn (hb.run pins s1 σ H1 _ I2 q1) fun w2 s2 ⟨y, H2, I3, ry, hp, F, d, k, b', sub, ex, hd, hk, hdp, q2⟩ => pairTrees_nil_walk ?_)
  subst ex
  obtain rfl : u = Value.ref b' := rx
  have key : (nestedKind X.prog X.w).is s2.heap k b' := ⟨dp_nested I3 _ _ _ k (Dp.ex sub _ _ hd) rfl hk, hdp⟩
  have room : (nestedKind X.prog X.w).room X.A := by
    show X.A.units + 8 < cLine
    omega
  obtain ⟨⟨o, es, ep, e1, e2, e3, e4⟩, _⟩ := I3.hok _ _ hp
  have dd : s2.heap.DictOfH (nestedKind X.prog X.w) s.heap.objs.size [] := ⟨o, es, ep, e1, e2, e3, e4, (fun x hx => by cases hx), List.nodup_nil⟩
  show wpAny _ _ (forIn [(Value.ref b', w2)] PUnit.unit fun (x : Value × Value) (_ : PUnit) => (do dictSet s.heap.objs.size x.1 x.2; pure (ForInStep.yield PUnit.unit) : Sem (ForInStep PUnit))) _ _ _
  rw [List.forIn_cons]
  refine wpAny_bind (wpAny_bind (wpAny_dictSet_heap room key dd (fun h' dd' sb => wpAny_pure ?_) (by simp)))
  show wpAny _ _ (forIn [] PUnit.unit _) _ _ _
  rw [List.forIn_nil]
  refine wpAny_pure ?_
  obtain ⟨o', es', ep', z1, z2, z3, z4, z5, z6⟩ := dd'
  have es1 : storedH ([] : List (NestedKey × Addr × Value)) k b' w2 = [(k, b', w2)] := by simp [storedH, atKey]
  rw [es1] at z4
  have raw1 : rawT (cOf X ct) s.heap.objs.size [(k, b', w2)] h' := ⟨o', es', ep', z1, z2, z3, z4⟩
  exact ⟨.ref s.heap.objs.size, _, d_write I3 (by rw [hp]; exact trivial) sb ⟨o', z1⟩ (ext_ok raw1), rfl, q2 w2 ry⟩
theorem pe_new0T : PE X (.Dict [] [] pos) (fun _ H Q => ∀ p, H p = none → (p == sysModules) = false → Q (.ref p) (upd H p (hoT (cOf X ct) p []))) := by
  refine ⟨fun pins s σ H Q I h => wpAny_Dict_empty ?_⟩
  have raw0 : rawT (cOf X ct) s.heap.objs.size [] (s.heap.push { cls := .type "dict", data := .dict #[] }) := ⟨_, #[], 0, Heap.get?_push_size _ rfl, ⟨rfl, rfl, rfl⟩, rfl, rfl⟩
  exact ⟨.ref s.heap.objs.size, _, I.laid (a := s.heap.objs.size) (t' := s.toks) (fun _ _ q => Heap.get?_push_of_some _ q) (Nat.le_refl _) (ext_ok raw0), rfl, h _ (I.hok.fresh (Nat.le_refl _)) (beq_eq_false_iff_ne.mpr (Nat.ne_of_gt I.big))⟩
theorem pz_dict0 {t : Bool} : PZ (cOf X ct) X (.Dict [] [] pos) true (zDict0 t) := by
  cases t with
  | false =>
    refine PE.imp pe_dnewK fun σ H Q ⟨F, ρ, t, m, ρ', w, en, e, k⟩ p hp => ?_
    cases e
    have := (Aft.refl (pu := true) w en).new (o := .dK []) hp
    exact k F _ _ (fa (f1 p) f0) t this (.dK (f := f0) upd_same List.nodup_nil .nil)
  | true =>
    refine PE.imp (pe_new0T (ct := ct)) fun σ H Q ⟨F, ρ, t, m, ρ', w, en, e, k⟩ p hp hs => ?_
    cases e
    have := (Aft.refl (pu := true) w en).new (o := hoT (cOf X ct) p []) hp
    exact k F _ _ (fa (f1 p) f0) t this (.dT (f := f0) upd_same hs List.nodup_nil .nil)
/-- the display's frame: p stands while key and value are reckoned -/
theorem dis_core {C : Ct} {o : HO} {K : EvO} {B : EvE} {σ : L2.St} {F H : Hp} {t : Fp} {ρ ρ1 ρ2 : Env} {d : PyData} {m : M} {p : Addr} {R : V → V → Hp → Prop} (w : Wf F H t) (en : EnvR C F H σ ρ t) (hp : H p = none) (e1 : K ρ = some (d, true, ρ1)) (e2 : B ρ1 = some (m, ρ2))
    (k : ∀ F2 H2 x y g t2, H2 p = some o → Ex F2 H2 → Dp C.K F2 x d → (∀ o2, Aft C (pa && pb) σ F H t ρ F2 (upd H2 p o2) t2 (fa (f1 p) g) ρ2 ∧ MRep C F2 (upd H2 p o2) y m g) → R x y H2) : tO C pa K σ (upd H p o) fun x H1 => tE C pb B σ H1 fun y H2 => R x y H2 := by
  have s0 := Step.new (o := o) w hp
  rw [fa_comm] at s0
  have en0 : EnvR C F (upd H p o) σ ρ t := en.mono (Ex.refl _) fun a pa => by
    obtain ⟨u, hu⟩ := en.dom a pa
    exact upd_ne (ne_of_none hu hp)
  refine ⟨F, ρ, t, d, true, ρ1, s0.wf.le fun a => by rw [fa_at]; omega, en0, e1, fun F1 H1 x t1 a1 _ p1 => ⟨F1, ρ1, t1, m, ρ2, a1.wf, a1.en, e2, fun F2 H2 y g t2 a2 r2 => ?_⟩⟩
  have sa1 : Step F (upd H p o) t F1 H1 t1 := by have := a1.st; rw [fa0] at this; exact this
  have f1' := sa1.frame s0.wf
  have k1 := sa1.kept s0.wf
  have f2' := a2.st.frame f1'.wf
  have k2 := a2.st.kept f1'.wf
  have hp2 : H2 p = some o := by rw [k2 p (by rw [f1_self]; omega), k1 p (by rw [f1_self]; omega), upd_same]
  have st := (s0.trans f1').trans f2'
  refine k F2 H2 x y g t2 hp2 st.wf.sub (Dp.ex a2.st.ex _ _ (p1 rfl)) fun o2 => ?_
  have w2 : Wf F2 H2 (fa (fa t2 g) (f1 p)) := st.wf
  have sw := Step.write (o := o2) w2 (by rw [fa_at, f1_self]; omega)
  have kp : ∀ a, 0 < (fa t2 g) a → upd H2 p o2 a = H2 a := fun a pa => upd_ne fun e => by
    subst e
    have := w2.one a
    rw [fa_at, f1_self] at this
    omega
  refine ⟨⟨(st.trans sw).le fun a => by simp only [fa_at]; omega, a2.en.mono (Ex.refl _) fun a pa => kp a (by rw [fa_at]; omega), fun z => ?_⟩, r2.mono (Ex.refl _) _ _ _ fun a pa => kp a (by rw [fa_at]; omega)⟩
  rw [Bool.and_eq_true] at z
  obtain ⟨z1, z2, z3⟩ := a1.pu z.1
  obtain ⟨z4, z5, z6⟩ := a2.pu z.2
  refine ⟨fun a u e => ?_, z5.trans z2, z6.trans z3⟩
  have hne := ne_of_none e hp
  rw [upd_ne hne]
  exact z4 _ _ (z1 _ _ (by rw [upd_ne hne]; exact e))
theorem pz_dict1 (hu : X.A.units + 150 < cLine) {t : Bool} {K : EvO} {B : EvE} (ha : PZo (cOf X ct) X a pa K) (hb : PZ (cOf X ct) X b pb B) : PZ (cOf X ct) X (.Dict [some a] [b] pos) (pa && pb) (zDict1 t K B) := by
  have un : ∀ {ρ : Env} {m : M} {ρ' : Env}, zDict1 t K B ρ = some (m, ρ') → ∃ d ρ1 n, K ρ = some (d, true, ρ1) ∧ B ρ1 = some (n, ρ') ∧ kok t d = true ∧ m = .dct t [(d, n)] := fun {ρ m ρ'} e => by
    simp only [zDict1, Option.bind_eq_some_iff] at e
    obtain ⟨⟨d, p, ρ1⟩, e1, e⟩ := e
    dsimp only at e
    split at e
    case isFalse => cases e
    rename_i hp
    subst hp
    simp only [Option.bind_eq_some_iff] at e
    obtain ⟨⟨n, ρ2⟩, e2, e⟩ := e
    dsimp only at e
    split at e
    case isFalse => cases e
    rename_i hk
    cases e
    exact ⟨d, ρ1, n, e1, e2, hk, rfl⟩
  cases t with
  | false =>
    refine PE.imp (pe_disp (pps_cons ha hb pps_nil) (by rfl) (by rfl) (by simp) (by show 1 ≤ 15; omega)) fun σ H Q ⟨F, ρ, t, m, ρ', w, en, e, k⟩ p hp => ?_
    obtain ⟨d, ρ1, n, e1, e2, hk, rfl⟩ := un e
    obtain ⟨kk, hk⟩ := kok_f hk
    refine dis_core (pa := pa) (pb := pb) w en hp e1 e2 fun F2 H2 x y g t2 h1 sub hd q => ⟨h1, [(kk, y)], ?_, (by show 1 ≤ 15; omega), ?_⟩
    · rw [fkey_dp hk hd]; rfl
    · obtain ⟨q1, q2⟩ := q (.dK [(kk, y)])
      have : MRepK (cOf X ct) F2 (upd H2 p (.dK [(kk, y)])) [(kk, y)] [(d, n)] (fa g f0) := .cons hk q2 .nil
      rw [fa0] at this
      exact k F2 _ _ _ t2 q1 (.dK upd_same (show ([kk] : List L2.Key).Nodup from List.nodup_cons.mpr ⟨List.not_mem_nil, List.nodup_nil⟩) this)
  | true =>
    refine PE.imp (pe_disT (ct := ct) hu ha hb) fun σ H Q ⟨F, ρ, t, m, ρ', w, en, e, k⟩ p hp hs => ?_
    obtain ⟨d, ρ1, n, e1, e2, hk, rfl⟩ := un e
    obtain ⟨ds, kk, rfl, hk, hdp⟩ := kok_t hk
    refine dis_core (pa := pa) (pb := pb) w en hp e1 e2 fun F2 H2 x y g t2 h1 sub hd q => ?_
    have hb : ∃ b, x = .ref b := by cases hd with | tup _ _ => exact ⟨_, rfl⟩
    obtain ⟨b', rfl⟩ := hb
    refine ⟨h1, F2, _, kk, b', sub, rfl, hd, hk, hdp, fun u ru => ?_⟩
    obtain ⟨q1, q2⟩ := q (hoT (cOf X ct) p [(kk, b', u)])
    have : MRepT (cOf X ct) F2 (upd H2 p (hoT (cOf X ct) p [(kk, b', u)])) [(kk, b', u)] [(.tuple ds, n)] (fa g f0) := .cons hk hdp hd ru q2 .nil
    rw [fa0] at this
    exact k F2 _ _ _ t2 q1 (.dT upd_same hs (by simp) this)
end
end Z

set_option Elab.async false
set_option linter.all false
set_option maxRecDepth 100000
set_option maxHeartbeats 2000000
/-! Z24: repeated rows, rows turned round, a dict against {}. -/
namespace Z
open PySem L2 Evl PyProof.Rows

section
variable {X : Cx} {ct : Str → Option Addr} {e a b c : Expr} {es : List Expr} {pos p p1 p2 p3 : Pos} {pa pb pc : Bool}
/-! ### a list times an int -/
def zRepL (A : EvE) (B : EvO) : EvE := fun ρ => (A ρ).bind fun (m, ρ1) => match m with
  | .lst ms => (vals ms).bind fun ds => (B ρ1).bind fun (d, _, ρ2) => match d with
    | .int k => if -(2 ^ 63) ≤ k ∧ k < 2 ^ 63 ∧ ds.length * k.toNat ≤ sizeLine then some (.lst ((List.replicate k.toNat ds).flatten.map .val), ρ2) else none
    | _ => none
  | _ => none
theorem rep_dp {K : PySem.W.Frag} {F : Hp} {ds : List PyData} {vs : List V} (h : DpAll K F vs ds) : ∀ n : Nat, DpAll K F (List.replicate n vs).flatten (List.replicate n ds).flatten
  | 0 => .nil
  | n + 1 => by
    rw [List.replicate_succ, List.replicate_succ, List.flatten_cons, List.flatten_cons]
    exact dp_append h (rep_dp h n)
theorem pz_repL {A : EvE} {B : EvO} (ha : PZ (cOf X ct) X a pa A) (hb : PZo (cOf X ct) X b true B) : PZ (cOf X ct) X (.BinOp a .Mult b pos) pa (zRepL A B) := by
  refine PE.imp (pe_op op_rep ha hb) fun σ H Q ⟨F, ρ, t, m, ρ', w, en, e, k⟩ => ?_
  simp only [zRepL, Option.bind_eq_some_iff] at e
  obtain ⟨⟨m0, ρ1⟩, e1, e⟩ := e
  cases m0 with
  | lst ms =>
    simp only [Option.bind_eq_some_iff] at e
    obtain ⟨ds, e2, ⟨d, pp, ρ2⟩, e3, e⟩ := e
    cases d <;> first | (cases e; done) | skip
    rename_i n
    dsimp only at e
    split at e
    case isFalse => cases e
    rename_i hn
    cases e
    refine ⟨F, ρ, t, _, ρ1, w, en, e1, fun F1 H1 v g t1 a1 r1 => ⟨F1, ρ1, t1, _, pp, _, a1.wf, a1.en, e3, fun F2 H2 y t2 a2 s2 _ => ?_⟩⟩
    obtain ⟨z1, z2, z3⟩ := a2.pu rfl
    obtain rfl := vals_eq e2
    cases r1 with
    | @lst _ l vs _ f h1 h2 =>
      obtain ⟨h3, rfl⟩ := reps_vals h2
      have a12 := a1.trans a2
      have a12d : Aft (cOf X ct) pa σ F H t ρ F2 H2 t2 f0 ρ' := by
        have := a12.drop
        rw [Bool.and_true] at this
        exact this
      refine ⟨l, n, vs, rfl, sh_int s2, z1 _ _ h1, hn.1, hn.2.1, by rw [dp_length h3]; exact hn.2.2, fun p hp => ?_⟩
      exact q_lst (C := cOf X ct) a12d.wf hp (rep_dp (DpAll.ex a2.st.ex _ _ h3) n.toNat) fun F' H' v g st ex r => k F' H' v g t2 (a12d.act st ex) r
  | val _ => cases e
  | tup _ => cases e
  | dct _ _ => cases e
  | ins _ _ => cases e
  | fz _ => cases e

/-! ### a tuple times an int -/
def rTimes (C : Ct) : R2 := fun x y H Q => ∃ F l k xs, x = .ref l ∧ y = .int k ∧ Ex F H ∧ SqT C.K H l xs ∧ xs ≠ [] ∧ 2 ≤ k ∧ ((xs.length : Nat) : Int) * k ≤ 1000000 ∧ ∀ p, H p = none → Q (.ref p) (upd H p (.tup (List.replicate k.toNat xs).flatten))
theorem op_times : OpR X (binaryOp .Mult) (rTimes (cOf X ct)) := by
  intro pins s σ H x y v u Q I rx ry h
  obtain ⟨F0, l, k, xs, rfl, rfl, sub, hT, hne, h1, h2, q⟩ := h
  cases rx
  obtain ⟨t, rfl⟩ := ry
  obtain ⟨its, r, ⟨⟨cls, dd, data, sl⟩, ho, hc, n, hd⟩, hs⟩ := I.tuple hT
  simp only at hc hd
  subst hc hd
  have hlen : its.length = xs.length := r.length.symm
  have hx1 : 1 ≤ xs.length := by
    cases xs with
    | nil => exact absurd rfl hne
    | cons _ _ => simp
  have hk2 : k ≤ 1000000 := by
    have : (1 : Int) * k ≤ ((xs.length : Nat) : Int) * k := Int.mul_le_mul_of_nonneg_right (by omega) (by omega)
    omega
  have emp : its.toArray.isEmpty = false := by
    cases its with
    | nil => simp at hlen; omega
    | cons _ _ => rfl
  have sz : its.toArray.size = xs.length := by rw [List.size_toArray, hlen]
  have bound : (List.replicate k.toNat xs).flatten.length ≤ 1000000 := by
    rw [PyProof.Rows.lm_len_rep_flat]
    have e1 : ((k.toNat * xs.length : Nat) : Int) = ((xs.length : Nat) : Int) * k := by
      rw [Int.natCast_mul, Int.toNat_of_nonneg (by omega), Int.mul_comm]
    omega
  have bound2 : (List.replicate k.toNat its).flatten.length ≤ sizeLine := by
    rw [PyProof.Rows.lm_len_rep_flat, hlen, sizeLine_eq]
    rw [PyProof.Rows.lm_len_rep_flat] at bound
    omega
  have c0 : (decide (k < -(2 ^ 63)) || decide (k ≥ 2 ^ 63)) = false := by simp; omega
  have c1 : (its.toArray.isEmpty || k == 1) = false := by rw [emp, Bool.false_or]; exact beq_eq_false_iff_ne.mpr (by omega)
  have c2 : (decide (k ≤ 0) || its.toArray.isEmpty) = false := by rw [emp, Bool.or_false]; exact decide_eq_false (by omega)
  have c4 : Builtin.Tuple.tupleTooMany (((its.toArray.size : Nat) : Int) * k) = false := by
    unfold Builtin.Tuple.tupleTooMany
    rw [sizeLine_eq, sz]
    exact decide_eq_false (by omega)
  have road := tuple_mulW l its.toArray n dd sl k t c0 c1 c2 (by rw [sz]; omega) c4 (by rw [size_rep, List.size_toArray]; exact bound2)
  refine wpAny_binaryOp_repeat_ref (T := "tuple") (U := "int") (by decide) ⟨_, ho, rfl⟩ (fun s' => typeIs_int s' k t) noFill_tuple_mul F.fills_int_mul F.slot_int_rmul repeat_tuple F.slot_int_index.lookup ?_
  refine call_meets F.slot_int_rmul (typeIs_int s k t) F.entry_int_rmul (F.args_int_rmul_2 _ _) (int_rmul_tuple k t l its.toArray n dd sl) ⟨ho, rfl, ⟨_, ho, rfl⟩, ?_⟩
  refine call_meets F.slot_tuple_mul ⟨_, ho, rfl⟩ F.entry_tuple_mul (F.args_tuple_mul_2 _ _) road ⟨ho, ?_⟩
  rw [size_rep]
  have new : ObjOk X.prog X.w (upd H s.heap.objs.size (.tup (List.replicate k.toNat xs).flatten)) (s.heap.push { cls := Value.type "tuple", data := Data.seq (List.replicate k.toNat its).flatten.toArray }) s.heap.objs.size (.tup (List.replicate k.toNat xs).flatten) :=
    ⟨by rw [sizeLine_eq]; omega, _, r.rep k.toNat, IsTup.new _ _⟩
  exact ⟨.ref s.heap.objs.size, _, I.laid (t' := s.toks) (fun b ob q => Heap.get?_push_of_some _ q) (Nat.le_refl _) new, rfl, q _ (I.hok.fresh (Nat.le_refl _))⟩
def zTimes (A B : EvO) (pb : Bool) : EvE := fun ρ => (A ρ).bind fun (d, p, ρ1) => if p || pb then (B ρ1).bind fun (e, _, ρ2) => match d, e with
  | .tuple ds, .int k => if ds ≠ [] ∧ 2 ≤ k ∧ ((ds.length : Nat) : Int) * k ≤ 1000000 then some (.val (.tuple (List.replicate k.toNat ds).flatten), ρ2) else none
  | _, _ => none else none
theorem pz_times {A B : EvO} (ha : PZo (cOf X ct) X a pa A) (hb : PZo (cOf X ct) X b pb B) : PZ (cOf X ct) X (.BinOp a .Mult b pos) (pa && pb) (zTimes A B pb) := by
  refine PE.imp (pe_op (op_times (ct := ct)) ha hb) fun σ H Q ⟨F, ρ, t, m, ρ', w, en, e, k⟩ => ?_
  simp only [zTimes, Option.bind_eq_some_iff] at e
  obtain ⟨⟨d, p, ρ1⟩, e1, e⟩ := e
  dsimp only at e
  split at e
  case isFalse => cases e
  rename_i hp
  simp only [Option.bind_eq_some_iff] at e
  obtain ⟨⟨d2, p2, ρ2⟩, e2, e⟩ := e
  dsimp only at e
  split at e
  case h_2 => cases e
  rename_i ds n
  split at e
  case isFalse => cases e
  rename_i hn
  cases e
  refine o2 w en e1 hp e2 fun F' H' x y t' af s1 s2 _ _ => ?_
  obtain ⟨l, vs, rfl, h1, h2⟩ := s1.tup af.wf.sub
  refine ⟨F', l, n, vs, rfl, sh_int s2, af.wf.sub, h1, fun z => hn.1 (by subst z; exact dp_nil h2), hn.2.1, by rw [dp_length h2]; exact hn.2.2, fun p hp => ?_⟩
  exact q_tup (C := cOf X ct) af.wf hp (rep_dp h2 n.toNat) fun F'' H'' v g st ex r => k F'' H'' v g t' (af.act st ex) r

/-! ### xs[::-1] -/
def zRevL (A : EvO) : EvE := fun ρ => (A ρ).bind fun (d, _, ρ1) => match d with
  | .list ds => some (.lst (ds.reverse.map .val), ρ1)
  | _ => none
theorem pz_revL {A : EvO} {k : Nat} (ha : PZo (cOf X ct) X a pa A) : PZ (cOf X ct) X (.Subscript a (.Slice none none (some (.UnaryOp .USub (.Constant (.int 1) k p1) p2)) p3) pos) pa (zRevL A) := by
  refine PE.imp (pe_revL ha) fun σ H Q ⟨F, ρ, t, m, ρ', w, en, e, k⟩ => ?_
  simp only [zRevL, Option.bind_eq_some_iff] at e
  obtain ⟨⟨d, p, ρ1⟩, e1, e⟩ := e
  dsimp only at e
  split at e
  case h_2 => cases e
  rename_i ds
  cases e
  refine ⟨F, ρ, t, _, p, _, w, en, e1, fun F' H' v t' af sh _ => ?_⟩
  obtain ⟨l, vs, rfl, h1, h2⟩ := sh.list af.wf.sub
  exact ⟨l, vs, rfl, h1, fun p hp => q_lst (C := cOf X ct) af.wf hp (dp_reverse h2) fun F'' H'' v g st ex r => k F'' H'' v g t' (af.act st ex) r⟩

/-! ### d == {} -/
def RawN (s : Shared) (a : Addr) (n : Nat) : Prop := (a == sysModules) = false ∧ ∃ o es ep, s.heap.get? a = some o ∧ o.ExactDict ∧ o.data = .dict es ep ∧ es.size = n
theorem eq_empty {prog : Program} {w : World} {A : Around} {E Q : Value → Shared → Prop} {s : Shared} {a b : Addr} {n : Nat} (da : RawN s a n) (db : RawN s b 0) (hu : A.units < cLine) (h : Q (.bool (n == 0)) s) : wpAny (model prog w) A (richCompare .Eq (.ref a) (.ref b)) Q E s := by
  obtain ⟨ha, oa, es, ep, g1, x1, d1, z1⟩ := da
  obtain ⟨hb, ob, es', ep', g2, x2, d2, z2⟩ := db
  have ta : s.TypeIs (.ref a) "dict" := ⟨oa, g1, x1.1⟩
  have tb : s.TypeIs (.ref b) "dict" := ⟨ob, g2, x2.1⟩
  refine wpAny_richCompare_same_room (op := .Eq) ta tb PySem.F.slot_dict_eq (wpAny_call_entry PySem.F.slot_dict_eq ta PySem.F.entry_dict_eq ?_ (PySem.F.args_dict_eq_2 _ _)) hu
  show wpAny _ _ (Builtin.Dict.dictSlotArgs "__eq__" ⟨[.ref a, .ref b], []⟩ >>= _) _ _ s
  refine wpAny_bind ?_
  unfold Builtin.Dict.dictSlotArgs
  refine wpAny_bind (wpAny_notOrdered_dict ta ?_)
  show wpAny _ _ (pure (Value.ref a, Value.ref b)) _ _ s
  refine wpAny_pure (wpAny_bind (wpAny_isInstance (T := "dict") tb PySem.F.sub_dict_dict ?_))
  simp only [Bool.not_true, Bool.false_eq_true, if_false]
  refine wpAny_bind (wpAny_pure (wpAny_bind (wpAny_pure (wpAny_bind ?_))))
  unfold Builtin.Dict.samePairs Builtin.Dict.showsAll
  rw [if_neg (by rw [ha]; exact Bool.false_ne_true), if_neg (by rw [hb]; exact Bool.false_ne_true)]
  refine wpAny_bind (wpAny_pure (wpAny_bind (wpAny_pure (wpAny_bind (wpAny_dictEntries g1 d1 ?_)))))
  dsimp only
  refine wpAny_bind (wpAny_dictEntries g2 d2 ?_)
  rw [z1, z2]
  cases n with
  | zero =>
    rw [if_neg (by simp)]
    refine wpAny_bind (wpAny_dictEpoch g1 d1 ?_)
    refine wpAny_bind ?_
    rw [Std.Legacy.Range.forIn_eq_forIn_range']
    simp only [Std.Legacy.Range.size, Nat.sub_zero, Nat.add_sub_cancel, Nat.div_one]
    refine wpAny_pure (wpAny_pure (wpAny_pure ⟨_, rfl, ?_, ?_⟩))
    · exact fun x => nomatch x
    · simpa using h
  | succ n =>
    rw [if_pos (by simp)]
    refine wpAny_bind (wpAny_rule (wpAny_pure (wpAny_pure ⟨_, rfl, ?_, ?_⟩)))
    · exact fun x => nomatch x
    · simpa using h
end
end Z

set_option Elab.async false
set_option linter.all false
set_option maxRecDepth 100000
set_option maxHeartbeats 2000000
/-! Z25: defs. -/
namespace Z
open PySem L2 Evl PyProof.Rows

section
variable {C : Ct} {F H : Hp}
theorem env_pad : ∀ {σ : L2.St} {ρ : Env} {t : Fp} (n : Nat), EnvR C F H σ ρ t → EnvR C F H (σ ++ List.replicate n none) (ρ ++ List.replicate n none) t := by
  intro σ ρ t n h
  induction h with
  | nil =>
    induction n with
    | zero => exact .nil
    | succ n ih => exact .skip ih
  | skip _ ih => exact .skip ih
  | here r _ ih => exact .here r ih
def maskE (p : Nat → Bool) : Nat → Env → Env
  | 0, _ => []
  | n + 1, [] => none :: maskE (fun i => p (i + 1)) n []
  | n + 1, o :: ρ => (if p 0 = true then o else none) :: maskE (fun i => p (i + 1)) n ρ
theorem env_mask : ∀ {vs : List V} {p : Nat → Bool} {σ : L2.St} {ρ : Env} {t : Fp}, EnvR C F H σ ρ t → (∀ i v, vs[i]? = some v → p i = true → σ[i]? = some (some v)) → ∃ g, EnvR C F H (vs.map some) (maskE p vs.length ρ) g ∧ ∀ a, g a ≤ t a
  | [], p, σ, ρ, t, h, hp => ⟨f0, .nil, fun a => by rw [f0_at]; omega⟩
  | v :: vs, p, _, _, _, .nil, hp => by
    obtain ⟨g, h1, h2⟩ := env_mask (vs := vs) (p := fun i => p (i + 1)) (EnvR.nil (C := C) (F := F) (H := H)) fun i w e pi => by
      have := hp (i + 1) w (by simpa using e) pi
      simp at this
    exact ⟨g, .skip h1, h2⟩
  | v :: vs, p, _, _, _, .skip h, hp => by
    obtain ⟨g, h1, h2⟩ := env_mask (vs := vs) (p := fun i => p (i + 1)) h fun i w e pi => by
      have := hp (i + 1) w (by simpa using e) pi
      simpa using this
    refine ⟨g, ?_, h2⟩
    show EnvR C F H (some v :: vs.map some) ((if p 0 = true then none else none) :: _) g
    rw [ite_self]
    exact .skip h1
  | v :: vs, p, _, _, _, @EnvR.here _ _ _ v' m f σ ρ t r h, hp => by
    obtain ⟨g, h1, h2⟩ := env_mask (vs := vs) (p := fun i => p (i + 1)) h fun i w e pi => by
      have := hp (i + 1) w (by simpa using e) pi
      simpa using this
    by_cases q : p 0 = true
    · have hv := hp 0 v rfl q
      have hv : v' = v := by simpa using hv
      subst hv
      refine ⟨fa f g, ?_, fun a => by have := h2 a; simp only [fa_at]; omega⟩
      show EnvR C F H (some v' :: vs.map some) ((if p 0 = true then some m else none) :: _) _
      rw [if_pos q]
      exact .here r h1
    · refine ⟨g, ?_, fun a => by have := h2 a; simp only [fa_at]; omega⟩
      show EnvR C F H (some v :: vs.map some) ((if p 0 = true then some m else none) :: _) _
      rw [if_neg q]
      exact .skip h1
end
/-- a def's body run -/
def runB (lk : Nat → Bool) (N n : Nat) (B : EvS) (ms : List M) : Option (M × List (Option M)) := match B (ms.map some ++ List.replicate (N - n) none) with
  | some (.rt m ρ) => some (m, maskE lk n ρ)
  | some (.nx ρ) => some (.val .none, maskE lk n ρ)
  | _ => none
abbrev XF (P : Program) (w : World) (K : PySem.W.Frag) (mg : Str → Option Value) (base : Heap) (N : List Str) (qual : Str) (st : Stmt) (f : Addr) (cd : Value) (A : Around) (outer : List PySem.Env) (s : Shared) (H : Hp) (E : XK) : Cx := cxOf (L2.CX P w) P w K mg base N qual (defScope st) f cd A outer s H E
section
variable {P : Program} {w : World} {K : PySem.W.Frag} {mg : Str → Option Value} {base : Heap} {ct : Str → Option Addr} {lk : Nat → Bool}
theorem fn_okZ {x qual : Str} {st : Stmt} {f : Addr} {fd : FuncData} {N ps : List Str} {k n : Nat} {B : EvS} (Fu : Fun K x qual st f fd) (S : FnScope N ps (defScope st)) (hn : ps.length = n)
    (hB : ∀ (cdv : Value) (A : Around) (outer : List PySem.Env) (s : Shared) (H : Hp) (E : XK), Room k (XF P w K mg base N qual st f cdv A outer s H E).A → PSsZ ⟨P, w, K, ct⟩ (XF P w K mg base N qual st f cdv A outer s H E) lk (defBody st) B) :
    FnOk P w K mg base (L2.CX P w) (k + 1) f fd ps (spOf ⟨P, w, K, ct⟩ n (runB lk N.length n B)) := by
  refine Fu.okX S (fun vs H Q E h => by rw [hn]; exact h.1) fun cdv A outer s H vs Q E hr h => ⟨_, hB cdv A outer s H E hr, ?_⟩
  obtain ⟨hl, F, ms, f, m, ms', w, rs, e, q⟩ := h
  have en := env_pad (N.length - n) (env_of_reps rs)
  have hst : L2.start N vs = vs.map some ++ List.replicate (N.length - n) none := by unfold L2.start; rw [hl]
  unfold runB at e
  refine ⟨F, ms.map some ++ List.replicate (N.length - n) none, f, ?_⟩
  rw [hst]
  have par : ∀ {σ' : L2.St}, Lk lk (vs.map some ++ List.replicate (N.length - n) none) σ' → ∀ i v, vs[i]? = some v → lk i = true → σ'[i]? = some (some v) := fun {σ'} l i v hv hi => by
    rw [l i hi]
    have : i < vs.length := (List.getElem?_eq_some_iff.mp hv).1
    rw [List.getElem?_append_left (by rw [List.length_map]; exact this), List.getElem?_map, hv]
    rfl
  cases hres : B (ms.map some ++ List.replicate (N.length - n) none) with
  | none => rw [hres] at e; cases e
  | some r =>
    rw [hres] at e
    refine ⟨r, w, en, rfl, ?_⟩
    cases r with
    | rt m' ρ =>
      cases e
      intro F' H' σ' t' v g st en' rr l
      obtain ⟨g', h1, h2⟩ := env_mask en' (par l)
      rw [hl] at h1
      exact q F' H' v g g' (st.le fun a => by have := h2 a; simp only [fa_at]; omega) h1 rr
    | nx ρ =>
      cases e
      intro F' H' σ' t' st en' l
      obtain ⟨g', h1, h2⟩ := env_mask en' (par l)
      rw [hl] at h1
      exact q F' H' .non f0 g' (st.le fun a => by have := h2 a; simp only [fa_at, f0_at]; omega) h1 (.val .non)
    | br ρ => cases e
    | ct ρ => cases e
/-- a def with nothing promised -/
theorem fn_ok0 {x qual : Str} {st : Stmt} {f : Addr} {fd : FuncData} {ps : List Str} {N : List Str} {k n : Nat} (Fu : Fun K x qual st f fd) (S : FnScope N ps (defScope st)) (hn : ps.length = n) : FnOk P w K mg base (L2.CX P w) (k + 1) f fd ps (spOf ⟨P, w, K, ct⟩ n fun _ => none) := by
  refine Fu.okX S (fun vs H Q E h => by rw [hn]; exact h.1) fun cdv A outer s H vs Q E hr h => ?_
  obtain ⟨_, F, ms, f, m, ms', w, rs, e, q⟩ := h
  cases e
theorem own_of {X : Cx} {K' : Value → Shared → Prop} {E₁ : Value → Shared → Prop} (hx : X.xe = fun e s' => wpAny (model X.prog X.w) X.A (leaving X.env e) (fun _ s'' => K' e s'') E₁ s') : PassesOwn (model X.prog X.w) X.A X.env X.xe := passes_of hx
end
end Z

set_option Elab.async false
set_option linter.all false
set_option maxRecDepth 100000
set_option maxHeartbeats 2000000
/-! Z26: the rules as a printer writes them. -/
namespace Z
open PySem L2 Evl PyProof.Rows

/-- the built-in names are nobody's -/
structure Bt (mg : Str → Option Value) : Prop where
  len : mg "len" = none
  range : mg "range" = none
  isi : mg "isinstance" = none
  tuple : mg "tuple" = none
  list : mg "list" = none
  int : mg "int" = none
  all : mg "all" = none
  any : mg "any" = none
  sum : mg "sum" = none
  max : mg "max" = none
  min : mg "min" = none
  abs : mg "abs" = none
  sorted : mg "sorted" = none
  enum : mg "enumerate" = none
  zip : mg "zip" = none
theorem huZ {X : Cx} {k : Nat} (r : Room k X.A) : X.A.units + 150 < cLine := by have := r.un; omega

section
variable {X : Cx} {ct : Str → Option Addr} {e a b c o i value elt iter tg : Expr} {es ifs : List Expr} {pos p p2 p3 apos cpos pos' spos : Pos} {pa pb pc : Bool} {x name : Str} {id T : String} {lk : Nat → Bool} {own : List Nat}

/-! ### constants, names, places -/
theorem xInt {n : Int} {j : Nat} : PZ (cOf X ct) X (.Constant (.int n) j pos) true (zC (.int n)) := pz_c pe_int fun _ => .int _
theorem xStr {n : Str} {j : Nat} : PZ (cOf X ct) X (.Constant (.str n) j pos) true (zC (.str n)) := pz_c pe_str fun _ => .str _
theorem xBl {n : Bool} {j : Nat} : PZ (cOf X ct) X (.Constant (.bool n) j pos) true (zC (.bool n)) := pz_c pe_bl fun _ => .bl _
theorem xNon {j : Nat} : PZ (cOf X ct) X (.Constant .none j pos) true (zC .none) := pz_c pe_non fun _ => .non
theorem xGI {n : Int} (hm : ∃ t, X.mg x = some (.int n t)) (hg : Gl X x := by rfl) (hd : (x == ("__debug__" : Str)) = false := by decide) : PZ (cOf X ct) X (.Name x pos) true (zC (.int n)) := by
  obtain ⟨t, hm⟩ := hm
  exact pz_c (pe_glob (v := .int n) hg hm ⟨t, rfl⟩ hd) fun _ => .int _
theorem xVar (j : Nat) (hN : X.N[j]? = some x := by rfl) (hv : Vis X.env.scope x := by first | exact .inl rfl | exact .inr (.inl rfl) | exact .inr (.inr rfl)) (hd : (x == ("__debug__" : Str)) = false := by decide) (hcd : (x == ("__classdict__" : Str)) = false := by decide) : PZ (cOf X ct) X (.Name x pos) true (zVar j) := pz_var hN hv hd hcd
theorem xMv (j : Nat) (hN : X.N[j]? = some x := by rfl) (hv : Vis X.env.scope x := by first | exact .inl rfl | exact .inr (.inl rfl) | exact .inr (.inr rfl)) (hd : (x == ("__debug__" : Str)) = false := by decide) (hcd : (x == ("__classdict__" : Str)) = false := by decide) : PZ (cOf X ct) X (.Name x pos) false (zMv j) := pz_mv hN hv hd hcd
theorem xR (j : Nat) (hN : X.N[j]? = some x := by rfl) (hv : Vis X.env.scope x := by first | exact .inl rfl | exact .inr (.inl rfl) | exact .inr (.inr rfl)) (hd : (x == ("__debug__" : Str)) = false := by decide) (hcd : (x == ("__classdict__" : Str)) = false := by decide) : PR (cOf X ct) X (.Name x pos) (rVar j) := pr_var hN hv hd hcd
theorem xRix (hu : X.A.units + 150 < cLine) {A : EvR} {B : EvO} (ha : PR (cOf X ct) X a A) (hb : PZo (cOf X ct) X b true B) (hs : PlainIx b := by intro _ _; rfl) : PR (cOf X ct) X (.Subscript a b pos) (rIx2 A B) := pr_ix2 hu ha hb hs
theorem xRf {A : EvR} (hf : FldOk X ct x) (ha : PR (cOf X ct) X a A) (hb : attributeBase a x X.env (eval a X.env) = eval a X.env := by rfl) : PR (cOf X ct) X (.Attribute a x pos) (rFld A x) := pr_fld ha hf hb
theorem xP (j : Nat) (hN : X.N[j]? = some x := by rfl) (hv : Vis X.env.scope x := by first | exact .inl rfl | exact .inr (.inl rfl) | exact .inr (.inr rfl)) (hd : (x == ("__debug__" : Str)) = false := by decide) (hcd : (x == ("__classdict__" : Str)) = false := by decide) : PP (cOf X ct) X (.Name x pos) (pRoot j) := pp_root hN hv hd hcd
theorem xPix (hu : X.A.units + 150 < cLine) {A : EvP} {B : EvO} (ha : PP (cOf X ct) X a A) (hb : PZo (cOf X ct) X b true B) (hs : PlainIx b := by intro _ _; rfl) : PP (cOf X ct) X (.Subscript a b pos) (pIx A B) := pp_ix hu ha hb hs
theorem xPf {A : EvP} (hf : FldOk X ct x) (ha : PP (cOf X ct) X a A) (hb : attributeBase a x X.env (eval a X.env) = eval a X.env := by rfl) : PP (cOf X ct) X (.Attribute a x pos) (pFld A x) := pp_fld ha hf hb
theorem xIxV {j : Nat} (hu : X.A.units + 150 < cLine) {B : EvO} (hb : PZo (cOf X ct) X b pb B) (hN : X.N[j]? = some x := by rfl) (hv : Vis X.env.scope x := by first | exact .inl rfl | exact .inr (.inl rfl) | exact .inr (.inr rfl)) (hd : (x == ("__debug__" : Str)) = false := by decide) (hcd : (x == ("__classdict__" : Str)) = false := by decide) (hs : PlainIx b := by intro _ _; rfl) : PZ (cOf X ct) X (.Subscript (.Name x p) b pos) pb (zIxV j B) := pz_ixV hu hN hv hd hcd hb hs
theorem xIx {A B : EvO} (ha : PZo (cOf X ct) X a pa A) (hb : PZo (cOf X ct) X b pb B) (hs : PlainIx b := by intro _ _; rfl) : PZ (cOf X ct) X (.Subscript a b pos) (pa && pb) (zIx A B pb) := pz_ix ha hb hs
theorem xCons {A : EvE} {B : EvA} (ha : PZ (cOf X ct) X e pa A) (hb : PZa (cOf X ct) X es pb B) (hs : NoStar e es X.env := by rfl) : PZa (cOf X ct) X (e :: es) (pa && pb) (zCons A B) := pz_cons ha hb hs
theorem xsCons {A : EvO} {B : EvOs} (ha : PZo (cOf X ct) X e pa A) (hb : PZs (cOf X ct) X es pb B) (hs : NoStar e es X.env := by rfl) : PZs (cOf X ct) X (e :: es) (pa && pb) (zsCons A B pb) := ps_cons ha hb hs
theorem xdCons {A : EvO} {B : EvOs} (ha : PZo (cOf X ct) X e pa A) (hb : PZd (cOf X ct) X es pb B) (hs : NoStar e es X.env := by rfl) : PZd (cOf X ct) X (e :: es) (pa && pb) (zdCons A B) := pd_cons ha hb hs
theorem xgRef (j : Nat) {B : EvG} (hb : PZg (cOf X ct) X es pb B) (hN : X.N[j]? = some x := by rfl) (hv : Vis X.env.scope x := by first | exact .inl rfl | exact .inr (.inl rfl) | exact .inr (.inr rfl)) (hd : (x == ("__debug__" : Str)) = false := by decide) (hcd : (x == ("__classdict__" : Str)) = false := by decide) (hs : NoStar (.Name x pos) es X.env := by rfl) : PZg (cOf X ct) X (.Name x pos :: es) pb (zgRef j B) := pg_ref hN hv hd hcd hb hs
theorem xgVal {A : EvE} {B : EvG} (ha : PZ (cOf X ct) X e pa A) (hb : PZg (cOf X ct) X es pb B) (hs : NoStar e es X.env := by rfl) : PZg (cOf X ct) X (e :: es) (pa && pb) (zgVal A B) := pg_val ha hb hs

/-! ### operators, tests -/
theorem xCmp {o : Cop} (hu : X.A.units + 150 < cLine) {A B : EvO} (ha : PZo (cOf X ct) X a pa A) (hb : PZo (cOf X ct) X b pb B) (hm : behindInMarks o.op b = false := by rfl) : PZ (cOf X ct) X (.Compare a [o.op] [b] pos) (pa && pb) (zBv (zCmp o A B pb)) := pz_cmp hu ha hb hm
theorem tCmp {o : Cop} (hu : X.A.units + 150 < cLine) {A B : EvO} (ha : PZo (cOf X ct) X a pa A) (hb : PZo (cOf X ct) X b pb B) (hm : behindInMarks o.op b = false := by rfl) : PZt (cOf X ct) X (.Compare a [o.op] [b] pos) (pa && pb) (zCmp o A B pb) := pt_cmpZ hu ha hb hm
theorem tDin {ng : Bool} (hu : X.A.units + 150 < cLine) {K : EvO} {A : EvR} (hk : PZo (cOf X ct) X a pa K) (ha : PR (cOf X ct) X b A) (hm : behindInMarks (if ng then .NotIn else .In) b = false := by rfl) : PZt (cOf X ct) X (.Compare a [if ng then .NotIn else .In] [b] pos) pa (zDin ng K A) := pt_din hu hk ha hm
theorem xDin {ng : Bool} (hu : X.A.units + 150 < cLine) {K : EvO} {A : EvR} (hk : PZo (cOf X ct) X a pa K) (ha : PR (cOf X ct) X b A) (hm : behindInMarks (if ng then .NotIn else .In) b = false := by rfl) : PZ (cOf X ct) X (.Compare a [if ng then .NotIn else .In] [b] pos) pa (zBv (zDin ng K A)) := pz_din hu hk ha hm
theorem tTr {A : EvE} (ha : PZ (cOf X ct) X a pa A) (he : PlT X a := by intro _; rfl) : PZt (cOf X ct) X a pa (zTru A) := pt_tru ha he
theorem tRr {A : EvR} (ha : PR (cOf X ct) X a A) (he : PlT X a := by intro _; rfl) : PZt (cOf X ct) X a true (tRu A) := pt_r ha he
theorem tW1 {A : EvB} (h : PZw (cOf X ct) X a pa A) : PZt (cOf X ct) X a pa A := PW.pt h

/-! ### built-in functions -/
theorem xLen {A : EvR} (T : Bt X.mg) (ha : PR (cOf X ct) X a A) (hg : Gl X "len" := by rfl) (he : NoStar a [] X.env := by rfl) (hpl : (backTo pos (starEach [] X.env)).any (·.1) = false := by rfl) : PZ (cOf X ct) X (.Call (.Name "len" p) [a] [] pos) true (zLen A) := pz_len ha hg T.len (by decide +kernel) (by decide) (by decide) he hpl
theorem xLenO {A : EvOs} (T : Bt X.mg) (ha : PZs (cOf X ct) X [a] pa A) (hg : Gl X "len" := by rfl) (he : NoStar a [] X.env := by rfl) (hpl : (backTo pos (starEach [] X.env)).any (·.1) = false := by rfl) : PZ (cOf X ct) X (.Call (.Name "len" p) [a] [] pos) pa (zBi biLen A) := pz_bi cr_len hg T.len (by decide +kernel) ha (by decide) (by decide) he hpl
theorem xAll {A : EvOs} (T : Bt X.mg) (hc : X.calm = true) (ha : PZs (cOf X ct) X [a] pa A) (hg : Gl X "all" := by rfl) (he : NoStar a [] X.env := by rfl) (hpl : (backTo pos (starEach [] X.env)).any (·.1) = false := by rfl) : PZ (cOf X ct) X (.Call (.Name "all" p) [a] [] pos) pa (zBi biAll A) := pz_bi (cr_allZ hc) hg T.all (by decide +kernel) ha (by decide) (by decide) he hpl
theorem xAny {A : EvOs} (T : Bt X.mg) (hc : X.calm = true) (ha : PZs (cOf X ct) X [a] pa A) (hg : Gl X "any" := by rfl) (he : NoStar a [] X.env := by rfl) (hpl : (backTo pos (starEach [] X.env)).any (·.1) = false := by rfl) : PZ (cOf X ct) X (.Call (.Name "any" p) [a] [] pos) pa (zBi biAny A) := pz_bi (cr_anyZ hc) hg T.any (by decide +kernel) ha (by decide) (by decide) he hpl
theorem xSum {A : EvOs} (T : Bt X.mg) (hc : X.calm = true) (ha : PZs (cOf X ct) X [a] pa A) (hg : Gl X "sum" := by rfl) (he : NoStar a [] X.env := by rfl) (hpl : (backTo pos (starEach [] X.env)).any (·.1) = false := by rfl) : PZ (cOf X ct) X (.Call (.Name "sum" p) [a] [] pos) pa (zBi biSum A) := pz_bi (cr_sumZ hc) hg T.sum (by decide +kernel) ha (by decide) (by decide) he hpl
theorem xAbs {A : EvOs} (T : Bt X.mg) (ha : PZs (cOf X ct) X [a] pa A) (hg : Gl X "abs" := by rfl) (he : NoStar a [] X.env := by rfl) (hpl : (backTo pos (starEach [] X.env)).any (·.1) = false := by rfl) : PZ (cOf X ct) X (.Call (.Name "abs" p) [a] [] pos) pa (zBi biAbs A) := pz_bi cr_absZ hg T.abs (by decide +kernel) ha (by decide) (by decide) he hpl
theorem xInt1 {A : EvOs} (T : Bt X.mg) (ha : PZs (cOf X ct) X [a] pa A) (hg : Gl X "int" := by rfl) (he : NoStar a [] X.env := by rfl) (hpl : (backTo pos (starEach [] X.env)).any (·.1) = false := by rfl) : PZ (cOf X ct) X (.Call (.Name "int" p) [a] [] pos) pa (zBi biInt A) := pz_biT cr_intZ hg T.int (by decide +kernel) ha (by decide) (by decide) he hpl
theorem xTupO {A : EvOs} (T : Bt X.mg) (ha : PZs (cOf X ct) X [a] pa A) (hg : Gl X "tuple" := by rfl) (he : NoStar a [] X.env := by rfl) (hpl : (backTo pos (starEach [] X.env)).any (·.1) = false := by rfl) : PZ (cOf X ct) X (.Call (.Name "tuple" p) [a] [] pos) pa (zBi biTuple A) := pz_biT cr_tuple hg T.tuple (by decide +kernel) ha (by decide) (by decide) he hpl
theorem xLstO {A : EvOs} (T : Bt X.mg) (ha : PZs (cOf X ct) X [a] pa A) (hg : Gl X "list" := by rfl) (he : NoStar a [] X.env := by rfl) (hpl : (backTo pos (starEach [] X.env)).any (·.1) = false := by rfl) : PZ (cOf X ct) X (.Call (.Name "list" p) [a] [] pos) pa (zBi biList A) := pz_biT cr_list hg T.list (by decide +kernel) ha (by decide) (by decide) he hpl
theorem xTupM {A : EvE} (T : Bt X.mg) (ha : PZ (cOf X ct) X a pa A) (hg : Gl X "tuple" := by rfl) (he : NoStar a [] X.env := by rfl) (hpl : (backTo pos (starEach [] X.env)).any (·.1) = false := by rfl) : PZ (cOf X ct) X (.Call (.Name "tuple" p) [a] [] pos) pa (zTupM A) := pz_tupM ha hg T.tuple (by decide +kernel) (by decide) (by decide) he hpl
theorem xLstM {A : EvE} (T : Bt X.mg) (ha : PZ (cOf X ct) X a pa A) (hg : Gl X "list" := by rfl) (he : NoStar a [] X.env := by rfl) (hpl : (backTo pos (starEach [] X.env)).any (·.1) = false := by rfl) : PZ (cOf X ct) X (.Call (.Name "list" p) [a] [] pos) pa (zLstM A) := pz_lstM ha hg T.list (by decide +kernel) (by decide) (by decide) he hpl
theorem xKeys {A : EvR} (T : Bt X.mg) (hc : X.calm = true) (ha : PR (cOf X ct) X a A) (hg : Gl X "list" := by rfl) (he : NoStar a [] X.env := by rfl) (hpl : (backTo pos (starEach [] X.env)).any (·.1) = false := by rfl) : PZ (cOf X ct) X (.Call (.Name "list" p) [a] [] pos) true (zKeys A) := pz_keys hc ha hg T.list (by decide +kernel) (by decide) (by decide) he hpl
theorem xSorted {A : EvOs} (T : Bt X.mg) (hu : X.A.units + 150 < cLine) (ha : PZs (cOf X ct) X [a] pa A) (hg : Gl X "sorted" := by rfl) (he : NoStar a [] X.env := by rfl) (hpl : (backTo pos (starEach [] X.env)).any (·.1) = false := by rfl) : PZ (cOf X ct) X (.Call (.Name "sorted" p) [a] [] pos) pa (zBi biSorted A) := pz_bi (cr_sortedZ hu) hg T.sorted (by decide +kernel) ha (by decide) (by decide) he hpl
theorem xMax {A : EvOs} (T : Bt X.mg) (hc : X.calm = true) (hu : X.A.units + 150 < cLine) (ha : PZs (cOf X ct) X (a :: es) pa A) (hg : Gl X "max" := by rfl) (he : NoStar a es X.env := by rfl) (hpl : (backTo pos (starEach es X.env)).any (·.1) = false := by rfl) : PZ (cOf X ct) X (.Call (.Name "max" p) (a :: es) [] pos) pa (zBi (biMM true) A) := pz_bi (cr_mm hc hu true) hg T.max (by decide +kernel) ha (by decide) (by decide) he hpl
theorem xMin {A : EvOs} (T : Bt X.mg) (hc : X.calm = true) (hu : X.A.units + 150 < cLine) (ha : PZs (cOf X ct) X (a :: es) pa A) (hg : Gl X "min" := by rfl) (he : NoStar a es X.env := by rfl) (hpl : (backTo pos (starEach es X.env)).any (·.1) = false := by rfl) : PZ (cOf X ct) X (.Call (.Name "min" p) (a :: es) [] pos) pa (zBi (biMM false) A) := pz_bi (cr_mm hc hu false) hg T.min (by decide +kernel) ha (by decide) (by decide) he hpl
theorem xIsi (g : Tag) {A : EvR} {x2 : Str} (T : Bt X.mg) (ha : PR (cOf X ct) X a A) (hm2 : X.mg x2 = none) (hv2 : bootBuiltins x2 = some (.type g.nm) := by decide +kernel) (hg : Gl X "isinstance" := by rfl) (hg2 : Gl X x2 := by rfl) (hn2 : x2 ≠ "__name__" := by decide) (hdb2 : (x2 == ("__debug__" : Str)) = false := by decide) (he : NoStar a [.Name x2 p2] X.env := by rfl) (he2 : NoStar (.Name x2 p2) [] X.env := by rfl) (hpl : (backTo pos (starEach [.Name x2 p2] X.env)).any (·.1) = false := by rfl) : PZ (cOf X ct) X (.Call (.Name "isinstance" p) [a, .Name x2 p2] [] pos) true (zBv (zIsi A g)) :=
  pz_isi ha hg T.isi (by decide +kernel) hg2 hm2 hv2 (by decide) (by decide) hn2 hdb2 he he2 hpl
theorem gRg1x {A : EvO} (T : Bt X.mg) (ha : PZo (cOf X ct) X a pa A) (hg : Gl X "range" := by rfl) (he : NoStar a [] X.env := by rfl) : PRgZ (cOf X ct) X (.Call (.Name "range" p) [a] [] pos) pa (gRg1 A) := prg_1Z ha hg T.range he
theorem xRgT {A : EvRg} (T : Bt X.mg) (hc : X.calm = true) (ha : PRgZ (cOf X ct) X a pa A) (hg : Gl X "tuple" := by rfl) (he : NoStar a [] X.env := by rfl) : PZ (cOf X ct) X (.Call (.Name "tuple" p) [a] [] pos) pa (zRgT A) := pz_rgT hc hg T.tuple ha he
theorem xRgL {A : EvRg} (T : Bt X.mg) (hc : X.calm = true) (ha : PRgZ (cOf X ct) X a pa A) (hg : Gl X "list" := by rfl) (he : NoStar a [] X.env := by rfl) : PZ (cOf X ct) X (.Call (.Name "list" p) [a] [] pos) pa (zRgL A) := pz_rgL hc hg T.list ha he

/-! ### iterators -/
def iR1 (A : EvOs) : EvI := fun ρ => (A ρ).bind fun (xs, ρ1) => match xs with | [.int j] => if rgOk 0 j = true then some ((rgD 0 j).map .val, ρ1) else none | _ => none
def iR2 (A : EvOs) : EvI := fun ρ => (A ρ).bind fun (xs, ρ1) => match xs with | [.int i, .int j] => if rgOk i j = true then some ((rgD i j).map .val, ρ1) else none | _ => none
theorem iR1x {A : EvOs} (T : Bt X.mg) (ha : PZs (cOf X ct) X [a] pa A) (hg : Gl X "range" := by rfl) (hs : starEach [a] X.env = [(false, eval a X.env)] := by rfl) : PIZ (cOf X ct) X tg (.Call (.Name "range" p) [a] [] pos) pa (iR1 A) := pi_rg1Z ha hg T.range hs
theorem iR2x {A : EvOs} (T : Bt X.mg) (ha : PZs (cOf X ct) X [a, b] pa A) (hg : Gl X "range" := by rfl) (hs : starEach [a, b] X.env = [(false, eval a X.env), (false, eval b X.env)] := by rfl) (hs2 : starEach [b] X.env = [(false, eval b X.env)] := by rfl) : PIZ (cOf X ct) X tg (.Call (.Name "range" p) [a, b] [] pos) pa (iR2 A) := pi_rg2Z ha hg T.range hs hs2
theorem iEnx {A : EvOs} {elts : List Expr} {kk : Nat} {tpos : Pos} (T : Bt X.mg) (ha : PZd (cOf X ct) X [a] pa A) (hg : Gl X "enumerate" := by rfl) (hs : starEach [a] X.env = [(false, eval a X.env)] := by rfl) : PIZ (cOf X ct) X (.Tuple elts kk tpos) (.Call (.Name "enumerate" p) [a] [] pos) pa (iEn A) := pi_enumZ ha hg T.enum hs
theorem iZpx {A : EvOs} {elts : List Expr} {kk : Nat} {tpos : Pos} (T : Bt X.mg) (ha : PZd (cOf X ct) X [a, b] pa A) (hg : Gl X "zip" := by rfl) (hs : starEach [a, b] X.env = (false, eval a X.env) :: starEach [b] X.env := by rfl) (hpl : (backTo pos (starEach [b] X.env)).any (·.1) = false := by rfl) : PIZ (cOf X ct) X (.Tuple elts kk tpos) (.Call (.Name "zip" p) [a, b] [] pos) pa (iZp A) := pi_zipZ ha hg T.zip hs hpl

/-! ### methods -/
theorem xApp {P : EvP} {A : EvA} (hp : PP (cOf X ct) X o P) (ha : PZa (cOf X ct) X [e] true A) (hbase : attributeBase o "append" X.env (eval o X.env) = eval o X.env := by rfl)
    (hfew : ((backTo cpos (starEach [e] X.env)).all (fun x => !x.1) && (backToKw cpos (keywordEach [] X.env)).all (fun x => x.1.isSome) && decide ([e].length + ([] : List Keyword).length + (if ([] : List Keyword).isEmpty then 0 else 1) < 30)) = true := by rfl)
    (hline : (apos.endLine == cpos.line) = true := by rfl) (hs : NoStar e [] X.env := by rfl) (hpl : (backTo cpos (starEach [] X.env)).any (·.1) = false := by rfl) : PZ (cOf X ct) X (.Call (.Attribute o "append" apos) [e] [] cpos) false (zMet "list" opAppend P A) := pz_met mt_appendZ F.plainAttrs_list F.slot_list_append F.type_list_append hp ha hbase hfew hline hs hpl
theorem xAppH {P : EvP} {A : EvA} (hp : PP (cOf X ct) X o P) (ha : PZa (cOf X ct) X [e] pa A) (hbase : attributeBase o "append" X.env (eval o X.env) = eval o X.env := by rfl)
    (hfew : ((backTo cpos (starEach [e] X.env)).all (fun x => !x.1) && (backToKw cpos (keywordEach [] X.env)).all (fun x => x.1.isSome) && decide ([e].length + ([] : List Keyword).length + (if ([] : List Keyword).isEmpty then 0 else 1) < 30)) = true := by rfl)
    (hline : (apos.endLine == cpos.line) = true := by rfl) (hs : NoStar e [] X.env := by rfl) (hpl : (backTo cpos (starEach [] X.env)).any (·.1) = false := by rfl) : PZ (cOf X ct) X (.Call (.Attribute o "append" apos) [e] [] cpos) false (zMetH "list" opAppend P A) := pz_metH mt_appendZ F.plainAttrs_list F.slot_list_append F.type_list_append hp ha hbase hfew hline hs hpl
theorem xExt {P : EvP} {A : EvA} (hp : PP (cOf X ct) X o P) (ha : PZa (cOf X ct) X [e] true A) (hbase : attributeBase o "extend" X.env (eval o X.env) = eval o X.env := by rfl)
    (hfew : ((backTo cpos (starEach [e] X.env)).all (fun x => !x.1) && (backToKw cpos (keywordEach [] X.env)).all (fun x => x.1.isSome) && decide ([e].length + ([] : List Keyword).length + (if ([] : List Keyword).isEmpty then 0 else 1) < 30)) = true := by rfl)
    (hline : (apos.endLine == cpos.line) = true := by rfl) (hs : NoStar e [] X.env := by rfl) (hpl : (backTo cpos (starEach [] X.env)).any (·.1) = false := by rfl) : PZ (cOf X ct) X (.Call (.Attribute o "extend" apos) [e] [] cpos) false (zMet "list" opExtend P A) := pz_met mt_extendZ F.plainAttrs_list F.slot_list_extend F.type_list_extend hp ha hbase hfew hline hs hpl
theorem xPop {P : EvP} (hp : PP (cOf X ct) X o P) (hbase : attributeBase o "pop" X.env (eval o X.env) = eval o X.env := by rfl) (hline : (apos.endLine == cpos.line) = true := by rfl) : PZ (cOf X ct) X (.Call (.Attribute o "pop" apos) [] [] cpos) false (zMet0 "list" opPop P) := pz_met0 mt_popZ F.plainAttrs_list F.slot_list_pop F.type_list_pop hp hbase hline

/-! ### targets, statements -/
theorem wN (nd : X.N.Nodup) (j : Nat) (hi : X.N[j]? = some x := by rfl) (hx : Loc X.env.scope x := by first | exact .inl rfl | exact .inr rfl) (hf : X.fn x = true ∨ X.env.scope.names.lookup x = some .local := by first | exact .inl rfl | exact .inr rfl) : PGZ (cOf X ct) X lk (.Name x pos) (wName lk j) := pg_nameZ nd hi hx hf
theorem wsC {A : EvT} {B : EvTs} (ha : PGZ (cOf X ct) X lk e A) (hb : PGsZ (cOf X ct) X lk es B) (hs : (assignEach (e :: es) X.env).map (·.2) = assign e X.env :: (assignEach es X.env).map (·.2) := by rfl) : PGsZ (cOf X ct) X lk (e :: es) (wsCons A B) := pgs_consZ ha hb hs
theorem wT (n : Nat) {A : EvTs} {k : Nat} (hc : X.calm = true) (h : PGsZ (cOf X ct) X lk es A) (hn : (assignEach es X.env).length = n := by rfl) (hst : (assignEach es X.env).findIdx? (·.1) = none := by rfl) : PGZ (cOf X ct) X lk (.Tuple es k pos) (wTup n A) := pg_tupZ hc h hn hst
theorem wS (hu : X.A.units + 150 < cLine) {P : EvP} {K : EvO} (hp : PP (cOf X ct) X o P) (hk : PZo (cOf X ct) X i true K) (ha : AsgSub X o i pos := by intro _; rfl) : PGZ (cOf X ct) X lk (.Subscript o i pos) (wSub P K) := pg_subZ hu hp hk ha
theorem wSH (hu : X.A.units + 150 < cLine) {P : EvP} {K : EvO} (hp : PP (cOf X ct) X o P) (hk : PZo (cOf X ct) X i pb K) (ha : AsgSub X o i pos := by intro _; rfl) : PGZ (cOf X ct) X lk (.Subscript o i pos) (wSubH P K) := pg_subH hu hp hk ha
theorem bN (nd : X.N.Nodup) (j : Nat) (hi : X.N[j]? = some x := by rfl) (hx : Loc X.env.scope x := by first | exact .inl rfl | exact .inr rfl) (hf : X.fn x = true ∨ X.env.scope.names.lookup x = some .local := by first | exact .inl rfl | exact .inr rfl) : PW1 (cOf X ct) X own (.Name x pos) (bName own j) := pw_name nd hi hx hf
theorem bsC {A : EvW} {B : EvWs} (ha : PW1 (cOf X ct) X own e A) (hb : PWs (cOf X ct) X own es B) (hs : (assignEach (e :: es) X.env).map (·.2) = assign e X.env :: (assignEach es X.env).map (·.2) := by rfl) : PWs (cOf X ct) X own (e :: es) (bsCons A B) := pws_cons ha hb hs
theorem bT (n : Nat) {A : EvWs} {k : Nat} (hc : X.calm = true) (h : PWs (cOf X ct) X own es A) (hn : (assignEach es X.env).length = n := by rfl) (hst : (assignEach es X.env).findIdx? (·.1) = none := by rfl) : PW1 (cOf X ct) X own (.Tuple es k pos) (bTup n A) := pw_tup hc h hn hst
theorem sSet {A : EvE} (nd : X.N.Nodup) (j : Nat) (ha : PZ (cOf X ct) X e pa A) (hi : X.N[j]? = some x := by rfl) (hx : Loc X.env.scope x := by first | exact .inl rfl | exact .inr rfl) (hs : swapsWith e (some (.Name x pos')) pos.line X.env = pure false := by rfl) (hf : X.fn x = true ∨ X.env.scope.names.lookup x = some .local := by first | exact .inl rfl | exact .inr rfl) : PSZ (cOf X ct) X lk (.Assign [.Name x pos'] e pos) (sAsg A (wName lk j)) := ps_setZ ha nd hi hx hs hf
theorem sAs {A : EvE} {W : EvT} (ha : PZ (cOf X ct) X e pa A) (hg : PGZ (cOf X ct) X lk tg W) (hs : swapsWithSole [tg] e pos.line X.env = pure false := by rfl) (hw : swappedStores [tg] e X.env = pure none := by rfl) (h1 : (assignEach [tg] X.env).map (·.2) = [assign tg X.env] := by rfl) : PSZ (cOf X ct) X lk (.Assign [tg] e pos) (sAsg A W) := ps_asgZ ha hg hs hw h1
theorem sPr {x y : Str} {A : EvA} {px py pt : Pos} {kt k2 pt2} (nd : X.N.Nodup) (hc : X.calm = true) (i j : Nat) (ha : PZa (cOf X ct) X [a, b] pa A) (hi : X.N[i]? = some x := by rfl) (hj : X.N[j]? = some y := by rfl) (hij : i ≠ j := by decide)
    (hx : X.env.scope.names.lookup x = some .local := by rfl) (hy : X.env.scope.names.lookup y = some .local := by rfl) (hw : swappedStores [.Tuple [.Name x px, .Name y py] kt pt] (.Tuple [a, b] k2 pt2) X.env = pure (some [x, y]) := by rfl) (hs : swapsWithSole [.Tuple [.Name x px, .Name y py] kt pt] (.Tuple [a, b] k2 pt2) pos.line X.env = pure false := by rfl) :
    PSZ (cOf X ct) X lk (.Assign [.Tuple [.Name x px, .Name y py] kt pt] (.Tuple [a, b] k2 pt2) pos) (sPar A i j lk) := ps_parZ hc nd hi hj hij hx hy ha hw hs
theorem sAg (nd : X.N.Nodup) (s : Bool) (j : Nat) {A : EvO} (ha : PZo (cOf X ct) X e pa A) (hi : X.N[j]? = some x := by rfl) (hx : Loc X.env.scope x := by first | exact .inl rfl | exact .inr rfl) (hf : X.fn x = true ∨ X.env.scope.names.lookup x = some .local := by first | exact .inl rfl | exact .inr rfl) : PSZ (cOf X ct) X lk (.AugAssign (.Name x pos') (if s then .Sub else .Add) e pos) (sAug lk s j A) := ps_augZ ha nd hi hx hf
theorem sEx {A : EvE} (ha : PZ (cOf X ct) X e pa A) (hs : swapsWith e none pos.line X.env = pure false := by rfl) : PSZ (cOf X ct) X lk (.Expr e pos) (sExpr A) := ps_exprZ ha hs
theorem sFl {A : EvE} {P : EvP} (hf : FldOk X ct x) (ha : PZ (cOf X ct) X value pa A) (hp : PP (cOf X ct) X o P) (hs : swapsWith value (some (.Attribute o x pos')) pos.line X.env = pure false := by rfl) : PSZ (cOf X ct) X lk (.Assign [.Attribute o x pos'] value pos) (sFldS A P x) := ps_fldZ ha hp hf hs
theorem sFr {A : EvI} {W : EvT} {B : EvS} {body : List Stmt} (hp : PassesOwn (model X.prog X.w) X.A X.env X.xe) (hc : X.calm = true) (hi : PIZ (cOf X ct) X tg e pa A) (hg : PGZ (cOf X ct) X lk tg W) (hb : PSsZ (cOf X ct) X lk body B) (hs : ∀ x, foldedSetIterable e X.env x = pure x := by intro _; rfl) : PSZ (cOf X ct) X lk (.For tg e body [] pos) (sFor A W B) := ps_forZ hp hc hi hg hb hs
def sNever : EvS := fun _ => none
theorem sNv {st : Stmt} : PSZ (cOf X ct) X lk st sNever := PS.imp ps_never fun D σ H ⟨F, ρ, t, r, w, en, e, k⟩ => by cases e

/-! ### comprehensions -/
variable {scope : Scope} {ow : List (Str × Nat)} {I : EvI} {W : EvW} {T : EvB} {A : EvE} {j : Nat} {y : Str} {py : Pos}
theorem xLcP (ow : List (Str × Nat)) (hc : X.calm = true) (hN : X.N.Nodup) (hi : PIZ (cOf X ct) X tg iter pa I) (hg : BlkW X ct scope (ow.map (·.2)) tg W) (ht : BlkT X ct scope ifs true T) (he : BlkE X ct scope elt true A) (ok : blkC X.N X.env.scope scope ow = true := by kernel_rfl) (hs : ∀ x, foldedSetIterable iter X.env x = pure x := by intro _; rfl) :
    PZ (cOf X ct) X (.ListComp elt [⟨tg, iter, ifs, 0⟩] scope pos) pa (zLcP I W T A (ow.map (·.2))) := pz_lcP hc hN hi (blkOk_by ok) hg ht he hs
theorem xLcF (ow : List (Str × Nat)) (hc : X.calm = true) (hN : X.N.Nodup) (hi : PIZ (cOf X ct) X tg iter pa I) (hg : BlkW X ct scope (ow.map (·.2)) tg W) (ht : BlkT X ct scope ifs pb T) (he : BlkE X ct scope elt pc A) (ok : blkC X.N X.env.scope scope ow = true := by kernel_rfl) (hs : ∀ x, foldedSetIterable iter X.env x = pure x := by intro _; rfl) :
    PZ (cOf X ct) X (.ListComp elt [⟨tg, iter, ifs, 0⟩] scope pos) false (zLcF I W T A (ow.map (·.2))) := pz_lcF hc hN hi (blkOk_by ok) hg ht he hs
theorem sLcP (ow : List (Str × Nat)) (j : Nat) (hc : X.calm = true) (hN : X.N.Nodup) (hi : PIZ (cOf X ct) X tg iter pa I) (hg : BlkW X ct scope (ow.map (·.2)) tg W) (ht : BlkT X ct scope ifs true T) (he : BlkE X ct scope elt true A) (hy : X.N[j]? = some y := by rfl) (hyl : X.env.scope.names.lookup y = some .local := by rfl) (hsw : swapsWith (.ListComp elt [⟨tg, iter, ifs, 0⟩] scope pos) (some (.Name y py)) spos.line X.env = pure true := by rfl) (ok : blkC X.N X.env.scope scope ow = true := by kernel_rfl) (hs : ∀ x, foldedSetIterable iter X.env x = pure x := by intro _; rfl) :
    PSZ (cOf X ct) X lk (.Assign [.Name y py] (.ListComp elt [⟨tg, iter, ifs, 0⟩] scope pos) spos) (sAsg (zLcP I W T A (ow.map (·.2))) (wName lk j)) := ps_setLcP hc hN hy hyl hsw hi (blkOk_by ok) hg ht he hs
theorem sLcF (ow : List (Str × Nat)) (j : Nat) (hc : X.calm = true) (hN : X.N.Nodup) (hi : PIZ (cOf X ct) X tg iter pa I) (hg : BlkW X ct scope (ow.map (·.2)) tg W) (ht : BlkT X ct scope ifs pb T) (he : BlkE X ct scope elt pc A) (hy : X.N[j]? = some y := by rfl) (hyl : X.env.scope.names.lookup y = some .local := by rfl) (hsw : swapsWith (.ListComp elt [⟨tg, iter, ifs, 0⟩] scope pos) (some (.Name y py)) spos.line X.env = pure true := by rfl) (ok : blkC X.N X.env.scope scope ow = true := by kernel_rfl) (hs : ∀ x, foldedSetIterable iter X.env x = pure x := by intro _; rfl) :
    PSZ (cOf X ct) X lk (.Assign [.Name y py] (.ListComp elt [⟨tg, iter, ifs, 0⟩] scope pos) spos) (sAsg (zLcF I W T A (ow.map (·.2))) (wName lk j)) := ps_setLcF hc hN hy hyl hsw hi (blkOk_by ok) hg ht he hs
end

end Z

set_option Elab.async false
set_option linter.all false
set_option maxRecDepth 100000
set_option maxHeartbeats 2000000
/-! Z27: calls by name, with keywords, of classes. -/
namespace Z
open PySem L2 Evl PyProof.Rows

/-- a def that may be called -/
structure CalZ (P : Program) (w : World) (K : PySem.W.Frag) (mg : Str → Option Value) (base : Heap) (ct : Str → Option Addr) (k : Nat) (x : Str) (ps : List Str) (G : List M → Option (M × List (Option M))) : Prop where
  ex : ∃ f fd, mg x = some (.ref f) ∧ PySem.W.keepIn K (.ref f) = true ∧ (∀ (s : Shared) (us ws : List Value), us.length + ws.length = ps.length → BindsTo s fd ⟨us, (ps.drop us.length).zip ws⟩ (ps.zip (us ++ ws))) ∧ FnOk P w K mg base (L2.CX P w) k f fd ps (spOf ⟨P, w, K, ct⟩ ps.length G)
theorem binds_of {K : PySem.W.Frag} {fd : FuncData} {ps : List Str} (h : ∀ (s : Shared) (us ws : List Value), us.length + ws.length = ps.length → BindsTo s fd ⟨us, (ps.drop us.length).zip ws⟩ (ps.zip (us ++ ws))) : Binds K fd ps [] := fun s us _ hl => by
  have := h s us [] (by simpa using hl)
  simpa using this
/-- how many arguments there are -/
def GLen (A : EvG) (n : Nat) : Prop := ∀ ρ gs ρ1, A ρ = some (gs, ρ1) → gs.length = n
theorem gl0 : GLen zgNil 0 := fun _ _ _ h => by cases h; rfl
theorem glR {i n : Nat} {B : EvG} (h : GLen B n) : GLen (zgRef i B) (n + 1) := fun ρ gs ρ1 e => by
  simp only [zgRef, Option.bind_eq_some_iff, Option.map_eq_some_iff, Prod.mk.injEq] at e
  obtain ⟨o, _, m, _, ⟨gs1, ρ2⟩, e1, rfl, rfl⟩ := e
  have := h _ _ _ e1
  simp only [List.length_cons]
  omega
theorem glV {A : EvE} {n : Nat} {B : EvG} (h : GLen B n) : GLen (zgVal A B) (n + 1) := fun ρ gs ρ1 e => by
  simp only [zgVal, Option.bind_eq_some_iff, Option.map_eq_some_iff, Prod.mk.injEq] at e
  obtain ⟨⟨m, ρ2⟩, _, ⟨gs1, ρ3⟩, e1, rfl, rfl⟩ := e
  have := h _ _ _ e1
  simp only [List.length_cons]
  omega
def zgApp (A B : EvG) : EvG := fun ρ => (A ρ).bind fun (gs, ρ1) => (B ρ1).map fun (hs, ρ2) => (gs ++ hs, ρ2)
theorem glA {A B : EvG} {m n : Nat} (ha : GLen A m) (hb : GLen B n) : GLen (zgApp A B) (m + n) := fun ρ gs ρ1 e => by
  simp only [zgApp, Option.bind_eq_some_iff, Option.map_eq_some_iff, Prod.mk.injEq] at e
  obtain ⟨⟨g1, ρ2⟩, e1, ⟨g2, ρ3⟩, e2, rfl, rfl⟩ := e
  rw [List.length_append, ha _ _ _ e1, hb _ _ _ e2]
section
variable {X : Cx} {ct : Str → Option Addr} {e : Expr} {es : List Expr} {kws : List Keyword} {pos p kpos : Pos} {pa pb : Bool} {x : Str} {nm : Option Str} {ps ks : List Str} {k j n : Nat} {G : List M → Option (M × List (Option M))} {A B : EvG}
theorem xCall (Cl : CalZ X.prog X.w X.K X.mg X.base ct k x ps G) (hr : Room j X.A) (ha : PZg (cOf X ct) X (e :: es) pa A) (hn : GLen A ps.length) (hk : k ≤ j := by omega) (hg : Gl X x := by rfl) (hdb : (x == ("__debug__" : Str)) = false := by decide) (he : NoStar e es X.env := by rfl) (hpl : (backTo pos (starEach es X.env)).any (·.1) = false := by rfl) : PZ (cOf X ct) X (.Call (.Name x p) (e :: es) [] pos) false (zCall G A []) := by
  obtain ⟨f, fd, h1, h2, h3, h4⟩ := Cl.ex
  exact pz_call h4 (hr.mono hk) hg h1 h2 (binds_of h3) .nil (fun _ => .nil) ha hn hdb he hpl
theorem xCallP (Cl : CalZ X.prog X.w X.K X.mg X.base ct k x ps G) (hr : Room j X.A) (ha : PZg (cOf X ct) X (e :: es) pa A) (hn : GLen A ps.length) (hk : k ≤ j := by omega) (hg : Gl X x := by rfl) (hdb : (x == ("__debug__" : Str)) = false := by decide) (he : NoStar e es X.env := by rfl) (hpl : (backTo pos (starEach es X.env)).any (·.1) = false := by rfl) : PZ (cOf X ct) X (.Call (.Name x p) (e :: es) [] pos) pa (zCallP G A []) := by
  obtain ⟨f, fd, h1, h2, h3, h4⟩ := Cl.ex
  exact pz_callP h4 (hr.mono hk) hg h1 h2 (binds_of h3) .nil (fun _ => .nil) ha hn hdb he hpl

/-! ### keywords -/
abbrev PKg (C : Ct) (X : Cx) (kws : List Keyword) (pu : Bool) (A : EvG) : Prop := PK X kws (tG C pu A)
theorem PK.imp {t t' : TA} (h : PK X kws t) (k : ∀ σ H Q, t' σ H Q → t σ H Q) : PK X kws t' := ⟨fun pos pins s σ H Q I q => h.run pos pins s σ H Q I (k σ H Q q)⟩
theorem kNil : PKg (cOf X ct) X [] true zgNil := by
  refine PK.imp pk_nil fun σ H Q ⟨F, ρ, t, ms, ρ', w, en, e, k⟩ => ?_
  cases e
  exact k F H [] t (Aft.refl w en) .nil
theorem kRef (i : Nat) (hb : PKg (cOf X ct) X kws pb B) (hN : X.N[i]? = some x := by rfl) (hv : Vis X.env.scope x := by first | exact .inl rfl | exact .inr (.inl rfl) | exact .inr (.inr rfl)) (hd : (x == ("__debug__" : Str)) = false := by decide) (hcd : (x == ("__classdict__" : Str)) = false := by decide) : PKg (cOf X ct) X (⟨nm, .Name x pos, kpos⟩ :: kws) pb (zgRef i B) := by
  refine PK.imp (pk_cons (pe_var hN hv hd hcd) hb) fun σ H Q ⟨F, ρ, t, gs, ρ', w, en, e, k⟩ => ?_
  simp only [zgRef, Option.bind_eq_some_iff, Option.map_eq_some_iff, Prod.mk.injEq] at e
  obtain ⟨o, e0, m, eo, ⟨gs1, ρ1⟩, e1, rfl, rfl⟩ := e
  subst eo
  obtain ⟨v, f, t1, h1, h2, h3, h4⟩ := en.get e0
  exact ⟨v, h1, F, ρ, t, gs1, ρ1, w, en, e1, fun F' H' vs t' af pr => k F' H' (v :: vs) t' af (.cons h1 pr)⟩
theorem kVal {A : EvE} (ha : PZ (cOf X ct) X e pa A) (hb : PKg (cOf X ct) X kws pb B) : PKg (cOf X ct) X (⟨nm, e, kpos⟩ :: kws) (pa && pb) (zgVal A B) := by
  refine PK.imp (pk_cons ha hb) fun σ H Q ⟨F, ρ, t, gs, ρ', w, en, e, k⟩ => ?_
  simp only [zgVal, Option.bind_eq_some_iff, Option.map_eq_some_iff, Prod.mk.injEq] at e
  obtain ⟨⟨m, ρ1⟩, e1, ⟨gs1, ρ2⟩, e2, rfl, rfl⟩ := e
  refine ⟨F, ρ, t, m, ρ1, w, en, e1, fun F1 H1 v g t1 a1 r1 => ?_⟩
  obtain ⟨F1', a1', r1', _⟩ := a1.freeze r1
  refine ⟨F1', ρ1, t1, gs1, ρ2, a1'.wf, a1'.en, e2, fun F2 H2 vs t2 a2 pr => ?_⟩
  have := a1'.trans a2
  rw [fa0l] at this
  exact k F2 H2 (v :: vs) t2 this (.cons ⟨frz_p m, rep_pEx (frz_p m) r1' a2.st.ex⟩ pr)
theorem pair_app {α β : Type} {R : α → β → Prop} : ∀ {as cs : List α} {bs ds : List β}, Paired R as bs → Paired R cs ds → Paired R (as ++ cs) (bs ++ ds)
  | [], _, [], _, .nil, h => h
  | _ :: _, _, _ :: _, _, .cons r t, h => .cons r (pair_app t h)
theorem split_tG {C : Ct} {σ : L2.St} {H : Hp} {R : List V → Hp → Prop} (h : tG C (pa && pb) (zgApp A B) σ H R) (ha : GLen A j) : tG C pa A σ H fun vs H1 => vs.length = j ∧ tG C pb B σ H1 fun zs H2 => R (vs ++ zs) H2 := by
  obtain ⟨F, ρ, t, gs, ρ', w, en, e, k⟩ := h
  simp only [zgApp, Option.bind_eq_some_iff, Option.map_eq_some_iff, Prod.mk.injEq] at e
  obtain ⟨⟨g1, ρ1⟩, e1, ⟨g2, ρ2⟩, e2, rfl, rfl⟩ := e
  refine ⟨F, ρ, t, g1, ρ1, w, en, e1, fun F1 H1 vs t1 a1 p1 => ⟨by rw [Paired.length p1, ha _ _ _ e1], F1, ρ1, t1, g2, ρ2, a1.wf, a1.en, e2, fun F2 H2 zs t2 a2 p2 => ?_⟩⟩
  have := a1.trans a2
  rw [fa0l] at this
  exact k F2 H2 (vs ++ zs) t2 this (pair_app (AgRs.ex a2.st.ex p1) p2)
theorem kb_of {K : PySem.W.Frag} {fd : FuncData} (hne : ps ≠ []) (h : ∀ (s : Shared) (us ws : List Value), us.length + ws.length = ps.length → BindsTo s fd ⟨us, (ps.drop us.length).zip ws⟩ (ps.zip (us ++ ws))) (hks : ks = ps.drop j) : KBinds K fd ps ks (fun us ws => if us.length = j then us ++ ws else []) (fun vs zs => if vs.length = j then vs ++ zs else []) := by
  refine ⟨fun s us ws _ hl => ?_, fun {vs us zs ws} r1 r2 => ?_⟩
  · by_cases hj : us.length = j
    · rw [if_pos hj] at hl ⊢
      rw [List.length_append] at hl
      have := h s us ws hl
      rw [hj, ← hks] at this
      exact this
    · rw [if_neg hj] at hl
      exact absurd (List.eq_nil_of_length_eq_zero hl.symm) hne
  · rw [r1.length]
    split
    · exact r1.append r2
    · exact .nil
theorem kcall_core {σ : L2.St} {H : Hp} {Q : VK} {m : Nat} (hG : tE (cOf X ct) false (zCall G (zgApp A B) []) σ H Q) (ha : GLen A j) (hb : GLen B m) : tG (cOf X ct) pa A σ H fun vs H1 => tG (cOf X ct) pb B σ H1 fun zs H2 => spOf (cOf X ct) (j + m) G ((fun vs zs : List V => if vs.length = j then vs ++ zs else []) vs zs) H2 Q E0 := by
  obtain ⟨F, ρ, t, mm, ρ', w, en, e, q⟩ := hG
  have h1 := call_core (pa := pa && pb) (E := E0) (dvs := []) (n := j + m) w en (fun _ => .nil) e (fun gs ρ1 h => by rw [List.length_nil, Nat.add_zero]; exact glA ha hb _ _ _ h) q
  have h2 := split_tG h1 ha
  obtain ⟨F1, r1, t1, gs, r1', w1, en1, e1, k1⟩ := h2
  refine ⟨F1, r1, t1, gs, r1', w1, en1, e1, fun F2 H2 vs t2 a2 pr => ?_⟩
  obtain ⟨hl, F3, r3, t3, gs3, r3', w3, en3, e3, k3⟩ := k1 F2 H2 vs t2 a2 pr
  refine ⟨F3, r3, t3, gs3, r3', w3, en3, e3, fun F4 H4 zs t4 a4 pr4 => ?_⟩
  have := k3 F4 H4 zs t4 a4 pr4
  dsimp only at this ⊢
  rw [List.append_nil] at this
  rw [if_pos hl]
  exact this
theorem xCallK {m : Nat} (Cl : CalZ X.prog X.w X.K X.mg X.base ct k x ps G) (hr : Room j X.A) (ha : PZg (cOf X ct) X (e :: es) pa A) (hkw : PKg (cOf X ct) X kws pb B) (la : GLen A n) (lb : GLen B m) (hn : n + m = ps.length := by decide) (hks : (backToKw pos (keywordEach kws X.env)).filterMap (·.1) = ps.drop n := by rfl) (hk : k ≤ j := by omega) (hne : ps ≠ [] := by decide) (hg : Gl X x := by rfl) (hdb : (x == ("__debug__" : Str)) = false := by decide)
    (hall : (backToKw pos (keywordEach kws X.env)).all (·.1.isSome) = true := by rfl) (he : NoStar e es X.env := by rfl) (hpl : ((backTo pos (starEach (e :: es) X.env)).any (·.1) || (backToKw pos (keywordEach kws X.env)).any (·.1.isNone)) = false := by rfl) : PZ (cOf X ct) X (.Call (.Name x p) (e :: es) kws pos) false (zCall G (zgApp A B) []) := by
  obtain ⟨f, fd, h1, h2, h3, h4⟩ := Cl.ex
  refine PE.imp (pe_callK h4 (hr.mono hk) hg h1 h2 (kb_of hne h3 rfl) passL ha hkw hall hks hdb he hpl) fun σ H Q h => ?_
  rw [← hn]
  exact kcall_core h la lb
/-- f(k = v, ..) -/
theorem xCallK0 {m : Nat} (Cl : CalZ X.prog X.w X.K X.mg X.base ct k x ps G) (hr : Room j X.A) (hkw : PKg (cOf X ct) X kws pb B) (lb : GLen B m) (hn : 0 + m = ps.length := by decide) (hks : (backToKw pos (keywordEach kws X.env)).filterMap (·.1) = ps.drop 0 := by rfl) (hk : k ≤ j := by omega) (hne : ps ≠ [] := by decide) (hg : Gl X x := by rfl) (hdb : (x == ("__debug__" : Str)) = false := by decide)
    (hall : (backToKw pos (keywordEach kws X.env)).all (·.1.isSome) = true := by rfl) (hpl : ((backTo pos (starEach [] X.env)).any (·.1) || (backToKw pos (keywordEach kws X.env)).any (·.1.isNone)) = false := by rfl) : PZ (cOf X ct) X (.Call (.Name x p) [] kws pos) false (zCall G (zgApp zgNil B) []) := by
  obtain ⟨f, fd, h1, h2, h3, h4⟩ := Cl.ex
  refine ⟨fun pins s σ H Q I h => ?_⟩
  have hc := kcall_core (pa := true) (pb := pb) h gl0 lb
  obtain ⟨F, ρ, t, gs, ρ', w, en, e, q⟩ := hc
  cases e
  have q := q F H [] t (Aft.refl w en) .nil
  refine wpAny_Call_Name_kw (ld_glob I hg h1 ?_ hdb)
  refine PySem.W.callWith_KW0 (h₀ := X.base) I.ok.mod.kin h2 hall (thn (hkw.run pos pins s σ H _ I q) fun ws s2 ⟨zs, H2, I2, rz, q2⟩ => ⟨I2.kIn, ?_⟩) hpl
  rw [hks]
  rw [← hn] at h4
  exact run_fnk (us := []) (vs := []) h4 (hr.mono hk) (kb_of hne h3 rfl) passL I2 .nil rz q2

/-! ### a class -/
structure CalM (P : Program) (w : World) (K : PySem.W.Frag) (mg : Str → Option Value) (base : Heap) (ct : Str → Option Addr) (k : Nat) (x : Str) (ps : List Str) (G : List M → Option (M × List (Option M))) : Prop where
  ex : ∃ Ca f fd, ct x = some Ca ∧ mg x = some (.ref Ca) ∧ Mk K Ca f ∧ Binds K fd ps [] ∧ FnOk P w K mg base (L2.CX P w) k f fd ps (spOf ⟨P, w, K, ct⟩ ps.length G)
theorem xMake (Cl : CalM X.prog X.w X.K X.mg X.base ct k x ps G) (hr : Room j X.A) (ha : PZg (cOf X ct) X (e :: es) pa A) (hn : GLen A n) (hps : n + 1 = ps.length := by decide) (hk : k + 1 ≤ j := by omega) (hg : Gl X x := by rfl) (hdb : (x == ("__debug__" : Str)) = false := by decide) (he : NoStar e es X.env := by rfl) (hpl : (backTo pos (starEach es X.env)).any (·.1) = false := by rfl) : PZ (cOf X ct) X (.Call (.Name x p) (e :: es) [] pos) false (zMake x G A []) := by
  obtain ⟨Ca, f, fd, h1, h2, h3, h4, h5⟩ := Cl.ex
  exact pz_make h1 h3 h5 (hr.mono hk) hg h2 h4 .nil (fun _ => .nil) ha (fun ρ gs ρ1 h => by rw [hn _ _ _ h]; exact hps) hdb he hpl
end
end Z

set_option Elab.async false
set_option linter.all false
set_option maxRecDepth 100000
set_option maxHeartbeats 2000000
/-! Z28: d == {}; tuples turned round. -/
namespace Z
open PySem L2 Evl PyProof.Rows

def wFuel : Nat := 1000000
def emptyD : M → Option Bool
  | .dct _ kvs => some kvs.isEmpty
  | .fz m => emptyD m
  | _ => none
section
variable {X : Cx} {ct : Str → Option Addr} {e a b c : Expr} {es : List Expr} {pos p p1 p2 p3 : Pos} {pa pb pc : Bool}
theorem raw_of {pins : List (Addr × Obj)} {s : Shared} {σ : L2.St} {H : Hp} (I : Inv X pins σ H s) {F : Hp} : ∀ (m : M) {G : Hp} {v : V} {f : Fp} {b : Bool}, Ex F H → Ex G H → MRep (cOf X ct) F G v m f → emptyD m = some b → ∃ a n, v = .ref a ∧ RawN s a n ∧ (n == 0) = b
  | .dct false kvs, G, v, f, b, s1, s2, r, e => by
    cases r with
    | @dK _ a xs _ f h1 hn h2 =>
      cases e
      obtain ⟨z, lo, vs, rk, dd⟩ := (show ObjOk X.prog X.w H s.heap a (.dK xs) from I.hok a _ (s2 _ _ h1))
      obtain ⟨o, es, ep, g1, x1, d1, k1, p1, _⟩ := dd
      refine ⟨a, es.size, rfl, ⟨lo, o, es, ep, g1, x1, d1, rfl⟩, ?_⟩
      have l1 : es.size = vs.length := by rw [← p1.length]; exact (Array.length_toList).symm
      have l2 : xs.length = vs.length := Paired.length rk
      have l3 := repK_len h2
      rw [l1, ← l2, l3]
      cases kvs <;> rfl
  | .dct true kvs, G, v, f, b, s1, s2, r, e => by
    cases r with
    | @dT _ a xs _ f h1 hs hn h2 =>
      cases e
      obtain ⟨⟨o, es, ep, e1, e2, e3, e4⟩, _⟩ := I.hok a _ (s2 _ _ h1)
      refine ⟨a, es.size, rfl, ⟨hs, o, es, ep, e1, e2, e3, rfl⟩, ?_⟩
      have l1 : es.size = xs.length := by
        have := congrArg List.length e4
        simpa using this
      have l3 := repT_len h2
      rw [l1, l3]
      cases kvs <;> rfl
  | .fz m, G, v, f, b, s1, s2, r, e => by
    cases r with | fz r => exact raw_of I m s1 s1 r e
  | .val _, G, v, f, b, s1, s2, r, e => by cases e
  | .lst _, G, v, f, b, s1, s2, r, e => by cases e
  | .tup _, G, v, f, b, s1, s2, r, e => by cases e
  | .ins _ _, G, v, f, b, s1, s2, r, e => by cases e
def zEmp (A : EvR) : EvB := fun ρ => (A ρ).bind fun m => (emptyD m).map fun b => (b, ρ)
def rEmp (X : Cx) (ct : Str → Option Addr) : R2 := fun x y H Q => ∃ F G m f b p, Ex F H ∧ Ex G H ∧ MRep (cOf X ct) F G x m f ∧ emptyD m = some b ∧ y = .ref p ∧ H p = some (.dK []) ∧ Q (.bl b) H
theorem op_emp (hu : X.A.units + 150 < cLine) : OpR X (compareOp .Eq) (rEmp X ct) := by
  intro pins s σ H x y v u Q I rx ry h
  obtain ⟨F, G, m, f, b, p, s1, s2, r, e, rfl, hp, q⟩ := h
  obtain ⟨a, n, rfl, d1, rfl⟩ := raw_of I m s1 s2 r e
  cases rx
  cases ry
  obtain ⟨z, lo, vs, rk, dd⟩ := (show ObjOk X.prog X.w H s.heap p (.dK []) from I.hok p _ hp)
  cases rk
  obtain ⟨o, es, ep, g1, x1, d2, k1, p1, _⟩ := dd
  have l1 : es.size = 0 := by
    have := p1.length
    rw [Array.length_toList] at this
    simpa using this
  exact eq_empty d1 ⟨lo, o, es, ep, g1, x1, d2, l1⟩ (by omega) ⟨.bl (n == 0), H, I, rfl, q⟩
theorem emp_core {A : EvR} {σ : L2.St} {F H : Hp} {t : Fp} {ρ ρ' : Env} {b : Bool} {Q : VK} (w : Wf F H t) (en : EnvR (cOf X ct) F H σ ρ t) (e : zEmp A ρ = some (b, ρ')) (k : ∀ F' H', Aft (cOf X ct) true σ F H t ρ F' H' t f0 ρ' → Q (.bl b) H') : tOp (rEmp X ct) (tR (cOf X ct) A) tDNewK σ H Q := by
  simp only [zEmp, Option.bind_eq_some_iff, Option.map_eq_some_iff, Prod.mk.injEq] at e
  obtain ⟨m, e1, b', e2, rfl, rfl⟩ := e
  refine ⟨F, ρ, t, m, w, en, e1, fun F1 H1 v f a1 r1 p hp => ⟨F1, H1, m, f, b', p, a1.wf.sub.trans (Ex.new hp), Ex.new hp, r1, e2, rfl, upd_same, ?_⟩⟩
  refine k F1 _ ?_
  have := a1.st
  rw [fa0] at this
  refine ⟨by rw [fa0]; exact this.trans (Step.add a1.wf hp), a1.en.mono (Ex.refl _) fun x px => ?_, fun _ => ⟨(a1.pu rfl).1.trans (Ex.new hp), rfl, rfl⟩⟩
  obtain ⟨u, hu⟩ := a1.en.dom x px
  exact upd_ne (ne_of_none hu hp)
theorem tEmp (hu : X.A.units + 150 < cLine) {A : EvR} (ha : PR (cOf X ct) X a A) (hm : behindInMarks .Eq (.Dict [] [] p) = false := by rfl) : PZt (cOf X ct) X (.Compare a [.Eq] [.Dict [] [] p] pos) true (zEmp A) := by
  refine PT.imp (pt_cmpR (op_emp (ct := ct) hu) ha pe_dnewK hm) fun σ H Q ⟨F, ρ, t, b, ρ', w, en, e, k⟩ => ?_
  exact emp_core w en e fun F' H' af => ⟨_, rfl, k F' H' t af⟩
theorem xEmp (hu : X.A.units + 150 < cLine) {A : EvR} (ha : PR (cOf X ct) X a A) (hm : behindInMarks .Eq (.Dict [] [] p) = false := by rfl) : PZ (cOf X ct) X (.Compare a [.Eq] [.Dict [] [] p] pos) true (zBv (zEmp A)) := by
  refine PE.imp (pe_cmpR (op_emp (ct := ct) hu) ha pe_dnewK hm) fun σ H Q ⟨F, ρ, t, m, ρ', w, en, e, k⟩ => ?_
  simp only [zBv, Option.map_eq_some_iff] at e
  obtain ⟨⟨b', ρ1⟩, e1, e2⟩ := e
  simp only [Prod.mk.injEq] at e2
  obtain ⟨rfl, rfl⟩ := e2
  exact emp_core w en e1 fun F' H' af => k F' H' _ f0 t af (.val (.bl _))

/-! ### t[::-1] of a tuple -/
theorem rev_pick (xs : Array Value) : ((List.range xs.size).filterMap fun (k : Nat) => xs[((xs.size : Int) - 1 + (k : Int) * (-1)).toNat]?) = xs.toList.reverse := by
  have e : (fun (k : Nat) => xs[((xs.size : Int) - 1 + (k : Int) * (-1)).toNat]?) = (fun k => xs[k]?) ∘ fun k => xs.size - 1 - k := by
    funext k
    have : ((xs.size : Int) - 1 + (k : Int) * (-1)).toNat = xs.size - 1 - k := by omega
    simp only [Function.comp, this]
  rw [e, ← List.filterMap_map, PySem.W.krv_range, List.filterMap_reverse, PySem.W.krv_all]
theorem rev_at {prog : Program} {w : World} {A : Around} {E Q : Value → Shared → Prop} {s : Shared} {t sl : Addr} {items : Array Value} {k : Tok} (ht : IsTup s.heap t items) (hs : s.heap.IsSliceOf sl .none .none (.int (-1) k)) (hsz : items.size ≤ sizeLine)
    (h : Q (.ref s.heap.objs.size) { s with heap := s.heap.push { cls := .type "tuple", data := .seq items.toList.reverse.toArray } }) : wpAny (model prog w) A (getItem (.ref t) (.ref sl)) Q E s := by
  obtain ⟨os, hos, hcs, hds⟩ := id hs
  have hTs : s.TypeIs (.ref sl) "slice" := ⟨os, hos, hcs⟩
  unfold getItem
  try with_reducible refine wpAny_holding ?_
  first | refine wpAny_bind (wpAny_pure ?_) | skip
  refine wpAny_bind (wpAny_sequenceKey ht.typeIs (by decide) (wpAny_bind (wpAny_callSpecial?_slot (name := Str.ofString "__getitem__") ht.typeIs PyProof.Rows.slot_tuple_getitem (wpAny_call_entry PyProof.Rows.slot_tuple_getitem ht.typeIs entry_tuple_getitem ?_ (args_tuple_getitem _ _)))))
  show wpAny _ _ (Builtin.Tuple.tupleItemsOf (.ref t) >>= _) _ _ s
  refine wpAny_bind (tupleItemsOf_ ht (wpAny_bind (wpAny_typeOf hTs ?_)))
  rw [if_pos (by decide)]
  have ap : ∀ {Q' : Int × Int × Nat → Shared → Prop} {E' : Value → Shared → Prop} {A' : Around}, Q' ((items.size : Int) - 1, -1, items.size) s → wpAny (model prog w) A' (Builtin.Slice.sliceApplied (.ref sl) (pure (items.size : Int))) Q' E' s := fun {Q' E' A'} q => by
    unfold Builtin.Slice.sliceApplied Builtin.Slice.sliceFields
    refine wpAny_bind (wpAny_bind (wpAny_field hos hds (x := .none) rfl (wpAny_bind (wpAny_field hos hds (x := .none) rfl (wpAny_bind (wpAny_field hos hds (x := .int (-1) k) rfl (wpAny_pure ?_)))))))
    refine wpAny_bind (HT.slicePart_ (.int (-1) k) ?_)
    show wpAny _ _ (if ((-1 : Int) == 0) = true then _ else _) _ _ s
    rw [if_neg (by decide)]
    refine wpAny_bind (HT.slicePart_ .none (wpAny_bind (HT.slicePart_ .none (wpAny_bind (wpAny_pure ?_)))))
    have e2 : Builtin.Slice.slicePlaces ((items.size : Int) - 1) (-1) (-1) = items.size := by
      unfold Builtin.Slice.slicePlaces
      rw [if_neg (by decide)]
      have e3 : (-(-1 : Int)) = 1 := by decide
      rw [e3, Int.ediv_one]
      split <;> omega
    show wpAny _ _ (pure ((items.size : Int) - 1, (-1 : Int), Builtin.Slice.slicePlaces ((items.size : Int) - 1) (-1) (-1))) _ _ s
    rw [e2]
    exact wpAny_pure q
  refine wpAny_bind (ap ?_)
  show wpAny _ _ (if (((items.size : Int) - 1 == 0 && (-1 : Int) == 1 && items.size == items.size)) = true then _ else _) _ _ s
  rw [if_neg (by simp), rev_pick]
  have hz : sizeOk (.seq items.toList.reverse.toArray) := by
    show items.toList.reverse.toArray.size ≤ sizeLine
    simpa using hsz
  first
    | exact wpAny_bind (m := Builtin.Tuple.tupleExact _) (wpAny_newObj_type (wpAny_pure ⟨_, rfl, wpAny_pure h⟩) hz)
    | exact wpAny_bind (wpAny_bind (m := Builtin.Tuple.tupleExact _) (wpAny_newObj_type (wpAny_pure ⟨_, rfl, wpAny_pure h⟩) hz))
    | exact wpAny_bind (wpAny_bind (m := Builtin.Tuple.tupleExact _) (wpAny_newObj_type (wpAny_pure (wpAny_pure ⟨_, rfl, wpAny_pure h⟩)) hz))
def tRevTup (K : PySem.W.Frag) (te : TE) (ts : TO) : TE := fun σ H Q => te σ H fun x H1 => ts σ H1 fun o H2 => o = some (-1) ∧ ∃ a xs, x = .ref a ∧ SqT K H2 a xs ∧ ∀ p, H2 p = none → Q (.ref p) (upd H2 p (.tup xs.reverse))
theorem pe_revTup {e st : Expr} {te : TE} {ts : TO} (he : PE X e te) (hst : PO X (some st) ts) (htl : ∀ o i : Value, subscripted (.Slice none none (some st) p3) false o i = operate [o, i] (getItem o i)) : PE X (.Subscript e (.Slice none none (some st) p3) pos) (tRevTup X.K te ts) := by
  refine ⟨fun pins s σ H Q I h => ?_⟩
  refine Subscript_ (thn (he.run pins s σ H _ I h) fun v s1 ⟨x, H1, I1, r1, q1⟩ => ?_)
  refine wpAny_Slice (thn (po_none.run pins s1 σ H1 (fun o H2 => o = none ∧ H2 = H1) I1 ⟨rfl, rfl⟩) fun vl s2 ⟨l, H2, I2, pl, el, e2⟩ => ?_)
  obtain rfl := el
  obtain rfl := e2
  refine thn (po_none.run pins s2 σ H2 (fun o H3 => o = none ∧ H3 = H2) I2 ⟨rfl, rfl⟩) fun vu s3 ⟨u, H3, I3, pu, eu, e3⟩ => ?_
  obtain rfl := eu
  obtain rfl := e3
  refine thn (hst.run pins s3 σ H3 _ I3 q1) fun vs s4 ⟨o, H4, I4, ps, eo, a, xs, ex, hx, q⟩ => ?_
  obtain rfl := eo
  subst ex
  cases r1
  cases pl
  cases pu
  cases ps with
  | int _ tk =>
    have I5 : Inv X pins σ H4 { s4 with heap := s4.heap.push { cls := .type "slice", data := .fields #[.none, .none, .int (-1) tk] } } := I4.kept (t' := s4.toks) fun b ob q => Heap.get?_push_of_some _ q
    obtain ⟨its, r, ht, hz⟩ := I5.tuple hx
    have hlen := r.length
    refine tail_any (ops := [.ref a, .ref s4.heap.objs.size]) ht.typeIs PyProof.Rows.slot_tuple_getitem.lookup ?_ (htl _ _)
    refine rev_at ht (Heap.IsSliceOf.new _ .none .none (.int (-1) tk)) (by rw [List.size_toArray]; omega) ?_
    refine ⟨.ref _, _, I5.laid (t' := s4.toks) (o := .tup xs.reverse) (fun b ob q => Heap.get?_push_of_some _ q) (Nat.le_refl _) ?_, rfl, q _ (I5.hok.fresh (Nat.le_refl _))⟩
    exact ⟨by rw [List.length_reverse]; exact hz, _, r.reverse, IsTup.new _ _⟩
def zRevT (A : EvO) (B : EvO) : EvE := fun ρ => (A ρ).bind fun (d, p, ρ1) => if p then (B ρ1).bind fun (e, _, ρ2) => match d, e with
  | .tuple ds, .int (-1) => some (.val (.tuple ds.reverse), ρ2)
  | _, _ => none else none
theorem pz_revT {A B : EvO} {st : Expr} (ha : PZo (cOf X ct) X a pa A) (hb : PZo (cOf X ct) X st pb B) (htl : ∀ o i : Value, subscripted (.Slice none none (some st) p3) false o i = operate [o, i] (getItem o i) := by intro _ _; with_unfolding_all rfl) : PZ (cOf X ct) X (.Subscript a (.Slice none none (some st) p3) pos) (pa && pb) (zRevT A B) := by
  refine PE.imp (pe_revTup ha (po_someZ hb) htl) fun σ H Q ⟨F, ρ, t, m, ρ', w, en, e, k⟩ => ?_
  simp only [zRevT, Option.bind_eq_some_iff] at e
  obtain ⟨⟨d, p, ρ1⟩, e1, e⟩ := e
  dsimp only at e
  split at e
  case isFalse => cases e
  rename_i hp
  simp only [Option.bind_eq_some_iff] at e
  obtain ⟨⟨d2, p2, ρ2⟩, e2, e⟩ := e
  dsimp only at e
  split at e
  case h_2 => cases e
  rename_i ds
  cases e
  refine ⟨F, ρ, t, _, p, ρ1, w, en, e1, fun F1 H1 v t1 a1 s1 d1 => ⟨F1, ρ1, t1, some (-1), ρ', a1.wf, a1.en, by simp [zPart, e2], fun F2 H2 t2 a2 => ⟨rfl, ?_⟩⟩⟩
  have d1 := Dp.ex a2.st.ex _ _ (d1 hp)
  have a12 := a1.trans a2
  rw [fa0l] at a12
  cases d1 with
  | @tup l vs _ h1 h2 =>
    exact ⟨l, vs, rfl, ex_t a12.wf.sub h1, fun p hp => q_tup (C := cOf X ct) a12.wf hp (dp_reverse h2) fun F'' H'' v g st ex r => k F'' H'' v g t2 (a12.act st ex) r⟩
end
end Z

set_option Elab.async false
set_option linter.all false
/-! S1: readings run left to right: rules of Sat (printed by mkS.py). -/
namespace Z
open PySem L2 Evl

/-- holds what simp shall not look at -/
structure Hold {α : Type} (Q : α → Prop) where
  mk ::
/-- there is an answer and it is so -/
def Sat {α : Type} (o : Option α) (Q : α → Prop) (_ : Hold Q) : Prop := ∃ a, o = some a ∧ Q a
section
variable {α β : Type} {Q : α → Prop} {u : Hold Q}
theorem Sat_some {a : α} : Sat (some a) Q u = Q a := propext ⟨fun ⟨_, e, q⟩ => by cases e; exact q, fun q => ⟨a, rfl, q⟩⟩
theorem Sat_none : Sat none Q u = False := propext ⟨fun h => (by obtain ⟨_, e, _⟩ := h; cases e), False.elim⟩
theorem Sat_bind {o : Option β} {f : β → Option α} : Sat (o.bind f) Q u = Sat o (fun a => Sat (f a) Q ⟨⟩) ⟨⟩ := by
  cases o with
  | none => rw [Sat_none]; exact Sat_none
  | some a => rw [Sat_some]; rfl
theorem Sat_map {o : Option β} {f : β → α} : Sat (o.map f) Q u = Sat o (fun a => Q (f a)) ⟨⟩ := by
  cases o with
  | none => rw [Sat_none]; exact Sat_none
  | some a => rw [Sat_some]; exact Sat_some
theorem Sat_ite {c : Prop} [Decidable c] {x y : Option α} : Sat (if c then x else y) Q u = if c then Sat x Q ⟨⟩ else Sat y Q ⟨⟩ := by split <;> rfl
theorem Sat_eq {o : Option α} {a : α} (h : o = some a) : Sat o Q u = Q a := by rw [h]; exact Sat_some
theorem Sat.imp {o : Option α} {Q' : α → Prop} {u' : Hold Q'} (h : Sat o Q u) (k : ∀ a, Q a → Q' a) : Sat o Q' u' := by
  obtain ⟨a, e, q⟩ := h
  exact ⟨a, e, k a q⟩
theorem Sat.of {o : Option α} {a : α} (h : o = some a) (q : Q a) : Sat o Q u := ⟨a, h, q⟩
end

theorem S_oF  (A : EvE) (ρ : Env) {Q : (PyData × Bool × Env) → Prop} {u : Hold Q} : Sat (oF A ρ) Q u = Sat (α := (PyData × Bool × Env)) ((A ρ).bind fun (m, ρ') => (deep m).map fun d => (d, true, ρ')) Q u := rfl
theorem S_zC  (d : PyData) (ρ : Env) {Q : (M × Env) → Prop} {u : Hold Q} : Sat (zC d ρ) Q u = Sat (α := (M × Env)) (some (.val d, ρ)) Q u := rfl
theorem S_zVar  (i : Nat) (ρ : Env) {Q : (M × Env) → Prop} {u : Hold Q} : Sat (zVar i ρ) Q u = Sat (α := (M × Env)) ((ρ[i]?).bind fun o => o.bind fun m => if isP m then some (m, ρ) else none) Q u := rfl
theorem S_zMv  (i : Nat) (ρ : Env) {Q : (M × Env) → Prop} {u : Hold Q} : Sat (zMv i ρ) Q u = Sat (α := (M × Env)) ((ρ[i]?).bind fun o => o.map fun m => (m, ρ.set i none)) Q u := rfl
theorem S_zVarO  (i : Nat) (ρ : Env) {Q : (PyData × Bool × Env) → Prop} {u : Hold Q} : Sat (zVarO i ρ) Q u = Sat (α := (PyData × Bool × Env)) ((ρ[i]?).bind fun o => o.bind fun m => (sd m).map fun d => (d, isP m, ρ)) Q u := rfl
theorem S_zBin  (o : Bop) (A B : EvO) (pb : Bool) (ρ : Env) {Q : (M × Env) → Prop} {u : Hold Q} : Sat (zBin o A B pb ρ) Q u = Sat (α := (M × Env)) ((A ρ).bind fun (d, p, ρ1) => if p || pb then (B ρ1).bind fun (e, _, ρ2) => (binM o d e).map fun m => (m, ρ2) else none) Q u := rfl
theorem S_zCmp  (o : Cop) (A B : EvO) (pb : Bool) (ρ : Env) {Q : (Bool × Env) → Prop} {u : Hold Q} : Sat (zCmp o A B pb ρ) Q u = Sat (α := (Bool × Env)) ((A ρ).bind fun (d, p, ρ1) => if p || pb then (B ρ1).bind fun (e, _, ρ2) => (cmpB o d e).map fun b => (b, ρ2) else none) Q u := rfl
theorem S_zBv  (A : EvB) (ρ : Env) {Q : (M × Env) → Prop} {u : Hold Q} : Sat (zBv A ρ) Q u = Sat (α := (M × Env)) ((A ρ).map fun (b, ρ') => (.val (.bool b), ρ')) Q u := rfl
theorem S_zTru  (A : EvE) (ρ : Env) {Q : (Bool × Env) → Prop} {u : Hold Q} : Sat (zTru A ρ) Q u = Sat (α := (Bool × Env)) ((A ρ).bind fun (m, ρ') => (truM m).map fun b => (b, ρ')) Q u := rfl
theorem S_zTruV  (i : Nat) (ρ : Env) {Q : (Bool × Env) → Prop} {u : Hold Q} : Sat (zTruV i ρ) Q u = Sat (α := (Bool × Env)) ((ρ[i]?).bind fun o => o.bind fun m => (truM m).map fun b => (b, ρ)) Q u := rfl
theorem S_zNot  (A : EvB) (ρ : Env) {Q : (Bool × Env) → Prop} {u : Hold Q} : Sat (zNot A ρ) Q u = Sat (α := (Bool × Env)) ((A ρ).map fun (b, ρ') => (!b, ρ')) Q u := rfl
theorem S_zNotV  (A : EvE) (ρ : Env) {Q : (M × Env) → Prop} {u : Hold Q} : Sat (zNotV A ρ) Q u = Sat (α := (M × Env)) ((A ρ).bind fun (m, ρ') => match m with
  | .val (.bool b) => some (.val (.bool (!b)), ρ')
  | _ => none) Q u := rfl
theorem S_zAnd  (k : Bool) (A B : EvB) (ρ : Env) {Q : (Bool × Env) → Prop} {u : Hold Q} : Sat (zAnd k A B ρ) Q u = Sat (α := (Bool × Env)) ((A ρ).bind fun (b, ρ1) => if b = k then some (b, ρ1) else B ρ1) Q u := rfl
theorem S_zAndV  (k : Bool) (A B : EvE) (ρ : Env) {Q : (M × Env) → Prop} {u : Hold Q} : Sat (zAndV k A B ρ) Q u = Sat (α := (M × Env)) ((A ρ).bind fun (m, ρ1) => match m with
  | .val (.bool b) => if b = k then some (.val (.bool b), ρ1) else B ρ1
  | _ => none) Q u := rfl
theorem S_zIf  (T : EvB) (A B : EvE) (ρ : Env) {Q : (M × Env) → Prop} {u : Hold Q} : Sat (zIf T A B ρ) Q u = Sat (α := (M × Env)) ((T ρ).bind fun (b, ρ1) => if b = true then A ρ1 else B ρ1) Q u := rfl
theorem S_zNeg  (A : EvO) (ρ : Env) {Q : (M × Env) → Prop} {u : Hold Q} : Sat (zNeg A ρ) Q u = Sat (α := (M × Env)) ((A ρ).bind fun (d, _, ρ1) => match d with
  | .int i => some (.val (.int (-i)), ρ1)
  | _ => none) Q u := rfl
theorem S_zNil  (ρ : Env) {Q : (List M × Env) → Prop} {u : Hold Q} : Sat (zNil ρ) Q u = Sat (α := (List M × Env)) (some ([], ρ)) Q u := rfl
theorem S_zCons  (A : EvE) (B : EvA) (ρ : Env) {Q : (List M × Env) → Prop} {u : Hold Q} : Sat (zCons A B ρ) Q u = Sat (α := (List M × Env)) ((A ρ).bind fun (m, ρ1) => (B ρ1).map fun (ms, ρ2) => (m :: ms, ρ2)) Q u := rfl
theorem S_zTup  (A : EvA) (ρ : Env) {Q : (M × Env) → Prop} {u : Hold Q} : Sat (zTup A ρ) Q u = Sat (α := (M × Env)) ((A ρ).bind fun (ms, ρ') => if ms.length ≤ sizeLine then some (tupM ms, ρ') else none) Q u := rfl
theorem S_zLst  (A : EvA) (ρ : Env) {Q : (M × Env) → Prop} {u : Hold Q} : Sat (zLst A ρ) Q u = Sat (α := (M × Env)) ((A ρ).bind fun (ms, ρ') => if ms.length ≤ sizeLine then some (.lst ms, ρ') else none) Q u := rfl
theorem S_zIx  (A B : EvO) (pb : Bool) (ρ : Env) {Q : (M × Env) → Prop} {u : Hold Q} : Sat (zIx A B pb ρ) Q u = Sat (α := (M × Env)) ((A ρ).bind fun (d, p, ρ1) => if p || pb then (B ρ1).bind fun (e, _, ρ2) => (ixD d e).map fun r => (.val r, ρ2) else none) Q u := rfl
theorem S_zSl  (A : EvO) (L U : Option EvO) (pp : Bool) (ρ : Env) {Q : (M × Env) → Prop} {u : Hold Q} : Sat (zSl A L U pp ρ) Q u = Sat (α := (M × Env)) ((A ρ).bind fun (d, p, ρ1) => if p || pp then (zPart L ρ1).bind fun (lo, ρ2) => (zPart U ρ2).bind fun (hi, ρ3) => (slM d lo hi).map fun m => (m, ρ3) else none) Q u := rfl
theorem S_zgNil  (ρ : Env) {Q : (List Ag × Env) → Prop} {u : Hold Q} : Sat (zgNil ρ) Q u = Sat (α := (List Ag × Env)) (some ([], ρ)) Q u := rfl
theorem S_zgRef  (i : Nat) (B : EvG) (ρ : Env) {Q : (List Ag × Env) → Prop} {u : Hold Q} : Sat (zgRef i B ρ) Q u = Sat (α := (List Ag × Env)) ((ρ[i]?).bind fun o => o.bind fun _ => (B ρ).map fun (gs, ρ2) => (.ref i :: gs, ρ2)) Q u := rfl
theorem S_zgVal  (A : EvE) (B : EvG) (ρ : Env) {Q : (List Ag × Env) → Prop} {u : Hold Q} : Sat (zgVal A B ρ) Q u = Sat (α := (List Ag × Env)) ((A ρ).bind fun (m, ρ1) => (B ρ1).map fun (gs, ρ2) => (.m (frz m) :: gs, ρ2)) Q u := rfl
theorem S_zCall  (G : List M → Option (M × List (Option M))) (A : EvG) (dv : List PyData) (ρ : Env) {Q : (M × Env) → Prop} {u : Hold Q} : Sat (zCall G A dv ρ) Q u = Sat (α := (M × Env)) ((A ρ).bind fun (gs, ρ1) => (takeG gs ρ1).bind fun (ms, ρ2) => (G (ms ++ dv.map .val)).bind fun (m, ms') => (backG gs ms ms' ρ2).map fun ρ3 => (m, ρ3)) Q u := rfl
theorem S_zMake  (c : Str) (G : List M → Option (M × List (Option M))) (A : EvG) (dv : List PyData) (ρ : Env) {Q : (M × Env) → Prop} {u : Hold Q} : Sat (zMake c G A dv ρ) Q u = Sat (α := (M × Env)) ((A ρ).bind fun (gs, ρ1) => (takeG gs ρ1).bind fun (ms, ρ2) => match G (.ins c [] :: (ms ++ dv.map .val)) with
  | some (.val .none, some m :: ms') => (backG gs ms ms' ρ2).map fun ρ3 => (m, ρ3)
  | _ => none) Q u := rfl
theorem S_zFrz  (A : EvE) (ρ : Env) {Q : (M × Env) → Prop} {u : Hold Q} : Sat (zFrz A ρ) Q u = Sat (α := (M × Env)) ((A ρ).map fun (m, ρ') => (frz m, ρ')) Q u := rfl
theorem S_rVar  (i : Nat) (ρ : Env) {Q : M → Prop} {u : Hold Q} : Sat (rVar i ρ) Q u = Sat (α := M) ((ρ[i]?).bind fun o => o) Q u := rfl
theorem S_rIx  (A : EvR) (B : EvO) (ρ : Env) {Q : M → Prop} {u : Hold Q} : Sat (rIx A B ρ) Q u = Sat (α := M) ((A ρ).bind fun m => (B ρ).bind fun (d, _, _) => at1 m (.ix d)) Q u := rfl
theorem S_rFld  (A : EvR) (x : Str) (ρ : Env) {Q : M → Prop} {u : Hold Q} : Sat (rFld A x ρ) Q u = Sat (α := M) ((A ρ).bind fun m => at1 m (.fld x)) Q u := rfl
theorem S_rIx2  (A : EvR) (B : EvO) (ρ : Env) {Q : M → Prop} {u : Hold Q} : Sat (rIx2 A B ρ) Q u = Sat (α := M) ((A ρ).bind fun m => (B ρ).bind fun (d, p, _) => if p then at2 m d else none) Q u := rfl
theorem S_zIxV  (i : Nat) (B : EvO) (ρ : Env) {Q : (M × Env) → Prop} {u : Hold Q} : Sat (zIxV i B ρ) Q u = Sat (α := (M × Env)) ((ρ[i]?).bind fun o => o.bind fun _ => (B ρ).bind fun (d, p, ρ1) => if p then (ρ1[i]?).bind fun o => o.bind fun m => (at2 m d).bind fun m' => if isP m' then some (m', ρ1) else none else none) Q u := rfl
theorem S_zR  (A : EvR) (ρ : Env) {Q : (M × Env) → Prop} {u : Hold Q} : Sat (zR A ρ) Q u = Sat (α := (M × Env)) ((A ρ).bind fun m => if isP m then some (m, ρ) else none) Q u := rfl
theorem S_oR  (A : EvR) (ρ : Env) {Q : (PyData × Bool × Env) → Prop} {u : Hold Q} : Sat (oR A ρ) Q u = Sat (α := (PyData × Bool × Env)) ((A ρ).bind fun m => (sd m).map fun d => (d, isP m, ρ)) Q u := rfl
theorem S_tRu  (A : EvR) (ρ : Env) {Q : (Bool × Env) → Prop} {u : Hold Q} : Sat (tRu A ρ) Q u = Sat (α := (Bool × Env)) ((A ρ).bind fun m => (truM m).map fun b => (b, ρ)) Q u := rfl
theorem S_zDin  (ng : Bool) (K : EvO) (A : EvR) (ρ : Env) {Q : (Bool × Env) → Prop} {u : Hold Q} : Sat (zDin ng K A ρ) Q u = Sat (α := (Bool × Env)) ((K ρ).bind fun (d, p, ρ1) => if p then (A ρ1).bind fun m => (dictIn m d).map fun b => (b != ng, ρ1) else none) Q u := rfl
theorem S_zsNil  (ρ : Env) {Q : (List PyData × Env) → Prop} {u : Hold Q} : Sat (zsNil ρ) Q u = Sat (α := (List PyData × Env)) (some ([], ρ)) Q u := rfl
theorem S_zsCons  (A : EvO) (B : EvOs) (pb : Bool) (ρ : Env) {Q : (List PyData × Env) → Prop} {u : Hold Q} : Sat (zsCons A B pb ρ) Q u = Sat (α := (List PyData × Env)) ((A ρ).bind fun (d, p, ρ1) => if p || pb then (B ρ1).map fun (ds, ρ2) => (d :: ds, ρ2) else none) Q u := rfl
theorem S_zBi  (bi : List PyData → Option M) (A : EvOs) (ρ : Env) {Q : (M × Env) → Prop} {u : Hold Q} : Sat (zBi bi A ρ) Q u = Sat (α := (M × Env)) ((A ρ).bind fun (ds, ρ1) => (bi ds).map fun m => (m, ρ1)) Q u := rfl
theorem S_zIsi  (A : EvR) (g : Tag) (ρ : Env) {Q : (Bool × Env) → Prop} {u : Hold Q} : Sat (zIsi A g ρ) Q u = Sat (α := (Bool × Env)) ((A ρ).bind fun m => (tagM m).map fun t => (t.sub g, ρ)) Q u := rfl
theorem S_zLen  (A : EvR) (ρ : Env) {Q : (M × Env) → Prop} {u : Hold Q} : Sat (zLen A ρ) Q u = Sat (α := (M × Env)) ((A ρ).bind fun m => (lenM m).map fun (n : Nat) => (vI (n : Int), ρ)) Q u := rfl
theorem S_zKeys  (A : EvR) (ρ : Env) {Q : (M × Env) → Prop} {u : Hold Q} : Sat (zKeys A ρ) Q u = Sat (α := (M × Env)) ((A ρ).bind fun m => (dkeys m).map fun ks => (.lst (ks.map .val), ρ)) Q u := rfl
theorem S_zTupM  (A : EvE) (ρ : Env) {Q : (M × Env) → Prop} {u : Hold Q} : Sat (zTupM A ρ) Q u = Sat (α := (M × Env)) ((A ρ).bind fun (m, ρ1) => (tupOf m).map fun m' => (m', ρ1)) Q u := rfl
theorem S_zLstM  (A : EvE) (ρ : Env) {Q : (M × Env) → Prop} {u : Hold Q} : Sat (zLstM A ρ) Q u = Sat (α := (M × Env)) ((A ρ).bind fun (m, ρ1) => (lstOf m).map fun m' => (m', ρ1)) Q u := rfl
theorem S_gRg1  (A : EvO) (ρ : Env) {Q : (Int × Int × Env) → Prop} {u : Hold Q} : Sat (gRg1 A ρ) Q u = Sat (α := (Int × Int × Env)) ((A ρ).bind fun (d, _, ρ1) => match d with
  | .int n => some (0, n, ρ1)
  | _ => none) Q u := rfl
theorem S_gRg2  (A B : EvO) (ρ : Env) {Q : (Int × Int × Env) → Prop} {u : Hold Q} : Sat (gRg2 A B ρ) Q u = Sat (α := (Int × Int × Env)) ((A ρ).bind fun (d, _, ρ1) => (B ρ1).bind fun (e, _, ρ2) => match d, e with
  | .int m, .int n => some (m, n, ρ2)
  | _, _ => none) Q u := rfl
theorem S_zRgL  (A : EvRg) (ρ : Env) {Q : (M × Env) → Prop} {u : Hold Q} : Sat (zRgL A ρ) Q u = Sat (α := (M × Env)) ((A ρ).bind fun (i, j, ρ1) => if rgOk i j = true then some (.lst ((rgD i j).map .val), ρ1) else none) Q u := rfl
theorem S_zRgT  (A : EvRg) (ρ : Env) {Q : (M × Env) → Prop} {u : Hold Q} : Sat (zRgT A ρ) Q u = Sat (α := (M × Env)) ((A ρ).bind fun (i, j, ρ1) => if rgOk i j = true then some (.val (.tuple (rgD i j)), ρ1) else none) Q u := rfl
theorem S_pRoot  (i : Nat) (ρ : Env) {Q : (Nat × List Acs) → Prop} {u : Hold Q} : Sat (pRoot i ρ) Q u = Sat (α := (Nat × List Acs)) (some (i, [])) Q u := rfl
theorem S_pIx  (A : EvP) (B : EvO) (ρ : Env) {Q : (Nat × List Acs) → Prop} {u : Hold Q} : Sat (pIx A B ρ) Q u = Sat (α := (Nat × List Acs)) ((A ρ).bind fun (i, ac) => (B ρ).bind fun (d, p, _) => if p then some (i, .ix d :: ac) else none) Q u := rfl
theorem S_pFld  (A : EvP) (x : Str) (ρ : Env) {Q : (Nat × List Acs) → Prop} {u : Hold Q} : Sat (pFld A x ρ) Q u = Sat (α := (Nat × List Acs)) ((A ρ).map fun (i, ac) => (i, .fld x :: ac)) Q u := rfl
theorem S_zMet  (T : String) (op : MOp) (P : EvP) (A : EvA) (ρ : Env) {Q : (M × Env) → Prop} {u : Hold Q} : Sat (zMet T op P A ρ) Q u = Sat (α := (M × Env)) ((P ρ).bind fun (i, ac) => (ρ[i]?).bind fun o => o.bind fun m0 => (foc m0 ac).bind fun n => if tyM T n = true then (A ρ).bind fun (ms, ρ1) => (op n ms).bind fun (r, n') => (put m0 ac n').map fun m' => (r, ρ.set i (some m')) else none) Q u := rfl
theorem S_zMetH  (T : String) (op : MOp) (P : EvP) (A : EvA) (ρ : Env) {Q : (M × Env) → Prop} {u : Hold Q} : Sat (zMetH T op P A ρ) Q u = Sat (α := (M × Env)) ((P ρ).bind fun (i, ac) => (ρ[i]?).bind fun o => o.bind fun m0 => (foc m0 ac).bind fun n => if tyM T n = true then (A (ρ.set i none)).bind fun (ms, ρ1) => if isHid ρ1 i = true then (op n ms).bind fun (r, n') => (put m0 ac n').map fun m' => (r, ρ1.set i (some m')) else none else none) Q u := rfl
theorem S_wName  (lk : Nat → Bool) (i : Nat) (m : M) (ρ : Env) {Q : Env → Prop} {u : Hold Q} : Sat (wName lk i m ρ) Q u = Sat (α := Env) (if lk i = true then none else if i < ρ.length then some (ρ.set i (some m)) else none) Q u := rfl
theorem S_wsNil  (ms : List M) (ρ : Env) {Q : Env → Prop} {u : Hold Q} : Sat (wsNil ms ρ) Q u = Sat (α := Env) (match ms with
  | [] => some ρ
  | _ => none) Q u := rfl
theorem S_wsCons  (A : EvT) (B : EvTs) (ms : List M) (ρ : Env) {Q : Env → Prop} {u : Hold Q} : Sat (wsCons A B ms ρ) Q u = Sat (α := Env) (match ms with
  | m :: r => (A m ρ).bind fun ρ1 => B r ρ1
  | _ => none) Q u := rfl
theorem S_wTup  (n : Nat) (A : EvTs) (m : M) (ρ : Env) {Q : Env → Prop} {u : Hold Q} : Sat (wTup n A m ρ) Q u = Sat (α := Env) (match m with
  | .val (.tuple ds) => if ds.length = n then A (ds.map .val) ρ else none
  | .tup ms => if ms.length = n then A ms ρ else none
  | _ => none) Q u := rfl
theorem S_wSub  (P : EvP) (K : EvO) (m : M) (ρ : Env) {Q : Env → Prop} {u : Hold Q} : Sat (wSub P K m ρ) Q u = Sat (α := Env) ((P ρ).bind fun (i, ac) => (ρ[i]?).bind fun o => o.bind fun m0 => (foc m0 ac).bind fun n => (K ρ).bind fun (d, p, ρ1) => if p then (stoM n d m).bind fun n' => (put m0 ac n').map fun m' => ρ.set i (some m') else none) Q u := rfl
theorem S_wSubH  (P : EvP) (K : EvO) (m : M) (ρ : Env) {Q : Env → Prop} {u : Hold Q} : Sat (wSubH P K m ρ) Q u = Sat (α := Env) ((P ρ).bind fun (i, ac) => (ρ[i]?).bind fun o => o.bind fun m0 => (foc m0 ac).bind fun n => (K (ρ.set i none)).bind fun (d, p, ρ1) => if (p && isHid ρ1 i) then (stoM n d m).bind fun n' => (put m0 ac n').map fun m' => ρ1.set i (some m') else none) Q u := rfl
theorem S_sNext  (ρ : Env) {Q : Res → Prop} {u : Hold Q} : Sat (sNext ρ) Q u = Sat (α := Res) (some (.nx ρ)) Q u := rfl
theorem S_sBreak  (ρ : Env) {Q : Res → Prop} {u : Hold Q} : Sat (sBreak ρ) Q u = Sat (α := Res) (some (.br ρ)) Q u := rfl
theorem S_sCont  (ρ : Env) {Q : Res → Prop} {u : Hold Q} : Sat (sCont ρ) Q u = Sat (α := Res) (some (.ct ρ)) Q u := rfl
theorem S_sSeq  (A B : EvS) (ρ : Env) {Q : Res → Prop} {u : Hold Q} : Sat (sSeq A B ρ) Q u = Sat (α := Res) ((A ρ).bind fun r => match r with
  | .nx ρ1 => B ρ1
  | r => some r) Q u := rfl
theorem S_sIf  (T : EvB) (A B : EvS) (ρ : Env) {Q : Res → Prop} {u : Hold Q} : Sat (sIf T A B ρ) Q u = Sat (α := Res) ((T ρ).bind fun (b, ρ1) => if b = true then A ρ1 else B ρ1) Q u := rfl
theorem S_sExpr  (A : EvE) (ρ : Env) {Q : Res → Prop} {u : Hold Q} : Sat (sExpr A ρ) Q u = Sat (α := Res) ((A ρ).map fun (_, ρ1) => .nx ρ1) Q u := rfl
theorem S_sRet  (A : EvE) (ρ : Env) {Q : Res → Prop} {u : Hold Q} : Sat (sRet A ρ) Q u = Sat (α := Res) ((A ρ).map fun (m, ρ1) => .rt m ρ1) Q u := rfl
theorem S_sRetN  (ρ : Env) {Q : Res → Prop} {u : Hold Q} : Sat (sRetN ρ) Q u = Sat (α := Res) (some (.rt (.val .none) ρ)) Q u := rfl
theorem S_sAsg  (A : EvE) (W : EvT) (ρ : Env) {Q : Res → Prop} {u : Hold Q} : Sat (sAsg A W ρ) Q u = Sat (α := Res) ((A ρ).bind fun (m, ρ1) => (W m ρ1).map fun ρ2 => .nx ρ2) Q u := rfl
theorem S_sPar  (A : EvA) (i j : Nat) (lk : Nat → Bool) (ρ : Env) {Q : Res → Prop} {u : Hold Q} : Sat (sPar A i j lk ρ) Q u = Sat (α := Res) ((A ρ).bind fun (ms, ρ1) => match ms with
  | [m, n] => if lk i = true ∨ lk j = true then none else if i < ρ1.length ∧ j < ρ1.length then some (.nx ((ρ1.set i (some m)).set j (some n))) else none
  | _ => none) Q u := rfl
theorem S_sFrz  (i : Nat) (A : EvS) (ρ : Env) {Q : Res → Prop} {u : Hold Q} : Sat (sFrz i A ρ) Q u = Sat (α := Res) ((ρ[i]?).bind fun o => o.bind fun m => A (ρ.set i (some (frz m)))) Q u := rfl
theorem S_iSeq  (A : EvO) (ρ : Env) {Q : (List M × Env) → Prop} {u : Hold Q} : Sat (iSeq A ρ) Q u = Sat (α := (List M × Env)) ((A ρ).bind fun (d, p, ρ1) => if p then (seqD d).map fun ds => (ds.map .val, ρ1) else none) Q u := rfl
theorem S_iZp  (A : EvOs) (ρ : Env) {Q : (List M × Env) → Prop} {u : Hold Q} : Sat (iZp A ρ) Q u = Sat (α := (List M × Env)) ((A ρ).bind fun (xs, ρ1) => match xs with
  | [.list ds, .list es] => some ((zipD ds es).map .val, ρ1)
  | [.tuple ds, .tuple es] => some ((zipD ds es).map .val, ρ1)
  | _ => none) Q u := rfl
theorem S_iSeqR  (A : EvR) (ρ : Env) {Q : (List M × Env) → Prop} {u : Hold Q} : Sat (iSeqR A ρ) Q u = Sat (α := (List M × Env)) ((A ρ).bind fun m => (itemsM m).map fun ms => (ms, ρ)) Q u := rfl
theorem S_rgI1  (A : EvOs) (ρ : Env) {Q : (Int × Int × Env) → Prop} {u : Hold Q} : Sat (rgI1 A ρ) Q u = Sat (α := (Int × Int × Env)) ((A ρ).bind fun (xs, ρ1) => match xs with
  | [.int j] => some (0, j, ρ1)
  | [.int i, .int j] => some (i, j, ρ1)
  | _ => none) Q u := rfl
theorem S_zdCons  (A : EvO) (B : EvOs) (ρ : Env) {Q : (List PyData × Env) → Prop} {u : Hold Q} : Sat (zdCons A B ρ) Q u = Sat (α := (List PyData × Env)) ((A ρ).bind fun (d, p, ρ1) => if p then (B ρ1).map fun (ds, ρ2) => (d :: ds, ρ2) else none) Q u := rfl
theorem S_sFor  (A : EvI) (W : EvT) (B : EvS) (ρ : Env) {Q : Res → Prop} {u : Hold Q} : Sat (sFor A W B ρ) Q u = Sat (α := Res) ((A ρ).bind fun (ds, ρ1) => forD W B ds ρ1) Q u := rfl
theorem S_iEn  (A : EvOs) (ρ : Env) {Q : (List M × Env) → Prop} {u : Hold Q} : Sat (iEn A ρ) Q u = Sat (α := (List M × Env)) ((A ρ).bind fun (xs, ρ1) => match xs with
  | [.list ds] => some ((enumD 0 ds).map .val, ρ1)
  | [.tuple ds] => some ((enumD 0 ds).map .val, ρ1)
  | _ => none) Q u := rfl
theorem S_sFldS  (A : EvE) (P : EvP) (x : Str) (ρ : Env) {Q : Res → Prop} {u : Hold Q} : Sat (sFldS A P x ρ) Q u = Sat (α := Res) ((A ρ).bind fun (m, ρ1) => (P ρ1).bind fun (i, ac) => (ρ1[i]?).bind fun o => o.bind fun m0 => (foc m0 ac).bind fun n => match n with
  | .ins c fs => if fs.length < 1000 then (put m0 ac (.ins c (pF x m fs))).map fun m' => .nx (ρ1.set i (some m')) else none
  | _ => none) Q u := rfl
theorem S_sAug  (lk : Nat → Bool) (s : Bool) (i : Nat) (A : EvO) (ρ : Env) {Q : Res → Prop} {u : Hold Q} : Sat (sAug lk s i A ρ) Q u = Sat (α := Res) ((ρ[i]?).bind fun o => o.bind fun m => match m with
  | .val (.int a) => if lk i = true then none else (A ρ).bind fun (d, _, ρ1) => match d with
    | .int b => if i < ρ1.length then some (.nx (ρ1.set i (some (.val (.int (if s then a - b else a + b)))))) else none
    | _ => none
  | _ => none) Q u := rfl
theorem S_zCallP  (G : List M → Option (M × List (Option M))) (A : EvG) (dv : List PyData) (ρ : Env) {Q : (M × Env) → Prop} {u : Hold Q} : Sat (zCallP G A dv ρ) Q u = Sat (α := (M × Env)) ((A ρ).bind fun (gs, ρ1) => if gs.all (pureA ρ1) = true then (takeG gs ρ1).bind fun (ms, _) => (G (ms ++ dv.map .val)).map fun (m, _) => (m, ρ1) else none) Q u := rfl
theorem S_bName  (own : List Nat) (i : Nat) (d : M) (ρ : Env) {Q : Env → Prop} {u : Hold Q} : Sat (bName own i d ρ) Q u = Sat (α := Env) (if (own.contains i && isHid ρ i) = true then some (ρ.set i (some d)) else none) Q u := rfl
theorem S_bsNil  (ds : List M) (ρ : Env) {Q : Env → Prop} {u : Hold Q} : Sat (bsNil ds ρ) Q u = Sat (α := Env) (match ds with
  | [] => some ρ
  | _ => none) Q u := rfl
theorem S_bsCons  (A : EvW) (B : EvWs) (ds : List M) (ρ : Env) {Q : Env → Prop} {u : Hold Q} : Sat (bsCons A B ds ρ) Q u = Sat (α := Env) (match ds with
  | d :: r => (A d ρ).bind fun ρ1 => B r ρ1
  | _ => none) Q u := rfl
theorem S_bTup  (n : Nat) (A : EvWs) (d : M) (ρ : Env) {Q : Env → Prop} {u : Hold Q} : Sat (bTup n A d ρ) Q u = Sat (α := Env) (match d with
  | .val (.tuple ds) => if ds.length = n then A (ds.map .val) ρ else none
  | _ => none) Q u := rfl
theorem S_zYes  (ρ : Env) {Q : (Bool × Env) → Prop} {u : Hold Q} : Sat (zYes ρ) Q u = Sat (α := (Bool × Env)) (some (true, ρ)) Q u := rfl
theorem S_zLcP  (I : EvI) (W : EvW) (T : EvB) (A : EvE) (own : List Nat) (ρ : Env) {Q : (M × Env) → Prop} {u : Hold Q} : Sat (zLcP I W T A own ρ) Q u = Sat (α := (M × Env)) ((I ρ).bind fun (ds, ρ1) => (lcP W T A (wipeE ρ1 own) ds []).map fun ms => (.lst ms, ρ1)) Q u := rfl
theorem S_zLcF  (I : EvI) (W : EvW) (T : EvB) (A : EvE) (own : List Nat) (ρ : Env) {Q : (M × Env) → Prop} {u : Hold Q} : Sat (zLcF I W T A own ρ) Q u = Sat (α := (M × Env)) ((I ρ).bind fun (ds, ρ1) => (lcF W T A own ds [] (wipeE ρ1 own)).map fun (ms, ρ2) => (.lst ms, ρ2)) Q u := rfl
theorem S_zDict0  (t : Bool) (ρ : Env) {Q : (M × Env) → Prop} {u : Hold Q} : Sat (zDict0 t ρ) Q u = Sat (α := (M × Env)) (some (.dct t [], ρ)) Q u := rfl
theorem S_zDict1  (t : Bool) (K : EvO) (V : EvE) (ρ : Env) {Q : (M × Env) → Prop} {u : Hold Q} : Sat (zDict1 t K V ρ) Q u = Sat (α := (M × Env)) ((K ρ).bind fun (d, p, ρ1) => if p then (V ρ1).bind fun (m, ρ2) => if kok t d = true then some (.dct t [(d, m)], ρ2) else none else none) Q u := rfl
theorem S_zRepL  (A : EvE) (B : EvO) (ρ : Env) {Q : (M × Env) → Prop} {u : Hold Q} : Sat (zRepL A B ρ) Q u = Sat (α := (M × Env)) ((A ρ).bind fun (m, ρ1) => match m with
  | .lst ms => (vals ms).bind fun ds => (B ρ1).bind fun (d, _, ρ2) => match d with
    | .int k => if -(2 ^ 63) ≤ k ∧ k < 2 ^ 63 ∧ ds.length * k.toNat ≤ sizeLine then some (.lst ((List.replicate k.toNat ds).flatten.map .val), ρ2) else none
    | _ => none
  | _ => none) Q u := rfl
theorem S_zTimes  (A B : EvO) (pb : Bool) (ρ : Env) {Q : (M × Env) → Prop} {u : Hold Q} : Sat (zTimes A B pb ρ) Q u = Sat (α := (M × Env)) ((A ρ).bind fun (d, p, ρ1) => if p || pb then (B ρ1).bind fun (e, _, ρ2) => match d, e with
  | .tuple ds, .int k => if ds ≠ [] ∧ 2 ≤ k ∧ ((ds.length : Nat) : Int) * k ≤ 1000000 then some (.val (.tuple (List.replicate k.toNat ds).flatten), ρ2) else none
  | _, _ => none else none) Q u := rfl
theorem S_zRevL  (A : EvO) (ρ : Env) {Q : (M × Env) → Prop} {u : Hold Q} : Sat (zRevL A ρ) Q u = Sat (α := (M × Env)) ((A ρ).bind fun (d, _, ρ1) => match d with
  | .list ds => some (.lst (ds.reverse.map .val), ρ1)
  | _ => none) Q u := rfl
theorem S_iR1  (A : EvOs) (ρ : Env) {Q : (List M × Env) → Prop} {u : Hold Q} : Sat (iR1 A ρ) Q u = Sat (α := (List M × Env)) ((A ρ).bind fun (xs, ρ1) => match xs with | [.int j] => if rgOk 0 j = true then some ((rgD 0 j).map .val, ρ1) else none | _ => none) Q u := rfl
theorem S_iR2  (A : EvOs) (ρ : Env) {Q : (List M × Env) → Prop} {u : Hold Q} : Sat (iR2 A ρ) Q u = Sat (α := (List M × Env)) ((A ρ).bind fun (xs, ρ1) => match xs with | [.int i, .int j] => if rgOk i j = true then some ((rgD i j).map .val, ρ1) else none | _ => none) Q u := rfl
theorem S_sNever  (ρ : Env) {Q : Res → Prop} {u : Hold Q} : Sat (sNever ρ) Q u = Sat (α := Res) (none) Q u := rfl
theorem S_zgApp  (A B : EvG) (ρ : Env) {Q : (List Ag × Env) → Prop} {u : Hold Q} : Sat (zgApp A B ρ) Q u = Sat (α := (List Ag × Env)) ((A ρ).bind fun (gs, ρ1) => (B ρ1).map fun (hs, ρ2) => (gs ++ hs, ρ2)) Q u := rfl
theorem S_zEmp  (A : EvR) (ρ : Env) {Q : (Bool × Env) → Prop} {u : Hold Q} : Sat (zEmp A ρ) Q u = Sat (α := (Bool × Env)) ((A ρ).bind fun m => (emptyD m).map fun b => (b, ρ)) Q u := rfl
theorem S_zRevT  (A : EvO) (B : EvO) (ρ : Env) {Q : (M × Env) → Prop} {u : Hold Q} : Sat (zRevT A B ρ) Q u = Sat (α := (M × Env)) ((A ρ).bind fun (d, p, ρ1) => if p then (B ρ1).bind fun (e, _, ρ2) => match d, e with
  | .tuple ds, .int (-1) => some (.val (.tuple ds.reverse), ρ2)
  | _, _ => none else none) Q u := rfl
theorem S_runB {lk : Nat → Bool} {N n : Nat} {B : EvS} {ms : List M} {Q : M × List (Option M) → Prop} {u : Hold Q} : Sat (runB lk N n B ms) Q u = Sat (B (ms.map some ++ List.replicate (N - n) none)) (fun r => match r with
  | .rt m ρ => Q (m, maskE lk n ρ)
  | .nx ρ => Q (.val .none, maskE lk n ρ)
  | _ => False) ⟨⟩ := by
  unfold runB
  cases B (ms.map some ++ List.replicate (N - n) none) with
  | none => rw [Sat_none]; exact Sat_none.symm
  | some r =>
    rw [Sat_some]
    cases r with
    | nx ρ => exact Sat_some
    | rt m ρ => exact Sat_some
    | br ρ => exact Sat_none
    | ct ρ => exact Sat_none
theorem S_zMet0 {T : String} {op : MOp} {P : EvP} {ρ : Env} {Q : M × Env → Prop} {u : Hold Q} : Sat (zMet0 T op P ρ) Q u = Sat (zMet T op P zNil ρ) Q u := rfl
theorem S_forNil {W : EvT} {B : EvS} {ρ : Env} {Q : Res → Prop} {u : Hold Q} : Sat (forD W B [] ρ) Q u = Q (.nx ρ) := Sat_some
theorem S_forCons {W : EvT} {B : EvS} {d : M} {ds : List M} {ρ : Env} {Q : Res → Prop} {u : Hold Q} : Sat (forD W B (d :: ds) ρ) Q u = Sat ((W d ρ).bind fun ρ1 => (B ρ1).bind fun r => match r with
    | .nx ρ2 => forD W B ds ρ2
    | .ct ρ2 => forD W B ds ρ2
    | .br ρ2 => some (.nx ρ2)
    | .rt m ρ2 => some (.rt m ρ2)) Q u := rfl
/-- one round of a while -/
theorem S_while {k : Nat} {T : EvB} {B : EvS} {ρ : Env} {Q : Res → Prop} {u : Hold Q} : Sat (whileF T B (k + 1) ρ) Q u = Sat ((T ρ).bind fun (b, ρ1) => if b = true then (B ρ1).bind fun r => match r with
    | .nx ρ2 => whileF T B k ρ2
    | .ct ρ2 => whileF T B k ρ2
    | .br ρ2 => some (.nx ρ2)
    | .rt m ρ2 => some (.rt m ρ2) else some (.nx ρ1)) Q u := rfl
/-- a loop keeps what each round keeps -/
theorem Sat_for {W : EvT} {B : EvS} {ρ : Env} {Q : Res → Prop} {u : Hold Q} (I : List M → Env → Prop) : ∀ {ds : List M}, I ds ρ → (∀ ρ, I [] ρ → Q (.nx ρ)) →
    (∀ d ds ρ, I (d :: ds) ρ → Sat ((W d ρ).bind fun ρ1 => B ρ1) (fun r => match r with
      | .nx ρ2 => I ds ρ2
      | .ct ρ2 => I ds ρ2
      | .br ρ2 => Q (.nx ρ2)
      | .rt m ρ2 => Q (.rt m ρ2)) ⟨⟩) → Sat (forD W B ds ρ) Q u := by
  intro ds
  induction ds generalizing ρ with
  | nil => intro h q _; rw [S_forNil]; exact q _ h
  | cons d ds ih =>
    intro h q k
    have := k d ds ρ h
    rw [S_forCons, Sat_bind]
    rw [Sat_bind] at this
    refine this.imp fun ρ1 h1 => ?_
    rw [Sat_bind]
    refine h1.imp fun r h2 => ?_
    cases r with
    | nx ρ2 => exact ih h2 q k
    | ct ρ2 => exact ih h2 q k
    | br ρ2 => rw [Sat_some]; exact h2
    | rt m ρ2 => rw [Sat_some]; exact h2
end Z

set_option Elab.async false
set_option linter.all false
set_option maxRecDepth 100000
/-! S2: a while loop by a measure. -/
namespace Z
open PySem L2 Evl
theorem Sat_while {T : EvB} {B : EvS} {Q : Res → Prop} {u : Hold Q} (I : Nat → Env → Prop) (hs : ∀ n ρ, I n ρ → Sat (T ρ) (fun x => if x.1 = true then Sat (B x.2) (fun r => match r with
      | .nx ρ2 => ∃ m, m < n ∧ I m ρ2
      | .ct ρ2 => ∃ m, m < n ∧ I m ρ2
      | .br ρ2 => Q (.nx ρ2)
      | .rt m ρ2 => Q (.rt m ρ2)) ⟨⟩ else Q (.nx x.2)) ⟨⟩) : ∀ {k n : Nat} {ρ : Env}, n < k → I n ρ → Sat (sWhile k T B ρ) Q u := by
  intro k
  induction k with
  | zero => intro n ρ h _; omega
  | succ k ih =>
    intro n ρ h i
    have := hs n ρ i
    show Sat (whileF T B (k + 1) ρ) Q u
    rw [S_while, Sat_bind]
    refine this.imp fun x hx => ?_
    obtain ⟨b, ρ1⟩ := x
    show Sat (if b = true then (B ρ1).bind _ else some (.nx ρ1)) Q u
    rw [Sat_ite]
    cases b with
    | false => exact Sat_some.symm ▸ hx
    | true =>
      show Sat ((B ρ1).bind _) Q u
      rw [Sat_bind]
      refine Sat.imp (o := B ρ1) (u := ⟨⟩) hx fun r h2 => ?_
      cases r with
      | nx ρ2 => obtain ⟨m, hm, i2⟩ := h2; exact ih (by omega) i2
      | ct ρ2 => obtain ⟨m, hm, i2⟩ := h2; exact ih (by omega) i2
      | br ρ2 => exact Sat_some.symm ▸ h2
      | rt m ρ2 => exact Sat_some.symm ▸ h2
end Z

set_option Elab.async false
set_option linter.all false
set_option maxRecDepth 100000
/-! S3: rules on values, for running a reading. -/
namespace Z
open PySem L2 Evl
theorem atI_zero {α : Type} {x : α} {xs : List α} : atI (x :: xs) 0 = some x := by
  have : ixN (x :: xs).length 0 = some 0 := by
    unfold ixN
    rw [if_pos (by decide), if_pos (by simp only [List.length_cons]; omega)]
    rfl
  unfold atI; rw [this]; rfl
theorem atI_one {α : Type} {x y : α} {xs : List α} : atI (x :: y :: xs) 1 = some y := by
  have : ixN (x :: y :: xs).length 1 = some 1 := by
    unfold ixN
    rw [if_pos (by decide), if_pos (by simp only [List.length_cons]; omega)]
    rfl
  unfold atI; rw [this]; rfl
theorem atI_two {α : Type} {x y z : α} {xs : List α} : atI (x :: y :: z :: xs) 2 = some z := by
  have : ixN (x :: y :: z :: xs).length 2 = some 2 := by
    unfold ixN
    rw [if_pos (by decide), if_pos (by simp only [List.length_cons]; omega)]
    rfl
  unfold atI; rw [this]; rfl
theorem ixN_nat {n : Nat} {k : Nat} (h : k < n) : ixN n (k : Int) = some k := by
  unfold ixN
  rw [if_pos (by omega), if_pos (by omega)]
  rfl
theorem atI_nat {α : Type} {xs : List α} {k : Nat} : atI xs (k : Int) = xs[k]? := by
  unfold atI
  by_cases h : k < xs.length
  · rw [ixN_nat h]; rfl
  · have e : ixN xs.length (k : Int) = none := by
      unfold ixN
      rw [if_pos (by omega), if_neg (by omega)]
    rw [e, List.getElem?_eq_none (by omega)]; rfl
theorem atI_int {α : Type} {xs : List α} {i : Int} (h0 : 0 ≤ i) : atI xs i = xs[i.toNat]? := by
  have := atI_nat (xs := xs) (k := i.toNat)
  rw [Int.toNat_of_nonneg h0] at this
  exact this
theorem atI_last {α : Type} {xs : List α} : atI xs (-1) = xs.getLast? := by
  unfold atI ixN
  rw [if_neg (by omega), List.getLast?_eq_getElem?]
  by_cases h : xs.length = 0
  · rw [if_neg (by omega), List.getElem?_eq_none (by omega)]; rfl
  · rw [if_pos (by omega)]
    show xs[(-1 + (xs.length : Int)).toNat]? = _
    have : (-1 + (xs.length : Int)).toNat = xs.length - 1 := by omega
    rw [this]
theorem up_zero {x n : M} {xs : List M} : up (.lst (x :: xs)) (.ix (.int 0)) n = some (.lst (n :: xs)) := by
  unfold up
  have : ixN (x :: xs).length 0 = some 0 := by
    unfold ixN
    rw [if_pos (by decide), if_pos (by simp only [List.length_cons]; omega)]
    rfl
  simp only [this]; rfl
theorem up_one {x y n : M} {xs : List M} : up (.lst (x :: y :: xs)) (.ix (.int 1)) n = some (.lst (x :: n :: xs)) := by
  unfold up
  have : ixN (x :: y :: xs).length 1 = some 1 := by
    unfold ixN
    rw [if_pos (by decide), if_pos (by simp only [List.length_cons]; omega)]
    rfl
  simp only [this]; rfl
theorem lay_seq : ∀ {ds : List PyData}, (∀ d ∈ ds, d.canLay0 = true ∧ d.depth ≤ 63) → PyData.canLayAll0 ds = true ∧ PyData.depthAll ds ≤ 63
  | [], _ => by simp [PyData.canLayAll0, PyData.depthAll]
  | d :: ds, h => by
    obtain ⟨h1, h2⟩ := lay_seq (ds := ds) fun e he => h e (List.mem_cons_of_mem _ he)
    obtain ⟨h3, h4⟩ := h d List.mem_cons_self
    refine ⟨by rw [PyData.canLayAll0, h1, h3]; rfl, ?_⟩
    rw [PyData.depthAll]
    exact Nat.max_le.mpr ⟨h4, h2⟩
theorem shp_list {ds : List PyData} (h : ∀ d ∈ ds, d.canLay0 = true ∧ d.depth ≤ 63) : shp (.list ds) = true := by
  obtain ⟨h1, h2⟩ := lay_seq h
  show ((PyData.list ds).canLay0 && decide ((PyData.list ds).depth ≤ 64)) = true
  rw [PyData.canLay0, h1, PyData.depth, decide_eq_true (by omega)]; rfl
theorem shp_tuple {ds : List PyData} (h : ∀ d ∈ ds, d.canLay0 = true ∧ d.depth ≤ 63) : shp (.tuple ds) = true := by
  obtain ⟨h1, h2⟩ := lay_seq h
  show ((PyData.tuple ds).canLay0 && decide ((PyData.tuple ds).depth ≤ 64)) = true
  rw [PyData.canLay0, h1, PyData.depth, decide_eq_true (by omega)]; rfl
theorem shp_ints (xs : List Int) : shp (.list (xs.map .int)) = true := shp_list fun d h => by
  obtain ⟨i, _, rfl⟩ := List.mem_map.mp h
  exact ⟨by rw [PyData.canLay0], by rw [PyData.depth]; omega⟩
theorem shp_int (i : Int) : shp (.int i) = true := by
  show ((PyData.int i).canLay0 && decide ((PyData.int i).depth ≤ 64)) = true
  rw [PyData.canLay0, PyData.depth]; rfl
theorem shp_nil : shp (.list []) = true := shp_ints []
theorem shp_tnil : shp (.tuple []) = true := shp_tuple fun _ h => by cases h
theorem eqv_lnil (ds : List PyData) : PyData.eqv (.list ds) (.list []) = ds.isEmpty := by
  cases ds <;> simp [PyData.eqv, PyData.eqvAll]
theorem eqv_tnil (ds : List PyData) : PyData.eqv (.tuple ds) (.tuple []) = ds.isEmpty := by
  cases ds <;> simp [PyData.eqv, PyData.eqvAll]
theorem eqv_int (i j : Int) : PyData.eqv (.int i) (.int j) = decide (i = j) := by
  rw [PyData.eqv]; exact PySem.W.beq_decide i j
theorem okB_true (v : Bool) : okB true v = some v := rfl
theorem ck_true {b : Prop} [Decidable b] (h : b) (m : M) : ck b m = some m := if_pos h
theorem S_ck {b : Prop} [Decidable b] {m : M} {Q : M → Prop} {u : Hold Q} : Sat (ck b m) Q u = (b ∧ Q m) := by
  unfold ck
  by_cases h : b
  · rw [if_pos h, Sat_some]; simp [h]
  · rw [if_neg h, Sat_none]; simp [h]
theorem S_okB {b v : Bool} {Q : Bool → Prop} {u : Hold Q} : Sat (okB b v) Q u = (b = true ∧ Q v) := by
  unfold okB
  cases b
  · rw [if_neg (by decide), Sat_none]; simp
  · rw [if_pos rfl, Sat_some]; simp
theorem mulOk_r {i j : Int} (h : -(2 ^ 64) < j ∧ j < 2 ^ 64) : mulOk i j = true := by
  unfold mulOk
  rw [decide_eq_true h, Bool.or_true]
theorem mulOk_l {i j : Int} (h : -(2 ^ 64) < i ∧ i < 2 ^ 64) : mulOk i j = true := by
  unfold mulOk
  rw [decide_eq_true h, Bool.or_true, Bool.true_or]
theorem ixN_zero {n : Nat} : ixN (n + 1) 0 = some 0 := by
  have := ixN_nat (n := n + 1) (k := 0) (by omega)
  exact this
theorem ixN_one {n : Nat} : ixN (n + 1 + 1) 1 = some 1 := by
  have := ixN_nat (n := n + 1 + 1) (k := 1) (by omega)
  exact this
end Z

set_option Elab.async false
set_option linter.all false
set_option maxRecDepth 100000
/-! S4: comprehensions and loops over typed rows; comparisons of data; calls. -/
namespace Z
open PySem L2 Evl
section
variable {α : Type} {W : EvW} {T : EvB} {A : EvE} {ρ : Env}
/-- a comprehension over typed items -/
theorem Sat_lcT {Q : List M → Prop} {u : Hold Q} (e : α → M) (f : α → Option M) : ∀ (xs : List α) (acc : List M), acc.length + xs.length ≤ sizeLine →
    (∀ x ∈ xs, Sat (W (e x) ρ) (fun ρ1 => Sat (T ρ1) (fun b => if b.1 = true then Sat (A b.2) (fun y => f x = some y.1) ⟨⟩ else f x = none) ⟨⟩) ⟨⟩) →
    Q (acc ++ xs.filterMap f) → Sat (lcP W T A ρ (xs.map e) acc) Q u := by
  intro xs
  induction xs with
  | nil => intro acc _ _ q; exact ⟨_, rfl, by simpa using q⟩
  | cons x xs ih =>
    intro acc hl h q
    obtain ⟨ρ1, e1, b, e2, h2⟩ := h x List.mem_cons_self
    obtain ⟨b, ρ2⟩ := b
    have hl' : acc.length + (xs.length + 1) ≤ sizeLine := hl
    cases b with
    | true =>
      obtain ⟨y, e3, h3⟩ : Sat (A ρ2) (fun y => f x = some y.1) ⟨⟩ := h2
      have h3 : f x = some y.1 := h3
      have : lcP W T A ρ ((x :: xs).map e) acc = lcP W T A ρ (xs.map e) (acc ++ [y.1]) := by
        show ((W (e x) ρ).bind fun ρ1 => (T ρ1).bind fun (b, ρ2) => if b = true then (A ρ2).bind fun (m, _) => if acc.length < sizeLine then lcP W T A ρ (xs.map e) (acc ++ [m]) else none else lcP W T A ρ (xs.map e) acc) = _
        rw [e1]
        show ((T ρ1).bind _) = _
        rw [e2]
        show ((A ρ2).bind _) = _
        rw [e3]
        exact if_pos (by omega)
      unfold Sat; rw [this]
      refine ih _ (by simp only [List.length_append, List.length_cons, List.length_nil]; omega) (fun z hz => h z (List.mem_cons_of_mem _ hz)) ?_
      rw [List.filterMap_cons, h3] at q
      rw [List.append_assoc]; exact q
    | false =>
      have h2 : f x = none := h2
      have : lcP W T A ρ ((x :: xs).map e) acc = lcP W T A ρ (xs.map e) acc := by
        show ((W (e x) ρ).bind fun ρ1 => (T ρ1).bind fun (b, ρ2) => if b = true then (A ρ2).bind fun (m, _) => if acc.length < sizeLine then lcP W T A ρ (xs.map e) (acc ++ [m]) else none else lcP W T A ρ (xs.map e) acc) = _
        rw [e1]
        show ((T ρ1).bind _) = _
        rw [e2]
        rfl
      unfold Sat; rw [this]
      refine ih _ (by omega) (fun z hz => h z (List.mem_cons_of_mem _ hz)) ?_
      rw [List.filterMap_cons, h2] at q
      exact q
/-- a comprehension over data, all items taken -/
theorem Sat_lcM {Q : List M → Prop} {u : Hold Q} (e : α → PyData) (f : α → PyData) (xs : List α) (hl : xs.length ≤ sizeLine)
    (h : ∀ x ∈ xs, Sat (W (.val (e x)) ρ) (fun ρ1 => Sat (T ρ1) (fun b => b.1 = true ∧ Sat (A b.2) (fun y => y.1 = .val (f x)) ⟨⟩) ⟨⟩) ⟨⟩)
    (q : Q ((xs.map f).map .val)) : Sat (lcP W T A ρ ((xs.map e).map .val) []) Q u := by
  rw [List.map_map]
  refine Sat_lcT _ (fun x => some (.val (f x))) xs [] (by simpa using hl) (fun x hx => ?_) (by simpa [List.filterMap_eq_map, Function.comp_def] using q)
  obtain ⟨ρ1, e1, b, e2, hb, y, e3, h3⟩ := h x hx
  refine ⟨ρ1, e1, b, e2, ?_⟩
  show if b.1 = true then _ else _
  rw [if_pos hb]
  exact ⟨y, e3, by show some _ = some y.1; rw [show y.1 = _ from h3]⟩
/-- a comprehension over data, some items taken -/
theorem Sat_lcF {Q : List M → Prop} {u : Hold Q} (e : α → PyData) (p : α → Bool) (f : α → PyData) (xs : List α) (hl : xs.length ≤ sizeLine)
    (h : ∀ x ∈ xs, Sat (W (.val (e x)) ρ) (fun ρ1 => Sat (T ρ1) (fun b => b.1 = p x ∧ (p x = true → Sat (A b.2) (fun y => y.1 = .val (f x)) ⟨⟩)) ⟨⟩) ⟨⟩)
    (q : Q (((xs.filter p).map f).map .val)) : Sat (lcP W T A ρ ((xs.map e).map .val) []) Q u := by
  rw [List.map_map]
  have key : ∀ xs : List α, xs.filterMap (fun x => if p x = true then some (M.val (f x)) else none) = ((xs.filter p).map f).map .val := by
    intro xs
    induction xs with
    | nil => rfl
    | cons x xs ih =>
      rw [List.filterMap_cons, List.filter_cons]
      cases hp : p x with
      | true => simp [ih]
      | false => simp [ih]
  refine Sat_lcT _ (fun x => if p x = true then some (.val (f x)) else none) xs [] (by simpa using hl) (fun x hx => ?_) (by rw [List.nil_append, key]; exact q)
  obtain ⟨ρ1, e1, b, e2, hb, h3⟩ := h x hx
  refine ⟨ρ1, e1, b, e2, ?_⟩
  show if b.1 = true then _ else _
  rw [show b.1 = p x from hb]
  cases hp : p x with
  | true =>
    obtain ⟨y, e3, h4⟩ := h3 hp
    rw [if_pos rfl]
    exact ⟨y, e3, by show some _ = some y.1; rw [show y.1 = _ from h4]⟩
  | false => rw [if_neg Bool.false_ne_true]; exact if_neg Bool.false_ne_true
end
/-- a comprehension over any data, all items taken -/
theorem Sat_lcD {W : EvW} {T : EvB} {A : EvE} {ρ : Env} {Q : List M → Prop} {u : Hold Q} (f : PyData → PyData) (xs : List PyData) (hl : xs.length ≤ sizeLine)
    (h : ∀ x ∈ xs, Sat (W (.val x) ρ) (fun ρ1 => Sat (T ρ1) (fun b => b.1 = true ∧ Sat (A b.2) (fun y => y.1 = .val (f x)) ⟨⟩) ⟨⟩) ⟨⟩)
    (q : Q ((xs.map f).map .val)) : Sat (lcP W T A ρ (xs.map .val) []) Q u := by
  have := Sat_lcM (W := W) (T := T) (A := A) (ρ := ρ) (u := u) (fun x : PyData => x) f xs hl h q
  rwa [List.map_id'] at this
/-- a loop over typed items -/
theorem Sat_forT {α : Type} {W : EvT} {B : EvS} {Q : Res → Prop} {u : Hold Q} (e : α → M) (I : List α → Env → Prop) : ∀ {xs : List α} {ρ : Env}, I xs ρ → (∀ ρ, I [] ρ → Q (.nx ρ)) →
    (∀ x xs ρ, I (x :: xs) ρ → Sat ((W (e x) ρ).bind fun ρ1 => B ρ1) (fun r => match r with
      | .nx ρ2 => I xs ρ2
      | .ct ρ2 => I xs ρ2
      | .br ρ2 => Q (.nx ρ2)
      | .rt m ρ2 => Q (.rt m ρ2)) ⟨⟩) → Sat (forD W B (xs.map e) ρ) Q u := by
  intro xs ρ h q k
  refine Sat_for (fun ds ρ => ∃ xs, ds = xs.map e ∧ I xs ρ) ⟨xs, rfl, h⟩ ?_ ?_
  · rintro ρ ⟨xs, e1, h⟩
    cases xs with
    | nil => exact q ρ h
    | cons x xs => cases e1
  · rintro d ds ρ ⟨xs, e1, h⟩
    cases xs with
    | nil => cases e1
    | cons x xs =>
      rw [List.map_cons, List.cons.injEq] at e1
      obtain ⟨rfl, rfl⟩ := e1
      refine (k x xs ρ h).imp fun r hr => ?_
      cases r with
      | nx ρ2 => exact ⟨xs, rfl, hr⟩
      | ct ρ2 => exact ⟨xs, rfl, hr⟩
      | br ρ2 => exact hr
      | rt m ρ2 => exact hr
theorem Sat_forV {α : Type} {W : EvT} {B : EvS} {Q : Res → Prop} {u : Hold Q} {xs : List α} {ρ : Env} (e : α → PyData) (I : List α → Env → Prop) (h : I xs ρ) (q : ∀ ρ, I [] ρ → Q (.nx ρ))
    (k : ∀ x xs ρ, I (x :: xs) ρ → Sat ((W (.val (e x)) ρ).bind fun ρ1 => B ρ1) (fun r => match r with
      | .nx ρ2 => I xs ρ2
      | .ct ρ2 => I xs ρ2
      | .br ρ2 => Q (.nx ρ2)
      | .rt m ρ2 => Q (.rt m ρ2)) ⟨⟩) : Sat (forD W B ((xs.map e).map .val) ρ) Q u := by
  rw [List.map_map]
  exact Sat_forT _ I h q k
/-- comparisons -/
def Ok (d : PyData) : Prop := d.canLay0 = true ∧ d.depth ≤ 60
theorem Ok.shp {d : PyData} (h : Ok d) : shp d = true := by
  show (d.canLay0 && decide (d.depth ≤ 64)) = true
  rw [h.1, decide_eq_true (by have := h.2; omega)]; rfl
theorem cmp_eq {d e : PyData} (h1 : shp d = true) (h2 : shp e = true) : cmpB .eq d e = some (PyData.eqv d e) := by
  show okB (shp d && shp e) _ = _
  rw [h1, h2]; rfl
theorem cmp_ne {d e : PyData} (h1 : shp d = true) (h2 : shp e = true) : cmpB .ne d e = some (!PyData.eqv d e) := by
  show okB (shp d && shp e) _ = _
  rw [h1, h2]; rfl
theorem cmp_ei (i j : Int) : cmpB .eq (.int i) (.int j) = some (decide (i = j)) := by rw [cmp_eq (shp_int i) (shp_int j), eqv_int]
theorem cmp_nei (i j : Int) : cmpB .ne (.int i) (.int j) = some (!decide (i = j)) := by rw [cmp_ne (shp_int i) (shp_int j), eqv_int]
theorem shp_bool (b : Bool) : shp (.bool b) = true := by
  show ((PyData.bool b).canLay0 && decide ((PyData.bool b).depth ≤ 64)) = true
  rw [PyData.canLay0, PyData.depth]; rfl
theorem shp_none : shp .none = true := by
  show ((PyData.none).canLay0 && decide ((PyData.none).depth ≤ 64)) = true
  rw [PyData.canLay0, PyData.depth]; rfl
theorem shp_str {x : Str} (h : (PyData.str x).canLay0 = true) : shp (.str x) = true := by
  show ((PyData.str x).canLay0 && decide ((PyData.str x).depth ≤ 64)) = true
  rw [h, PyData.depth]; rfl
theorem cmp_eb (a b : Bool) : cmpB .eq (.bool a) (.bool b) = some (decide (a = b)) := by
  rw [cmp_eq (shp_bool a) (shp_bool b)]
  cases a <;> cases b <;> simp [PyData.eqv]
theorem cmp_enn : cmpB .eq .none .none = some true := by
  rw [cmp_eq shp_none shp_none]
  simp [PyData.eqv]
theorem cmp_es {x y : Str} (hx : (PyData.str x).canLay0 = true) (hy : (PyData.str y).canLay0 = true) : cmpB .eq (.str x) (.str y) = some (decide (x = y)) := by
  rw [cmp_eq (shp_str hx) (shp_str hy), PyData.eqv, PySem.W.beq_decide]
theorem bin_ai (i j : Int) : binM .add (.int i) (.int j) = some (.val (.int (i + j))) := rfl
theorem bin_as (x y : Str) : binM .add (.str x) (.str y) = ck (x.length + y.length ≤ 16777216) (.val (.str (x ++ y))) := rfl
theorem bin_at (xs ys : List PyData) : binM .add (.tuple xs) (.tuple ys) = ck (xs.length + ys.length ≤ 16777216) (.val (.tuple (xs ++ ys))) := rfl
theorem bin_al (xs ys : List PyData) : binM .add (.list xs) (.list ys) = ck (xs.length + ys.length ≤ 16777216) (.lst ((xs ++ ys).map .val)) := rfl
theorem bin_si (i j : Int) : binM .sub (.int i) (.int j) = some (.val (.int (i - j))) := rfl
theorem bin_mi (i j : Int) : binM .mul (.int i) (.int j) = ck (mulOk i j = true) (.val (.int (i * j))) := rfl
theorem bin_mod (i j : Int) : binM .mod (.int i) (.int j) = ck (0 < j) (.val (.int (i % j))) := rfl
theorem bin_fd (i j : Int) : binM .fdiv (.int i) (.int j) = ck (0 < j ∧ j.natAbs.log2 < 9000) (.val (.int (i / j))) := rfl
theorem bin_pow (i j : Int) : binM .pow (.int i) (.int j) = ck (0 ≤ j ∧ j ≤ 1000000 ∧ i.natAbs < 2 ^ 64) (.val (.int (i ^ j.toNat))) := rfl
theorem ordOk_int (i j : Int) : ordOk (.int i) (.int j) = true := by
  unfold ordOk
  simp [PySem.W.alike, PyData.depth]
theorem cmp_lt (i j : Int) : cmpB .lt (.int i) (.int j) = some (decide (i < j)) := by
  show okB (ordOk _ _) _ = _
  rw [ordOk_int, PySem.W.dataLt_int]; rfl
theorem cmp_gt (i j : Int) : cmpB .gt (.int i) (.int j) = some (decide (j < i)) := by
  show okB (ordOk _ _) _ = _
  rw [ordOk_int, PySem.W.dataLt_int]; rfl
theorem cmp_le (i j : Int) : cmpB .le (.int i) (.int j) = some (decide (i ≤ j)) := by
  show okB (ordOk _ _) _ = _
  rw [ordOk_int, PySem.W.dataLt_int]
  show some (!decide (j < i)) = _
  rw [← decide_not]; exact congrArg some (decide_eq_decide.mpr (by omega))
theorem cmp_ge (i j : Int) : cmpB .ge (.int i) (.int j) = some (decide (j ≤ i)) := by
  show okB (ordOk _ _) _ = _
  rw [ordOk_int, PySem.W.dataLt_int]
  show some (!decide (i < j)) = _
  rw [← decide_not]; exact congrArg some (decide_eq_decide.mpr (by omega))
theorem cmp_is (d e : PyData) : cmpB .is d e = isB d e := rfl
theorem cmp_isnot (d e : PyData) : cmpB .isnot d e = (isB d e).map fun b => !b := rfl
theorem cmp_enil {ds : List PyData} (h : shp (.list ds) = true) : cmpB .eq (.list ds) (.list []) = some ds.isEmpty := by rw [cmp_eq h shp_nil, eqv_lnil]
theorem cmp_nenil {ds : List PyData} (h : shp (.list ds) = true) : cmpB .ne (.list ds) (.list []) = some (!ds.isEmpty) := by rw [cmp_ne h shp_nil, eqv_lnil]
theorem cmp_etnil {ds : List PyData} (h : shp (.tuple ds) = true) : cmpB .eq (.tuple ds) (.tuple []) = some ds.isEmpty := by rw [cmp_eq h shp_tnil, eqv_tnil]
theorem cmp_netnil {ds : List PyData} (h : shp (.tuple ds) = true) : cmpB .ne (.tuple ds) (.tuple []) = some (!ds.isEmpty) := by rw [cmp_ne h shp_tnil, eqv_tnil]
theorem isP_val (d : PyData) : isP (.val d) = true := rfl
theorem isP_fz (d : M) : isP (.fz d) = true := rfl
theorem isP_lst (d : List M) : isP (.lst d) = false := rfl
theorem isP_tup (d : List M) : isP (.tup d) = false := rfl
theorem isP_dct (t : Bool) (d : List (PyData × M)) : isP (.dct t d) = false := rfl
theorem isP_ins (c : Str) (d : List (Str × M)) : isP (.ins c d) = false := rfl
theorem frz_val (d : PyData) : frz (.val d) = .val d := rfl
theorem frz_lst (ms : List M) : frz (.lst ms) = match deeps ms with
  | some ds => .val (.list ds)
  | none => .fz (.lst ms) := by
  unfold frz
  show (match (deeps ms).map _ with | some d => M.val d | none => .fz (.lst ms)) = _
  cases deeps ms <;> rfl
theorem frz_tup (ms : List M) : frz (.tup ms) = match deeps ms with
  | some ds => .val (.tuple ds)
  | none => .fz (.tup ms) := by
  unfold frz
  show (match (deeps ms).map _ with | some d => M.val d | none => .fz (.tup ms)) = _
  cases deeps ms <;> rfl
theorem frz_ins (c : Str) (fs : List (Str × M)) : frz (.ins c fs) = .fz (.ins c fs) := rfl
-- CONS
theorem ixD_t (ds : List PyData) (i : Int) : ixD (.tuple ds) (.int i) = atI ds i := rfl
theorem ixD_l (ds : List PyData) (i : Int) : ixD (.list ds) (.int i) = atI ds i := rfl
theorem at2_vt (ds : List PyData) (i : Int) : at2 (.val (.tuple ds)) (.int i) = (atI ds i).map .val := by
  show (match (atI ds i).map M.val with | some r => some r | none => none) = _
  cases atI ds i <;> rfl
theorem at2_vl (ds : List PyData) (i : Int) : at2 (.val (.list ds)) (.int i) = (atI ds i).map .val := by
  show (match (atI ds i).map M.val with | some r => some r | none => none) = _
  cases atI ds i <;> rfl
theorem at2_lst (ms : List M) (i : Int) : at2 (.lst ms) (.int i) = atI ms i := by
  show (match atI ms i with | some r => some r | none => none) = _
  cases atI ms i <;> rfl
theorem at2_tup (ms : List M) (i : Int) : at2 (.tup ms) (.int i) = atI ms i := by
  show (match atI ms i with | some r => some r | none => none) = _
  cases atI ms i <;> rfl
theorem at2_dct (t : Bool) (kvs : List (PyData × M)) (d : PyData) : at2 (.dct t kvs) d = if kok t d then dget t kvs d else none := by
  show (match at1 (.dct t kvs) (.ix d) with | some r => some r | none => dictAt (.dct t kvs) d) = _
  rw [show at1 (.dct t kvs) (.ix d) = none by rw [at1] <;> simp]
  show dictAt (.dct t kvs) d = _
  rw [dictAt]
theorem at2_fzl (ms : List M) (i : Int) : at2 (.fz (.lst ms)) (.int i) = (atI ms i).map frz := by
  show (match at1 (.fz (.lst ms)) (.ix (.int i)) with | some r => some r | none => dictAt (.fz (.lst ms)) (.int i)) = _
  rw [at1, at1, dictAt, dictAt]
  · cases atI ms i <;> rfl
  all_goals simp
theorem at2_fzt (ms : List M) (i : Int) : at2 (.fz (.tup ms)) (.int i) = (atI ms i).map frz := by
  show (match at1 (.fz (.tup ms)) (.ix (.int i)) with | some r => some r | none => dictAt (.fz (.tup ms)) (.int i)) = _
  rw [at1, at1, dictAt, dictAt]
  · cases atI ms i <;> rfl
  all_goals simp
theorem at2_fzd (t : Bool) (kvs : List (PyData × M)) (d : PyData) : at2 (.fz (.dct t kvs)) d = (if kok t d then dget t kvs d else none).map frz := by
  show (match at1 (.fz (.dct t kvs)) (.ix d) with | some r => some r | none => dictAt (.fz (.dct t kvs)) d) = _
  rw [at1, show at1 (.dct t kvs) (.ix d) = none by rw [at1] <;> simp, dictAt, dictAt]
  rfl
theorem items_vl (ds : List PyData) : itemsM (.val (.list ds)) = some (ds.map .val) := rfl
theorem items_vt (ds : List PyData) : itemsM (.val (.tuple ds)) = some (ds.map .val) := rfl
theorem items_fl (ms : List M) : itemsM (.fz (.lst ms)) = some (ms.map frz) := rfl
theorem items_ft (ms : List M) : itemsM (.fz (.tup ms)) = some (ms.map frz) := rfl
theorem seqD_l (ds : List PyData) : seqD (.list ds) = some ds := rfl
theorem seqD_t (ds : List PyData) : seqD (.tuple ds) = some ds := rfl
theorem truM_val (d : PyData) : truM (.val d) = truD d := rfl
theorem truM_lst (ms : List M) : truM (.lst ms) = some (!ms.isEmpty) := rfl
theorem truM_tup (ms : List M) : truM (.tup ms) = some (!ms.isEmpty) := rfl
theorem truM_dct (kvs : List (PyData × M)) : truM (.dct false kvs) = some (!kvs.isEmpty) := rfl
theorem truD_n : truD .none = some false := rfl
theorem truD_b (b : Bool) : truD (.bool b) = some b := rfl
theorem truD_i (i : Int) : truD (.int i) = some (i != 0) := rfl
theorem truD_l (ds : List PyData) : truD (.list ds) = some (!ds.isEmpty) := rfl
theorem truD_t (ds : List PyData) : truD (.tuple ds) = some (!ds.isEmpty) := rfl
theorem tagD_n : tagD .none = .non := rfl
theorem tagD_b (b : Bool) : tagD (.bool b) = .bl := rfl
theorem tagD_i (i : Int) : tagD (.int i) = .int := rfl
theorem tagD_s (s : Str) : tagD (.str s) = .str := rfl
theorem tagD_l (l : List PyData) : tagD (.list l) = .lst := rfl
theorem tagD_t (l : List PyData) : tagD (.tuple l) = .tup := rfl
theorem tagD_d : ∀ l, tagD (.dict l) = .dct := fun _ => rfl
theorem sd_val (d : PyData) : sd (.val d) = some d := rfl
theorem sd_lst (ms : List M) : sd (.lst ms) = (vals ms).map .list := rfl
theorem sd_tup (ms : List M) : sd (.tup ms) = none := rfl
theorem sd_dct (t : Bool) (kvs : List (PyData × M)) : sd (.dct t kvs) = none := rfl
theorem tyM_lst (T : String) (ms : List M) : tyM T (.lst ms) = (T == "list") := rfl
theorem tyM_dct (T : String) (t : Bool) (kvs : List (PyData × M)) : tyM T (.dct t kvs) = (T == "dict") := rfl
theorem biLen_l (ds : List PyData) : biLen [.list ds] = some (vI ds.length) := rfl
theorem biLen_t (ds : List PyData) : biLen [.tuple ds] = some (vI ds.length) := rfl
theorem biTuple_l (ds : List PyData) : biTuple [.list ds] = some (.val (.tuple ds)) := rfl
theorem biTuple_t (ds : List PyData) : biTuple [.tuple ds] = some (.val (.tuple ds)) := rfl
theorem biList_l (ds : List PyData) : biList [.list ds] = some (.lst (ds.map .val)) := rfl
theorem biList_t (ds : List PyData) : biList [.tuple ds] = some (.lst (ds.map .val)) := rfl
theorem biInt_i (i : Int) : biInt [.int i] = some (vI i) := rfl
theorem biInt_b (b : Bool) : biInt [.bool b] = some (vI (if b then 1 else 0)) := rfl
theorem biAbs_i (i : Int) : biAbs [.int i] = some (vI (if i < 0 then -i else i)) := rfl
theorem stoM_lst (ms : List M) (i : Int) (m : M) : stoM (.lst ms) (.int i) m = (ixN ms.length i).map fun j => .lst (ms.set j m) := rfl
theorem stoM_dct (t : Bool) (kvs : List (PyData × M)) (d : PyData) (m : M) : stoM (.dct t kvs) d m = if kok t d = true ∧ kvs.length < sizeLine then some (.dct t (dput t kvs d m)) else none := rfl
theorem opPop_0 (ms : List M) : opPop (.lst ms) [] = (ms[ms.length - 1]?).map fun m => (m, .lst ms.dropLast) := rfl
theorem opPop_1 (ms : List M) (i : Int) : opPop (.lst ms) [.val (.int i)] = (ixN ms.length i).bind fun j => (ms[j]?).map fun m => (m, .lst (ms.eraseIdx j)) := rfl
theorem opApp_l (ms : List M) (m : M) : opAppend (.lst ms) [m] = if ms.length < sizeLine then some (.val .none, .lst (ms ++ [m])) else none := rfl
theorem opExt_l (ms ns : List M) : opExtend (.lst ms) [.lst ns] = if ms.length + ns.length ≤ sizeLine then some (.val .none, .lst (ms ++ ns)) else none := rfl
theorem isB_n (d : PyData) : isB d .none = some (isNn d) := rfl
theorem isB_b (d : PyData) (b : Bool) : isB d (.bool b) = some (isBl b d) := rfl
theorem isNn_n : isNn .none = true := rfl
theorem isNn_b (b : Bool) : isNn (.bool b) = false := rfl
theorem isNn_i (i : Int) : isNn (.int i) = false := rfl
theorem isNn_s (s : Str) : isNn (.str s) = false := rfl
theorem isNn_l (l : List PyData) : isNn (.list l) = false := rfl
theorem isNn_t (l : List PyData) : isNn (.tuple l) = false := rfl
theorem isBl_b (a b : Bool) : isBl a (.bool b) = decide (b = a) := rfl
theorem zPart_n (ρ : Env) : zPart none ρ = some (none, ρ) := rfl
theorem zPart_s (A : EvO) (ρ : Env) : zPart (some A) ρ = (A ρ).bind fun (d, _, ρ1) => match d with
    | .int i => some (some i, ρ1)
    | _ => none := rfl
theorem tupOf_l (ms : List M) : tupOf (.lst ms) = some (tupM ms) := rfl
theorem tupOf_t (ms : List M) : tupOf (.tup ms) = some (.tup ms) := rfl
theorem tupOf_vl (ds : List PyData) : tupOf (.val (.list ds)) = some (.val (.tuple ds)) := rfl
theorem tupOf_vt (ds : List PyData) : tupOf (.val (.tuple ds)) = some (.val (.tuple ds)) := rfl
theorem lstOf_l (ms : List M) : lstOf (.lst ms) = some (.lst ms) := rfl
theorem lstOf_t (ms : List M) : lstOf (.tup ms) = some (.lst ms) := rfl
theorem lstOf_vl (ds : List PyData) : lstOf (.val (.list ds)) = some (.lst (ds.map .val)) := rfl
theorem lstOf_vt (ds : List PyData) : lstOf (.val (.tuple ds)) = some (.lst (ds.map .val)) := rfl
theorem dn_lst (ms : List M) (i : Int) : dn (.lst ms) (.ix (.int i)) = atI ms i := rfl
theorem dn_dct (t : Bool) (kvs : List (PyData × M)) (d : PyData) : dn (.dct t kvs) (.ix d) = if kok t d then dget t kvs d else none := by
  cases d <;> rfl
theorem dn_ins (c : Str) (fs : List (Str × M)) (x : Str) : dn (.ins c fs) (.fld x) = lookF x fs := rfl
theorem up_lst (ms : List M) (i : Int) (n : M) : up (.lst ms) (.ix (.int i)) n = (ixN ms.length i).map fun j => .lst (ms.set j n) := rfl
theorem up_dct (t : Bool) (kvs : List (PyData × M)) (d : PyData) (n : M) : up (.dct t kvs) (.ix d) n = some (.dct t (drep t d n kvs)) := by
  cases d <;> rfl
theorem up_ins (c : Str) (fs : List (Str × M)) (x : Str) (n : M) : up (.ins c fs) (.fld x) n = some (.ins c (repF x n fs)) := rfl
theorem slM_l (ds : List PyData) (lo hi : Option Int) : slM (.list ds) lo hi = some (.lst ((cutP ds lo hi).map .val)) := rfl
theorem slM_t (ds : List PyData) (lo hi : Option Int) : slM (.tuple ds) lo hi = some (.val (.tuple (cutP ds lo hi))) := rfl
theorem inB_l (d : PyData) (es : List PyData) : inB d (.list es) = okB (shp d && shp (.list es)) (es.any fun z => PyData.eqv z d) := rfl
theorem tupM_nil : tupM [] = .val (.tuple []) := rfl
-- ENDCONS
theorem rgD_nat (n : Nat) : rgD 0 (n : Int) = (List.range n).map fun i => .int (i : Nat) := by
  unfold rgD
  simp
theorem rgD_int {i : Int} (h : 0 ≤ i) : rgD 0 i = (List.range i.toNat).map fun i => .int (i : Nat) := by
  rw [← rgD_nat, Int.toNat_of_nonneg h]
theorem rgOk_nat {n : Nat} (h : n ≤ 2 ^ 24) : rgOk 0 (n : Int) = true := by
  unfold rgOk
  refine decide_eq_true ⟨by decide, by decide, by omega, by omega, by omega⟩
theorem boolsOf_map {α : Type} (p : α → Bool) : ∀ xs : List α, boolsOf (xs.map fun x => .bool (p x)) = some (xs.map p)
  | [] => rfl
  | x :: xs => by show (boolsOf _).map _ = _; rw [boolsOf_map p xs]; rfl
theorem intsOf_map {α : Type} (p : α → Int) : ∀ xs : List α, intsOf (xs.map fun x => .int (p x)) = some (xs.map p)
  | [] => rfl
  | x :: xs => by show (intsOf _).map _ = _; rw [intsOf_map p xs]; rfl
theorem deeps_vals : ∀ ds : List PyData, deeps (ds.map .val) = some ds
  | [] => rfl
  | d :: ds => by
    show (deep (.val d)).bind _ = _
    rw [show deep (.val d) = some d from rfl]
    show (deeps (ds.map .val)).map _ = _
    rw [deeps_vals ds]; rfl
theorem deep_vals (ds : List PyData) : deep (.lst (ds.map .val)) = some (.list ds) := by
  show (deeps _).map _ = _
  rw [deeps_vals]; rfl
theorem vals_vals : ∀ ds : List PyData, vals (ds.map .val) = some ds
  | [] => rfl
  | d :: ds => by show (vals (ds.map .val)).map _ = _; rw [vals_vals ds]; rfl
theorem sd_vals (ds : List PyData) : sd (.lst (ds.map .val)) = some (.list ds) := by
  show (vals _).map _ = _
  rw [vals_vals]; rfl
theorem frz_vals (ds : List PyData) : frz (.lst (ds.map .val)) = .val (.list ds) := by
  unfold frz; rw [deep_vals]
theorem tupM_vals (ds : List PyData) : tupM (ds.map .val) = .val (.tuple ds) := by
  unfold tupM; rw [deeps_vals]
theorem biAll_map {α : Type} (p : α → Bool) (xs : List α) : biAll [.list (xs.map fun x => .bool (p x))] = some (.val (.bool (xs.all p))) := by
  show (boolsOf _).map _ = _
  rw [boolsOf_map]
  show some (M.val (.bool ((xs.map p).all _))) = _
  rw [List.all_map]; rfl
theorem biSum_map {α : Type} (p : α → Int) (xs : List α) : biSum [.list (xs.map fun x => .int (p x))] = some (.val (.int (xs.map p).sum)) := by
  show (intsOf _).map _ = _
  rw [intsOf_map]; rfl
theorem in_ints (i : Int) (xs : List Int) : ((xs.map PyData.int).any fun z => PyData.eqv z (.int i)) = decide (i ∈ xs) := by
  rw [List.any_map, Bool.eq_iff_iff, List.any_eq_true, decide_eq_true_eq]
  constructor
  · rintro ⟨y, hy, e⟩
    have e' : PyData.eqv (.int y) (.int i) = true := e
    rw [eqv_int, decide_eq_true_eq] at e'
    exact e' ▸ hy
  · intro h
    exact ⟨i, h, by show PyData.eqv (.int i) (.int i) = true; rw [eqv_int]; exact decide_eq_true rfl⟩
theorem shp_tints (xs : List Int) : shp (.tuple (xs.map .int)) = true := shp_tuple fun d h => by
  obtain ⟨i, _, rfl⟩ := List.mem_map.mp h
  exact ⟨by rw [PyData.canLay0], by rw [PyData.depth]; omega⟩
theorem cmp_in (i : Int) (xs : List Int) : cmpB .isin (.int i) (.tuple (xs.map .int)) = some (decide (i ∈ xs)) := by
  show okB (shp _ && shp _) _ = _
  rw [shp_int, shp_tints, in_ints]; rfl
theorem cmp_nin (i : Int) (xs : List Int) : cmpB .notin (.int i) (.tuple (xs.map .int)) = some (!decide (i ∈ xs)) := by
  show (inB _ _).map _ = _
  rw [show inB (.int i) (.tuple (xs.map .int)) = _ from cmp_in i xs]; rfl
theorem cmp_inl (i : Int) (xs : List Int) : cmpB .isin (.int i) (.list (xs.map .int)) = some (decide (i ∈ xs)) := by
  show okB (shp _ && shp _) _ = _
  rw [shp_int, shp_ints, in_ints]; rfl
theorem cmp_ninl (i : Int) (xs : List Int) : cmpB .notin (.int i) (.list (xs.map .int)) = some (!decide (i ∈ xs)) := by
  show (inB _ _).map _ = _
  rw [show inB (.int i) (.list (xs.map .int)) = _ from cmp_inl i xs]; rfl
theorem Sat_congr {α : Type} {o : Option α} {Q Q' : α → Prop} {u : Hold Q} {u' : Hold Q'} (h : ∀ a, Q a = Q' a) : Sat o Q u = Sat o Q' u' := propext ⟨fun s => s.imp fun a q => h a ▸ q, fun s => s.imp fun a q => (h a).symm ▸ q⟩
theorem S_zMakeC {c : Str} {G : List M → Option (M × List (Option M))} {A : EvG} {dv : List PyData} {ρ : Env} {Q : M × Env → Prop} {u : Hold Q} : Sat (zMake c G A dv ρ) Q u = Sat (A ρ) (fun x => Sat (takeG x.1 x.2) (fun y => Sat (G (.ins c [] :: (y.1 ++ dv.map .val))) (fun r => match r with
    | (.val .none, some m :: ms') => Sat (backG x.1 y.1 ms' y.2) (fun ρ3 => Q (m, ρ3)) ⟨⟩
    | _ => False) ⟨⟩) ⟨⟩) ⟨⟩ := by
  unfold zMake
  rw [Sat_bind]
  refine Sat_congr fun x => ?_
  rw [Sat_bind]
  refine Sat_congr fun y => ?_
  obtain ⟨ms, ρ2⟩ := y
  show Sat (match G (.ins c [] :: (ms ++ dv.map .val)) with
    | some (.val .none, some m :: ms') => (backG x.1 ms ms' ρ2).map fun ρ3 => (m, ρ3)
    | _ => none) Q ⟨⟩ = Sat (G (.ins c [] :: (ms ++ dv.map .val))) _ ⟨⟩
  generalize G (.ins c [] :: (ms ++ dv.map .val)) = g
  cases g with
  | none => exact Sat_none.trans Sat_none.symm
  | some r =>
    rw [Sat_some]
    obtain ⟨m, ms'⟩ := r
    cases m with
    | val d =>
      cases d with
      | none =>
        cases ms' with
        | nil => exact Sat_none
        | cons o ms' =>
          cases o with
          | none => exact Sat_none
          | some m => exact Sat_map
      | _ => exact Sat_none
    | _ => exact Sat_none
end Z

set_option Elab.async false
set_option linter.all false
/-! T1: plain lists: rows each once, searches in breadth, counting. -/
namespace Z
section
variable {α : Type} [DecidableEq α]
/-- a row without what comes twice behind one another -/
def ddp (xs : List α) : List α := xs.foldl (fun f x => if f.getLast? = some x then f else f ++ [x]) []
theorem ddp_go {le : α → α → Prop} (anti : ∀ a b, le a b → le b a → a = b) : ∀ (xs f : List α), xs.Pairwise le → f.Pairwise (fun a b => le a b ∧ a ≠ b) → (∀ a ∈ f, ∀ b ∈ xs, le a b) →
    (xs.foldl (fun f x => if f.getLast? = some x then f else f ++ [x]) f).Pairwise (fun a b => le a b ∧ a ≠ b) ∧ ∀ a, a ∈ xs.foldl (fun f x => if f.getLast? = some x then f else f ++ [x]) f ↔ a ∈ f ∨ a ∈ xs := by
  intro xs
  induction xs with
  | nil => intro f _ h _; exact ⟨h, fun a => by simp⟩
  | cons x xs ih =>
    intro f h1 h2 h3
    rw [List.pairwise_cons] at h1
    rw [List.foldl_cons]
    split
    · rename_i hg
      obtain ⟨i1, i2⟩ := ih f h1.2 h2 (fun a ha b hb => h3 a ha b (List.mem_cons_of_mem _ hb))
      refine ⟨i1, fun a => ?_⟩
      rw [i2, List.mem_cons]
      have : x ∈ f := List.mem_of_getLast? hg
      constructor
      · rintro (h | h); exact .inl h; exact .inr (.inr h)
      · rintro (h | rfl | h); exact .inl h; exact .inl this; exact .inr h
    · rename_i hg
      have hx : ∀ a ∈ f, le a x ∧ a ≠ x := by
        intro a ha
        have h4 := h3 a ha x List.mem_cons_self
        refine ⟨h4, ?_⟩
        rintro rfl
        rcases List.eq_nil_or_concat f with rfl | ⟨g, y, rfl⟩
        · cases ha
        · rw [List.concat_eq_append] at *
          rw [List.getLast?_append] at hg
          have hy : y ≠ a := by rintro rfl; exact hg rfl
          rw [List.mem_append, List.mem_singleton] at ha
          rcases ha with ha | ha
          · rw [List.pairwise_append] at h2
            have h5 := h2.2.2 a ha y (by simp)
            exact h5.2 (anti _ _ h5.1 (h3 y (by simp) a List.mem_cons_self))
          · exact hy ha.symm
      obtain ⟨i1, i2⟩ := ih (f ++ [x]) h1.2 (by
        rw [List.pairwise_append]
        exact ⟨h2, List.pairwise_singleton _ _, fun a ha b hb => by rw [List.mem_singleton] at hb; subst hb; exact hx a ha⟩) (by
        intro a ha b hb
        rw [List.mem_append, List.mem_singleton] at ha
        rcases ha with ha | rfl
        · exact h3 a ha b (List.mem_cons_of_mem _ hb)
        · exact h1.1 b hb)
      refine ⟨i1, fun a => ?_⟩
      rw [i2, List.mem_append, List.mem_singleton, List.mem_cons]
      constructor
      · rintro ((h | h) | h); exact .inl h; exact .inr (.inl h); exact .inr (.inr h)
      · rintro (h | h | h); exact .inl (.inl h); exact .inl (.inr h); exact .inr h
theorem ddp_len (xs : List α) : (ddp xs).length ≤ xs.length := by
  have : ∀ (xs f : List α), (xs.foldl (fun f x => if f.getLast? = some x then f else f ++ [x]) f).length ≤ f.length + xs.length := by
    intro xs
    induction xs with
    | nil => intro f; exact Nat.le_refl _
    | cons x xs ih =>
      intro f
      rw [List.foldl_cons]
      split
      · have := ih f; simp only [List.length_cons]; omega
      · have := ih (f ++ [x]); simp only [List.length_append, List.length_cons, List.length_nil] at *; omega
  have := this xs []
  rw [List.length_nil, Nat.zero_add] at this
  exact this
theorem ddp_mem {xs : List α} {a : α} (h : a ∈ ddp xs) : a ∈ xs := by
  have : ∀ (xs f : List α), a ∈ (xs.foldl (fun f x => if f.getLast? = some x then f else f ++ [x]) f) → a ∈ f ∨ a ∈ xs := by
    intro xs
    induction xs with
    | nil => intro f h; exact .inl h
    | cons x xs ih =>
      intro f h
      rw [List.foldl_cons] at h
      rw [List.mem_cons]
      split at h
      · rcases ih _ h with h | h
        · exact .inl h
        · exact .inr (.inr h)
      · rcases ih _ h with h | h
        · rw [List.mem_append, List.mem_singleton] at h
          rcases h with h | h
          · exact .inl h
          · exact .inr (.inl h)
        · exact .inr (.inr h)
  rcases this xs [] h with h | h
  · cases h
  · exact h
/-- numbers as a lot -/
def lotI (xs : List Int) : List Int := ddp (xs.mergeSort fun a b => decide (a ≤ b))
abbrev Asc (xs : List Int) : Prop := xs.Pairwise (fun a b => a < b)
theorem lotI_spec (xs : List Int) : Asc (lotI xs) ∧ ∀ a, a ∈ lotI xs ↔ a ∈ xs := by
  have h := List.pairwise_mergeSort (le := fun a b : Int => decide (a ≤ b)) (fun a b c h1 h2 => by simp at *; omega) (fun a b => by simp; omega) xs
  obtain ⟨h1, h2⟩ := ddp_go (le := fun a b : Int => a ≤ b) (fun a b => Int.le_antisymm) (xs.mergeSort fun a b => decide (a ≤ b)) [] (h.imp fun h => by simpa using h) .nil (fun a ha => by cases ha)
  refine ⟨h1.imp fun h => by omega, fun a => ?_⟩
  have := h2 a
  unfold lotI ddp
  rw [this, List.mem_mergeSort]; simp
theorem nodup_len {xs ys : List α} : xs.Nodup → (∀ a ∈ xs, a ∈ ys) → xs.length ≤ ys.length := by
  induction xs generalizing ys with
  | nil => intro _ _; exact Nat.zero_le _
  | cons x xs ih =>
    intro h1 h2
    rw [List.nodup_cons] at h1
    have hx := h2 x List.mem_cons_self
    have := ih (ys := ys.erase x) h1.2 (fun a ha => (List.mem_erase_of_ne (by rintro rfl; exact h1.1 ha)).mpr (h2 a (List.mem_cons_of_mem _ ha)))
    rw [List.length_erase_of_mem hx] at this
    have : 0 < ys.length := List.length_pos_of_mem hx
    simp only [List.length_cons]; omega
/-- all parts of a row -/
def subs : List Int → List (List Int)
  | [] => [[]]
  | x :: xs => subs xs ++ (subs xs).map (x :: ·)
theorem subs_len : ∀ xs : List Int, (subs xs).length = 2 ^ xs.length
  | [] => rfl
  | x :: xs => by rw [subs, List.length_append, List.length_map, subs_len xs, List.length_cons, Nat.pow_succ]; omega
theorem nil_subs : ∀ xs : List Int, [] ∈ subs xs
  | [] => by simp [subs]
  | x :: xs => by rw [subs, List.mem_append]; exact .inl (nil_subs xs)
theorem mem_subs : ∀ (base xs : List Int), Asc base → Asc xs → (∀ a ∈ xs, a ∈ base) → xs ∈ subs base
  | [], xs, _, _, h => by
    cases xs with
    | nil => simp [subs]
    | cons x xs => exact absurd (h x List.mem_cons_self) (by simp)
  | b :: base, [], _, _, _ => nil_subs _
  | b :: base, x :: xs, hb, hx, h => by
    have hb := List.pairwise_cons.mp hb
    have hx' := List.pairwise_cons.mp hx
    rw [subs, List.mem_append]
    by_cases e : x = b
    · subst e
      refine .inr (List.mem_map.mpr ⟨xs, mem_subs base xs hb.2 hx'.2 (fun a ha => ?_), rfl⟩)
      rcases List.mem_cons.mp (h a (List.mem_cons_of_mem _ ha)) with rfl | h3
      · exact absurd (hx'.1 _ ha) (by omega)
      · exact h3
    · refine .inl (mem_subs base (x :: xs) hb.2 hx (fun a ha => ?_))
      have hxb : x ∈ base := (List.mem_cons.mp (h x List.mem_cons_self)).resolve_left e
      rcases List.mem_cons.mp (h a ha) with rfl | h3
      · rcases List.mem_cons.mp ha with rfl | h4
        · exact absurd rfl e
        · have := hx'.1 _ h4
          have := hb.1 _ hxb
          omega
      · exact h3
/-! searches in breadth -/
def addN (f : List α) (bs : List α) : List α := bs.foldl (fun f b => if b ∈ f then f else f ++ [b]) f
theorem addN_nil (f : List α) : addN f [] = f := rfl
theorem addN_cons (f : List α) (b : α) (bs : List α) : addN f (b :: bs) = addN (if b ∈ f then f else f ++ [b]) bs := rfl
theorem addN_spec : ∀ (bs f : List α), f.Nodup → (addN f bs).Nodup ∧ (∀ a, a ∈ addN f bs ↔ a ∈ f ∨ a ∈ bs) ∧ ∃ g, addN f bs = f ++ g ∧ ∀ a ∈ g, a ∈ bs := by
  intro bs
  induction bs with
  | nil => intro f h; exact ⟨h, fun a => by simp [addN], [], by simp [addN], by simp⟩
  | cons b bs ih =>
    intro f h
    rw [addN_cons]
    split
    · rename_i hb
      obtain ⟨i1, i2, g, i3, i4⟩ := ih f h
      exact ⟨i1, fun a => by rw [i2, List.mem_cons]; constructor; { rintro (h | h); exact .inl h; exact .inr (.inr h) }; { rintro (h | rfl | h); exact .inl h; exact .inl hb; exact .inr h }, g, i3, fun a ha => List.mem_cons_of_mem _ (i4 a ha)⟩
    · rename_i hb
      obtain ⟨i1, i2, g, i3, i4⟩ := ih (f ++ [b]) (by
        rw [List.nodup_append]
        exact ⟨h, by simp, fun a ha c hc => by rw [List.mem_singleton] at hc; subst hc; rintro rfl; exact hb ha⟩)
      refine ⟨i1, fun a => by rw [i2, List.mem_append, List.mem_singleton, List.mem_cons, or_assoc], b :: g, by rw [i3, List.append_assoc]; rfl, fun a ha => ?_⟩
      rcases List.mem_cons.mp ha with rfl | ha
      · exact List.mem_cons_self
      · exact List.mem_cons_of_mem _ (i4 a ha)
def bfsT (succ : α → List α) (s : α) : Nat → List α
  | 0 => [s]
  | t + 1 => match (bfsT succ s t)[t]? with
    | some x => addN (bfsT succ s t) (succ x)
    | none => bfsT succ s t
variable (succ : α → List α) (s : α)
theorem bfsT_succ {t : Nat} {x : α} (h : (bfsT succ s t)[t]? = some x) : bfsT succ s (t + 1) = addN (bfsT succ s t) (succ x) := by rw [bfsT, h]
theorem bfsT_stop {t : Nat} (h : (bfsT succ s t).length ≤ t) : bfsT succ s (t + 1) = bfsT succ s t := by rw [bfsT, List.getElem?_eq_none h]
theorem bfsT_stops {t : Nat} (h : (bfsT succ s t).length ≤ t) : ∀ k, bfsT succ s (t + k) = bfsT succ s t
  | 0 => rfl
  | k + 1 => by rw [← Nat.add_assoc, bfsT_stop, bfsT_stops h k]; rw [bfsT_stops h k]; omega
theorem bfsT_nodup : ∀ t, (bfsT succ s t).Nodup
  | 0 => by simp [bfsT]
  | t + 1 => by
    rw [bfsT]; split
    · exact (addN_spec _ _ (bfsT_nodup t)).1
    · exact bfsT_nodup t
theorem bfsT_pre : ∀ t, ∃ g, bfsT succ s (t + 1) = bfsT succ s t ++ g ∧ ∀ a ∈ g, ∃ x, (bfsT succ s t)[t]? = some x ∧ a ∈ succ x := by
  intro t
  rw [bfsT]; split
  · rename_i x hx
    obtain ⟨_, _, g, h, h2⟩ := addN_spec (succ x) _ (bfsT_nodup succ s t)
    exact ⟨g, h, fun a ha => ⟨x, hx, h2 a ha⟩⟩
  · exact ⟨[], by simp, by simp⟩
theorem bfsT_get {t k : Nat} {x : α} (h : (bfsT succ s t)[k]? = some x) : ∀ j, (bfsT succ s (t + j))[k]? = some x
  | 0 => h
  | j + 1 => by
    obtain ⟨g, e, _⟩ := bfsT_pre succ s (t + j)
    rw [← Nat.add_assoc, e]
    have := bfsT_get h j
    have hl := (List.getElem?_eq_some_iff.mp this).1
    rw [List.getElem?_append_left hl]; exact this
theorem bfsT_all {P : α → Prop} (h0 : P s) (hs : ∀ x, P x → ∀ y ∈ succ x, P y) : ∀ t, ∀ x ∈ bfsT succ s t, P x
  | 0 => fun x hx => by rw [bfsT, List.mem_singleton] at hx; subst hx; exact h0
  | t + 1 => by
    obtain ⟨g, e, h⟩ := bfsT_pre succ s t
    intro x hx
    rw [e, List.mem_append] at hx
    rcases hx with hx | hx
    · exact bfsT_all h0 hs t x hx
    · obtain ⟨y, hy, hxy⟩ := h x hx
      exact hs y (bfsT_all h0 hs t y (List.mem_of_getElem? hy)) x hxy
theorem bfsT_mem0 : ∀ t, (bfsT succ s t)[0]? = some s := fun t => by
  have := bfsT_get succ s (t := 0) (k := 0) (x := s) rfl t
  rw [Nat.zero_add] at this; exact this
/-- what stands ahead of t has all that follows it -/
theorem bfsT_closed {t i : Nat} {x y : α} (hi : i < t) (hx : (bfsT succ s t)[i]? = some x) (hy : y ∈ succ x) : y ∈ bfsT succ s t := by
  -- x stood at i at time i already, or the search had ended
  have hit : ∃ k, t = i + 1 + k := ⟨t - (i + 1), by omega⟩
  obtain ⟨k, rfl⟩ := hit
  by_cases hl : i < (bfsT succ s i).length
  · have e1 : (bfsT succ s i)[i]? = some (bfsT succ s i)[i] := List.getElem?_eq_getElem hl
    have e2 := bfsT_get succ s e1 (1 + k)
    rw [← Nat.add_assoc] at e2
    rw [hx] at e2
    have e3 := bfsT_succ succ s e1
    rw [← Option.some.inj e2] at e3
    have h4 : y ∈ bfsT succ s (i + 1) := by rw [e3, (addN_spec _ _ (bfsT_nodup succ s i)).2.1]; exact .inr hy
    obtain ⟨j, hj⟩ := List.getElem?_of_mem h4
    exact List.mem_of_getElem? (bfsT_get succ s hj k)
  · have e := bfsT_stops succ s (t := i) (by omega) (1 + k)
    rw [← Nat.add_assoc] at e
    rw [e] at hx
    rw [List.getElem?_eq_none (by omega)] at hx
    cases hx
/-- what stands in it but the first one follows one ahead of it -/
theorem bfsT_from : ∀ {t j : Nat} {y : α}, 0 < j → (bfsT succ s t)[j]? = some y → ∃ i x, i < j ∧ i < t ∧ (bfsT succ s t)[i]? = some x ∧ y ∈ succ x
  | 0, j, y, hj, h => by
    cases j with
    | zero => omega
    | succ j => simp [bfsT] at h
  | t + 1, j, y, hj, h => by
    obtain ⟨g, e, hg⟩ := bfsT_pre succ s t
    by_cases hl : j < (bfsT succ s t).length
    · rw [e, List.getElem?_append_left hl] at h
      obtain ⟨i, x, h1, h2, h3, h4⟩ := bfsT_from hj h
      exact ⟨i, x, h1, by omega, bfsT_get succ s h3 1, h4⟩
    · rw [e, List.getElem?_append_right (by omega)] at h
      obtain ⟨x, hx, hy⟩ := hg y (List.mem_of_getElem? h)
      have := (List.getElem?_eq_some_iff.mp hx).1
      exact ⟨t, x, by omega, by omega, bfsT_get succ s hx 1, hy⟩
/-- a search that ends in time -/
theorem bfsT_done {N : Nat} (all : List α) (hn : all.length ≤ N) (h0 : s ∈ all) (hs : ∀ x ∈ all, ∀ y ∈ succ x, y ∈ all) (t : Nat) : (bfsT succ s t).length ≤ N := by
  have h1 : ∀ x ∈ bfsT succ s t, x ∈ all := bfsT_all succ s (P := (· ∈ all)) h0 hs t
  have := nodup_len (bfsT_nodup succ s t) h1
  omega
end
end Z

set_option Elab.async false
set_option linter.all false
set_option maxRecDepth 100000
set_option maxHeartbeats 2000000
/-! S5: letters, rows, lots, stages as data. -/
namespace Z
open PySem L2 Evl
structure L where
  a : Int
  b : Int
  w : Int
deriving DecidableEq
def eL (l : L) : PyData := .tuple [.int l.a, .int l.b, .int l.w]
abbrev Row := L × Nat
def eRow (x : Row) : PyData := .tuple [eL x.1, .int (x.2 : Int)]
def eR (r : List Row) : PyData := .tuple (r.map eRow)
def eRs (R : List (List Row)) : PyData := .tuple (R.map eR)
def eH (h : List Int) : PyData := .tuple (h.map .int)
def eW (w : List L) : PyData := .tuple (w.map eL)
structure Stg where
  p : Nat
  h : List Int
deriving DecidableEq
def eS (s : Stg) : PyData := .tuple [.int (s.p : Int), eH s.h]
def oI : Option Nat → PyData
  | none => .none
  | some n => .int (n : Int)
def Lay (k : Nat) (d : PyData) : Prop := d.canLay0 = true ∧ d.depth ≤ k
theorem Lay.mono {k m : Nat} {d : PyData} (h : Lay k d) (hm : k ≤ m) : Lay m d := ⟨h.1, by have := h.2; omega⟩
theorem Lay.shp {k : Nat} {d : PyData} (h : Lay k d) (hk : k ≤ 64) : shp d = true := by
  show (d.canLay0 && decide (d.depth ≤ 64)) = true
  rw [h.1, decide_eq_true (by have := h.2; omega)]; rfl
theorem lay_all : ∀ {k : Nat} {ds : List PyData}, (∀ d ∈ ds, Lay k d) → PyData.canLayAll0 ds = true ∧ PyData.depthAll ds ≤ k
  | k, [], _ => by simp [PyData.canLayAll0, PyData.depthAll]
  | k, d :: ds, h => by
    obtain ⟨h1, h2⟩ := lay_all (ds := ds) fun e he => h e (List.mem_cons_of_mem _ he)
    obtain ⟨h3, h4⟩ := h d List.mem_cons_self
    refine ⟨by rw [PyData.canLayAll0, h1, h3]; rfl, ?_⟩
    rw [PyData.depthAll]
    exact Nat.max_le.mpr ⟨h4, h2⟩
theorem lay_tuple {k : Nat} {ds : List PyData} (h : ∀ d ∈ ds, Lay k d) : Lay (k + 1) (.tuple ds) := by
  obtain ⟨h1, h2⟩ := lay_all h
  exact ⟨by rw [PyData.canLay0, h1], by rw [PyData.depth]; omega⟩
theorem lay_list {k : Nat} {ds : List PyData} (h : ∀ d ∈ ds, Lay k d) : Lay (k + 1) (.list ds) := by
  obtain ⟨h1, h2⟩ := lay_all h
  exact ⟨by rw [PyData.canLay0, h1], by rw [PyData.depth]; omega⟩
theorem lay_tupleM {α : Type} {k : Nat} {e : α → PyData} {xs : List α} (h : ∀ x ∈ xs, Lay k (e x)) : Lay (k + 1) (.tuple (xs.map e)) := lay_tuple fun d hd => by
  obtain ⟨x, hx, rfl⟩ := List.mem_map.mp hd; exact h x hx
theorem lay_listM {α : Type} {k : Nat} {e : α → PyData} {xs : List α} (h : ∀ x ∈ xs, Lay k (e x)) : Lay (k + 1) (.list (xs.map e)) := lay_list fun d hd => by
  obtain ⟨x, hx, rfl⟩ := List.mem_map.mp hd; exact h x hx
theorem lay_int (k : Nat) (i : Int) : Lay k (.int i) := ⟨by rw [PyData.canLay0], by rw [PyData.depth]; omega⟩
theorem lay_bool (k : Nat) (b : Bool) : Lay k (.bool b) := ⟨by rw [PyData.canLay0], by rw [PyData.depth]; omega⟩
theorem lay_none (k : Nat) : Lay k .none := ⟨by rw [PyData.canLay0], by rw [PyData.depth]; omega⟩
theorem lay_L (l : L) : Lay 1 (eL l) := lay_tuple fun d hd => by
  simp only [List.mem_cons, List.not_mem_nil, or_false] at hd
  rcases hd with rfl | rfl | rfl <;> exact lay_int _ _
theorem lay_Row (x : Row) : Lay 2 (eRow x) := lay_tuple fun d hd => by
  simp only [List.mem_cons, List.not_mem_nil, or_false] at hd
  rcases hd with rfl | rfl
  · exact lay_L _
  · exact lay_int _ _
theorem lay_R (r : List Row) : Lay 3 (eR r) := lay_tupleM fun x _ => lay_Row x
theorem lay_Rs (R : List (List Row)) : Lay 4 (eRs R) := lay_tupleM fun x _ => lay_R x
theorem lay_H (h : List Int) : Lay 1 (eH h) := lay_tupleM fun x _ => lay_int 0 x
theorem lay_W (w : List L) : Lay 2 (eW w) := lay_tupleM fun x _ => lay_L x
theorem lay_S (s : Stg) : Lay 2 (eS s) := lay_tuple fun d hd => by
  simp only [List.mem_cons, List.not_mem_nil, or_false] at hd
  rcases hd with rfl | rfl
  · exact lay_int _ _
  · exact lay_H _
theorem lay_oI (k : Nat) (o : Option Nat) : Lay k (oI o) := by
  cases o
  · exact lay_none _
  · exact lay_int _ _
theorem shp_L (l : L) : shp (eL l) = true := (lay_L l).shp (by decide)
theorem shp_H (h : List Int) : shp (eH h) = true := (lay_H h).shp (by decide)
theorem shp_W (h : List L) : shp (eW h) = true := (lay_W h).shp (by decide)
theorem shp_R (h : List Row) : shp (eR h) = true := (lay_R h).shp (by decide)
theorem shp_S (h : Stg) : shp (eS h) = true := (lay_S h).shp (by decide)
theorem eqvAll_mapE {α : Type} [DecidableEq α] (e : α → PyData) (he : ∀ a b, PyData.eqv (e a) (e b) = decide (a = b)) : ∀ xs ys : List α, PyData.eqvAll (xs.map e) (ys.map e) = decide (xs = ys)
  | [], [] => by simp only [List.map_nil, PyData.eqvAll, decide_true]
  | [], _ :: _ => by simp [PyData.eqvAll]
  | _ :: _, [] => by simp [PyData.eqvAll]
  | x :: xs, y :: ys => by
    rw [List.map_cons, List.map_cons, PyData.eqvAll, he x y, eqvAll_mapE e he xs ys, ← Bool.decide_and]
    exact decide_eq_decide.mpr (by rw [List.cons.injEq])
theorem eqv_H (a b : List Int) : PyData.eqv (eH a) (eH b) = decide (a = b) := by
  show PyData.eqv (.tuple _) (.tuple _) = _
  rw [PyData.eqv]; exact eqvAll_mapE _ eqv_int a b
theorem eqv_L (a b : L) : PyData.eqv (eL a) (eL b) = decide (a = b) := by
  obtain ⟨a1, a2, a3⟩ := a
  obtain ⟨b1, b2, b3⟩ := b
  simp only [eL, PyData.eqv, PyData.eqvAll, Bool.and_true, L.mk.injEq]
  rw [PySem.W.beq_decide, PySem.W.beq_decide, PySem.W.beq_decide, ← Bool.decide_and, ← Bool.decide_and]
theorem eqv_W (a b : List L) : PyData.eqv (eW a) (eW b) = decide (a = b) := by
  show PyData.eqv (.tuple _) (.tuple _) = _
  rw [PyData.eqv]; exact eqvAll_mapE _ eqv_L a b
theorem eqv_S (a b : Stg) : PyData.eqv (eS a) (eS b) = decide (a = b) := by
  obtain ⟨a1, a2⟩ := a
  obtain ⟨b1, b2⟩ := b
  simp only [eS, PyData.eqv, PyData.eqvAll, Bool.and_true, Stg.mk.injEq]
  rw [show PyData.eqv (eH a2) (eH b2) = _ from eqv_H a2 b2, PySem.W.beq_decide, ← Bool.decide_and]
  exact decide_eq_decide.mpr (by rw [Int.natCast_inj])
theorem cmp_eL (a b : L) : cmpB .eq (eL a) (eL b) = some (decide (a = b)) := by rw [cmp_eq (shp_L _) (shp_L _), eqv_L]
theorem cmp_neL (a b : L) : cmpB .ne (eL a) (eL b) = some (!decide (a = b)) := by rw [cmp_ne (shp_L _) (shp_L _), eqv_L]
theorem cmp_inH (i : Int) (xs : List Int) : cmpB .isin (.int i) (eH xs) = some (decide (i ∈ xs)) := cmp_in i xs
theorem cmp_ninH (i : Int) (xs : List Int) : cmpB .notin (.int i) (eH xs) = some (!decide (i ∈ xs)) := cmp_nin i xs
theorem any_E {α : Type} [DecidableEq α] (e : α → PyData) (he : ∀ a b, PyData.eqv (e a) (e b) = decide (a = b)) (xs : List α) (x : α) : ((xs.map e).any fun z => PyData.eqv z (e x)) = decide (x ∈ xs) := by
  rw [List.any_map, Bool.eq_iff_iff, List.any_eq_true, decide_eq_true_eq]
  constructor
  · rintro ⟨y, hy, e1⟩
    have e' : PyData.eqv (e y) (e x) = true := e1
    rw [he, decide_eq_true_eq] at e'
    exact e' ▸ hy
  · intro h
    exact ⟨x, h, by show PyData.eqv (e x) (e x) = true; rw [he]; exact decide_eq_true rfl⟩
theorem cmp_ninLL (l : L) (xs : List L) : cmpB .notin (eL l) (.list (xs.map eL)) = some (!decide (l ∈ xs)) := by
  show (okB (shp _ && shp _) _).map _ = _
  rw [shp_L, (lay_listM (k := 1) fun x _ => lay_L x).shp (by decide), any_E eL eqv_L]; rfl
/-! dicts with typed keys -/
section
variable {α : Type} [DecidableEq α] {t : Bool} (e : α → PyData) (m : α → M) (hk : ∀ a b, keq t (e a) (e b) = decide (a = b))
include hk
theorem dget_map (a : α) : ∀ xs : List α, dget t (xs.map fun x => (e x, m x)) (e a) = if a ∈ xs then some (m a) else none
  | [] => rfl
  | x :: xs => by
    show (if keq t (e x) (e a) then some (m x) else dget t (xs.map fun x => (e x, m x)) (e a)) = _
    rw [hk, dget_map a xs]
    by_cases h : x = a
    · subst h; simp
    · simp [h, Ne.symm h]
theorem dget_isSome (a : α) (xs : List α) : (dget t (xs.map fun x => (e x, m x)) (e a)).isSome = decide (a ∈ xs) := by
  rw [dget_map e m hk]; split <;> simp [*]
theorem dput_new {a : α} {xs : List α} (h : a ∉ xs) (n : M) : dput t (xs.map fun x => (e x, m x)) (e a) n = (xs.map fun x => (e x, m x)) ++ [(e a, n)] := by
  unfold dput
  rw [dget_isSome e m hk, decide_eq_false h]; rfl
end
theorem nkeys_map {α : Type} (e : α → PyData) (f : α → NestedKey) (h : ∀ a, nkey (e a) = some (f a)) : ∀ xs : List α, nkeys (xs.map e) = some (xs.map f)
  | [] => by simp [nkeys]
  | x :: xs => by rw [List.map_cons, nkeys, h, nkeys_map e f h xs]; rfl
theorem nkey_H (h : List Int) : nkey (eH h) = some (.tup (h.map .num)) := by
  show nkey (.tuple _) = _
  rw [nkey, nkeys_map _ NestedKey.num (fun a => by rw [nkey])]; rfl
theorem nkey_L (l : L) : nkey (eL l) = some (.tup [.num l.a, .num l.b, .num l.w]) := by
  simp [eL, nkey, nkeys]
theorem nkey_S (s : Stg) : nkey (eS s) = some (.tup [.num s.p, .tup (s.h.map .num)]) := by
  unfold eS
  rw [nkey, nkeys, nkey, nkeys, nkey_H]; simp [nkeys]
theorem map_num_inj : ∀ {a b : List Int}, a.map NestedKey.num = b.map .num → a = b
  | [], [], _ => rfl
  | [], _ :: _, h => by cases h
  | _ :: _, [], h => by cases h
  | x :: a, y :: b, h => by
    rw [List.map_cons, List.map_cons, List.cons.injEq] at h
    rw [map_num_inj h.2, NestedKey.num.inj h.1]
theorem keq_L (a b : L) : keq true (eL a) (eL b) = decide (a = b) := by
  show decide (nkey _ = nkey _) = _
  rw [nkey_L, nkey_L]
  refine decide_eq_decide.mpr ⟨fun h => ?_, fun h => by rw [h]⟩
  simp at h
  cases a; cases b; simp_all
theorem keq_S (a b : Stg) : keq true (eS a) (eS b) = decide (a = b) := by
  show decide (nkey _ = nkey _) = _
  rw [nkey_S, nkey_S]
  refine decide_eq_decide.mpr ⟨fun h => ?_, fun h => by rw [h]⟩
  simp only [Option.some.injEq, NestedKey.tup.injEq, List.cons.injEq, NestedKey.num.injEq, and_true] at h
  have h2 := map_num_inj h.2
  have h1 := Int.ofNat.inj h.1
  cases a; cases b; simp_all
theorem keq_I (a b : Nat) : keq false (.int (a : Int)) (.int (b : Int)) = decide (a = b) := by
  show decide (fkey _ = fkey _) = _
  refine decide_eq_decide.mpr ⟨fun h => ?_, fun h => by rw [h]⟩
  simp only [fkey, Option.some.injEq, Sum.inl.injEq] at h
  exact Int.ofNat.inj h
theorem depth_nums : ∀ h : List Int, NestedKey.depthAll (h.map .num) = 0
  | [] => by simp [NestedKey.depthAll]
  | x :: h => by rw [List.map_cons, NestedKey.depthAll, depth_nums h]; simp [NestedKey.depth]
theorem kok_L (a : L) : kok true (eL a) = true := by
  have h : (match nkey (eL a) with | some k => decide (k.depth ≤ 8) | none => false) = true := by
    rw [nkey_L]; simp [NestedKey.depth, NestedKey.depthAll]
  exact h
theorem kok_S (a : Stg) : kok true (eS a) = true := by
  have h : (match nkey (eS a) with | some k => decide (k.depth ≤ 8) | none => false) = true := by
    rw [nkey_S]; simp [NestedKey.depth, NestedKey.depthAll, depth_nums]
  exact h
theorem of_Sat {α : Type} {o : Option α} {a : α} (h : Sat o (fun x => x = a) ⟨⟩) : o = some a := by
  obtain ⟨b, e, q⟩ := h
  rw [e, show b = a from q]
/-! sorted rows -/
def srtE {α : Type} (e : α → PyData) (xs : List α) : List α := xs.mergeSort fun a b => PySem.W.dataLe false (fun d => d) (e a) (e b)
theorem srt_map {α : Type} (e : α → PyData) (xs : List α) : srt (xs.map e) = (srtE e xs).map e := by
  unfold srt srtE
  exact (List.map_mergeSort (f := e) (r := fun a b => PySem.W.dataLe false (fun d => d) (e a) (e b)) (s := PySem.W.dataLe false fun d => d) (fun a _ b _ => rfl)).symm
theorem srtE_int (xs : List Int) : srtE .int xs = xs.mergeSort fun a b => decide (a ≤ b) := by
  unfold srtE
  congr 1
  funext a b
  show (!PySem.W.dataLt (.int b) (.int a)) = _
  rw [PySem.W.dataLt_int, ← decide_not]
  exact decide_eq_decide.mpr (by omega)
theorem srtOk_ints (xs : List Int) (h : xs.length ≤ 1000000) : srtOk (xs.map .int) = true := by
  unfold srtOk allAlike
  simp only [List.length_map, List.all_map, Bool.and_eq_true, decide_eq_true_eq]
  refine ⟨by unfold sizeLine; omega, ?_, ?_, ?_⟩
  · simp [Function.comp_def, PySem.W.alike]
  · rw [Bool.or_eq_true]; right; simp [Function.comp_def, isNoneTup]
  · simp [Function.comp_def, PyData.depth]
theorem alikeAll_ints : ∀ a b : List Int, PySem.W.alikeAll (a.map .int) (b.map .int) = true
  | [], b => by cases b <;> simp [PySem.W.alikeAll]
  | x :: a, [] => by simp [PySem.W.alikeAll]
  | x :: a, y :: b => by simp [PySem.W.alikeAll, PySem.W.alike, alikeAll_ints a b]
theorem alike_S (a b : Stg) : PySem.W.alike (eS a) (eS b) = true := by
  simp [eS, eH, PySem.W.alike, PySem.W.alikeAll, alikeAll_ints]
theorem alike_L (a b : L) : PySem.W.alike (eL a) (eL b) = true := by
  simp [eL, PySem.W.alike, PySem.W.alikeAll]
theorem srtOk_tup {α : Type} (e : α → PyData) (hal : ∀ a b, PySem.W.alike (e a) (e b) = true) (ht : ∀ a, isTupNE (e a) = true) (hd : ∀ a, (e a).depth ≤ 64) (xs : List α) (h : xs.length ≤ 1000000) : srtOk (xs.map e) = true := by
  unfold srtOk allAlike
  simp only [List.length_map, List.all_map, Bool.and_eq_true, decide_eq_true_eq]
  refine ⟨by unfold sizeLine; omega, ?_, ?_, ?_⟩
  · simp [Function.comp_def, hal]
  · rw [Bool.or_eq_true]; left; simp [Function.comp_def, ht]
  · simp [Function.comp_def, hd]
theorem srtOk_S (xs : List Stg) (h : xs.length ≤ 1000000) : srtOk (xs.map eS) = true := srtOk_tup eS alike_S (fun _ => rfl) (fun a => by have := (lay_S a).2; omega) xs h
theorem srtOk_L (xs : List L) (h : xs.length ≤ 1000000) : srtOk (xs.map eL) = true := srtOk_tup eL alike_L (fun _ => rfl) (fun a => by have := (lay_L a).2; omega) xs h
theorem cutP_take {α : Type} (xs : List α) (k : Nat) : cutP xs none (some (k : Int)) = xs.take k := by
  unfold cutP
  rw [HT.sIx_none, HT.sIx_nat, List.drop_zero, Nat.sub_zero]
  by_cases h : k ≤ xs.length
  · rw [Nat.min_eq_left h]
  · rw [Nat.min_eq_right (by omega), List.take_of_length_le (Nat.le_refl _), List.take_of_length_le (by omega)]
theorem cutP_drop {α : Type} (xs : List α) (k : Nat) : cutP xs (some (k : Int)) none = xs.drop k := by
  unfold cutP
  rw [HT.sIx_none, HT.sIx_nat]
  by_cases h : k ≤ xs.length
  · rw [Nat.min_eq_left h, List.take_of_length_le (by simp)]
  · rw [Nat.min_eq_right (by omega), Nat.sub_self, List.take_zero, List.drop_eq_nil_of_le (by omega)]
theorem cutP_init {α : Type} (xs : List α) : cutP xs none (some (-1)) = xs.dropLast := by
  unfold cutP
  rw [HT.sIx_none]
  show (xs.drop 0).take (((-1 : Int) + (xs.length : Int)).toNat - 0) = _
  rw [List.drop_zero, List.dropLast_eq_take]
  congr 1
  omega
theorem cutP_last {α : Type} (xs : List α) : cutP xs (some (-1)) none = xs.drop (xs.length - 1) := by
  unfold cutP
  rw [HT.sIx_none]
  show (xs.drop (((-1 : Int) + (xs.length : Int)).toNat)).take (xs.length - ((-1 : Int) + (xs.length : Int)).toNat) = _
  rw [show ((-1 : Int) + (xs.length : Int)).toNat = xs.length - 1 by omega, List.take_of_length_le (by simp)]
theorem lenM_W (w : List L) : lenM (.val (eW w)) = some w.length := by rw [eW, lenM, List.length_map]
theorem lenM_H (w : List Int) : lenM (.val (eH w)) = some w.length := by rw [eH, lenM, List.length_map]
theorem lenM_R (w : List Row) : lenM (.val (eR w)) = some w.length := by rw [eR, lenM, List.length_map]
theorem lenM_Rs (w : List (List Row)) : lenM (.val (eRs w)) = some w.length := by rw [eRs, lenM, List.length_map]
theorem lenM_L (l : L) : lenM (.val (eL l)) = some 3 := by rw [eL, lenM]; rfl
theorem items_W (w : List L) : itemsM (.val (eW w)) = some ((w.map eL).map .val) := rfl
theorem items_H (w : List Int) : itemsM (.val (eH w)) = some ((w.map .int).map .val) := rfl
theorem items_R (w : List Row) : itemsM (.val (eR w)) = some ((w.map eRow).map .val) := rfl
theorem items_Rs (w : List (List Row)) : itemsM (.val (eRs w)) = some ((w.map eR).map .val) := rfl
theorem tagD_W (w : List L) : tagD (eW w) = .tup := rfl
theorem tagD_H (w : List Int) : tagD (eH w) = .tup := rfl
theorem tagD_R (w : List Row) : tagD (eR w) = .tup := rfl
theorem tagD_Rs (w : List (List Row)) : tagD (eRs w) = .tup := rfl
theorem tagD_L (l : L) : tagD (eL l) = .tup := rfl
theorem tagD_S (s : Stg) : tagD (eS s) = .tup := rfl
theorem at_L0 (l : L) : at2 (.val (eL l)) (.int 0) = some (.val (.int l.a)) := rfl
theorem at_L1 (l : L) : at2 (.val (eL l)) (.int 1) = some (.val (.int l.b)) := rfl
theorem at_L2 (l : L) : at2 (.val (eL l)) (.int 2) = some (.val (.int l.w)) := rfl
theorem at_S0 (s : Stg) : at2 (.val (eS s)) (.int 0) = some (.val (.int (s.p : Int))) := rfl
theorem at_S1 (s : Stg) : at2 (.val (eS s)) (.int 1) = some (.val (eH s.h)) := rfl
theorem at2_vtn (ds : List PyData) (i : Nat) : at2 (.val (.tuple ds)) (.int (i : Int)) = (ds[i]?).map .val := by rw [at2_vt, atI_nat]
theorem at_W {w : List L} {i : Nat} {l : L} (h : w[i]? = some l) : at2 (.val (eW w)) (.int (i : Int)) = some (.val (eL l)) := by
  rw [eW, at2_vtn, List.getElem?_map, h]; rfl
theorem at_Rs {w : List (List Row)} {i : Nat} {l : List Row} (h : w[i]? = some l) : at2 (.val (eRs w)) (.int (i : Int)) = some (.val (eR l)) := by
  rw [eRs, at2_vtn, List.getElem?_map, h]; rfl
theorem at_R {w : List Row} {i : Nat} {l : Row} (h : w[i]? = some l) : at2 (.val (eR w)) (.int (i : Int)) = some (.val (eRow l)) := by
  rw [eR, at2_vtn, List.getElem?_map, h]; rfl
theorem at_Row0 (x : Row) : at2 (.val (eRow x)) (.int 0) = some (.val (eL x.1)) := rfl
theorem at_Row1 (x : Row) : at2 (.val (eRow x)) (.int 1) = some (.val (.int (x.2 : Int))) := rfl
theorem tagD_Row (x : Row) : tagD (eRow x) = .tup := rfl
theorem lenM_Row (x : Row) : lenM (.val (eRow x)) = some 2 := by rw [eRow, lenM]; rfl
theorem at_E {α : Type} {e : α → PyData} {w : List α} {i : Nat} {l : α} (h : w[i]? = some l) : at2 (.val (.tuple (w.map e))) (.int (i : Int)) = some (.val (e l)) := by
  rw [at2_vtn, List.getElem?_map, h]; rfl
theorem S_wTup_v {n : Nat} {A : EvTs} {ds : List PyData} {ρ : Env} {Q : Env → Prop} {u : Hold Q} : Sat (wTup n A (.val (.tuple ds)) ρ) Q u = Sat (if ds.length = n then A (ds.map .val) ρ else none) Q u := rfl
theorem S_wTup_t {n : Nat} {A : EvTs} {ms : List M} {ρ : Env} {Q : Env → Prop} {u : Hold Q} : Sat (wTup n A (.tup ms) ρ) Q u = Sat (if ms.length = n then A ms ρ else none) Q u := rfl
theorem S_wTup_S {A : EvTs} {s : Stg} {ρ : Env} {Q : Env → Prop} {u : Hold Q} : Sat (wTup 2 A (.val (eS s)) ρ) Q u = Sat (A [.val (.int (s.p : Int)), .val (eH s.h)] ρ) Q u := rfl
theorem S_wTup_R {A : EvTs} {x : Row} {ρ : Env} {Q : Env → Prop} {u : Hold Q} : Sat (wTup 2 A (.val (eRow x)) ρ) Q u = Sat (A [.val (eL x.1), .val (.int (x.2 : Int))] ρ) Q u := rfl
theorem S_wTup_L {A : EvTs} {x : L} {ρ : Env} {Q : Env → Prop} {u : Hold Q} : Sat (wTup 3 A (.val (eL x)) ρ) Q u = Sat (A [.val (.int x.a), .val (.int x.b), .val (.int x.w)] ρ) Q u := rfl
theorem S_bTup_v {n : Nat} {A : EvWs} {ds : List PyData} {ρ : Env} {Q : Env → Prop} {u : Hold Q} : Sat (bTup n A (.val (.tuple ds)) ρ) Q u = Sat (if ds.length = n then A (ds.map .val) ρ else none) Q u := rfl
theorem S_bTup_S {A : EvWs} {s : Stg} {ρ : Env} {Q : Env → Prop} {u : Hold Q} : Sat (bTup 2 A (.val (eS s)) ρ) Q u = Sat (A [.val (.int (s.p : Int)), .val (eH s.h)] ρ) Q u := rfl
theorem S_bTup_R {A : EvWs} {x : Row} {ρ : Env} {Q : Env → Prop} {u : Hold Q} : Sat (bTup 2 A (.val (eRow x)) ρ) Q u = Sat (A [.val (eL x.1), .val (.int (x.2 : Int))] ρ) Q u := rfl
theorem dictIn_d (t : Bool) (kvs : List (PyData × M)) (d : PyData) : dictIn (.dct t kvs) d = if kok t d then some (dget t kvs d).isSome else none := by rw [dictIn]
theorem dictIn_f (t : Bool) (kvs : List (PyData × M)) (d : PyData) : dictIn (.fz (.dct t kvs)) d = if kok t d then some (dget t kvs d).isSome else none := by rw [dictIn, dictIn]
theorem kok_I (i : Int) : kok false (.int i) = true := rfl
theorem emp_d (t : Bool) (kvs : List (PyData × M)) : dkeys (.dct t kvs) = if kvs.length ≤ sizeLine then some (kvs.map fun kv => kv.1) else none := by rw [dkeys]
theorem emp_f (t : Bool) (kvs : List (PyData × M)) : dkeys (.fz (.dct t kvs)) = if kvs.length ≤ sizeLine then some (kvs.map fun kv => kv.1) else none := by rw [dkeys, dkeys]
theorem nc0 : ((0 : Nat) : Int) = 0 := rfl
theorem nc1 : ((1 : Nat) : Int) = 1 := rfl
theorem nc2 : ((2 : Nat) : Int) = 2 := rfl
theorem nc3 : ((3 : Nat) : Int) = 3 := rfl
theorem nc4 : ((4 : Nat) : Int) = 4 := rfl
theorem nc5 : ((5 : Nat) : Int) = 5 := rfl
theorem nc6 : ((6 : Nat) : Int) = 6 := rfl
theorem nc7 : ((7 : Nat) : Int) = 7 := rfl
theorem cutP_63 {α : Type} (xs : List α) : cutP xs none (some 63) = xs.take 63 := cutP_take xs 63
theorem cutP_2 {α : Type} (xs : List α) : cutP xs none (some 2) = xs.take 2 := cutP_take xs 2
theorem cutP_1 {α : Type} (xs : List α) : cutP xs none (some 1) = xs.take 1 := cutP_take xs 1
theorem cutP_d1 {α : Type} (xs : List α) : cutP xs (some 1) none = xs.drop 1 := cutP_drop xs 1
end Z

set_option Elab.async false
set_option linter.all false
set_option maxRecDepth 100000
set_option maxHeartbeats 4000000
namespace Z
open PySem L2 Evl PyProof.Rows

def top (i : Nat) : Stmt := PySem.Challenge.pw_playedapart_k14_whole_held_walks.main.body.getD i (.Pass ⟨0, 0, 0, 0⟩)
abbrev st_is_number : Stmt := top 4
abbrev N_is_number : List Str := ["value"]
def b_is_number : EvS :=
 (sSeq (sRet (zAndV false (zBv (zIsi (rVar 0) .int)) (zAndV false (zNotV (zBv (zIsi (rVar 0) .bl))) (zBv (zCmp .ge (oR (rVar 0)) (oF (zC (.int 0))) true)))))
 sNext)
def g_is_number : List M → Option (M × List (Option M)) := runB (fun i => [].contains i) 1 1 b_is_number
abbrev st_is_letter : Stmt := top 12
abbrev N_is_letter : List Str := ["value", "houses", "one"]
def b_is_letter : EvS :=
 (sSeq (sIf (zAnd true (zNot (zTru (zBv (zIsi (rVar 0) .tup)))) (zAnd true (zCmp .ne (oF (zLen (rVar 0))) (oF (zC (.int 3))) true) (zNot (zTru (zBi biAll (zsCons (oF (zLcP (iSeqR (rVar 0)) (bName [2] 2) zYes (zCallP g_is_number (zgRef 2 zgNil) []) [2])) zsNil true))))))
 (sSeq (sRet (zC (.bool false)))
 sNext)
 sNext)
 (sSeq (sRet (zAndV false (zBv (zCmp .ne (oR (rIx2 (rVar 0) (oF (zC (.int 0))))) (oR (rIx2 (rVar 0) (oF (zC (.int 1))))) true)) (zAndV false (zBv (zCmp .lt (oF (zBi (biMM true) (zsCons (oF (zSl (oR (rVar 0)) none (some (oF (zC (.int 2)))) true)) zsNil true))) (oR (rVar 1)) true)) (zBv (zCmp .lt (oR (rIx2 (rVar 0) (oF (zC (.int 2))))) (oF (zC (.int 100))) true)))))
 sNext))
def g_is_letter : List M → Option (M × List (Option M)) := runB (fun i => [].contains i) 3 2 b_is_letter
abbrev st_is_row : Stmt := top 13
abbrev N_is_row : List Str := ["value", "houses", "places"]
def b_is_row : EvS :=
 (sSeq (sIf (zAnd true (zNot (zTru (zBv (zIsi (rVar 0) .tup)))) (zAnd true (zCmp .ne (oF (zLen (rVar 0))) (oF (zC (.int 2))) true) (zNot (zTru (zCallP g_is_letter (zgVal (zR (rIx2 (rVar 0) (oF (zC (.int 0))))) (zgRef 1 zgNil)) [])))))
 (sSeq (sRet (zC (.bool false)))
 sNext)
 sNext)
 (sSeq (sRet (zAndV false (zCallP g_is_number (zgVal (zR (rIx2 (rVar 0) (oF (zC (.int 1))))) zgNil) []) (zBv (zCmp .lt (oR (rIx2 (rVar 0) (oF (zC (.int 1))))) (oR (rVar 2)) true))))
 sNext))
def g_is_row : List M → Option (M × List (Option M)) := runB (fun i => [].contains i) 3 3 b_is_row
abbrev st_are_rows : Stmt := top 14
abbrev N_are_rows : List Str := ["value", "houses", "places", "row", "at", "one"]
def b_are_rows : EvS :=
 (sSeq (sIf (zAnd true (zNot (zTru (zBv (zIsi (rVar 0) .tup)))) (zNot (zTru (zBi biAll (zsCons (oF (zLcP (iSeqR (rVar 0)) (bName [5] 5) zYes (zCallP g_is_row (zgRef 5 (zgRef 1 (zgRef 2 zgNil))) []) [5])) zsNil true)))))
 (sSeq (sRet (zC (.bool false)))
 sNext)
 sNext)
 (sSeq (sIf (zNot (zTru (zBi biAll (zsCons (oF (zLcP (iR2 (zsCons (oF (zC (.int 1))) (zsCons (oF (zLen (rVar 0))) zsNil true) true)) (bName [4] 4) zYes (zBv (zCmp .lt (oR (rIx2 (rIx2 (rVar 0) (oF (zBin .sub (oR (rVar 4)) (oF (zC (.int 1))) true))) (oF (zC (.int 0))))) (oR (rIx2 (rIx2 (rVar 0) (oR (rVar 4))) (oF (zC (.int 0))))) true)) [4])) zsNil true))))
 (sSeq (sRet (zC (.bool false)))
 sNext)
 sNext)
 (sSeq (sRet (zBi biAll (zsCons (oF (zLcP (iSeqR (rVar 0)) (bName [3] 3) zYes (zBv (zCmp .eq (oR (rIx2 (rIx2 (rVar 3) (oF (zC (.int 0)))) (oF (zC (.int 0))))) (oR (rIx2 (rIx2 (rIx2 (rVar 0) (oF (zC (.int 0)))) (oF (zC (.int 0)))) (oF (zC (.int 0))))) true)) [3])) zsNil true)))
 sNext)))
def g_are_rows : List M → Option (M × List (Option M)) := runB (fun i => [].contains i) 6 3 b_are_rows
abbrev st_come_to : Stmt := top 15
abbrev N_come_to : List Str := ["rows", "place", "houses", "found", "seen", "at", "letter", "behind"]
def b_come_to : EvS :=
 (sSeq (sAsg (zLst (zCons (zVar 1) zNil)) (wName (fun i => [].contains i) 3))
 (sSeq (sAsg (zDict1 false (oR (rVar 1)) (zC (.bool true))) (wName (fun i => [].contains i) 4))
 (sSeq (sAsg (zC (.int 0)) (wName (fun i => [].contains i) 5))
 (sSeq (sWhile wFuel (zCmp .lt (oR (rVar 5)) (oF (zLen (rVar 3))) true)
 (sSeq (sFor (iSeqR (rIx2 (rVar 0) (oR (rIx2 (rVar 3) (oR (rVar 5)))))) (wTup 2 (wsCons (wName (fun i => [].contains i) 6) (wsCons (wName (fun i => [].contains i) 7) wsNil)))
 (sSeq (sIf (zAnd false (zDin true (oR (rVar 7)) (rVar 4)) (zAnd false (zCmp .notin (oR (rIx2 (rVar 6) (oF (zC (.int 0))))) (oR (rVar 2)) true) (zCmp .notin (oR (rIx2 (rVar 6) (oF (zC (.int 1))))) (oR (rVar 2)) true)))
 (sSeq (sAsg (zC (.bool true)) (wSub (pRoot 4) (oR (rVar 7))))
 (sSeq (sExpr (zMet "list" opAppend (pRoot 3) (zCons (zVar 7) zNil)))
 sNext))
 sNext)
 sNext))
 (sSeq (sAug (fun i => [].contains i) false 5 (oF (zC (.int 1))))
 sNext)))
 (sSeq (sRet (zMv 3))
 sNext)))))
def g_come_to : List M → Option (M × List (Option M)) := runB (fun i => [].contains i) 8 3 b_come_to
abbrev st_Bookzz_initzz : Stmt := inClass (top 16) 0
abbrev N_Bookzz_initzz : List Str := ["self", "houses", "rows", "place", "told", "come"]
def b_Bookzz_initzz : EvS :=
 (sSeq (sIf (zAnd true (zNot (zTru (zCallP g_is_number (zgRef 1 zgNil) []))) (zAnd true (zCmp .lt (oR (rVar 1)) (oF (zC (.int 2))) true) (zCmp .gt (oR (rVar 1)) (oF (zC (.int 6))) true)))
 (sSeq sNever
 sNext)
 sNext)
 (sSeq (sIf (zAnd true (zNot (zTru (zBv (zIsi (rVar 2) .tup)))) (zAnd true (zCmp .lt (oF (zLen (rVar 2))) (oF (zC (.int 1))) true) (zCmp .gt (oF (zLen (rVar 2))) (oF (zC (.int 200))) true)))
 (sSeq sNever
 sNext)
 sNext)
 (sSeq (sFor (iEn (zdCons (oR (rVar 2)) zsNil)) (wTup 2 (wsCons (wName (fun i => [0].contains i) 3) (wsCons (wName (fun i => [0].contains i) 4) wsNil)))
 (sSeq (sIf (zNot (zTru (zCallP g_are_rows (zgRef 4 (zgRef 1 (zgVal (zLen (rVar 2)) zgNil))) [])))
 (sSeq sNever
 sNext)
 sNext)
 sNext))
 (sSeq (sIf (zCmp .gt (oF (zBi biSum (zsCons (oF (zLcP (iSeqR (rVar 2)) (bName [4] 4) zYes (zLen (rVar 4)) [4])) zsNil true))) (oF (zC (.int 600))) true)
 (sSeq sNever
 sNext)
 sNext)
 (sSeq (sAsg (zFrz (zCallP g_come_to (zgRef 2 (zgVal (zC (.int 0)) (zgVal (zTup zNil) zgNil))) [])) (wName (fun i => [0].contains i) 5))
 (sSeq (sFor (iR1 (zsCons (oF (zLen (rVar 2))) zsNil true)) (wName (fun i => [0].contains i) 3)
 (sSeq (sIf (zCmp .notin (oR (rVar 3)) (oR (rVar 5)) true)
 (sSeq sNever
 sNext)
 sNext)
 sNext))
 (sSeq (sFldS (zVar 1) (pRoot 0) "houses")
 (sSeq (sFldS (zVar 2) (pRoot 0) "rows")
 sNext))))))))
def g_Bookzz_initzz : List M → Option (M × List (Option M)) := runB (fun i => [0].contains i) 6 3 b_Bookzz_initzz
abbrev st_u_law_draw : Stmt := top 33
abbrev N_u_law_draw : List Str := ["heap", "many", "rest"]
def b_u_law_draw : EvS :=
 (sSeq (sWhile wFuel (zAnd false (zCmp .ne (oR (rIx2 (rVar 0) (oF (zC (.int 0))))) (oF (zLst zNil)) true) (zCmp .eq (oR (rIx2 (rIx2 (rVar 0) (oF (zC (.int 0)))) (oF (zNeg (oF (zC (.int 1))))))) (oF (zC (.int 0))) true))
 (sSeq (sExpr (zMet0 "list" opPop (pIx (pRoot 0) (oF (zC (.int 0))))))
 sNext))
 (sSeq (sIf (zCmp .ne (oR (rIx2 (rVar 0) (oF (zC (.int 0))))) (oF (zLst zNil)) true)
 (sSeq (sAsg (zMet0 "list" opPop (pIx (pRoot 0) (oF (zC (.int 0))))) (wName (fun i => [0].contains i) 2))
 (sSeq (sExpr (zMet "list" opAppend (pIx (pRoot 0) (oF (zC (.int 0)))) (zCons (zBin .fdiv (oR (rVar 2)) (oR (rVar 1)) true) zNil)))
 (sSeq (sRet (zBin .mod (oF (zBi biInt (zsCons (oR (rVar 2)) zsNil true))) (oR (rVar 1)) true))
 sNext)))
 sNext)
 (sSeq (sAsg (zBin .mod (oF (zBi biInt (zsCons (oF (zBin .add (oF (zBin .mul (oR (rIx2 (rVar 0) (oF (zC (.int 1))))) (oF (zC (.int 48271))) true)) (oF (zC (.int 17))) true)) zsNil true))) (oF (zC (.int 2147483647))) true) (wSub (pRoot 0) (oF (zC (.int 1)))))
 (sSeq (sRet (zBin .mod (oF (zBi biInt (zsCons (oF (zBin .fdiv (oR (rIx2 (rVar 0) (oF (zC (.int 1))))) (oF (zC (.int 32))) true)) zsNil true))) (oR (rVar 1)) true))
 sNext))))
def g_u_law_draw : List M → Option (M × List (Option M)) := runB (fun i => [0].contains i) 3 2 b_u_law_draw
abbrev st_u_law_pick : Stmt := top 34
abbrev N_u_law_pick : List Str := ["heap", "some"]
def b_u_law_pick : EvS :=
 (sSeq (sRet (zIxV 1 (oF (zCall g_u_law_draw (zgRef 0 (zgVal (zLen (rVar 1)) zgNil)) []))))
 sNext)
def g_u_law_pick : List M → Option (M × List (Option M)) := runB (fun i => [0].contains i) 2 2 b_u_law_pick
abbrev st_u_law_bent : Stmt := top 38
abbrev N_u_law_bent : List Str := ["heap", "value", "parts", "at", "kind", "part"]
def b_u_law_bent (G : List M → Option (M × List (Option M))) : EvS :=
 (sSeq (sIf (zCmp .eq (oF (zLen (rVar 1))) (oF (zC (.int 0))) true)
 (sSeq (sRet (zCall g_u_law_pick (zgRef 0 (zgVal (zLst (zCons (zC .none) (zCons (zLst zNil) (zCons (zC (.int 0)) (zCons (zTup (zCons (zC (.int 0)) zNil)) (zCons (zC (.str "()")) (zCons (zTup (zCons (zTup zNil) zNil)) zNil))))))) zgNil)) []))
 sNext)
 sNext)
 (sSeq (sPar (zCons (zFrz (zCall g_u_law_draw (zgRef 0 (zgVal (zLen (rVar 1)) zgNil)) [])) (zCons (zFrz (zCall g_u_law_draw (zgRef 0 (zgVal (zC (.int 10)) zgNil)) [])) zNil)) 3 4 (fun i => [0].contains i))
 (sSeq (sIf (zCmp .eq (oR (rVar 4)) (oF (zC (.int 0))) true)
 (sSeq (sRet (zCall g_u_law_pick (zgRef 0 (zgVal (zLst (zCons (zSl (oR (rVar 1)) none (some (oF (zNeg (oF (zC (.int 1)))))) true) (zCons (zBin .add (oR (rVar 1)) (oF (zTup (zCons (zC (.int 0)) zNil))) true) (zCons (zBi biList (zsCons (oR (rVar 1)) zsNil true)) (zCons (zC .none) (zCons (zSl (oR (rVar 1)) none (some (oF (zC (.int 1)))) true) (zCons (zC (.int 5)) (zCons (zC (.str "on")) (zCons (zBin .add (oR (rVar 1)) (oF (zSl (oR (rVar 1)) (some (oF (zNeg (oF (zC (.int 1)))))) none true)) true) zNil))))))))) zgNil)) []))
 sNext)
 sNext)
 (sSeq (sIf (zAnd false (zCmp .lt (oR (rVar 4)) (oF (zC (.int 5))) true) (zAnd false (zTru (zBv (zIsi (rIx2 (rVar 1) (oR (rVar 3))) .tup))) (zCmp .gt (oF (zLen (rIx2 (rVar 1) (oR (rVar 3))))) (oF (zC (.int 0))) true)))
 (sSeq (sAsg (zFrz (zIf (zCmp .lt (oR (rVar 4)) (oF (zC (.int 4))) true) (zCall G (zgRef 0 (zgVal (zR (rIx2 (rVar 1) (oR (rVar 3)))) (zgRef 2 zgNil))) []) (zBi biList (zsCons (oR (rIx2 (rVar 1) (oR (rVar 3)))) zsNil true)))) (wName (fun i => [0].contains i) 5))
 sNext)
 (sSeq (sIf (zAnd false (zCmp .lt (oR (rVar 4)) (oF (zC (.int 8))) true) (zTru (zBv (zIsi (rIx2 (rVar 1) (oR (rVar 3))) .int))))
 (sSeq (sAsg (zFrz (zBin .add (oR (rIx2 (rVar 1) (oR (rVar 3)))) (oF (zCall g_u_law_pick (zgRef 0 (zgVal (zLst (zCons (zC (.int 1)) (zCons (zC (.int 1)) (zCons (zBin .sub (oF (zC (.int 0))) (oF (zC (.int 1))) true) (zCons (zC (.int 2)) zNil))))) zgNil)) [])) false)) (wName (fun i => [0].contains i) 5))
 sNext)
 (sSeq (sAsg (zFrz (zCall g_u_law_pick (zgRef 0 (zgVal (zBin .add (oF (zBi biList (zsCons (oR (rVar 2)) zsNil true))) (oF (zLst (zCons (zC .none) (zCons (zC (.bool true)) (zCons (zBin .sub (oF (zC (.int 0))) (oF (zC (.int 1))) true) (zCons (zC (.int 0)) (zCons (zC (.int 1)) (zCons (zC (.str "say")) (zCons (zC (.str "hear")) (zCons (zTup zNil) (zCons (zTup (zCons (zC (.int 0)) zNil)) (zCons (zBin .pow (oF (zC (.int 10))) (oF (zC (.int 9))) true) zNil)))))))))))) true) zgNil)) [])) (wName (fun i => [0].contains i) 5))
 sNext))
 sNext))
 (sSeq (sRet (zBin .add (oF (zBin .add (oF (zSl (oR (rVar 1)) none (some (oR (rVar 3))) true)) (oF (zTup (zCons (zVar 5) zNil))) true)) (oF (zSl (oR (rVar 1)) (some (oF (zBin .add (oR (rVar 3)) (oF (zC (.int 1))) true))) none true)) true))
 sNext)))))
def g_u_law_bent : Nat → List M → Option (M × List (Option M))
  | 0 => fun _ => none
  | k + 1 => runB (fun i => [0].contains i) 6 3 (b_u_law_bent (g_u_law_bent k))
abbrev st_u_law_lot : Stmt := top 37
abbrev N_u_law_lot : List Str := ["row", "found", "one"]
def b_u_law_lot : EvS :=
 (sSeq (sAsg (zLst zNil) (wName (fun i => [].contains i) 1))
 (sSeq (sFor (iSeq (oF (zBi biSorted (zsCons (oR (rVar 0)) zsNil true)))) (wName (fun i => [].contains i) 2)
 (sSeq (sIf (zAnd true (zCmp .eq (oR (rVar 1)) (oF (zLst zNil)) true) (zCmp .ne (oR (rIx2 (rVar 1) (oF (zBin .sub (oF (zLen (rVar 1))) (oF (zC (.int 1))) true)))) (oR (rVar 2)) true))
 (sSeq (sExpr (zMet "list" opAppend (pRoot 1) (zCons (zVar 2) zNil)))
 sNext)
 sNext)
 sNext))
 (sSeq (sRet (zBi biTuple (zsCons (oR (rVar 1)) zsNil true)))
 sNext)))
def g_u_law_lot : List M → Option (M × List (Option M)) := runB (fun i => [].contains i) 3 1 b_u_law_lot
abbrev st_u_law_done : Stmt := top 48
abbrev N_u_law_done : List Str := ["held", "walk", "found", "letter"]
def b_u_law_done : EvS :=
 (sSeq (sAsg (zLst zNil) (wName (fun i => [].contains i) 2))
 (sSeq (sFor (iSeqR (rVar 1)) (wName (fun i => [].contains i) 3)
 (sSeq (sIf (zCmp .isin (oR (rIx2 (rVar 3) (oF (zC (.int 0))))) (oR (rVar 0)) true)
 (sSeq (sAsg (zFrz (zCallP g_u_law_lot (zgVal (zBin .add (oR (rVar 0)) (oF (zTup (zCons (zR (rIx2 (rVar 3) (oF (zC (.int 1))))) zNil))) true) zgNil) [])) (wName (fun i => [].contains i) 0))
 sNext)
 (sSeq (sExpr (zMet "list" opAppend (pRoot 2) (zCons (zTup (zCons (zC (.str "say")) (zCons (zVar 3) zNil))) zNil)))
 (sSeq (sIf (zCmp .notin (oR (rIx2 (rVar 3) (oF (zC (.int 1))))) (oR (rVar 0)) true)
 (sSeq (sExpr (zMet "list" opAppend (pRoot 2) (zCons (zTup (zCons (zC (.str "hear")) (zCons (zVar 3) zNil))) zNil)))
 sNext)
 sNext)
 sNext)))
 sNext))
 (sSeq (sRet (zTup (zCons (zBi biTuple (zsCons (oR (rVar 2)) zsNil true)) (zCons (zVar 0) zNil))))
 sNext)))
def g_u_law_done : List M → Option (M × List (Option M)) := runB (fun i => [].contains i) 4 2 b_u_law_done
abbrev st_u_law_far : Stmt := top 42
abbrev N_u_law_far : List Str := ["rows", "place", "letter", "one", "to"]
def b_u_law_far : EvS :=
 (sSeq (sFor (iSeqR (rIx2 (rVar 0) (oR (rVar 1)))) (wTup 2 (wsCons (wName (fun i => [].contains i) 3) (wsCons (wName (fun i => [].contains i) 4) wsNil)))
 (sSeq (sIf (zCmp .eq (oR (rVar 3)) (oR (rVar 2)) true)
 (sSeq (sRet (zVar 4))
 sNext)
 sNext)
 sNext))
 (sSeq (sRet (zC .none))
 sNext))
def g_u_law_far : List M → Option (M × List (Option M)) := runB (fun i => [].contains i) 5 3 b_u_law_far
abbrev st_u_law_end : Stmt := top 44
abbrev N_u_law_end : List Str := ["rows", "place", "walk", "letter"]
def b_u_law_end : EvS :=
 (sSeq (sFor (iSeqR (rVar 2)) (wName (fun i => [].contains i) 3)
 (sSeq (sAsg (zFrz (zIf (zCmp .is (oR (rVar 1)) (oF (zC .none)) true) (zC .none) (zCallP g_u_law_far (zgRef 0 (zgRef 1 (zgRef 3 zgNil))) []))) (wName (fun i => [].contains i) 1))
 sNext))
 (sSeq (sRet (zVar 1))
 sNext))
def g_u_law_end : List M → Option (M × List (Option M)) := runB (fun i => [].contains i) 4 3 b_u_law_end
abbrev st_u_law_full : Stmt := top 54
abbrev N_u_law_full : List Str := ["tale", "found", "letter"]
def b_u_law_full : EvS :=
 (sSeq (sAsg (zLst zNil) (wName (fun i => [].contains i) 1))
 (sSeq (sFor (iSeqR (rVar 0)) (wName (fun i => [].contains i) 2)
 (sSeq (sExpr (zMet "list" opExtend (pRoot 1) (zCons (zLst (zCons (zTup (zCons (zC (.str "say")) (zCons (zVar 2) zNil))) (zCons (zTup (zCons (zC (.str "hear")) (zCons (zVar 2) zNil))) zNil))) zNil)))
 sNext))
 (sSeq (sRet (zBi biTuple (zsCons (oR (rVar 1)) zsNil true)))
 sNext)))
def g_u_law_full : List M → Option (M × List (Option M)) := runB (fun i => [].contains i) 3 1 b_u_law_full
abbrev st_u_law_heap : Stmt := top 32
abbrev N_u_law_heap : List Str := ["script", "cells", "stir", "cell"]
def b_u_law_heap : EvS :=
 (sSeq (sPar (zCons (zFrz (zLcP (iSeq (oF (zSl (oR (rVar 0)) none (some (oF (zC (.int 63)))) true))) (bName [3] 3) zYes (zBin .add (oF (zBin .mul (oF (zC (.int 2))) (oF (zBi biAbs (zsCons (oR (rVar 3)) zsNil true))) true)) (oF (zBi biInt (zsCons (oF (zBv (zCmp .lt (oR (rVar 3)) (oF (zC (.int 0))) true))) zsNil true))) true) [3])) (zCons (zC (.int 22444)) zNil)) 1 2 (fun i => [].contains i))
 (sSeq (sFor (iSeqR (rVar 1)) (wName (fun i => [].contains i) 3)
 (sSeq (sAsg (zBin .mod (oF (zBi biInt (zsCons (oF (zBin .add (oF (zBin .add (oF (zBin .mul (oR (rVar 2)) (oF (zC (.int 69621))) true)) (oF (zBin .mod (oF (zBi biInt (zsCons (oR (rVar 3)) zsNil true))) (oF (zC (.int 2147483563))) true)) true)) (oF (zC (.int 31))) true)) zsNil true))) (oF (zC (.int 2147483647))) true) (wName (fun i => [].contains i) 2))
 sNext))
 (sSeq (sRet (zLst (zCons (zRevL (oF (zLcP (iSeqR (rVar 1)) (bName [3] 3) (zCmp .ge (oR (rVar 3)) (oF (zBin .pow (oF (zC (.int 10))) (oF (zC (.int 18))) true)) true) (zBin .mod (oF (zBi biInt (zsCons (oR (rVar 3)) zsNil true))) (oF (zBin .mul (oF (zBin .mul (oF (zBin .mul (oF (zBin .pow (oF (zC (.int 10))) (oF (zC (.int 60))) true)) (oF (zBin .pow (oF (zC (.int 10))) (oF (zC (.int 60))) true)) true)) (oF (zBin .pow (oF (zC (.int 10))) (oF (zC (.int 60))) true)) true)) (oF (zBin .pow (oF (zC (.int 10))) (oF (zC (.int 60))) true)) true)) true) [3]))) (zCons (zVar 2) zNil))))
 sNext)))
def g_u_law_heap : List M → Option (M × List (Option M)) := runB (fun i => [].contains i) 4 1 b_u_law_heap
abbrev st_u_law_number : Stmt := top 36
abbrev N_u_law_number : List Str := ["value"]
def b_u_law_number : EvS :=
 (sSeq (sRet (zAndV false (zBv (zIsi (rVar 0) .int)) (zAndV false (zNotV (zBv (zIsi (rVar 0) .bl))) (zBv (zCmp .ge (oR (rVar 0)) (oF (zC (.int 0))) true)))))
 sNext)
def g_u_law_number : List M → Option (M × List (Option M)) := runB (fun i => [].contains i) 1 1 b_u_law_number
abbrev st_u_law_is_letter : Stmt := top 45
abbrev N_u_law_is_letter : List Str := ["value", "one"]
def b_u_law_is_letter : EvS :=
 (sSeq (sRet (zAndV false (zBv (zIsi (rVar 0) .tup)) (zAndV false (zBv (zCmp .eq (oF (zLen (rVar 0))) (oF (zC (.int 3))) true)) (zBi biAll (zsCons (oF (zLcP (iSeqR (rVar 0)) (bName [1] 1) zYes (zCallP g_u_law_number (zgRef 1 zgNil) []) [1])) zsNil true)))))
 sNext)
def g_u_law_is_letter : List M → Option (M × List (Option M)) := runB (fun i => [].contains i) 2 1 b_u_law_is_letter
abbrev st_u_law_is_walk : Stmt := top 46
abbrev N_u_law_is_walk : List Str := ["rows", "place", "value", "letter"]
def b_u_law_is_walk : EvS :=
 (sSeq (sIf (zAnd true (zNot (zTru (zBv (zIsi (rVar 2) .tup)))) (zAnd true (zCmp .gt (oF (zLen (rVar 2))) (oF (zC (.int 10000))) true) (zNot (zTru (zBi biAll (zsCons (oF (zLcP (iSeqR (rVar 2)) (bName [3] 3) zYes (zCallP g_u_law_is_letter (zgRef 3 zgNil) []) [3])) zsNil true))))))
 (sSeq (sRet (zC (.bool false)))
 sNext)
 sNext)
 (sSeq (sRet (zBv (zCmp .isnot (oF (zCallP g_u_law_end (zgRef 0 (zgRef 1 (zgRef 2 zgNil))) [])) (oF (zC .none)) true)))
 sNext))
def g_u_law_is_walk : List M → Option (M × List (Option M)) := runB (fun i => [].contains i) 4 3 b_u_law_is_walk
abbrev st_is_letter_form : Stmt := top 6
abbrev N_is_letter_form : List Str := ["value", "one"]
def b_is_letter_form : EvS :=
 (sSeq (sRet (zAndV false (zBv (zIsi (rVar 0) .tup)) (zAndV false (zBv (zCmp .eq (oF (zLen (rVar 0))) (oF (zC (.int 3))) true)) (zBi biAll (zsCons (oF (zLcP (iSeqR (rVar 0)) (bName [1] 1) zYes (zCallP g_is_number (zgRef 1 zgNil) []) [1])) zsNil true)))))
 sNext)
def g_is_letter_form : List M → Option (M × List (Option M)) := runB (fun i => [].contains i) 2 1 b_is_letter_form
abbrev st_next_place : Stmt := top 17
abbrev N_next_place : List Str := ["book", "place", "letter", "one", "behind"]
def b_next_place : EvS :=
 (sSeq (sFor (iSeqR (rIx2 (rFld (rVar 0) "rows") (oR (rVar 1)))) (wTup 2 (wsCons (wName (fun i => [].contains i) 3) (wsCons (wName (fun i => [].contains i) 4) wsNil)))
 (sSeq (sIf (zCmp .eq (oR (rVar 3)) (oR (rVar 2)) true)
 (sSeq (sRet (zVar 4))
 sNext)
 sNext)
 sNext))
 (sSeq (sRet (zC .none))
 sNext))
def g_next_place : List M → Option (M × List (Option M)) := runB (fun i => [].contains i) 5 3 b_next_place
abbrev st_is_walk : Stmt := top 20
abbrev N_is_walk : List Str := ["book", "place", "value", "letter"]
def b_is_walk : EvS :=
 (sSeq (sIf (zAnd true (zNot (zTru (zBv (zIsi (rVar 2) .tup)))) (zCmp .gt (oF (zLen (rVar 2))) (oF (zC (.int 10000))) true))
 (sSeq (sRet (zC (.bool false)))
 sNext)
 sNext)
 (sSeq (sFor (iSeqR (rVar 2)) (wName (fun i => [].contains i) 3)
 (sSeq (sIf (zNot (zTru (zCallP g_is_letter_form (zgRef 3 zgNil) [])))
 (sSeq (sRet (zC (.bool false)))
 sNext)
 sNext)
 (sSeq (sAsg (zFrz (zCallP g_next_place (zgRef 0 (zgRef 1 (zgRef 3 zgNil))) [])) (wName (fun i => [].contains i) 1))
 (sSeq (sIf (zCmp .is (oR (rVar 1)) (oF (zC .none)) true)
 (sSeq (sRet (zC (.bool false)))
 sNext)
 sNext)
 sNext))))
 (sSeq (sRet (zC (.bool true)))
 sNext)))
def g_is_walk : List M → Option (M × List (Option M)) := runB (fun i => [].contains i) 4 3 b_is_walk
abbrev st_u_law_long_right : Stmt := top 55
abbrev N_u_law_long_right : List Str := ["heap", "letter", "book"]
def b_u_law_long_right : EvS :=
 (sSeq (sAsg (zFrz (zTup (zCons (zCall g_u_law_draw (zgRef 0 (zgVal (zC (.int 2)) zgNil)) []) (zCons (zC (.int 0)) (zCons (zCall g_u_law_draw (zgRef 0 (zgVal (zC (.int 100)) zgNil)) []) zNil))))) (wName (fun i => [0].contains i) 1))
 (sSeq (sAsg (zFrz (zTup (zCons (zR (rIx2 (rVar 1) (oF (zC (.int 0))))) (zCons (zBin .sub (oF (zC (.int 1))) (oR (rIx2 (rVar 1) (oF (zC (.int 0))))) true) (zCons (zR (rIx2 (rVar 1) (oF (zC (.int 2))))) zNil))))) (wName (fun i => [0].contains i) 1))
 (sSeq (sAsg (zFrz (zMake "Book" g_Bookzz_initzz (zgVal (zC (.int 2)) (zgVal (zTup (zCons (zTup (zCons (zTup (zCons (zVar 1) (zCons (zC (.int 0)) zNil))) zNil)) zNil)) zgNil)) [])) (wName (fun i => [0].contains i) 2))
 (sSeq (sRet (zAndV false (zBv (zCmp .is (oF (zCallP g_is_walk (zgRef 2 (zgVal (zC (.int 0)) (zgVal (zTimes (oF (zTup (zCons (zVar 1) zNil))) (oF (zC (.int 10000))) true) zgNil))) [])) (oF (zC (.bool true))) true)) (zBv (zCmp .is (oF (zCallP g_is_walk (zgRef 2 (zgVal (zC (.int 0)) (zgVal (zTimes (oF (zTup (zCons (zVar 1) zNil))) (oF (zC (.int 10001))) true) zgNil))) [])) (oF (zC (.bool false))) true))))
 sNext))))
def g_u_law_long_right : List M → Option (M × List (Option M)) := runB (fun i => [0].contains i) 3 1 b_u_law_long_right
abbrev st_u_law_pruned : Stmt := top 39
abbrev N_u_law_pruned : List Str := ["rows", "order", "number", "turn", "letter", "to", "place"]
def b_u_law_pruned : EvS :=
 (sSeq (sAsg (zTup (zCons (zLst (zCons (zC (.int 0)) zNil)) (zCons (zDict1 false (oF (zC (.int 0))) (zC (.int 0))) zNil))) (wTup 2 (wsCons (wName (fun i => [].contains i) 1) (wsCons (wName (fun i => [].contains i) 2) wsNil))))
 (sSeq (sFor (iR1 (zsCons (oF (zLen (rVar 0))) zsNil true)) (wName (fun i => [].contains i) 3)
 (sSeq (sIf (zCmp .lt (oR (rVar 3)) (oF (zLen (rVar 1))) true)
 (sSeq (sFor (iSeqR (rIx2 (rVar 0) (oR (rIx2 (rVar 1) (oR (rVar 3)))))) (wTup 2 (wsCons (wName (fun i => [].contains i) 4) (wsCons (wName (fun i => [].contains i) 5) wsNil)))
 (sSeq (sIf (zDin true (oR (rVar 5)) (rVar 2))
 (sSeq (sAsg (zLen (rVar 1)) (wSub (pRoot 2) (oR (rVar 5))))
 (sSeq (sExpr (zMet "list" opAppend (pRoot 1) (zCons (zVar 5) zNil)))
 sNext))
 sNext)
 sNext))
 sNext)
 sNext)
 sNext))
 (sFrz 1 (sSeq (sRet (zTupM (zLcP (iSeqR (rVar 1)) (bName [6] 6) zYes (zTupM (zLcP (iSeqR (rIx2 (rVar 0) (oR (rVar 6)))) (bTup 2 (bsCons (bName [4, 5] 4) (bsCons (bName [4, 5] 5) bsNil))) zYes (zTup (zCons (zVar 4) (zCons (zR (rIx2 (rVar 2) (oR (rVar 5)))) zNil))) [4, 5])) [6])))
 sNext))))
def g_u_law_pruned : List M → Option (M × List (Option M)) := runB (fun i => [].contains i) 7 1 b_u_law_pruned
abbrev st_u_law_to : Stmt := top 40
abbrev N_u_law_to : List Str := ["heap", "houses", "words", "one", "to", "other"]
def b_u_law_to : EvS :=
 (sSeq (sAsg (zFrz (zIf (zAnd false (zCmp .lt (oR (rVar 4)) (oR (rVar 1)) true) (zCmp .ne (oR (rVar 4)) (oR (rVar 3)) true)) (zVar 4) (zBin .mod (oF (zBi biInt (zsCons (oF (zBin .add (oF (zBin .add (oR (rVar 3)) (oF (zC (.int 1))) true)) (oF (zCall g_u_law_draw (zgRef 0 (zgVal (zBin .sub (oR (rVar 1)) (oF (zC (.int 1))) true) zgNil)) [])) false)) zsNil true))) (oR (rVar 1)) true))) (wName (fun i => [0].contains i) 5))
 (sSeq (sRet (zTup (zCons (zVar 3) (zCons (zVar 5) (zCons (zCall g_u_law_pick (zgRef 0 (zgRef 2 zgNil)) []) zNil)))))
 sNext))
def g_u_law_to : List M → Option (M × List (Option M)) := runB (fun i => [0].contains i) 6 5 b_u_law_to
abbrev st_u_law_rows : Stmt := top 41
abbrev N_u_law_rows : List Str := ["heap", "houses", "most", "words", "many", "style", "dear", "rows", "speakers", "ended", "turn", "fit", "place", "letter", "there", "told"]
def b_u_law_rows : EvS :=
 (sSeq (sAsg (zFrz (zIf (zCmp .lt (oR (rVar 2)) (oF (zC (.int 9))) true) (zCall g_u_law_pick (zgRef 0 (zgVal (zLst (zCons (zVar 2) (zCons (zVar 2) (zCons (zBin .add (oF (zC (.int 1))) (oF (zCall g_u_law_draw (zgRef 0 (zgRef 2 zgNil)) [])) false) zNil)))) zgNil)) []) (zBin .add (oF (zC (.int 1))) (oF (zCall g_u_law_draw (zgRef 0 (zgRef 2 zgNil)) [])) false))) (wName (fun i => [0].contains i) 4))
 (sSeq (sPar (zCons (zFrz (zCall g_u_law_pick (zgRef 0 (zgVal (zLst (zCons (zC (.int 0)) (zCons (zC (.int 0)) (zCons (zC (.int 0)) (zCons (zC (.int 1)) (zCons (zC (.int 2)) zNil)))))) zgNil)) [])) (zCons (zFrz (zCall g_u_law_draw (zgRef 0 (zgVal (zBin .mul (oF (zC (.int 2))) (oR (rVar 1)) true) zgNil)) [])) zNil)) 5 6 (fun i => [0].contains i))
 (sSeq (sAsg (zTup (zCons (zLst (zCons (zDict0 true) zNil)) (zCons (zLst (zCons (zCall g_u_law_draw (zgRef 0 (zgRef 1 zgNil)) []) zNil)) (zCons (zLst (zCons (zC (.bool false)) zNil)) zNil)))) (wTup 3 (wsCons (wName (fun i => [0].contains i) 7) (wsCons (wName (fun i => [0].contains i) 8) (wsCons (wName (fun i => [0].contains i) 9) wsNil)))))
 (sSeq (sFor (iR1 (zsCons (oF (zBin .mul (oF (zC (.int 3))) (oR (rVar 4)) true)) zsNil true)) (wName (fun i => [0].contains i) 10)
 (sSeq (sAsg (zLcP (iR1 (zsCons (oF (zLen (rVar 7))) zsNil true)) (bName [12] 12) (zAnd false (zNot (tRu (rIx2 (rVar 9) (oR (rVar 12))))) (zCmp .lt (oF (zLen (rIx2 (rVar 7) (oR (rVar 12))))) (oF (zC (.int 3))) true)) (zVar 12) [12]) (wName (fun i => [0].contains i) 11))
 (sFrz 11 (sSeq (sAsg (zFrz (zIf (zCmp .ne (oR (rVar 11)) (oF (zLst zNil)) true) (zCall g_u_law_pick (zgRef 0 (zgVal (zBin .add (oR (rVar 11)) (oF (zRepL (zSl (oR (rVar 11)) (some (oF (zNeg (oF (zC (.int 1)))))) none true) (oF (zC (.int 2))))) true) zgNil)) []) (zC (.int 0)))) (wName (fun i => [0].contains i) 12))
 (sSeq (sAsg (zFrz (zCall g_u_law_to (zgRef 0 (zgRef 1 (zgRef 3 (zgVal (zR (rIx2 (rVar 8) (oR (rVar 12)))) (zgVal (zIf (zCmp .eq (oF (zCall g_u_law_draw (zgRef 0 (zgVal (zC (.int 2)) zgNil)) [])) (oF (zC (.int 0))) true) (zVar 6) (zVar 1)) zgNil))))) [])) (wName (fun i => [0].contains i) 13))
 (sSeq (sIf (zAnd false (zCmp .ne (oR (rVar 11)) (oF (zLst zNil)) true) (zAnd false (zCmp .lt (oF (zLen (rVar 7))) (oR (rVar 4)) true) (zDin true (oR (rVar 13)) (rIx2 (rVar 7) (oR (rVar 12))))))
 (sSeq (sAsg (zLen (rVar 7)) (wSub (pIx (pRoot 7) (oR (rVar 12))) (oR (rVar 13))))
 (sSeq (sExpr (zMetH "list" opAppend (pRoot 8) (zCons (zIf (zAnd false (zCmp .gt (oR (rVar 5)) (oF (zC (.int 0))) true) (zCmp .gt (oF (zCall g_u_law_draw (zgRef 0 (zgVal (zC (.int 5)) zgNil)) [])) (oF (zC (.int 0))) true)) (zR (rIx2 (rVar 13) (oF (zC (.int 1))))) (zCall g_u_law_draw (zgRef 0 (zgRef 1 zgNil)) [])) zNil)))
 (sSeq (sExpr (zMet "list" opAppend (pRoot 7) (zCons (zDict0 true) zNil)))
 (sSeq (sExpr (zMetH "list" opAppend (pRoot 9) (zCons (zBv (zCmp .eq (oF (zCall g_u_law_draw (zgRef 0 (zgVal (zC (.int 5)) zgNil)) [])) (oF (zC (.int 0))) true)) zNil)))
 sNext))))
 sNext)
 sNext))))))
 (sSeq (sFor (iR1 (zsCons (oF (zBin .add (oF (zC (.int 1))) (oF (zCall g_u_law_draw (zgRef 0 (zgVal (zBin .add (oF (zBin .mul (oF (zC (.int 2))) (oF (zLen (rVar 7))) true)) (oF (zC (.int 1))) true) zgNil)) [])) false)) zsNil true)) (wName (fun i => [0].contains i) 10)
 (sSeq (sPar (zCons (zFrz (zCall g_u_law_draw (zgRef 0 (zgVal (zLen (rVar 7)) zgNil)) [])) (zCons (zFrz (zCall g_u_law_draw (zgRef 0 (zgVal (zLen (rVar 7)) zgNil)) [])) zNil)) 12 14 (fun i => [0].contains i))
 (sSeq (sAsg (zFrz (zCall g_u_law_to (zgRef 0 (zgRef 1 (zgRef 3 (zgVal (zR (rIx2 (rVar 8) (oR (rVar 12)))) (zgVal (zIf (zCmp .gt (oR (rVar 5)) (oF (zC (.int 0))) true) (zR (rIx2 (rVar 8) (oR (rVar 14)))) (zVar 1)) zgNil))))) [])) (wName (fun i => [0].contains i) 13))
 (sSeq (sIf (zAnd false (zCmp .lt (oF (zLen (rIx2 (rVar 7) (oR (rVar 12))))) (oF (zC (.int 3))) true) (zAnd false (zDin true (oR (rVar 13)) (rIx2 (rVar 7) (oR (rVar 12)))) (zAnd false (zNot (tRu (rIx2 (rVar 9) (oR (rVar 12))))) (zAnd true (zCmp .lt (oR (rVar 5)) (oF (zC (.int 2))) true) (zCmp .eq (oR (rIx2 (rVar 13) (oF (zC (.int 1))))) (oR (rIx2 (rVar 8) (oR (rVar 14)))) true)))))
 (sSeq (sAsg (zVar 14) (wSub (pIx (pRoot 7) (oR (rVar 12))) (oR (rVar 13))))
 sNext)
 sNext)
 sNext))))
 (sSeq (sIf (zEmp (rIx2 (rVar 7) (oF (zC (.int 0)))))
 (sSeq (sAsg (zC (.int 0)) (wSubH (pIx (pRoot 7) (oF (zC (.int 0)))) (oF (zCall g_u_law_to (zgRef 0 (zgRef 1 (zgRef 3 (zgVal (zR (rIx2 (rVar 8) (oF (zC (.int 0))))) (zgRef 1 zgNil))))) []))))
 sNext)
 sNext)
 (sFrz 7 (sSeq (sRet (zCallP g_u_law_pruned (zgVal (zLcP (iSeqR (rVar 7)) (bName [15] 15) zYes (zTupM (zLcP (iSeq (oF (zBi biSorted (zsCons (oF (zKeys (rVar 15))) zsNil true)))) (bName [13] 13) zYes (zTup (zCons (zVar 13) (zCons (zR (rIx2 (rVar 15) (oR (rVar 13)))) zNil))) [13])) [15]) zgNil) []))
 sNext))))))))
def g_u_law_rows : List M → Option (M × List (Option M)) := runB (fun i => [0].contains i) 16 4 b_u_law_rows
abbrev st_u_law_same : Stmt := top 35
abbrev N_u_law_same : List Str := ["value", "due", "at"]
def b_u_law_same (G : List M → Option (M × List (Option M))) : EvS :=
 (sSeq (sIf (zTru (zBv (zIsi (rVar 1) .tup)))
 (sSeq (sRet (zAndV false (zBv (zIsi (rVar 0) .tup)) (zAndV false (zBv (zCmp .eq (oF (zLen (rVar 0))) (oF (zLen (rVar 1))) true)) (zBi biAll (zsCons (oF (zLcP (iR1 (zsCons (oF (zLen (rVar 1))) zsNil true)) (bName [2] 2) zYes (zCallP G (zgVal (zR (rIx2 (rVar 0) (oR (rVar 2)))) (zgVal (zR (rIx2 (rVar 1) (oR (rVar 2)))) zgNil)) []) [2])) zsNil true)))))
 sNext)
 sNext)
 (sSeq (sIf (zAnd true (zCmp .is (oR (rVar 1)) (oF (zC .none)) true) (zTru (zBv (zIsi (rVar 1) .str))))
 (sSeq (sRet (zAndV false (zBv (zCmp .eq (oF (zBv (zCmp .is (oR (rVar 0)) (oF (zC .none)) true))) (oF (zBv (zCmp .is (oR (rVar 1)) (oF (zC .none)) true))) true)) (zAndV false (zBv (zCmp .eq (oF (zBv (zIsi (rVar 0) .str))) (oF (zBv (zIsi (rVar 1) .str))) true)) (zBv (zCmp .eq (oR (rVar 0)) (oR (rVar 1)) true)))))
 sNext)
 sNext)
 (sSeq (sRet (zAndV false (zBv (zIsi (rVar 0) .int)) (zAndV false (zBv (zCmp .eq (oF (zBv (zIsi (rVar 0) .bl))) (oF (zBv (zIsi (rVar 1) .bl))) true)) (zBv (zCmp .eq (oR (rVar 0)) (oR (rVar 1)) true)))))
 sNext)))
def g_u_law_same : Nat → List M → Option (M × List (Option M))
  | 0 => fun _ => none
  | k + 1 => runB (fun i => [].contains i) 3 2 (b_u_law_same (g_u_law_same k))
abbrev st_u_law_some : Stmt := top 50
abbrev N_u_law_some : List Str := ["heap", "houses", "house"]
def b_u_law_some : EvS :=
 (sSeq (sRet (zTupM (zLcF (iR1 (zsCons (oR (rVar 1)) zsNil true)) (bName [2] 2) (zCmp .eq (oF (zCall g_u_law_draw (zgRef 0 (zgVal (zC (.int 3)) zgNil)) [])) (oF (zC (.int 0))) true) (zVar 2) [2])))
 sNext)
def g_u_law_some : List M → Option (M × List (Option M)) := runB (fun i => [0].contains i) 3 2 b_u_law_some
abbrev st_u_law_behind : Stmt := top 47
abbrev N_u_law_behind : List Str := ["held", "letter"]
def b_u_law_behind : EvS :=
 (sSeq (sRet (zIf (zCmp .isin (oR (rIx2 (rVar 1) (oF (zC (.int 0))))) (oR (rVar 0)) true) (zCallP g_u_law_lot (zgVal (zBin .add (oR (rVar 0)) (oF (zTup (zCons (zR (rIx2 (rVar 1) (oF (zC (.int 1))))) zNil))) true) zgNil) []) (zVar 0)))
 sNext)
def g_u_law_behind : List M → Option (M × List (Option M)) := runB (fun i => [].contains i) 2 2 b_u_law_behind
abbrev st_u_law_stages : Stmt := top 49
abbrev N_u_law_stages : List Str := ["rows", "stage", "found", "known", "turn", "place", "held", "letter", "to", "behind"]
def b_u_law_stages : EvS :=
 (sSeq (sPar (zCons (zLst (zCons (zVar 1) zNil)) (zCons (zDict0 true) zNil)) 2 3 (fun i => [].contains i))
 (sSeq (sAsg (zC (.bool true)) (wSub (pRoot 3) (oR (rVar 1))))
 (sSeq (sFor (iR1 (zsCons (oF (zBin .mul (oF (zLen (rVar 0))) (oF (zC (.int 64))) true)) zsNil true)) (wName (fun i => [].contains i) 4)
 (sSeq (sIf (zCmp .lt (oR (rVar 4)) (oF (zLen (rVar 2))) true)
 (sSeq (sAsg (zR (rIx2 (rVar 2) (oR (rVar 4)))) (wTup 2 (wsCons (wName (fun i => [].contains i) 5) (wsCons (wName (fun i => [].contains i) 6) wsNil))))
 (sSeq (sFor (iSeqR (rIx2 (rVar 0) (oR (rVar 5)))) (wTup 2 (wsCons (wName (fun i => [].contains i) 7) (wsCons (wName (fun i => [].contains i) 8) wsNil)))
 (sSeq (sAsg (zFrz (zTup (zCons (zVar 8) (zCons (zCallP g_u_law_behind (zgRef 6 (zgRef 7 zgNil)) []) zNil)))) (wName (fun i => [].contains i) 9))
 (sSeq (sIf (zDin true (oR (rVar 9)) (rVar 3))
 (sSeq (sAsg (zC (.bool true)) (wSub (pRoot 3) (oR (rVar 9))))
 (sSeq (sExpr (zMet "list" opAppend (pRoot 2) (zCons (zVar 9) zNil)))
 sNext))
 sNext)
 sNext)))
 sNext))
 sNext)
 sNext))
 (sSeq (sRet (zMv 2))
 sNext))))
def g_u_law_stages : List M → Option (M × List (Option M)) := runB (fun i => [].contains i) 10 2 b_u_law_stages
abbrev st_lot_of : Stmt := top 5
abbrev N_lot_of : List Str := ["row", "found", "one"]
def b_lot_of : EvS :=
 (sSeq (sAsg (zLst zNil) (wName (fun i => [].contains i) 1))
 (sSeq (sFor (iSeq (oF (zBi biSorted (zsCons (oR (rVar 0)) zsNil true)))) (wName (fun i => [].contains i) 2)
 (sSeq (sIf (zAnd true (zNot (tRu (rVar 1))) (zCmp .ne (oR (rIx2 (rVar 1) (oF (zNeg (oF (zC (.int 1))))))) (oR (rVar 2)) true))
 (sSeq (sExpr (zMet "list" opAppend (pRoot 1) (zCons (zVar 2) zNil)))
 sNext)
 sNext)
 sNext))
 (sSeq (sRet (zBi biTuple (zsCons (oR (rVar 1)) zsNil true)))
 sNext)))
def g_lot_of : List M → Option (M × List (Option M)) := runB (fun i => [].contains i) 3 1 b_lot_of
abbrev st_held_behind : Stmt := top 22
abbrev N_held_behind : List Str := ["held", "letter"]
def b_held_behind : EvS :=
 (sSeq (sRet (zIf (zCmp .isin (oR (rIx2 (rVar 1) (oF (zC (.int 0))))) (oR (rVar 0)) true) (zCallP g_lot_of (zgVal (zBin .add (oR (rVar 0)) (oF (zTup (zCons (zR (rIx2 (rVar 1) (oF (zC (.int 1))))) zNil))) true) zgNil) []) (zVar 0)))
 sNext)
def g_held_behind : List M → Option (M × List (Option M)) := runB (fun i => [].contains i) 2 2 b_held_behind
abbrev st_stage_behind : Stmt := top 23
abbrev N_stage_behind : List Str := ["book", "stage", "letter", "place"]
def b_stage_behind : EvS :=
 (sSeq (sAsg (zFrz (zCallP g_next_place (zgRef 0 (zgVal (zR (rIx2 (rVar 1) (oF (zC (.int 0))))) (zgRef 2 zgNil))) [])) (wName (fun i => [].contains i) 3))
 (sSeq (sRet (zIf (zCmp .is (oR (rVar 3)) (oF (zC .none)) true) (zC .none) (zTup (zCons (zVar 3) (zCons (zCallP g_held_behind (zgVal (zR (rIx2 (rVar 1) (oF (zC (.int 1))))) (zgRef 2 zgNil)) []) zNil)))))
 sNext))
def g_stage_behind : List M → Option (M × List (Option M)) := runB (fun i => [].contains i) 4 3 b_stage_behind
abbrev st_stages_from : Stmt := top 28
abbrev N_stages_from : List Str := ["book", "stage", "found", "todo", "at", "here", "held", "letter", "place", "behind"]
def b_stages_from : EvS :=
 (sSeq (sAsg (zDict1 true (oR (rVar 1)) (zC (.bool true))) (wName (fun i => [].contains i) 2))
 (sSeq (sAsg (zLst (zCons (zVar 1) zNil)) (wName (fun i => [].contains i) 3))
 (sSeq (sAsg (zC (.int 0)) (wName (fun i => [].contains i) 4))
 (sSeq (sWhile wFuel (zCmp .lt (oR (rVar 4)) (oF (zLen (rVar 3))) true)
 (sSeq (sAsg (zR (rIx2 (rVar 3) (oR (rVar 4)))) (wTup 2 (wsCons (wName (fun i => [].contains i) 5) (wsCons (wName (fun i => [].contains i) 6) wsNil))))
 (sSeq (sFor (iSeqR (rIx2 (rFld (rVar 0) "rows") (oR (rVar 5)))) (wTup 2 (wsCons (wName (fun i => [].contains i) 7) (wsCons (wName (fun i => [].contains i) 8) wsNil)))
 (sSeq (sAsg (zFrz (zTup (zCons (zVar 8) (zCons (zCallP g_held_behind (zgRef 6 (zgRef 7 zgNil)) []) zNil)))) (wName (fun i => [].contains i) 9))
 (sSeq (sIf (zDin true (oR (rVar 9)) (rVar 2))
 (sSeq (sAsg (zC (.bool true)) (wSub (pRoot 2) (oR (rVar 9))))
 (sSeq (sExpr (zMet "list" opAppend (pRoot 3) (zCons (zVar 9) zNil)))
 sNext))
 sNext)
 sNext)))
 (sSeq (sAug (fun i => [].contains i) false 4 (oF (zC (.int 1))))
 sNext))))
 (sFrz 3 (sSeq (sRet (zCall g_lot_of (zgRef 3 zgNil) []))
 sNext))))))
def g_stages_from : List M → Option (M × List (Option M)) := runB (fun i => [].contains i) 10 2 b_stages_from
abbrev st_u_law_stages_right : Stmt := top 53
abbrev N_u_law_stages_right : List Str := ["book", "rows", "letters", "stage", "place", "held", "letter", "to", "due"]
def b_u_law_stages_right : EvS :=
 (sSeq (sAsg (zVar 3) (wTup 2 (wsCons (wName (fun i => [].contains i) 4) (wsCons (wName (fun i => [].contains i) 5) wsNil))))
 (sSeq (sFor (iSeqR (rVar 2)) (wName (fun i => [].contains i) 6)
 (sSeq (sAsg (zFrz (zCallP g_u_law_far (zgRef 1 (zgRef 4 (zgRef 6 zgNil))) [])) (wName (fun i => [].contains i) 7))
 (sSeq (sAsg (zFrz (zIf (zCmp .is (oR (rVar 7)) (oF (zC .none)) true) (zC .none) (zTup (zCons (zVar 7) (zCons (zCallP g_u_law_behind (zgRef 5 (zgRef 6 zgNil)) []) zNil))))) (wName (fun i => [].contains i) 8))
 (sSeq (sIf (zNot (zTru (zCallP (g_u_law_same 40) (zgVal (zCallP g_stage_behind (zgRef 0 (zgRef 3 (zgRef 6 zgNil))) []) (zgRef 8 zgNil)) [])))
 (sSeq (sRet (zC (.bool false)))
 sNext)
 sNext)
 sNext))))
 (sSeq (sRet (zCallP (g_u_law_same 40) (zgVal (zCall g_stages_from (zgApp (zgRef 0 zgNil) (zgRef 3 zgNil)) []) (zgVal (zCallP g_u_law_lot (zgVal (zCallP g_u_law_stages (zgRef 1 (zgRef 3 zgNil)) []) zgNil) []) zgNil)) []))
 sNext)))
def g_u_law_stages_right : List M → Option (M × List (Option M)) := runB (fun i => [].contains i) 9 4 b_u_law_stages_right
abbrev st_u_law_walk : Stmt := top 43
abbrev N_u_law_walk : List Str := ["heap", "rows", "place", "most", "found", "turn", "letter"]
def b_u_law_walk : EvS :=
 (sSeq (sAsg (zLst zNil) (wName (fun i => [0].contains i) 4))
 (sSeq (sFor (iR1 (zsCons (oF (zCall g_u_law_draw (zgRef 0 (zgVal (zBin .add (oR (rVar 3)) (oF (zC (.int 1))) true) zgNil)) [])) zsNil true)) (wName (fun i => [0].contains i) 5)
 (sSeq (sIf (zCmp .ne (oR (rIx2 (rVar 1) (oR (rVar 2)))) (oF (zTup zNil)) true)
 (sSeq (sAsg (zCall g_u_law_pick (zgRef 0 (zgVal (zBi biList (zsCons (oR (rIx2 (rVar 1) (oR (rVar 2)))) zsNil true)) zgNil)) []) (wTup 2 (wsCons (wName (fun i => [0].contains i) 6) (wsCons (wName (fun i => [0].contains i) 2) wsNil))))
 (sSeq (sExpr (zMet "list" opAppend (pRoot 4) (zCons (zVar 6) zNil)))
 sNext))
 sNext)
 sNext))
 (sSeq (sRet (zBi biTuple (zsCons (oR (rVar 4)) zsNil true)))
 sNext)))
def g_u_law_walk : List M → Option (M × List (Option M)) := runB (fun i => [0].contains i) 7 4 b_u_law_walk
abbrev st_u_law_lots : Stmt := top 51
abbrev N_u_law_lots : List Str := ["held", "walk", "found", "letter"]
def b_u_law_lots : EvS :=
 (sSeq (sAsg (zLst (zCons (zVar 0) zNil)) (wName (fun i => [].contains i) 2))
 (sSeq (sFor (iSeqR (rVar 1)) (wName (fun i => [].contains i) 3)
 (sSeq (sExpr (zMet "list" opAppend (pRoot 2) (zCons (zCallP g_u_law_behind (zgVal (zR (rIx2 (rVar 2) (oF (zBin .sub (oF (zLen (rVar 2))) (oF (zC (.int 1))) true)))) (zgRef 3 zgNil)) []) zNil)))
 sNext))
 (sSeq (sRet (zBi biTuple (zsCons (oR (rVar 2)) zsNil true)))
 sNext)))
def g_u_law_lots : List M → Option (M × List (Option M)) := runB (fun i => [].contains i) 4 2 b_u_law_lots
abbrev st_done_in : Stmt := top 26
abbrev N_done_in : List Str := ["held", "walk", "found", "letter"]
def b_done_in : EvS :=
 (sSeq (sAsg (zLst zNil) (wName (fun i => [].contains i) 2))
 (sSeq (sFor (iSeqR (rVar 1)) (wName (fun i => [].contains i) 3)
 (sSeq (sIf (zCmp .notin (oR (rIx2 (rVar 3) (oF (zC (.int 0))))) (oR (rVar 0)) true)
 (sSeq (sExpr (zMet "list" opAppend (pRoot 2) (zCons (zTup (zCons (zC (.str "say")) (zCons (zVar 3) zNil))) zNil)))
 (sSeq (sIf (zCmp .notin (oR (rIx2 (rVar 3) (oF (zC (.int 1))))) (oR (rVar 0)) true)
 (sSeq (sExpr (zMet "list" opAppend (pRoot 2) (zCons (zTup (zCons (zC (.str "hear")) (zCons (zVar 3) zNil))) zNil)))
 sNext)
 sNext)
 sNext))
 sNext)
 (sSeq (sAsg (zFrz (zCallP g_held_behind (zgRef 0 (zgRef 3 zgNil)) [])) (wName (fun i => [].contains i) 0))
 sNext)))
 (sSeq (sRet (zBi biTuple (zsCons (oR (rVar 2)) zsNil true)))
 sNext)))
def g_done_in : List M → Option (M × List (Option M)) := runB (fun i => [].contains i) 4 2 b_done_in
abbrev st_held_along : Stmt := top 24
abbrev N_held_along : List Str := ["held", "walk", "found", "letter"]
def b_held_along : EvS :=
 (sSeq (sAsg (zLst (zCons (zVar 0) zNil)) (wName (fun i => [].contains i) 2))
 (sSeq (sFor (iSeqR (rVar 1)) (wName (fun i => [].contains i) 3)
 (sSeq (sExpr (zMet "list" opAppend (pRoot 2) (zCons (zCallP g_held_behind (zgVal (zR (rIx2 (rVar 2) (oF (zNeg (oF (zC (.int 1))))))) (zgRef 3 zgNil)) []) zNil)))
 sNext))
 (sSeq (sRet (zBi biTuple (zsCons (oR (rVar 2)) zsNil true)))
 sNext)))
def g_held_along : List M → Option (M × List (Option M)) := runB (fun i => [].contains i) 4 2 b_held_along
abbrev st_lying_in : Stmt := top 27
abbrev N_lying_in : List Str := ["held", "walk", "found", "letter"]
def b_lying_in : EvS :=
 (sSeq (sAsg (zLst zNil) (wName (fun i => [].contains i) 2))
 (sSeq (sFor (iSeqR (rVar 1)) (wName (fun i => [].contains i) 3)
 (sSeq (sIf (zAnd false (zCmp .notin (oR (rIx2 (rVar 3) (oF (zC (.int 0))))) (oR (rVar 0)) true) (zCmp .isin (oR (rIx2 (rVar 3) (oF (zC (.int 1))))) (oR (rVar 0)) true))
 (sSeq (sExpr (zMet "list" opAppend (pRoot 2) (zCons (zVar 3) zNil)))
 sNext)
 sNext)
 (sSeq (sAsg (zFrz (zCallP g_held_behind (zgRef 0 (zgRef 3 zgNil)) [])) (wName (fun i => [].contains i) 0))
 sNext)))
 (sSeq (sRet (zBi biTuple (zsCons (oR (rVar 2)) zsNil true)))
 sNext)))
def g_lying_in : List M → Option (M × List (Option M)) := runB (fun i => [].contains i) 4 2 b_lying_in
abbrev st_said_in : Stmt := top 25
abbrev N_said_in : List Str := ["held", "walk", "letter", "now"]
def b_said_in : EvS :=
 (sSeq (sRet (zTupM (zLcP (iZp (zdCons (oR (rVar 1)) (zdCons (oF (zCallP g_held_along (zgRef 0 (zgRef 1 zgNil)) [])) zsNil))) (bTup 2 (bsCons (bName [2, 3] 2) (bsCons (bName [2, 3] 3) bsNil))) zYes (zBv (zCmp .notin (oR (rIx2 (rVar 2) (oF (zC (.int 0))))) (oR (rVar 3)) true)) [2, 3])))
 sNext)
def g_said_in : List M → Option (M × List (Option M)) := runB (fun i => [].contains i) 4 2 b_said_in
abbrev st_walk_end : Stmt := top 21
abbrev N_walk_end : List Str := ["book", "place", "walk", "letter"]
def b_walk_end : EvS :=
 (sSeq (sFor (iSeqR (rVar 2)) (wName (fun i => [].contains i) 3)
 (sSeq (sAsg (zFrz (zCallP g_next_place (zgRef 0 (zgRef 1 (zgRef 3 zgNil))) [])) (wName (fun i => [].contains i) 1))
 sNext))
 (sSeq (sRet (zVar 1))
 sNext))
def g_walk_end : List M → Option (M × List (Option M)) := runB (fun i => [].contains i) 4 3 b_walk_end
abbrev st_u_law_walk_right : Stmt := top 52
abbrev N_u_law_walk_right : List Str := ["book", "rows", "place", "held", "walk", "lots", "said", "lies", "at"]
def b_u_law_walk_right : EvS :=
 (sSeq (sAsg (zFrz (zCallP g_u_law_lots (zgRef 3 (zgRef 4 zgNil)) [])) (wName (fun i => [].contains i) 5))
 (sSeq (sAsg (zFrz (zTupM (zLcP (iR1 (zsCons (oF (zLen (rVar 4))) zsNil true)) (bName [8] 8) zYes (zBv (zCmp .notin (oR (rIx2 (rIx2 (rVar 4) (oR (rVar 8))) (oF (zC (.int 0))))) (oR (rIx2 (rVar 5) (oR (rVar 8)))) true)) [8]))) (wName (fun i => [].contains i) 6))
 (sSeq (sAsg (zFrz (zTupM (zLcP (iR1 (zsCons (oF (zLen (rVar 4))) zsNil true)) (bName [8] 8) (zAnd false (tRu (rIx2 (rVar 6) (oR (rVar 8)))) (zCmp .isin (oR (rIx2 (rIx2 (rVar 4) (oR (rVar 8))) (oF (zC (.int 1))))) (oR (rIx2 (rVar 5) (oR (rVar 8)))) true)) (zR (rIx2 (rVar 4) (oR (rVar 8)))) [8]))) (wName (fun i => [].contains i) 7))
 (sSeq (sIf (zAnd true (zNot (zTru (zCallP (g_u_law_same 40) (zgVal (zCallP g_walk_end (zgRef 0 (zgRef 2 (zgRef 4 zgNil))) []) (zgVal (zCallP g_u_law_end (zgRef 1 (zgRef 2 (zgRef 4 zgNil))) []) zgNil)) []))) (zNot (zTru (zCallP (g_u_law_same 40) (zgVal (zCallP g_held_along (zgRef 3 (zgRef 4 zgNil)) []) (zgRef 5 zgNil)) []))))
 (sSeq (sRet (zC (.bool false)))
 sNext)
 sNext)
 (sSeq (sIf (zAnd true (zNot (zTru (zCallP (g_u_law_same 40) (zgVal (zCall g_said_in (zgApp (zgRef 3 zgNil) (zgRef 4 zgNil)) []) (zgRef 6 zgNil)) []))) (zNot (zTru (zCallP (g_u_law_same 40) (zgVal (zCallP g_lying_in (zgRef 3 (zgRef 4 zgNil)) []) (zgRef 7 zgNil)) []))))
 (sSeq (sRet (zC (.bool false)))
 sNext)
 sNext)
 (sSeq (sRet (zCallP (g_u_law_same 40) (zgVal (zCall g_done_in (zgApp zgNil (zgRef 3 (zgRef 4 zgNil))) []) (zgVal (zIx (oF (zCallP g_u_law_done (zgRef 3 (zgRef 4 zgNil)) [])) (oF (zC (.int 0))) true) zgNil)) []))
 sNext))))))
def g_u_law_walk_right : List M → Option (M × List (Option M)) := runB (fun i => [].contains i) 9 5 b_u_law_walk_right
abbrev st_full_run : Stmt := top 29
abbrev N_full_run : List Str := ["tale"]
def b_full_run : EvS :=
 (sSeq (sRet (zCallP g_done_in (zgVal (zTup zNil) (zgRef 0 zgNil)) []))
 sNext)
def g_full_run : List M → Option (M × List (Option M)) := runB (fun i => [].contains i) 1 1 b_full_run
abbrev st_rest_run : Stmt := top 30
abbrev N_rest_run : List Str := ["tale", "held", "walk"]
def b_rest_run : EvS :=
 (sSeq (sRet (zBin .add (oF (zCallP g_full_run (zgRef 0 zgNil) [])) (oF (zCallP g_done_in (zgRef 1 (zgRef 2 zgNil)) [])) true))
 sNext)
def g_rest_run : List M → Option (M × List (Option M)) := runB (fun i => [].contains i) 3 3 b_rest_run
abbrev st_law : Stmt := top 56
abbrev N_law : List Str := ["script", "heap", "houses", "rows", "book", "letters", "told", "turn", "place", "held", "walk", "parts", "values", "tale", "more", "letter", "to", "value"]
def b_law : EvS :=
 (sSeq (sAsg (zCallP g_u_law_heap (zgRef 0 zgNil) []) (wName (fun i => [].contains i) 1))
 (sSeq (sAsg (zFrz (zBin .add (oF (zC (.int 2))) (oF (zCall g_u_law_draw (zgRef 1 (zgVal (zC (.int 5)) zgNil)) [])) false)) (wName (fun i => [].contains i) 2))
 (sSeq (sAsg (zFrz (zCall g_u_law_rows (zgRef 1 (zgRef 2 (zgVal (zCall g_u_law_pick (zgRef 1 (zgVal (zLst (zCons (zC (.int 3)) (zCons (zC (.int 5)) (zCons (zC (.int 8)) (zCons (zC (.int 30)) zNil))))) zgNil)) []) (zgVal (zCall g_u_law_pick (zgRef 1 (zgVal (zLst (zCons (zLst (zCons (zC (.int 0)) zNil)) (zCons (zLst (zCons (zC (.int 0)) (zCons (zC (.int 1)) zNil))) (zCons (zLst (zCons (zC (.int 3)) (zCons (zC (.int 99)) zNil))) zNil)))) zgNil)) []) zgNil)))) [])) (wName (fun i => [].contains i) 3))
 (sSeq (sAsg (zTup (zCons (zFrz (zMake "Book" g_Bookzz_initzz (zgRef 2 (zgRef 3 zgNil)) [])) (zCons (zLst zNil) zNil))) (wTup 2 (wsCons (wName (fun i => [].contains i) 4) (wsCons (wName (fun i => [].contains i) 5) wsNil))))
 (sSeq (sFor (iSeqR (rVar 3)) (wName (fun i => [].contains i) 6)
 (sSeq (sExpr (zMet "list" opExtend (pRoot 5) (zCons (zLcP (iSeqR (rVar 6)) (bTup 2 (bsCons (bName [15, 16] 15) (bsCons (bName [15, 16] 16) bsNil))) (zCmp .notin (oR (rVar 15)) (oR (rVar 5)) true) (zVar 15) [15, 16]) zNil)))
 sNext))
 (sFrz 5 (sSeq (sFor (iR1 (zsCons (oF (zC (.int 6))) zsNil true)) (wName (fun i => [].contains i) 7)
 (sSeq (sAsg (zFrz (zCall g_u_law_draw (zgRef 1 (zgVal (zLen (rVar 3)) zgNil)) [])) (wName (fun i => [].contains i) 8))
 (sSeq (sPar (zCons (zFrz (zCall g_u_law_some (zgRef 1 (zgRef 2 zgNil)) [])) (zCons (zFrz (zCall g_u_law_walk (zgRef 1 (zgRef 3 (zgRef 8 (zgVal (zCall g_u_law_pick (zgRef 1 (zgVal (zLst (zCons (zC (.int 3)) (zCons (zC (.int 8)) (zCons (zC (.int 40)) zNil)))) zgNil)) []) zgNil)))) [])) zNil)) 9 10 (fun i => [].contains i))
 (sSeq (sIf (zCmp .eq (oR (rVar 7)) (oF (zC (.int 0))) true)
 (sSeq (sAsg (zFrz (zCall g_u_law_pick (zgRef 1 (zgVal (zLst (zCons (zTup zNil) (zCons (zRgT (gRg1 (oR (rVar 2)))) (zCons (zVar 9) zNil)))) zgNil)) [])) (wName (fun i => [].contains i) 9))
 sNext)
 sNext)
 (sSeq (sIf (zAnd true (zNot (zTru (zCallP g_u_law_walk_right (zgRef 4 (zgRef 3 (zgRef 8 (zgRef 9 (zgRef 10 zgNil))))) []))) (zNot (zTru (zCallP g_u_law_stages_right (zgRef 4 (zgRef 3 (zgVal (zBin .add (oR (rVar 5)) (oF (zLst (zCons (zTup (zCons (zC (.int 0)) (zCons (zC (.int 1)) (zCons (zC (.int 98)) zNil)))) zNil))) true) (zgVal (zTup (zCons (zVar 8) (zCons (zVar 9) zNil))) zgNil)))) []))))
 (sSeq (sRet (zC (.bool false)))
 sNext)
 sNext)
 (sSeq (sAsg (zFrz (zBin .add (oR (rVar 5)) (oF (zLst (zCons (zC .none) (zCons (zTup (zCons (zC (.int 0)) (zCons (zC (.int 1)) zNil))) (zCons (zTup (zCons (zC (.bool true)) (zCons (zC (.int 0)) (zCons (zC (.int 0)) zNil)))) (zCons (zTup (zCons (zC (.int 0)) (zCons (zC (.int 1)) (zCons (zC (.int 98)) zNil)))) zNil)))))) true)) (wName (fun i => [].contains i) 11))
 (sSeq (sAsg (zFrz (zLst (zCons (zVar 10) (zCons (zSl (oR (rVar 10)) (some (oF (zC (.int 1)))) none true) (zCons (zIf (zCmp .ne (oR (rVar 5)) (oF (zLst zNil)) true) (zBin .add (oR (rVar 10)) (oF (zTup (zCons (zCall g_u_law_pick (zgRef 1 (zgRef 5 zgNil)) []) zNil))) false) (zTup zNil)) (zCons (zRevT (oR (rVar 10)) (oF (zBin .sub (oF (zC (.int 0))) (oF (zC (.int 1))) true))) (zCons (zBi biList (zsCons (oR (rVar 10)) zsNil true)) (zCons (zC .none) (zCons (zTup zNil) zNil))))))))) (wName (fun i => [].contains i) 12))
 (sSeq (sAsg (zFrz (zBin .add (oR (rVar 12)) (oF (zLst (zCons (zCall (g_u_law_bent 40) (zgRef 1 (zgRef 10 (zgRef 11 zgNil))) []) (zCons (zCall (g_u_law_bent 40) (zgRef 1 (zgRef 10 (zgRef 11 zgNil))) []) (zCons (zTupM (zLcP (iSeqR (rVar 10)) (bName [15] 15) zYes (zBi biList (zsCons (oR (rVar 15)) zsNil true)) [15])) zNil))))) false)) (wName (fun i => [].contains i) 12))
 (sSeq (sIf (zNot (zTru (zBi biAll (zsCons (oF (zLcF (iSeqR (rVar 12)) (bName [17] 17) zYes (zCallP (g_u_law_same 40) (zgVal (zCall g_is_walk (zgApp (zgRef 4 (zgRef 8 zgNil)) (zgRef 17 zgNil)) []) (zgVal (zCallP g_u_law_is_walk (zgRef 3 (zgRef 8 (zgRef 17 zgNil))) []) zgNil)) []) [17])) zsNil true))))
 (sSeq (sRet (zC (.bool false)))
 sNext)
 sNext)
 (sSeq (sAsg (zFrz (zCall g_u_law_walk (zgRef 1 (zgRef 3 (zgVal (zC (.int 0)) (zgVal (zC (.int 9)) zgNil)))) [])) (wName (fun i => [].contains i) 13))
 (sSeq (sAsg (zFrz (zCall g_u_law_walk (zgRef 1 (zgRef 3 (zgVal (zCallP g_u_law_end (zgRef 3 (zgVal (zC (.int 0)) (zgRef 13 zgNil))) []) (zgVal (zC (.int 9)) zgNil)))) [])) (wName (fun i => [].contains i) 14))
 (sSeq (sIf (zNot (zTru (zCallP (g_u_law_same 40) (zgVal (zCallP g_full_run (zgRef 13 zgNil) []) (zgVal (zCallP g_u_law_full (zgRef 13 zgNil) []) zgNil)) [])))
 (sSeq (sRet (zC (.bool false)))
 sNext)
 sNext)
 (sSeq (sIf (zNot (zTru (zCallP (g_u_law_same 40) (zgVal (zCallP g_rest_run (zgRef 13 (zgRef 9 (zgRef 14 zgNil))) []) (zgVal (zBin .add (oF (zCallP g_u_law_full (zgRef 13 zgNil) [])) (oF (zIx (oF (zCallP g_u_law_done (zgRef 9 (zgRef 14 zgNil)) [])) (oF (zC (.int 0))) true)) true) zgNil)) [])))
 (sSeq (sRet (zC (.bool false)))
 sNext)
 sNext)
 sNext)))))))))))))
 (sSeq (sRet (zCall g_u_law_long_right (zgRef 1 zgNil) []))
 sNext))))))))
def g_law : List M → Option (M × List (Option M)) := runB (fun i => [].contains i) 18 1 b_law
end Z

set_option maxHeartbeats 8000000
namespace Z
open PySem L2 Evl
local macro_rules
  | `(tactic| simp_arith [$ls,*]) => `(tactic| simp only [↓Sat_bind, ↓Sat_map, ↓Sat_some, ↓Sat_none, ↓Sat_ite, ↓S_oF, ↓S_zC, ↓S_zVar, ↓S_zMv, ↓S_zVarO, ↓S_zBin, ↓S_zCmp, ↓S_zBv, ↓S_zTru, ↓S_zTruV, ↓S_zNot, ↓S_zNotV, ↓S_zAnd, ↓S_zAndV, ↓S_zIf, ↓S_zNeg, ↓S_zNil, ↓S_zCons, ↓S_zTup, ↓S_zLst, ↓S_zIx, ↓S_zSl, ↓S_zgNil, ↓S_zgRef, ↓S_zgVal, ↓S_zCall, ↓S_zFrz, ↓S_rVar, ↓S_rIx, ↓S_rFld, ↓S_rIx2, ↓S_zIxV, ↓S_zR, ↓S_oR, ↓S_tRu, ↓S_zDin, ↓S_zsNil, ↓S_zsCons, ↓S_zBi, ↓S_zIsi, ↓S_zLen, ↓S_zKeys, ↓S_zTupM, ↓S_zLstM, ↓S_gRg1, ↓S_gRg2, ↓S_zRgL, ↓S_zRgT, ↓S_pRoot, ↓S_pIx, ↓S_pFld, ↓S_zMet, ↓S_zMetH, ↓S_wName, ↓S_wsNil, ↓S_wsCons, ↓S_wSub, ↓S_wSubH, ↓S_sNext, ↓S_sBreak, ↓S_sCont, ↓S_sSeq, ↓S_sIf, ↓S_sExpr, ↓S_sRet, ↓S_sRetN, ↓S_sAsg, ↓S_sPar, ↓S_sFrz, ↓S_iSeq, ↓S_iZp, ↓S_iSeqR, ↓S_rgI1, ↓S_zdCons, ↓S_sFor, ↓S_iEn, ↓S_sFldS, ↓S_sAug, ↓S_zCallP, ↓S_bName, ↓S_bsNil, ↓S_bsCons, ↓S_zYes, ↓S_zLcP, ↓S_zLcF, ↓S_zDict0, ↓S_zDict1, ↓S_zRepL, ↓S_zTimes, ↓S_zRevL, ↓S_iR1, ↓S_iR2, ↓S_sNever, ↓S_zgApp, ↓S_zEmp, ↓S_runB, ↓S_zMet0, ↓S_forNil, ↓S_forCons, ↓S_zMakeC, List.getElem?_cons_zero, List.getElem?_cons_succ, List.set_cons_zero, List.set_cons_succ, at1, atI_zero, atI_one, atI_two, atI_last, deep, deeps, vals, foc, put, okB_true, takeG, backG, Option.map_some, Option.bind_some, Bool.or_true, Bool.true_or, if_true, sizeLine, List.length_nil, List.length_cons, Nat.zero_le, Nat.add_zero, beq_self_eq_true, Bool.not_true, Bool.not_false, if_false, Bool.false_eq_true, Bool.true_eq_false, reduceIte, List.map_cons, List.map_nil, ↓S_ck, ↓S_okB, vI, vB, true_and, and_true, maskE, ixN_zero, ixN_one, Nat.zero_add, Nat.reduceAdd, decide_true, decide_false, List.contains_cons, List.contains_nil, Bool.or_false, Bool.false_or, Nat.reduceLT, Int.reduceEq, Nat.reducePow, Nat.reduceLeDiff, Int.reduceLT, Int.reduceLE, cmp_ei, cmp_nei, cmp_lt, cmp_gt, cmp_le, cmp_ge, cmp_in, cmp_nin, cmp_inl, cmp_ninl, decide_eq_true_eq, Bool.not_eq_true', decide_eq_false_iff_not, Bool.not_eq_eq_eq_not, deep_vals, sd_vals, frz_vals, tupM_vals, biAll_map, List.nil_append, List.append_nil, lenM, tagM, Tag.sub, isHid, List.replicate_zero, List.replicate_succ, Nat.reduceSub, List.cons_append, pureA, List.all_cons, List.all_nil, Bool.and_true, Bool.true_and, Bool.and_false, Bool.false_and, bne_iff_ne, beq_iff_eq, reduceCtorEq, eq_self, not_true_eq_false, not_false_eq_true, tupM, wipeE, Option.some.injEq, true_implies, false_implies, implies_true, List.isEmpty_nil, List.isEmpty_cons, cmp_is, cmp_isnot, cmp_enil, cmp_nenil, cmp_etnil, cmp_netnil, vals_vals, deeps_vals, rgD_nat, Sat_ite, Sat_some, Sat_bind, Sat_map, Sat_none, isP_val, isP_fz, isP_lst, isP_tup, isP_dct, isP_ins, frz_val, frz_lst, frz_tup, frz_ins, or_self, or_true, true_or, or_false, false_or, and_self, and_false, false_and, cmp_eb, cmp_enn, bin_ai, bin_as, bin_at, bin_al, bin_si, bin_mi, bin_mod, bin_fd, bin_pow, ixD_t, ixD_l, at2_vt, at2_vl, at2_lst, at2_tup, at2_dct, at2_fzl, at2_fzt, at2_fzd, items_vl, items_vt, items_fl, items_ft, seqD_l, seqD_t, truM_val, truM_lst, truM_tup, truM_dct, truD_n, truD_b, truD_i, truD_l, truD_t, tagD_n, tagD_b, tagD_i, tagD_s, tagD_l, tagD_t, tagD_d, sd_val, sd_lst, sd_tup, sd_dct, tyM_lst, tyM_dct, biLen_l, biLen_t, biTuple_l, biTuple_t, biList_l, biList_t, biInt_i, biInt_b, biAbs_i, stoM_lst, stoM_dct, opPop_0, opPop_1, opApp_l, opExt_l, isB_n, isB_b, isNn_n, isNn_b, isNn_i, isNn_s, isNn_l, isNn_t, isBl_b, zPart_n, zPart_s, tupOf_l, tupOf_t, tupOf_vl, tupOf_vt, lstOf_l, lstOf_t, lstOf_vl, lstOf_vt, dn_lst, dn_dct, dn_ins, up_lst, up_dct, up_ins, slM_l, slM_t, tupM_nil, S_ck, S_okB, S_forNil, lenM_W, lenM_H, lenM_R, lenM_Rs, lenM_L, items_W, items_H, items_R, items_Rs, tagD_W, tagD_H, tagD_R, tagD_Rs, tagD_L, tagD_S, at_L0, at_L1, at_L2, at_S0, at_S1, ↓S_wTup_v, S_wTup_v, ↓S_wTup_t, S_wTup_t, ↓S_wTup_S, S_wTup_S, ↓S_wTup_R, S_wTup_R, ↓S_wTup_L, S_wTup_L, ↓S_bTup_v, S_bTup_v, ↓S_bTup_S, S_bTup_S, ↓S_bTup_R, S_bTup_R, dictIn_d, dictIn_f, kok_I, kok_L, kok_S, emp_d, emp_f, nc0, nc1, nc2, nc3, nc4, nc5, nc6, nc7, at_Row0, at_Row1, tagD_Row, lenM_Row, Option.bind_none, Option.map_none, ne_eq, $ls,*])
  | `(tactic| simp_arith) => `(tactic| simp only [↓Sat_bind, ↓Sat_map, ↓Sat_some, ↓Sat_none, ↓Sat_ite, ↓S_oF, ↓S_zC, ↓S_zVar, ↓S_zMv, ↓S_zVarO, ↓S_zBin, ↓S_zCmp, ↓S_zBv, ↓S_zTru, ↓S_zTruV, ↓S_zNot, ↓S_zNotV, ↓S_zAnd, ↓S_zAndV, ↓S_zIf, ↓S_zNeg, ↓S_zNil, ↓S_zCons, ↓S_zTup, ↓S_zLst, ↓S_zIx, ↓S_zSl, ↓S_zgNil, ↓S_zgRef, ↓S_zgVal, ↓S_zCall, ↓S_zFrz, ↓S_rVar, ↓S_rIx, ↓S_rFld, ↓S_rIx2, ↓S_zIxV, ↓S_zR, ↓S_oR, ↓S_tRu, ↓S_zDin, ↓S_zsNil, ↓S_zsCons, ↓S_zBi, ↓S_zIsi, ↓S_zLen, ↓S_zKeys, ↓S_zTupM, ↓S_zLstM, ↓S_gRg1, ↓S_gRg2, ↓S_zRgL, ↓S_zRgT, ↓S_pRoot, ↓S_pIx, ↓S_pFld, ↓S_zMet, ↓S_zMetH, ↓S_wName, ↓S_wsNil, ↓S_wsCons, ↓S_wSub, ↓S_wSubH, ↓S_sNext, ↓S_sBreak, ↓S_sCont, ↓S_sSeq, ↓S_sIf, ↓S_sExpr, ↓S_sRet, ↓S_sRetN, ↓S_sAsg, ↓S_sPar, ↓S_sFrz, ↓S_iSeq, ↓S_iZp, ↓S_iSeqR, ↓S_rgI1, ↓S_zdCons, ↓S_sFor, ↓S_iEn, ↓S_sFldS, ↓S_sAug, ↓S_zCallP, ↓S_bName, ↓S_bsNil, ↓S_bsCons, ↓S_zYes, ↓S_zLcP, ↓S_zLcF, ↓S_zDict0, ↓S_zDict1, ↓S_zRepL, ↓S_zTimes, ↓S_zRevL, ↓S_iR1, ↓S_iR2, ↓S_sNever, ↓S_zgApp, ↓S_zEmp, ↓S_runB, ↓S_zMet0, ↓S_forNil, ↓S_forCons, ↓S_zMakeC, List.getElem?_cons_zero, List.getElem?_cons_succ, List.set_cons_zero, List.set_cons_succ, at1, atI_zero, atI_one, atI_two, atI_last, deep, deeps, vals, foc, put, okB_true, takeG, backG, Option.map_some, Option.bind_some, Bool.or_true, Bool.true_or, if_true, sizeLine, List.length_nil, List.length_cons, Nat.zero_le, Nat.add_zero, beq_self_eq_true, Bool.not_true, Bool.not_false, if_false, Bool.false_eq_true, Bool.true_eq_false, reduceIte, List.map_cons, List.map_nil, ↓S_ck, ↓S_okB, vI, vB, true_and, and_true, maskE, ixN_zero, ixN_one, Nat.zero_add, Nat.reduceAdd, decide_true, decide_false, List.contains_cons, List.contains_nil, Bool.or_false, Bool.false_or, Nat.reduceLT, Int.reduceEq, Nat.reducePow, Nat.reduceLeDiff, Int.reduceLT, Int.reduceLE, cmp_ei, cmp_nei, cmp_lt, cmp_gt, cmp_le, cmp_ge, cmp_in, cmp_nin, cmp_inl, cmp_ninl, decide_eq_true_eq, Bool.not_eq_true', decide_eq_false_iff_not, Bool.not_eq_eq_eq_not, deep_vals, sd_vals, frz_vals, tupM_vals, biAll_map, List.nil_append, List.append_nil, lenM, tagM, Tag.sub, isHid, List.replicate_zero, List.replicate_succ, Nat.reduceSub, List.cons_append, pureA, List.all_cons, List.all_nil, Bool.and_true, Bool.true_and, Bool.and_false, Bool.false_and, bne_iff_ne, beq_iff_eq, reduceCtorEq, eq_self, not_true_eq_false, not_false_eq_true, tupM, wipeE, Option.some.injEq, true_implies, false_implies, implies_true, List.isEmpty_nil, List.isEmpty_cons, cmp_is, cmp_isnot, cmp_enil, cmp_nenil, cmp_etnil, cmp_netnil, vals_vals, deeps_vals, rgD_nat, Sat_ite, Sat_some, Sat_bind, Sat_map, Sat_none, isP_val, isP_fz, isP_lst, isP_tup, isP_dct, isP_ins, frz_val, frz_lst, frz_tup, frz_ins, or_self, or_true, true_or, or_false, false_or, and_self, and_false, false_and, cmp_eb, cmp_enn, bin_ai, bin_as, bin_at, bin_al, bin_si, bin_mi, bin_mod, bin_fd, bin_pow, ixD_t, ixD_l, at2_vt, at2_vl, at2_lst, at2_tup, at2_dct, at2_fzl, at2_fzt, at2_fzd, items_vl, items_vt, items_fl, items_ft, seqD_l, seqD_t, truM_val, truM_lst, truM_tup, truM_dct, truD_n, truD_b, truD_i, truD_l, truD_t, tagD_n, tagD_b, tagD_i, tagD_s, tagD_l, tagD_t, tagD_d, sd_val, sd_lst, sd_tup, sd_dct, tyM_lst, tyM_dct, biLen_l, biLen_t, biTuple_l, biTuple_t, biList_l, biList_t, biInt_i, biInt_b, biAbs_i, stoM_lst, stoM_dct, opPop_0, opPop_1, opApp_l, opExt_l, isB_n, isB_b, isNn_n, isNn_b, isNn_i, isNn_s, isNn_l, isNn_t, isBl_b, zPart_n, zPart_s, tupOf_l, tupOf_t, tupOf_vl, tupOf_vt, lstOf_l, lstOf_t, lstOf_vl, lstOf_vt, dn_lst, dn_dct, dn_ins, up_lst, up_dct, up_ins, slM_l, slM_t, tupM_nil, S_ck, S_okB, S_forNil, lenM_W, lenM_H, lenM_R, lenM_Rs, lenM_L, items_W, items_H, items_R, items_Rs, tagD_W, tagD_H, tagD_R, tagD_Rs, tagD_L, tagD_S, at_L0, at_L1, at_L2, at_S0, at_S1, ↓S_wTup_v, S_wTup_v, ↓S_wTup_t, S_wTup_t, ↓S_wTup_S, S_wTup_S, ↓S_wTup_R, S_wTup_R, ↓S_wTup_L, S_wTup_L, ↓S_bTup_v, S_bTup_v, ↓S_bTup_S, S_bTup_S, ↓S_bTup_R, S_bTup_R, dictIn_d, dictIn_f, kok_I, kok_L, kok_S, emp_d, emp_f, nc0, nc1, nc2, nc3, nc4, nc5, nc6, nc7, at_Row0, at_Row1, tagD_Row, lenM_Row, Option.bind_none, Option.map_none, ne_eq])
def intsM (xs : List Int) : List M := (xs.map PyData.int).map .val
def hpM (xs : List Int) (s : Int) : M := .lst [.lst (intsM xs), .val (.int s)]
theorem isP_hpM (xs : List Int) (s : Int) : isP (hpM xs s) = false := rfl
theorem vals_ints (xs : List Int) : vals (intsM xs) = some (xs.map .int) := vals_vals _
theorem intsM_snoc (xs : List Int) (x : Int) : intsM (xs ++ [x]) = intsM xs ++ [.val (.int x)] := by unfold intsM; simp
theorem lastM_snoc (xs : List Int) (x : Int) : (intsM (xs ++ [x])).getLast? = some (.val (.int x)) := by rw [intsM_snoc]; simp
theorem popM_snoc (xs : List Int) (x : Int) : (intsM (xs ++ [x]))[(intsM (xs ++ [x])).length - 1]? = some (.val (.int x)) := by rw [intsM_snoc]; simp
theorem dropM_snoc (xs : List Int) (x : Int) : (intsM (xs ++ [x])).dropLast = intsM xs := by rw [intsM_snoc]; simp
theorem lenM_ints (xs : List Int) : (intsM xs).length = xs.length := by unfold intsM; simp
theorem isEmpty_snoc {α : Type} (xs : List α) (x : α) : (xs ++ [x]).isEmpty = false := by cases xs <;> rfl
theorem isEmpty_mapsnoc {α β : Type} (f : α → β) (xs : List α) (x : α) : ((xs ++ [x]).map f).isEmpty = false := by rw [List.map_append]; exact isEmpty_snoc _ _
/-- the heap of draws is as it shall be -/
def HpOk (xs : List Int) (s : Int) : Prop := xs.length ≤ 63 ∧ (∀ x ∈ xs, 0 ≤ x) ∧ 0 ≤ s
theorem draw_ok {xs : List Int} {s : Int} {many : Int} {Q : M × List (Option M) → Prop} {u : Hold Q} (h : HpOk xs s) (hm : 0 < many) (hb : many < 1000000) (q : ∀ d xs' s', 0 ≤ d → d < many → HpOk xs' s' → Q (.val (.int d), [some (hpM xs' s'), none])) : Sat (g_u_law_draw [hpM xs s, .val (.int many)]) Q u := by
  obtain ⟨hl, hx, hs⟩ := h
  have hlog : many.natAbs.log2 < 9000 := by
    have : many.natAbs < 2 ^ 20 := by omega
    have := Nat.log2_lt (n := many.natAbs) (k := 20) (by omega) |>.mpr this
    omega
  unfold g_u_law_draw b_u_law_draw
  simp_arith [hpM]
  refine Sat_while (fun n ρ => ∃ xs : List Int, n = xs.length ∧ ρ = [some (hpM xs s), some (.val (.int many)), none] ∧ xs.length ≤ 63 ∧ ∀ x ∈ xs, 0 ≤ x) ?_ (n := xs.length) (by unfold wFuel; omega) ⟨xs, rfl, rfl, hl, hx⟩
  clear hx hl xs
  rintro n ρ ⟨xs, rfl, rfl, hl, hx⟩
  rcases List.eq_nil_or_concat xs with rfl | ⟨ys, x, rfl⟩
  · simp_arith [hpM, vals_ints, cmp_nenil shp_nil, shp_nil, intsM, mulOk_r]
    refine ⟨mulOk_r (by decide), by decide, hm, ?_⟩
    exact q _ [] _ (Int.emod_nonneg _ (by omega)) (Int.emod_lt_of_pos _ hm) ⟨by decide, by simp, Int.emod_nonneg _ (by decide)⟩
  · rw [List.concat_eq_append] at hl hx ⊢
    have hl' : (intsM ys).length < 16777216 := by rw [lenM_ints]; simp at hl; omega
    by_cases h0 : x = 0
    · subst h0
      simp_arith [hpM, vals_ints, cmp_nenil (shp_ints _), shp_ints, isEmpty_mapsnoc, lastM_snoc, popM_snoc, dropM_snoc]
      exact ⟨ys.length, by simp, ys, rfl, rfl, by simp at hl; omega, fun x hx' => hx x (by simp [hx'])⟩
    · simp_arith [hpM, vals_ints, cmp_nenil (shp_ints _), shp_ints, isEmpty_mapsnoc, lastM_snoc, popM_snoc, dropM_snoc, h0, hl']
      refine ⟨⟨hm, hlog⟩, hm, ?_⟩
      rw [show intsM ys ++ [M.val (.int (x / many))] = intsM (ys ++ [x / many]) from (intsM_snoc _ _).symm]
      refine q _ (ys ++ [x / many]) _ (Int.emod_nonneg _ (by omega)) (Int.emod_lt_of_pos _ hm) ⟨by simp at hl ⊢; omega, ?_, hs⟩
      intro y hy
      rw [List.mem_append, List.mem_singleton] at hy
      rcases hy with hy | rfl
      · exact hx y (by simp [hy])
      · exact Int.ediv_nonneg (hx x (by simp)) (by omega)

theorem pick_ok {xs : List Int} {s : Int} {d : PyData} {ds : List PyData} {Q : M × List (Option M) → Prop} {u : Hold Q} (h : HpOk xs s) (hd : seqD d = some ds) (h0 : ds ≠ []) (hb : ds.length < 1000000) (q : ∀ e xs' s', e ∈ ds → HpOk xs' s' → Q (.val e, [some (hpM xs' s'), none])) : Sat (g_u_law_pick [hpM xs s, .val d]) Q u := by
  have hp : 0 < ds.length := List.length_pos_iff.mpr h0
  have key : ∀ d, (d = .list ds ∨ d = .tuple ds) → Sat (g_u_law_pick [hpM xs s, .val d]) Q u := by
    rintro d (rfl | rfl) <;>
    · unfold g_u_law_pick b_u_law_pick
      simp_arith [isP_hpM]
      refine draw_ok h (by omega) (by omega) fun d xs' s' h0 h1 h' => ?_
      obtain ⟨e, he⟩ : ∃ e, ds[d.toNat]? = some e := ⟨_, List.getElem?_eq_getElem (by omega)⟩
      simp_arith [isP_hpM, atI_int h0, he]
      exact q e xs' s' (List.mem_of_getElem? he) h'
  cases d with
  | list es => cases hd; exact key _ (.inl rfl)
  | tuple es => cases hd; exact key _ (.inr rfl)
  | _ => cases hd
theorem heap_ok {ns : List Int} {Q : M × List (Option M) → Prop} {u : Hold Q} (hl : ns.length ≤ 63) (q : ∀ xs s, HpOk xs s → Q (hpM xs s, [none])) : Sat (g_u_law_heap [.val (.list (ns.map .int))]) Q u := by
  unfold g_u_law_heap b_u_law_heap
  simp_arith [slM, cutP_63, List.take_of_length_le (show (ns.map PyData.int).length ≤ 63 by simpa using hl)]
  refine Sat_lcM .int (fun i => .int (2 * (if i < 0 then -i else i) + (if i < 0 then 1 else 0))) ns (by unfold sizeLine; omega) (fun i _ => ?_) ?_
  · simp_arith [biAbs]
    exact mulOk_l (by decide)
  rw [show (ns.map fun i => PyData.int (2 * (if i < 0 then -i else i) + (if i < 0 then 1 else 0))) = (ns.map fun i => (2 * (if i < 0 then -i else i) + (if i < 0 then 1 else 0) : Int)).map .int by simp]
  have hc : ∀ c ∈ ns.map fun i => (2 * (if i < 0 then -i else i) + (if i < 0 then 1 else 0) : Int), 0 ≤ c := by
    intro c hc
    obtain ⟨i, _, rfl⟩ := List.mem_map.mp hc
    split <;> omega
  have hcl : (ns.map fun i => (2 * (if i < 0 then -i else i) + (if i < 0 then 1 else 0) : Int)).length ≤ 63 := by simpa using hl
  generalize (ns.map fun i => (2 * (if i < 0 then -i else i) + (if i < 0 then 1 else 0) : Int)) = cs at hc hcl
  simp_arith []
  refine Sat_forV .int (fun _ ρ => ∃ s y, ρ = [some (M.val (.list (ns.map .int))), some (.val (.list (cs.map .int))), some (.val (.int s)), y] ∧ 0 ≤ s) ⟨22444, _, rfl, by decide⟩ ?_ ?_
  · rintro ρ ⟨s, y, rfl, hs⟩
    simp_arith []
    refine Sat_lcF .int (fun c => decide (10 ^ 18 ≤ c)) (fun c => .int (c % 10 ^ 240)) cs (by unfold sizeLine; omega) (fun c hcm => ?_) ?_
    · simp_arith []
      refine ⟨by decide, rfl, fun _ => ⟨by decide, by decide, by decide, by decide, by decide, by decide, by decide, by decide, ?_⟩⟩
      rw [show (10 ^ Int.toNat 60 * 10 ^ Int.toNat 60 * 10 ^ Int.toNat 60 * 10 ^ Int.toNat 60 : Int) = 10 ^ 240 by decide]
    · simp_arith []
      rw [show (List.map M.val (List.map (fun c => PyData.int (c % 10 ^ 240)) (List.filter (fun c => decide (10 ^ 18 ≤ c)) cs)).reverse) = intsM (((cs.filter fun c => decide (10 ^ 18 ≤ c)).map fun c => c % 10 ^ 240).reverse) by unfold intsM; simp]
      refine q _ s ⟨?_, ?_, hs⟩
      · have := List.length_filter_le (fun c => decide ((10 : Int) ^ 18 ≤ c)) cs
        rw [List.length_reverse, List.length_map]; omega
      · intro x hx
        rw [List.mem_reverse, List.mem_map] at hx
        obtain ⟨c, _, rfl⟩ := hx
        exact Int.emod_nonneg _ (by decide)
  · rintro c cs' ρ ⟨s, y, rfl, hs⟩
    simp_arith []
    exact ⟨mulOk_r (by decide), _, _, rfl, Int.emod_nonneg _ (by decide)⟩
def isNum : PyData → Bool
  | .int i => decide (0 ≤ i)
  | _ => false
theorem is_number_eq (d : PyData) : g_is_number [.val d] = some (.val (.bool (isNum d)), [none]) := by
  refine of_Sat ?_
  unfold g_is_number b_is_number
  cases d <;> simp_arith [isNum, vB]
theorem u_law_number_eq (d : PyData) : g_u_law_number [.val d] = some (.val (.bool (isNum d)), [none]) := by
  refine of_Sat ?_
  unfold g_u_law_number b_u_law_number
  cases d <;> simp_arith [isNum, vB]
def isLf : PyData → Bool
  | .tuple ds => decide ((ds.length : Int) = 3) && ds.all isNum
  | _ => false
theorem is_letter_form_eq (d : PyData) : g_is_letter_form [.val d] = some (.val (.bool (isLf d)), [none]) := by
  refine of_Sat ?_
  unfold g_is_letter_form b_is_letter_form
  cases d with
  | tuple ds =>
    simp_arith [isLf]
    by_cases h : (ds.length : Int) = 3
    · simp_arith [h]
      refine Sat_lcD (fun d => .bool (isNum d)) ds (by unfold sizeLine; omega) (fun d _ => ?_) ?_
      · simp_arith [is_number_eq]
      · simp_arith [h]
    · simp_arith [h]
  | _ => simp_arith [isLf]
theorem u_law_is_letter_eq (d : PyData) : g_u_law_is_letter [.val d] = some (.val (.bool (isLf d)), [none]) := by
  refine of_Sat ?_
  unfold g_u_law_is_letter b_u_law_is_letter
  cases d with
  | tuple ds =>
    simp_arith [isLf]
    by_cases h : (ds.length : Int) = 3
    · simp_arith [h]
      refine Sat_lcD (fun d => .bool (isNum d)) ds (by unfold sizeLine; omega) (fun d _ => ?_) ?_
      · simp_arith [u_law_number_eq]
      · simp_arith [h]
    · simp_arith [h]
  | _ => simp_arith [isLf]
theorem isLf_L {d : PyData} (h : isLf d = true) : ∃ l : L, d = eL l ∧ 0 ≤ l.a ∧ 0 ≤ l.b ∧ 0 ≤ l.w := by
  cases d with
  | tuple ds =>
    simp only [isLf, Bool.and_eq_true, decide_eq_true_eq] at h
    obtain ⟨h1, h2⟩ := h
    have h1 : ds.length = 3 := by omega
    match ds, h1, h2 with
    | [x, y, z], _, h2 =>
      simp only [List.all_cons, List.all_nil, Bool.and_true, Bool.and_eq_true] at h2
      obtain ⟨hx, hy, hz⟩ := h2
      cases x <;> simp only [isNum, Bool.false_eq_true] at hx
      cases y <;> simp only [isNum, Bool.false_eq_true] at hy
      cases z <;> simp only [isNum, Bool.false_eq_true] at hz
      rename_i a b c _
      exact ⟨⟨a, b, c⟩, rfl, by simpa using hx, by simpa using hy, by simpa using hz⟩
  | _ => cases h
/-- what is told by tuples of numbers, truth values, words, None -/
inductive Sm : Nat → PyData → Prop
  | bool {k : Nat} (b : Bool) : Sm k (.bool b)
  | int {k : Nat} (i : Int) : Sm k (.int i)
  | none {k : Nat} : Sm k .none
  | str {k : Nat} {x : Str} : (PyData.str x).canLay0 = true → x.length ≤ 1000 → Sm k (.str x)
  | tup {k : Nat} {ds : List PyData} : ds.length ≤ 1000000 → (∀ e ∈ ds, Sm k e) → Sm (k + 1) (.tuple ds)
theorem Sm.up {k : Nat} {d : PyData} (h : Sm k d) : ∀ {m : Nat}, k ≤ m → Sm m d := by
  induction h with
  | bool b => exact fun _ => .bool b
  | int b => exact fun _ => .int b
  | none => exact fun _ => .none
  | str h1 h2 => exact fun _ => .str h1 h2
  | tup h1 h2 ih =>
    intro m hm
    cases m with
    | zero => omega
    | succ m => exact .tup h1 fun e he => ih e he (by omega)
theorem same_eq : ∀ (k : Nat) (d : PyData), Sm k d → g_u_law_same (k + 1) [.val d, .val d] = some (.val (.bool true), [none, none]) := by
  intro k d hd
  induction hd with
  | bool b => refine of_Sat ?_; unfold g_u_law_same b_u_law_same; simp_arith []
  | int b => refine of_Sat ?_; unfold g_u_law_same b_u_law_same; simp_arith []
  | none => refine of_Sat ?_; unfold g_u_law_same b_u_law_same; simp_arith []
  | str hx hx' => refine of_Sat ?_; unfold g_u_law_same b_u_law_same; simp_arith [cmp_es hx hx]
  | tup hl hds ih =>
    rename_i k ds
    refine of_Sat ?_
    unfold g_u_law_same b_u_law_same
    simp_arith [rgOk_nat (show ds.length ≤ 2 ^ 24 by omega)]
    refine Sat_lcM (fun i : Nat => .int (i : Int)) (fun _ => .bool true) (List.range ds.length) (by unfold sizeLine; simp; omega) (fun i hi => ?_) ?_
    · obtain ⟨e, he⟩ : ∃ e, ds[i]? = some e := ⟨_, List.getElem?_eq_getElem (by simpa using hi)⟩
      have := ih e (List.mem_of_getElem? he)
      simp_arith [atI_nat, he, this]
    · rw [show ((List.range ds.length).map fun _ => PyData.bool true) = ((List.range ds.length).map fun i => PyData.bool ((fun _ => true) i)) from rfl]
      simp_arith [show ((List.range ds.length).all fun _ => true) = true by simp]
theorem same_sm {k : Nat} {d : PyData} (h : Sm k d) (hk : k < 40) : g_u_law_same 40 [.val d, .val d] = some (.val (.bool true), [none, none]) := same_eq 39 d (h.up (by omega))
theorem sm_int (k : Nat) (i : Int) : Sm k (.int i) := .int i
theorem sm_tup {k : Nat} {ds : List PyData} (h : ds.length ≤ 1000000) (h2 : ∀ e ∈ ds, Sm k e) : Sm (k + 1) (.tuple ds) := .tup h h2
theorem sm_tupM {α : Type} {k : Nat} {e : α → PyData} {xs : List α} (hl : xs.length ≤ 1000000) (h : ∀ x ∈ xs, Sm k (e x)) : Sm (k + 1) (.tuple (xs.map e)) := sm_tup (by simpa using hl) fun d hd => by
  obtain ⟨x, hx, rfl⟩ := List.mem_map.mp hd; exact h x hx
theorem sm_L (k : Nat) (l : L) : Sm (k + 1) (eL l) := sm_tup (by simp) fun d hd => by
  simp only [List.mem_cons, List.not_mem_nil, or_false] at hd
  rcases hd with rfl | rfl | rfl <;> exact sm_int _ _
theorem sm_H (k : Nat) (h : List Int) (hl : h.length ≤ 1000000) : Sm (k + 1) (eH h) := sm_tupM hl fun x _ => sm_int _ x
theorem sm_oI (k : Nat) (o : Option Nat) : Sm k (oI o) := by
  cases o
  · exact .none
  · exact sm_int _ _
theorem sm_S (k : Nat) (s : Stg) (hl : s.h.length ≤ 1000000) : Sm (k + 2) (eS s) := sm_tup (by simp) fun d hd => by
  simp only [List.mem_cons, List.not_mem_nil, or_false] at hd
  rcases hd with rfl | rfl
  · exact sm_int _ _
  · exact sm_H _ _ hl

theorem emp2 {α : Type} (e : α → PyData) (g : List α) (z : α) : (((g ++ [z]).map e).map M.val).isEmpty = false := by simp
theorem last2 {α : Type} (e : α → PyData) (g : List α) (z : α) : (((g ++ [z]).map e).map M.val).getLast? = some (.val (e z)) := by simp
theorem get2 {α : Type} (e : α → PyData) (g : List α) (z : α) : (((g ++ [z]).map e).map M.val)[((g ++ [z]).map e).length - 1]? = some (.val (e z)) := by simp
theorem snoc2 {α : Type} (e : α → PyData) (g : List α) (z : α) : (g.map e).map M.val ++ [M.val (e z)] = ((g ++ [z]).map e).map M.val := by simp
theorem len2 {α : Type} (e : α → PyData) (g : List α) : ((g.map e).map M.val).length = g.length := by simp
section
variable {α : Type} [DecidableEq α] (e : α → PyData) (he : ∀ a b, PyData.eqv (e a) (e b) = decide (a = b)) (hs : ∀ a, Lay 60 (e a))
include he hs
theorem lot_gen {d : PyData} {xs : List α} (hd : d = .tuple (xs.map e) ∨ d = .list (xs.map e)) (hk : srtOk (xs.map e) = true) (hl : xs.length ≤ 1000000) : g_lot_of [.val d] = some (.val (.tuple ((ddp (srtE e xs)).map e)), [none]) := by
  have hl' : (srtE e xs).length ≤ 1000000 := by unfold srtE; rw [List.length_mergeSort]; exact hl
  have hne : ∀ a b, cmpB .ne (e a) (e b) = some (!decide (a = b)) := fun a b => by rw [cmp_ne ((hs a).shp (by omega)) ((hs b).shp (by omega)), he]
  rcases hd with rfl | rfl <;>
  · refine of_Sat ?_
    unfold g_lot_of b_lot_of
    simp_arith [biSorted, hk, srt_map]
    generalize hz : srtE e xs = zs at hl'
    refine Sat_forV e (fun ys ρ => ∃ f y, ρ = [some (.val _), some (.lst ((f.map e).map .val)), y] ∧ ys.foldl (fun f x => if f.getLast? = some x then f else f ++ [x]) f = ddp zs ∧ f.length + ys.length ≤ 1000000) ⟨[], _, rfl, rfl, by simpa using hl'⟩ ?_ ?_
    · rintro ρ ⟨f, y, rfl, h1, h2⟩
      rw [List.foldl_nil] at h1
      simp_arith [h1]
    · rintro x ys ρ ⟨f, y, rfl, h1, h2⟩
      rw [List.foldl_cons] at h1
      rcases List.eq_nil_or_concat f with rfl | ⟨g, z, rfl⟩
      · simp_arith []
        exact ⟨[x], _, rfl, by simpa using h1, by simp at h2 ⊢; omega⟩
      · rw [List.concat_eq_append] at *
        have h3 : (((g ++ [z]).map e).map M.val).length < 16777216 := by rw [len2]; simp at h2 ⊢; omega
        rw [List.getLast?_append] at h1
        by_cases hx : z = x
        · subst hx
          simp_arith [emp2, last2, hne]
          exact ⟨g ++ [z], _, rfl, by simpa using h1, by simp at h2 ⊢; omega⟩
        · simp_arith [emp2, last2, hne, hx, h3]
          exact ⟨g ++ [z] ++ [x], _, by rw [snoc2], by simpa [hx] using h1, by simp at h2 ⊢; omega⟩
theorem u_lot_gen {d : PyData} {xs : List α} (hd : d = .tuple (xs.map e) ∨ d = .list (xs.map e)) (hk : srtOk (xs.map e) = true) (hl : xs.length ≤ 1000000) : g_u_law_lot [.val d] = some (.val (.tuple ((ddp (srtE e xs)).map e)), [none]) := by
  have hl' : (srtE e xs).length ≤ 1000000 := by unfold srtE; rw [List.length_mergeSort]; exact hl
  have hne : ∀ a b, cmpB .ne (e a) (e b) = some (!decide (a = b)) := fun a b => by rw [cmp_ne ((hs a).shp (by omega)) ((hs b).shp (by omega)), he]
  have hsh : ∀ f : List α, shp (.list (f.map e)) = true := fun f => (lay_listM fun x _ => hs x).shp (by omega)
  rcases hd with rfl | rfl <;>
  · refine of_Sat ?_
    unfold g_u_law_lot b_u_law_lot
    simp_arith [biSorted, hk, srt_map]
    generalize hz : srtE e xs = zs at hl'
    refine Sat_forV e (fun ys ρ => ∃ f y, ρ = [some (.val _), some (.lst ((f.map e).map .val)), y] ∧ ys.foldl (fun f x => if f.getLast? = some x then f else f ++ [x]) f = ddp zs ∧ f.length + ys.length ≤ 1000000) ⟨[], _, rfl, rfl, by simpa using hl'⟩ ?_ ?_
    · rintro ρ ⟨f, y, rfl, h1, h2⟩
      rw [List.foldl_nil] at h1
      simp_arith [h1]
    · rintro x ys ρ ⟨f, y, rfl, h1, h2⟩
      rw [List.foldl_cons] at h1
      rcases List.eq_nil_or_concat f with rfl | ⟨g, z, rfl⟩
      · simp_arith [cmp_enil shp_nil]
        exact ⟨[x], _, rfl, by simpa using h1, by simp at h2 ⊢; omega⟩
      · rw [List.concat_eq_append] at *
        have h3 : (((g ++ [z]).map e).map M.val).length < 16777216 := by rw [len2]; simp at h2 ⊢; omega
        have h4 : atI (((g ++ [z]).map e).map M.val) (((((g ++ [z]).map e).map M.val).length : Int) - 1) = some (.val (e z)) := by
          rw [show ((((((g ++ [z]).map e).map M.val).length : Nat) : Int) - 1) = (((((g ++ [z]).map e).map M.val).length - 1 : Nat) : Int) by simp, atI_nat]; simp
        rw [List.getLast?_append] at h1
        by_cases hx : z = x
        · subst hx
          simp_arith [cmp_enil (hsh _), emp2, show ((g ++ [z]).map e).isEmpty = false by simp, hne, h4]
          exact ⟨g ++ [z], _, rfl, by simpa using h1, by simp at h2 ⊢; omega⟩
        · simp_arith [cmp_enil (hsh _), emp2, show ((g ++ [z]).map e).isEmpty = false by simp, hne, h4, hx, h3]
          exact ⟨g ++ [z] ++ [x], _, by rw [snoc2], by simpa [hx] using h1, by simp at h2 ⊢; omega⟩
end
theorem lot_of_H (h : List Int) (hl : h.length ≤ 1000000) : g_lot_of [.val (eH h)] = some (.val (eH (lotI h)), [none]) := by
  show g_lot_of [.val (.tuple (h.map .int))] = _
  rw [lot_gen .int eqv_int (lay_int 60) (.inl rfl) (srtOk_ints h hl) hl, srtE_int]; rfl
theorem u_lot_H (h : List Int) (hl : h.length ≤ 1000000) : g_u_law_lot [.val (eH h)] = some (.val (eH (lotI h)), [none]) := by
  show g_u_law_lot [.val (.tuple (h.map .int))] = _
  rw [u_lot_gen .int eqv_int (lay_int 60) (.inl rfl) (srtOk_ints h hl) hl, srtE_int]; rfl
def lotS (xs : List Stg) : List Stg := ddp (srtE eS xs)
theorem lot_of_S (xs : List Stg) (hl : xs.length ≤ 1000000) : g_lot_of [.val (.list (xs.map eS))] = some (.val (.tuple ((lotS xs).map eS)), [none]) :=
  lot_gen eS eqv_S (fun a => (lay_S a).mono (by omega)) (.inr rfl) (srtOk_S xs hl) hl
theorem u_lot_S (xs : List Stg) (hl : xs.length ≤ 1000000) : g_u_law_lot [.val (.list (xs.map eS))] = some (.val (.tuple ((lotS xs).map eS)), [none]) :=
  u_lot_gen eS eqv_S (fun a => (lay_S a).mono (by omega)) (.inr rfl) (srtOk_S xs hl) hl
/-- who is held behind a letter -/
def behind (h : List Int) (l : L) : List Int := if l.a ∈ h then lotI (h ++ [l.b]) else h
theorem bin_H {h : List Int} {i : Int} (hl : h.length ≤ 1000000) : binM .add (eH h) (.tuple [.int i]) = some (.val (eH (h ++ [i]))) := by
  show ck _ _ = _
  rw [ck_true (by unfold sizeLine; simp; omega)]
  unfold eH
  rw [List.map_append]; rfl
theorem held_behind_eq {h : List Int} (l : L) (hl : h.length ≤ 1000) : g_held_behind [.val (eH h), .val (eL l)] = some (.val (eH (behind h l)), [none, none]) := by
  refine of_Sat ?_
  unfold g_held_behind b_held_behind behind
  by_cases hm : l.a ∈ h
  · simp_arith [at_L0, at_L1, cmp_inH, hm, bin_H (show h.length ≤ 1000000 by omega), lot_of_H (h ++ [l.b]) (by simp; omega)]
  · simp_arith [at_L0, at_L1, cmp_inH, hm]
theorem u_behind_eq {h : List Int} (l : L) (hl : h.length ≤ 1000) : g_u_law_behind [.val (eH h), .val (eL l)] = some (.val (eH (behind h l)), [none, none]) := by
  refine of_Sat ?_
  unfold g_u_law_behind b_u_law_behind behind
  by_cases hm : l.a ∈ h
  · simp_arith [at_L0, at_L1, cmp_inH, hm, bin_H (show h.length ≤ 1000000 by omega), u_lot_H (h ++ [l.b]) (by simp; omega)]
  · simp_arith [at_L0, at_L1, cmp_inH, hm]

def bookM (n : Int) (R : List (List Row)) : M := .fz (.ins "Book" [("houses", .val (.int n)), ("rows", .val (eRs R))])
theorem isP_bookM (n : Int) (R : List (List Row)) : isP (bookM n R) = true := rfl
theorem at1_rows (n : Int) (R : List (List Row)) : at1 (bookM n R) (.fld "rows") = some (.val (eRs R)) := rfl
theorem at1_houses (n : Int) (R : List (List Row)) : at1 (bookM n R) (.fld "houses") = some (.val (.int n)) := rfl
theorem snoc1 (ds : List PyData) (d : PyData) : ds.map M.val ++ [M.val d] = (ds ++ [d]).map M.val := by simp
def far (r : List Row) (l : L) : Option Nat := (r.find? fun x => decide (x.1 = l)).map (·.2)
theorem far_cons (x : Row) (r : List Row) (l : L) : far (x :: r) l = if x.1 = l then some x.2 else far r l := by
  unfold far
  rw [List.find?_cons]
  by_cases h : x.1 = l <;> simp [h]
theorem oI_none : oI none = .none := rfl
theorem oI_some (n : Nat) : oI (some n) = .int (n : Int) := rfl
theorem u_far_eq {R : List (List Row)} {p : Nat} {r : List Row} {l : L} (h : R[p]? = some r) : g_u_law_far [.val (eRs R), .val (.int (p : Int)), .val (eL l)] = some (.val (oI (far r l)), [none, none, none]) := by
  refine of_Sat ?_
  unfold g_u_law_far b_u_law_far
  simp_arith [at_Rs h, items_R]
  refine Sat_forV eRow (fun ys ρ => ∃ x y, ρ = [some (.val (eRs R)), some (.val (.int (p : Int))), some (.val (eL l)), x, y] ∧ far r l = far ys l) ⟨_, _, rfl, rfl⟩ ?_ ?_
  · rintro ρ ⟨x, y, rfl, h1⟩
    simp_arith [h1]
    rfl
  · rintro z ys ρ ⟨x, y, rfl, h1⟩
    rw [far_cons] at h1
    by_cases hz : z.1 = l
    · simp_arith [eRow, cmp_eL, hz]
      rw [if_pos hz] at h1
      rw [h1]; rfl
    · rw [if_neg hz] at h1
      simp_arith [eRow, cmp_eL, hz, h1]
      exact ⟨_, _, rfl⟩
theorem next_place_eq {n : Int} {R : List (List Row)} {p : Nat} {r : List Row} {l : L} (h : R[p]? = some r) : g_next_place [bookM n R, .val (.int (p : Int)), .val (eL l)] = some (.val (oI (far r l)), [none, none, none]) := by
  refine of_Sat ?_
  unfold g_next_place b_next_place
  simp_arith [at1_rows, at_Rs h, items_R]
  refine Sat_forV eRow (fun ys ρ => ∃ x y, ρ = [some (bookM n R), some (.val (.int (p : Int))), some (.val (eL l)), x, y] ∧ far r l = far ys l) ⟨_, _, rfl, rfl⟩ ?_ ?_
  · rintro ρ ⟨x, y, rfl, h1⟩
    simp_arith [h1]
    rfl
  · rintro z ys ρ ⟨x, y, rfl, h1⟩
    rw [far_cons] at h1
    by_cases hz : z.1 = l
    · simp_arith [eRow, cmp_eL, hz]
      rw [if_pos hz] at h1
      rw [h1]; rfl
    · rw [if_neg hz] at h1
      simp_arith [eRow, cmp_eL, hz, h1]
      exact ⟨_, _, rfl⟩
/-- rows lead to places that are there -/
def WfR (R : List (List Row)) : Prop := ∀ r ∈ R, ∀ x ∈ r, x.2 < R.length
def wEnd (R : List (List Row)) : Nat → List L → Option Nat
  | p, [] => some p
  | p, l :: w => match R[p]? with
    | none => none
    | some r => match far r l with
      | none => none
      | some q => wEnd R q w
theorem far_lt {R : List (List Row)} (hw : WfR R) {p q : Nat} {r : List Row} {l : L} (h : R[p]? = some r) (hf : far r l = some q) : q < R.length := by
  unfold far at hf
  obtain ⟨x, hx, rfl⟩ := Option.map_eq_some_iff.mp hf
  exact hw r (List.mem_of_getElem? h) x (List.mem_of_find?_eq_some hx)
theorem wEnd_lt {R : List (List Row)} (hw : WfR R) : ∀ {w : List L} {p q : Nat}, p < R.length → wEnd R p w = some q → q < R.length
  | [], p, q, hp, h => by rw [wEnd] at h; cases h; exact hp
  | l :: w, p, q, hp, h => by
    rw [wEnd] at h
    split at h
    · cases h
    · rename_i r hr
      split at h
      · cases h
      · rename_i q' hq
        exact wEnd_lt hw (far_lt hw hr hq) h
theorem u_end_eq {R : List (List Row)} (hw : WfR R) {o : Option Nat} (ho : ∀ p, o = some p → p < R.length) (w : List L) : g_u_law_end [.val (eRs R), .val (oI o), .val (eW w)] = some (.val (oI (o.bind fun p => wEnd R p w)), [none, none, none]) := by
  refine of_Sat ?_
  unfold g_u_law_end b_u_law_end
  simp_arith [eW]
  refine Sat_forV eL (fun ws ρ => ∃ o' y, ρ = [some (.val (eRs R)), some (.val (oI o')), some (.val (.tuple (w.map eL))), y] ∧ (∀ p, o' = some p → p < R.length) ∧ (o.bind fun p => wEnd R p w) = (o'.bind fun p => wEnd R p ws)) ⟨o, _, rfl, ho, rfl⟩ ?_ ?_
  · rintro ρ ⟨o', y, rfl, h1, h2⟩
    simp_arith [h2]
    cases o' <;> rfl
  · rintro l ws ρ ⟨o', y, rfl, h1, h2⟩
    cases o' with
    | none =>
      simp_arith [oI]
      exact ⟨none, _, rfl, by simp, by rw [h2]; rfl⟩
    | some p =>
      obtain ⟨r, hr⟩ : ∃ r, R[p]? = some r := ⟨_, List.getElem?_eq_getElem (h1 p rfl)⟩
      simp_arith [oI, u_far_eq hr]
      refine ⟨far r l, _, rfl, fun q hq => far_lt hw hr hq, ?_⟩
      rw [h2]
      show wEnd R p (l :: ws) = _
      rw [wEnd]
      simp only [hr]
      cases far r l <;> rfl
theorem walk_end_eq {n : Int} {R : List (List Row)} (hw : WfR R) {p q : Nat} (hp : p < R.length) {w : List L} (h : wEnd R p w = some q) : g_walk_end [bookM n R, .val (.int (p : Int)), .val (eW w)] = some (.val (.int (q : Int)), [none, none, none]) := by
  refine of_Sat ?_
  unfold g_walk_end b_walk_end
  simp_arith [eW]
  refine Sat_forV eL (fun ws ρ => ∃ p' y, ρ = [some (bookM n R), some (.val (.int ((p' : Nat) : Int))), some (.val (.tuple (w.map eL))), y] ∧ p' < R.length ∧ wEnd R p' ws = some q) ⟨p, _, rfl, hp, h⟩ ?_ ?_
  · rintro ρ ⟨p', y, rfl, h1, h2⟩
    rw [wEnd] at h2; cases h2
    simp_arith []
  · rintro l ws ρ ⟨p', y, rfl, h1, h2⟩
    obtain ⟨r, hr⟩ : ∃ r, R[p']? = some r := ⟨_, List.getElem?_eq_getElem h1⟩
    rw [wEnd] at h2
    simp only [hr] at h2
    cases hf : far r l with
    | none => rw [hf] at h2; cases h2
    | some q' =>
      rw [hf] at h2
      simp_arith [isP_bookM, next_place_eq hr, hf, oI]
      exact ⟨q', _, rfl, far_lt hw hr hf, h2⟩

def toL : PyData → Option L
  | .tuple [.int a, .int b, .int c] => if 0 ≤ a ∧ 0 ≤ b ∧ 0 ≤ c then some ⟨a, b, c⟩ else none
  | _ => none
theorem toL_L {l : L} (h : 0 ≤ l.a ∧ 0 ≤ l.b ∧ 0 ≤ l.w) : toL (eL l) = some l := by
  show (if _ then _ else _) = _
  rw [if_pos h]
theorem toL_some {d : PyData} (h : isLf d = true) : ∃ l, toL d = some l ∧ d = eL l := by
  obtain ⟨l, rfl, h1, h2, h3⟩ := isLf_L h
  exact ⟨l, toL_L ⟨h1, h2, h3⟩, rfl⟩
theorem toL_none {d : PyData} (h : isLf d = false) : toL d = none := by
  unfold toL
  split
  · rename_i a b c
    simp [isLf, isNum] at h
    rw [if_neg (by omega)]
  · rfl
/-- whether data are a walk from a place -/
def isWk (R : List (List Row)) : Nat → List PyData → Bool
  | _, [] => true
  | p, d :: ds => match toL d with
    | none => false
    | some l => match far (R.getD p []) l with
      | none => false
      | some q => isWk R q ds
def isWkD (R : List (List Row)) (p : Nat) : PyData → Bool
  | .tuple ds => decide (ds.length ≤ 10000) && isWk R p ds
  | _ => false
theorem getD_of {R : List (List Row)} {p : Nat} {r : List Row} (h : R[p]? = some r) : R.getD p [] = r := by
  rw [List.getD_eq_getElem?_getD, h]; rfl
theorem is_walk_eq {n : Int} {R : List (List Row)} (hw : WfR R) {p : Nat} (hp : p < R.length) (d : PyData) : g_is_walk [bookM n R, .val (.int (p : Int)), .val d] = some (.val (.bool (isWkD R p d)), [none, none, none]) := by
  refine of_Sat ?_
  unfold g_is_walk b_is_walk
  cases d with
  | tuple ds =>
    simp_arith [isWkD]
    by_cases hl : (10000 : Int) < (ds.length : Int)
    · simp_arith [hl, show ¬ ds.length ≤ 10000 by omega]
    · have hl2 : ds.length ≤ 10000 := by omega
      simp_arith [hl, hl2]
      refine Sat_forT M.val (fun es ρ => ∃ (p' : Nat) (y : Option M), ρ = [some (bookM n R), some (M.val (.int (p' : Int))), some (.val (.tuple ds)), y] ∧ p' < R.length ∧ isWk R p ds = isWk R p' es) ⟨p, none, rfl, hp, rfl⟩ ?_ ?_
      · rintro ρ ⟨p', y, rfl, h1, h2⟩
        rw [isWk] at h2
        simp_arith [h2, hl2]
      · rintro d es ρ ⟨p', y, rfl, h1, h2⟩
        rw [isWk] at h2
        cases hd : isLf d with
        | false =>
          rw [toL_none hd] at h2
          simp_arith [is_letter_form_eq, hd, h2, hl2]
        | true =>
          obtain ⟨l, h3, rfl⟩ := toL_some hd
          obtain ⟨r, hr⟩ : ∃ r, R[p']? = some r := ⟨_, List.getElem?_eq_getElem h1⟩
          rw [h3, getD_of hr] at h2
          simp only [] at h2
          cases hf : far r l with
          | none =>
            rw [hf] at h2
            simp_arith [is_letter_form_eq, hd, h2, hl2, isP_bookM, next_place_eq hr, hf, oI_none]
          | some q =>
            rw [hf] at h2
            simp_arith [is_letter_form_eq, hd, isP_bookM, next_place_eq hr, hf, oI_some]
            exact ⟨q, _, rfl, far_lt hw hr hf, h2⟩
  | _ => simp_arith [isWkD]
theorem isWk_L {R : List (List Row)} : ∀ {w : List L} {p : Nat}, (∀ l ∈ w, 0 ≤ l.a ∧ 0 ≤ l.b ∧ 0 ≤ l.w) → p < R.length → WfR R → isWk R p (w.map eL) = (wEnd R p w).isSome
  | [], p, _, _, _ => by rw [wEnd]; rfl
  | l :: w, p, h, hp, hw => by
    obtain ⟨r, hr⟩ : ∃ r, R[p]? = some r := ⟨_, List.getElem?_eq_getElem hp⟩
    rw [List.map_cons, isWk, wEnd, toL_L (h l List.mem_cons_self), getD_of hr]
    simp only [hr]
    cases hf : far r l with
    | none => rfl
    | some q => exact isWk_L (fun l hl => h l (List.mem_cons_of_mem _ hl)) (far_lt hw hr hf) hw
theorem isWk_bad {R : List (List Row)} : ∀ {ds : List PyData} {p : Nat}, ds.all isLf = false → isWk R p ds = false
  | [], p, h => by simp at h
  | d :: ds, p, h => by
    rw [isWk]
    cases hd : isLf d with
    | false => rw [toL_none hd]
    | true =>
      obtain ⟨l, h3, rfl⟩ := toL_some hd
      rw [h3]
      simp only []
      cases far (R.getD p []) l with
      | none => rfl
      | some q => exact isWk_bad (by simpa [hd] using h)
theorem all_L : ∀ {ds : List PyData}, ds.all isLf = true → ∃ w : List L, ds = w.map eL ∧ ∀ l ∈ w, 0 ≤ l.a ∧ 0 ≤ l.b ∧ 0 ≤ l.w
  | [], _ => ⟨[], rfl, by simp⟩
  | d :: ds, h => by
    rw [List.all_cons, Bool.and_eq_true] at h
    obtain ⟨l, rfl, h1⟩ := isLf_L h.1
    obtain ⟨w, rfl, h2⟩ := all_L h.2
    exact ⟨l :: w, rfl, fun x hx => by rcases List.mem_cons.mp hx with rfl | hx; exact h1; exact h2 x hx⟩
theorem u_is_walk_eq {R : List (List Row)} (hw : WfR R) {p : Nat} (hp : p < R.length) (d : PyData) : g_u_law_is_walk [.val (eRs R), .val (.int (p : Int)), .val d] = some (.val (.bool (isWkD R p d)), [none, none, none]) := by
  refine of_Sat ?_
  unfold g_u_law_is_walk b_u_law_is_walk
  cases d with
  | tuple ds =>
    simp_arith [isWkD]
    by_cases hl : (10000 : Int) < (ds.length : Int)
    · simp_arith [hl, show ¬ ds.length ≤ 10000 by omega]
    · simp_arith [hl, show ds.length ≤ 10000 by omega]
      refine Sat_lcD (fun d => .bool (isLf d)) ds (by unfold sizeLine; omega) (fun d _ => ?_) ?_
      · simp_arith [u_law_is_letter_eq]
      · cases ha : ds.all isLf with
        | false => simp_arith [ha, isWk_bad ha]
        | true =>
          obtain ⟨w, rfl, h2⟩ := all_L ha
          have e := u_end_eq hw (o := some p) (fun q hq => by cases hq; exact hp) w
          simp only [oI_some, Option.bind_some, eW] at e
          rw [isWk_L h2 hp hw]
          have hl2 : (w.map eL).length ≤ 10000 := by omega
          simp_arith [ha, e, hl2]
          cases wEnd R p w <;> simp_arith [oI, Option.isSome]
  | _ => simp_arith [isWkD]
/-! acts -/
def sayD (l : L) : PyData := .tuple [.str "say", eL l]
def hearD (l : L) : PyData := .tuple [.str "hear", eL l]
def doneA : List Int → List L → List PyData
  | _, [] => []
  | h, l :: w => (if l.a ∈ h then [] else sayD l :: (if l.b ∈ h then [] else [hearD l])) ++ doneA (behind h l) w
def lyA : List Int → List L → List L
  | _, [] => []
  | h, l :: w => (if l.a ∉ h ∧ l.b ∈ h then [l] else []) ++ lyA (behind h l) w
def lotsA : List Int → List L → List (List Int)
  | h, [] => [h]
  | h, l :: w => h :: lotsA (behind h l) w
/-- lots of houses below a number -/
def HOk (n : Int) (h : List Int) : Prop := Asc h ∧ ∀ i ∈ h, 0 ≤ i ∧ i < n
def LOk (n : Int) (l : L) : Prop := 0 ≤ l.a ∧ l.a < n ∧ 0 ≤ l.b ∧ l.b < n ∧ 0 ≤ l.w
theorem HOk.len {n : Int} {h : List Int} (hh : HOk n h) (hn : n ≤ 6) : h.length ≤ 6 := by
  have := nodup_len (xs := h) (ys := [0, 1, 2, 3, 4, 5]) (hh.1.imp fun h => by omega) (fun a ha => by have := hh.2 a ha; simp; omega)
  simpa using this
theorem HOk.behind {n : Int} {h : List Int} (hh : HOk n h) {l : L} (hl : LOk n l) : HOk n (behind h l) := by
  unfold Z.behind
  split
  · obtain ⟨h1, h2⟩ := lotI_spec (h ++ [l.b])
    refine ⟨h1, fun i hi => ?_⟩
    rw [h2, List.mem_append, List.mem_singleton] at hi
    rcases hi with hi | rfl
    · exact hh.2 i hi
    · exact ⟨hl.2.2.1, hl.2.2.2.1⟩
  · exact hh
theorem doneA_len : ∀ (w : List L) (h : List Int), (doneA h w).length ≤ 2 * w.length
  | [], _ => by simp [doneA]
  | l :: w, h => by
    have := doneA_len w (behind h l)
    rw [doneA, List.length_append, List.length_cons]
    split
    · simp; omega
    · split <;> simp <;> omega
theorem done_in_eq {n : Int} (hn : n ≤ 6) {h : List Int} (hh : HOk n h) {w : List L} (hw : ∀ l ∈ w, LOk n l) (hl : w.length ≤ 100000) : g_done_in [.val (eH h), .val (eW w)] = some (.val (.tuple (doneA h w)), [none, none]) := by
  refine of_Sat ?_
  unfold g_done_in b_done_in
  simp_arith [eW]
  refine Sat_forV eL (fun ws ρ => ∃ h' ds y, ρ = [some (.val (eH h')), some (.val (.tuple (w.map eL))), some (.lst (ds.map .val)), y] ∧ HOk n h' ∧ ds ++ doneA h' ws = doneA h w ∧ (∀ l ∈ ws, LOk n l)) ⟨h, [], _, rfl, hh, rfl, hw⟩ ?_ ?_
  · rintro ρ ⟨h', ds, y, rfl, h1, h2, h3⟩
    rw [doneA, List.append_nil] at h2
    simp_arith [h2]
  · rintro l ws ρ ⟨h', ds, y, rfl, h1, h2, h3⟩
    rw [doneA] at h2
    have hlen : ds.length + 2 < 16777216 := by
      have := doneA_len w h
      rw [← h2] at this
      simp at this; omega
    have hlen0 : (ds.map M.val).length < 16777216 := by simp; omega
    have hlen1 : ∀ x, ((ds ++ [x]).map M.val).length < 16777216 := fun x => by simp; omega
    have hb := held_behind_eq (h := h') l (by have := h1.len hn; omega)
    by_cases ha : l.a ∈ h'
    · simp_arith [at_L0, at_L1, cmp_ninH, ha, cmp_inH, hb]
      exact ⟨_, _, _, rfl, h1.behind (h3 l List.mem_cons_self), by rw [← h2, if_pos ha]; rfl, fun x hx => h3 x (List.mem_cons_of_mem _ hx)⟩
    · by_cases hbb : l.b ∈ h'
      · simp_arith [at_L0, at_L1, cmp_ninH, ha, cmp_inH, hb, hbb, hlen0, snoc1]
        exact ⟨_, _, _, rfl, h1.behind (h3 l List.mem_cons_self), by rw [← h2, if_neg ha, if_pos hbb, List.append_assoc]; rfl, fun x hx => h3 x (List.mem_cons_of_mem _ hx)⟩
      · simp_arith [at_L0, at_L1, cmp_ninH, ha, cmp_inH, hb, hbb, hlen0, hlen1, snoc1]
        exact ⟨_, _, _, rfl, h1.behind (h3 l List.mem_cons_self), by rw [← h2, if_neg ha, if_neg hbb, List.append_assoc, List.append_assoc]; rfl, fun x hx => h3 x (List.mem_cons_of_mem _ hx)⟩

theorem u_done_eq {n : Int} (hn : n ≤ 6) {h : List Int} (hh : HOk n h) {w : List L} (hw : ∀ l ∈ w, LOk n l) (hl : w.length ≤ 100000) : ∃ h', g_u_law_done [.val (eH h), .val (eW w)] = some (.val (.tuple [.tuple (doneA h w), eH h']), [none, none]) := by
  have : Sat (g_u_law_done [.val (eH h), .val (eW w)]) (fun x => ∃ h', x = (.val (.tuple [.tuple (doneA h w), eH h']), [none, none])) ⟨⟩ := by
    unfold g_u_law_done b_u_law_done
    simp_arith [eW]
    refine Sat_forV eL (fun ws ρ => ∃ h' ds y, ρ = [some (.val (eH h')), some (.val (.tuple (w.map eL))), some (.lst (ds.map .val)), y] ∧ HOk n h' ∧ ds ++ doneA h' ws = doneA h w ∧ (∀ l ∈ ws, LOk n l)) ⟨h, [], _, rfl, hh, rfl, hw⟩ ?_ ?_
    · rintro ρ ⟨h', ds, y, rfl, h1, h2, h3⟩
      rw [doneA, List.append_nil] at h2
      simp_arith [h2]
      exact ⟨h', rfl⟩
    · rintro l ws ρ ⟨h', ds, y, rfl, h1, h2, h3⟩
      rw [doneA] at h2
      have hlen : ds.length + 2 < 16777216 := by
        have := doneA_len w h
        rw [← h2] at this
        simp at this; omega
      have hlen0 : (ds.map M.val).length < 16777216 := by simp; omega
      have hlen1 : ∀ x, ((ds ++ [x]).map M.val).length < 16777216 := fun x => by simp; omega
      have hle := h1.len hn
      by_cases ha : l.a ∈ h'
      · simp_arith [at_L0, at_L1, cmp_ninH, ha, cmp_inH, bin_H (show h'.length ≤ 1000000 by omega), u_lot_H (h' ++ [l.b]) (by simp; omega)]
        have hb : behind h' l = lotI (h' ++ [l.b]) := if_pos ha
        exact ⟨_, _, _, rfl, hb ▸ h1.behind (h3 l List.mem_cons_self), by rw [← h2, if_pos ha, hb]; rfl, fun x hx => h3 x (List.mem_cons_of_mem _ hx)⟩
      · have hb : behind h' l = h' := if_neg ha
        by_cases hbb : l.b ∈ h'
        · simp_arith [at_L0, at_L1, cmp_ninH, ha, cmp_inH, hb, hbb, hlen0, snoc1]
          exact ⟨_, _, _, rfl, h1, by rw [← h2, if_neg ha, if_pos hbb, hb, List.append_assoc]; rfl, fun x hx => h3 x (List.mem_cons_of_mem _ hx)⟩
        · simp_arith [at_L0, at_L1, cmp_ninH, ha, cmp_inH, hb, hbb, hlen0, hlen1, snoc1]
          exact ⟨_, _, _, rfl, h1, by rw [← h2, if_neg ha, if_neg hbb, hb, List.append_assoc, List.append_assoc]; rfl, fun x hx => h3 x (List.mem_cons_of_mem _ hx)⟩
  obtain ⟨a, e, h', rfl⟩ := this
  exact ⟨h', e⟩
theorem lyA_len : ∀ (w : List L) (h : List Int), (lyA h w).length ≤ w.length
  | [], _ => by simp [lyA]
  | l :: w, h => by
    have := lyA_len w (behind h l)
    rw [lyA, List.length_append, List.length_cons]
    split <;> simp <;> omega
theorem lying_eq {n : Int} (hn : n ≤ 6) {h : List Int} (hh : HOk n h) {w : List L} (hw : ∀ l ∈ w, LOk n l) (hl : w.length ≤ 100000) : g_lying_in [.val (eH h), .val (eW w)] = some (.val (eW (lyA h w)), [none, none]) := by
  refine of_Sat ?_
  unfold g_lying_in b_lying_in
  simp_arith [eW]
  refine Sat_forV eL (fun ws ρ => ∃ h' ds y, ρ = [some (.val (eH h')), some (.val (.tuple (w.map eL))), some (.lst ((ds.map eL).map .val)), y] ∧ HOk n h' ∧ ds ++ lyA h' ws = lyA h w ∧ (∀ l ∈ ws, LOk n l)) ⟨h, [], _, rfl, hh, rfl, hw⟩ ?_ ?_
  · rintro ρ ⟨h', ds, y, rfl, h1, h2, h3⟩
    rw [lyA, List.append_nil] at h2
    simp_arith [h2]
  · rintro l ws ρ ⟨h', ds, y, rfl, h1, h2, h3⟩
    rw [lyA] at h2
    have hlen0 : ((ds.map eL).map M.val).length < 16777216 := by
      have := lyA_len w h
      rw [← h2] at this
      simp at this ⊢; omega
    have hle := h1.len hn
    have hb := held_behind_eq (h := h') l (by omega)
    by_cases ha : l.a ∈ h'
    · simp_arith [at_L0, at_L1, cmp_ninH, ha, cmp_inH, hb]
      exact ⟨_, _, _, rfl, h1.behind (h3 l List.mem_cons_self), by rw [← h2, if_neg (by simp [ha])]; rfl, fun x hx => h3 x (List.mem_cons_of_mem _ hx)⟩
    · by_cases hbb : l.b ∈ h'
      · simp_arith [at_L0, at_L1, cmp_ninH, ha, cmp_inH, hb, hbb, hlen0, snoc2]
        exact ⟨_, _, _, rfl, h1.behind (h3 l List.mem_cons_self), by rw [← h2, if_pos ⟨ha, hbb⟩, List.append_assoc], fun x hx => h3 x (List.mem_cons_of_mem _ hx)⟩
      · simp_arith [at_L0, at_L1, cmp_ninH, ha, cmp_inH, hb, hbb]
        exact ⟨_, _, _, rfl, h1.behind (h3 l List.mem_cons_self), by rw [← h2, if_neg (by simp [hbb])]; rfl, fun x hx => h3 x (List.mem_cons_of_mem _ hx)⟩
theorem lotsA_len : ∀ (w : List L) (h : List Int), (lotsA h w).length = w.length + 1
  | [], _ => rfl
  | l :: w, h => by rw [lotsA, List.length_cons, lotsA_len w, List.length_cons]
theorem lotsA_ok {n : Int} : ∀ {w : List L} {h : List Int}, HOk n h → (∀ l ∈ w, LOk n l) → ∀ g ∈ lotsA h w, HOk n g
  | [], h, hh, _, g, hg => by simp [lotsA] at hg; exact hg ▸ hh
  | l :: w, h, hh, hw, g, hg => by
    rw [lotsA, List.mem_cons] at hg
    rcases hg with rfl | hg
    · exact hh
    · exact lotsA_ok (hh.behind (hw l List.mem_cons_self)) (fun x hx => hw x (List.mem_cons_of_mem _ hx)) g hg
theorem held_along_eq {n : Int} (hn : n ≤ 6) {h : List Int} (hh : HOk n h) {w : List L} (hw : ∀ l ∈ w, LOk n l) (hl : w.length ≤ 100000) : g_held_along [.val (eH h), .val (eW w)] = some (.val (.tuple ((lotsA h w).map eH)), [none, none]) := by
  refine of_Sat ?_
  unfold g_held_along b_held_along
  simp_arith [eW]
  refine Sat_forV eL (fun ws ρ => ∃ g h' y, ρ = [some (.val (eH h)), some (.val (.tuple (w.map eL))), some (.lst (((g ++ [h']).map eH).map .val)), y] ∧ HOk n h' ∧ g ++ lotsA h' ws = lotsA h w ∧ (∀ l ∈ ws, LOk n l)) ⟨[], h, _, rfl, hh, rfl, hw⟩ ?_ ?_
  · rintro ρ ⟨g, h', y, rfl, h1, h2, h3⟩
    rw [lotsA] at h2
    simp_arith [h2]
  · rintro l ws ρ ⟨g, h', y, rfl, h1, h2, h3⟩
    rw [lotsA] at h2
    have hlen0 : (((g ++ [h']).map eH).map M.val).length < 16777216 := by
      have := lotsA_len w h
      rw [← h2] at this
      simp at this ⊢; omega
    have hle := h1.len hn
    have hb := held_behind_eq (h := h') l (by omega)
    simp_arith [last2, hb, hlen0, snoc2]
    exact ⟨g ++ [h'], behind h' l, _, rfl, h1.behind (h3 l List.mem_cons_self), by rw [← h2, List.append_assoc]; rfl, fun x hx => h3 x (List.mem_cons_of_mem _ hx)⟩
theorem atLast {α : Type} (e : α → PyData) (g : List α) (z : α) : atI (((g ++ [z]).map e).map M.val) (((((g ++ [z]).map e).map M.val).length : Int) - 1) = some (.val (e z)) := by
  rw [show ((((((g ++ [z]).map e).map M.val).length : Nat) : Int) - 1) = (((((g ++ [z]).map e).map M.val).length - 1 : Nat) : Int) by simp, atI_nat]; simp
theorem u_lots_eq {n : Int} (hn : n ≤ 6) {h : List Int} (hh : HOk n h) {w : List L} (hw : ∀ l ∈ w, LOk n l) (hl : w.length ≤ 100000) : g_u_law_lots [.val (eH h), .val (eW w)] = some (.val (.tuple ((lotsA h w).map eH)), [none, none]) := by
  refine of_Sat ?_
  unfold g_u_law_lots b_u_law_lots
  simp_arith [eW]
  refine Sat_forV eL (fun ws ρ => ∃ g h' y, ρ = [some (.val (eH h)), some (.val (.tuple (w.map eL))), some (.lst (((g ++ [h']).map eH).map .val)), y] ∧ HOk n h' ∧ g ++ lotsA h' ws = lotsA h w ∧ (∀ l ∈ ws, LOk n l)) ⟨[], h, _, rfl, hh, rfl, hw⟩ ?_ ?_
  · rintro ρ ⟨g, h', y, rfl, h1, h2, h3⟩
    rw [lotsA] at h2
    simp_arith [h2]
  · rintro l ws ρ ⟨g, h', y, rfl, h1, h2, h3⟩
    rw [lotsA] at h2
    have hlen0 : (((g ++ [h']).map eH).map M.val).length < 16777216 := by
      have := lotsA_len w h
      rw [← h2] at this
      simp at this ⊢; omega
    have hle := h1.len hn
    have hb := u_behind_eq (h := h') l (by omega)
    simp_arith [atLast, hb, hlen0, snoc2]
    exact ⟨g ++ [h'], behind h' l, _, rfl, h1.behind (h3 l List.mem_cons_self), by rw [← h2, List.append_assoc]; rfl, fun x hx => h3 x (List.mem_cons_of_mem _ hx)⟩
def saidA (h : List Int) (w : List L) : List Bool := (w.zip (lotsA h w)).map fun p => !decide (p.1.a ∈ p.2)
theorem zipD_map {α β : Type} (e : α → PyData) (f : β → PyData) : ∀ (xs : List α) (ys : List β), zipD (xs.map e) (ys.map f) = (xs.zip ys).map fun p => .tuple [e p.1, f p.2]
  | [], _ => rfl
  | _ :: _, [] => rfl
  | x :: xs, y :: ys => by
    show PyData.tuple [e x, f y] :: zipD (xs.map e) (ys.map f) = _
    rw [zipD_map e f xs ys]; rfl
theorem said_in_eq {n : Int} (hn : n ≤ 6) {h : List Int} (hh : HOk n h) {w : List L} (hw : ∀ l ∈ w, LOk n l) (hl : w.length ≤ 100000) : g_said_in [.val (eH h), .val (eW w)] = some (.val (.tuple ((saidA h w).map .bool)), [none, none]) := by
  refine of_Sat ?_
  have hz := zipD_map eL eH w (lotsA h w)
  unfold g_said_in b_said_in
  have ha := held_along_eq hn hh hw hl
  unfold eW at ha ⊢
  simp_arith [ha, hz]
  refine Sat_lcM (fun p : L × List Int => .tuple [eL p.1, eH p.2]) (fun p => .bool (!decide (p.1.a ∈ p.2))) (w.zip (lotsA h w)) (by unfold sizeLine; simp [lotsA_len]; omega) (fun p _ => ?_) ?_
  · simp_arith [at_L0, cmp_ninH]
  · simp_arith []
    unfold saidA
    rw [List.map_map]; rfl
theorem full_run_eq {n : Int} (hn : n ≤ 6) {w : List L} (hw : ∀ l ∈ w, LOk n l) (hl : w.length ≤ 100000) : g_full_run [.val (eW w)] = some (.val (.tuple (doneA [] w)), [none]) := by
  refine of_Sat ?_
  unfold g_full_run b_full_run
  have := done_in_eq hn (h := []) ⟨.nil, by simp⟩ hw hl
  simp only [eH, List.map_nil] at this
  simp_arith [this]
def fullA : List L → List PyData
  | [] => []
  | l :: w => sayD l :: hearD l :: fullA w
theorem fullA_len : ∀ w : List L, (fullA w).length = 2 * w.length
  | [] => rfl
  | l :: w => by rw [fullA, List.length_cons, List.length_cons, fullA_len w, List.length_cons]; omega
theorem fullA_snoc : ∀ (w : List L) (l : L), fullA (w ++ [l]) = fullA w ++ [sayD l, hearD l]
  | [], l => rfl
  | x :: w, l => by rw [List.cons_append, fullA, fullA_snoc w l]; rfl
theorem doneA_nil : ∀ w : List L, doneA [] w = fullA w
  | [] => rfl
  | l :: w => by
    rw [doneA, if_neg (by simp), if_neg (by simp), show behind [] l = [] from if_neg (by simp), doneA_nil w]
    rfl
theorem u_full_eq {w : List L} (hl : w.length ≤ 100000) : g_u_law_full [.val (eW w)] = some (.val (.tuple (fullA w)), [none]) := by
  refine of_Sat ?_
  unfold g_u_law_full b_u_law_full
  simp_arith [eW]
  refine Sat_forV eL (fun ws ρ => ∃ v y, ρ = [some (.val (.tuple (w.map eL))), some (.lst ((fullA v).map .val)), y] ∧ v ++ ws = w) ⟨[], _, rfl, rfl⟩ ?_ ?_
  · rintro ρ ⟨v, y, rfl, h2⟩
    rw [List.append_nil] at h2
    simp_arith [h2]
  · rintro l ws ρ ⟨v, y, rfl, h2⟩
    have hlen0 : ((fullA v).map M.val).length + 2 ≤ 16777216 := by
      have : w.length = v.length + (ws.length + 1) := by rw [← h2]; simp
      have := fullA_len v
      simp; omega
    simp_arith [hlen0]
    exact ⟨v ++ [l], _, by rw [fullA_snoc, List.map_append]; rfl, by rw [← h2, List.append_assoc]; rfl⟩
theorem rest_run_eq {n : Int} (hn : n ≤ 6) {h : List Int} (hh : HOk n h) {t w : List L} (ht : ∀ l ∈ t, LOk n l) (hw : ∀ l ∈ w, LOk n l) (htl : t.length ≤ 100000) (hl : w.length ≤ 100000) : g_rest_run [.val (eW t), .val (eH h), .val (eW w)] = some (.val (.tuple (doneA [] t ++ doneA h w)), [none, none, none]) := by
  refine of_Sat ?_
  unfold g_rest_run b_rest_run
  simp_arith [full_run_eq hn ht htl, done_in_eq hn hh hw hl]
  have h1 := doneA_len t []
  have h2 := doneA_len w h
  omega

theorem sm_act (l : L) : Sm 2 (sayD l) ∧ Sm 2 (hearD l) := by
  constructor <;>
  · refine sm_tup (by simp) fun d hd => ?_
    simp only [List.mem_cons, List.not_mem_nil, or_false] at hd
    rcases hd with rfl | rfl
    · refine .str ?_ ?_
      · rw [PyData.canLay0]; decide +kernel
      · decide +kernel
    · exact sm_L 0 l
theorem sm_done : ∀ (w : List L) (h : List Int), ∀ d ∈ doneA h w, Sm 2 d
  | [], _, d, hd => by simp [doneA] at hd
  | l :: w, h, d, hd => by
    rw [doneA, List.mem_append] at hd
    rcases hd with hd | hd
    · split at hd
      · cases hd
      · rcases List.mem_cons.mp hd with rfl | hd
        · exact (sm_act l).1
        · split at hd
          · cases hd
          · rw [List.mem_singleton] at hd; subst hd; exact (sm_act l).2
    · exact sm_done w _ d hd
theorem sm_doneT {w : List L} {h : List Int} (hl : w.length ≤ 100000) : Sm 3 (.tuple (doneA h w)) := sm_tup (by have := doneA_len w h; omega) (sm_done w h)
theorem saidA_get {h : List Int} {w : List L} {i : Nat} {l : L} {g : List Int} (h1 : w[i]? = some l) (h2 : (lotsA h w)[i]? = some g) : (saidA h w)[i]? = some (!decide (l.a ∈ g)) := by
  unfold saidA
  rw [List.getElem?_map, show (w.zip (lotsA h w))[i]? = some (l, g) from List.getElem?_zip_eq_some.mpr ⟨h1, h2⟩]; rfl
theorem lyA_eq : ∀ (w : List L) (h : List Int), lyA h w = ((w.zip (lotsA h w)).filter fun p => !decide (p.1.a ∈ p.2) && decide (p.1.b ∈ p.2)).map (·.1)
  | [], _ => rfl
  | l :: w, h => by
    rw [lyA, lotsA, List.zip_cons_cons, List.filter_cons, lyA_eq w]
    by_cases h1 : l.a ∈ h <;> by_cases h2 : l.b ∈ h <;> simp [h1, h2]
theorem zip_range (w : List L) (h : List Int) : w.zip (lotsA h w) = (List.range w.length).map fun i => (w.getD i ⟨0, 0, 0⟩, (lotsA h w).getD i []) := by
  refine List.ext_getElem (by simp [lotsA_len]) fun i h1 h2 => ?_
  simp only [List.length_zip, lotsA_len] at h1
  have h3 : i < (lotsA h w).length := by rw [lotsA_len]; omega
  have e1 : w[i]? = some w[i] := List.getElem?_eq_getElem (by omega)
  have e2 : (lotsA h w)[i]? = some (lotsA h w)[i] := List.getElem?_eq_getElem h3
  simp [List.getD_eq_getElem?_getD, e1, e2]
theorem saidA_range (w : List L) (h : List Int) : ((List.range w.length).map fun i => PyData.bool (!decide ((w.getD i ⟨0, 0, 0⟩).a ∈ (lotsA h w).getD i []))) = (saidA h w).map .bool := by
  unfold saidA
  rw [zip_range, List.map_map, List.map_map]; rfl
theorem lyA_range (w : List L) (h : List Int) : lyA h w = ((List.range w.length).filter fun i => !decide ((w.getD i ⟨0, 0, 0⟩).a ∈ (lotsA h w).getD i []) && decide ((w.getD i ⟨0, 0, 0⟩).b ∈ (lotsA h w).getD i [])).map fun i => w.getD i ⟨0, 0, 0⟩ := by
  rw [lyA_eq]
  rw [zip_range, List.filter_map, List.map_map]; rfl
theorem walk_right_eq {n : Int} (hn : n ≤ 6) {R : List (List Row)} (hR : WfR R) {p q : Nat} (hp : p < R.length) {h : List Int} (hh : HOk n h) {w : List L} (hw : ∀ l ∈ w, LOk n l) (hl : w.length ≤ 1000) (he : wEnd R p w = some q) :
    g_u_law_walk_right [bookM n R, .val (eRs R), .val (.int (p : Int)), .val (eH h), .val (eW w)] = some (.val (.bool true), [none, none, none, none, none]) := by
  refine of_Sat ?_
  have hl' : w.length ≤ 100000 := by omega
  have e1 := u_lots_eq hn hh hw hl'
  have hrg : rgOk 0 (w.length : Int) = true := rgOk_nat (by omega)
  unfold g_u_law_walk_right b_u_law_walk_right
  simp_arith [e1, hrg]
  refine Sat_lcM (fun i : Nat => .int (i : Int)) (fun i => .bool (!decide ((w.getD i ⟨0, 0, 0⟩).a ∈ (lotsA h w).getD i []))) (List.range w.length) (by unfold sizeLine; simp; omega) (fun i hi => ?_) ?_
  · have hi : i < w.length := by simpa using hi
    obtain ⟨l, h1⟩ : ∃ l, w[i]? = some l := ⟨_, List.getElem?_eq_getElem hi⟩
    obtain ⟨g, h2⟩ : ∃ g, (lotsA h w)[i]? = some g := ⟨_, List.getElem?_eq_getElem (by rw [lotsA_len]; omega)⟩
    simp_arith [at_W h1, at_E (e := eH) h2, cmp_ninH, List.getD_eq_getElem?_getD, h1, h2, Option.getD_some]
  rw [saidA_range]
  simp_arith [hrg]
  refine Sat_lcF (fun i : Nat => .int (i : Int)) (fun i => !decide ((w.getD i ⟨0, 0, 0⟩).a ∈ (lotsA h w).getD i []) && decide ((w.getD i ⟨0, 0, 0⟩).b ∈ (lotsA h w).getD i [])) (fun i => eL (w.getD i ⟨0, 0, 0⟩)) (List.range w.length) (by unfold sizeLine; simp; omega) (fun i hi => ?_) ?_
  · have hi : i < w.length := by simpa using hi
    obtain ⟨l, h1⟩ : ∃ l, w[i]? = some l := ⟨_, List.getElem?_eq_getElem hi⟩
    obtain ⟨g, h2⟩ : ∃ g, (lotsA h w)[i]? = some g := ⟨_, List.getElem?_eq_getElem (by rw [lotsA_len]; omega)⟩
    have h3 := saidA_get h1 h2
    by_cases ha : l.a ∈ g <;> by_cases hb : l.b ∈ g <;> simp_arith [at_W h1, at_E (e := eH) h2, at_E (e := PyData.bool) h3, cmp_inH, List.getD_eq_getElem?_getD, h1, h2, Option.getD_some, ha, hb]
  rw [show ((List.range w.length).filter fun i => !decide ((w.getD i ⟨0, 0, 0⟩).a ∈ (lotsA h w).getD i []) && decide ((w.getD i ⟨0, 0, 0⟩).b ∈ (lotsA h w).getD i [])).map (fun i => eL (w.getD i ⟨0, 0, 0⟩)) = (lyA h w).map eL by rw [lyA_range, List.map_map]; rfl]
  have e2 := walk_end_eq (n := n) hR hp he
  have e3 := u_end_eq hR (o := some p) (fun q hq => by cases hq; exact hp) w
  simp only [oI_some, Option.bind_some, he] at e3
  have e4 := same_sm (sm_int 0 (q : Int)) (by omega)
  have e5 := held_along_eq hn hh hw hl'
  have e6 : g_u_law_same 40 [.val (.tuple ((lotsA h w).map eH)), .val (.tuple ((lotsA h w).map eH))] = some (.val (.bool true), [none, none]) :=
    same_sm (sm_tupM (k := 1) (by rw [lotsA_len]; omega) fun g hg => sm_H 0 g (by have := (lotsA_ok hh hw g hg).len hn; omega)) (by omega)
  have e7 := said_in_eq hn hh hw hl'
  have e8 : g_u_law_same 40 [.val (.tuple ((saidA h w).map .bool)), .val (.tuple ((saidA h w).map .bool))] = some (.val (.bool true), [none, none]) :=
    same_sm (sm_tupM (k := 0) (by unfold saidA; simp; omega) fun g hg => .bool g) (by omega)
  have e9 := lying_eq hn hh hw hl'
  have e10 : g_u_law_same 40 [.val (.tuple ((lyA h w).map eL)), .val (.tuple ((lyA h w).map eL))] = some (.val (.bool true), [none, none]) :=
    same_sm (sm_tupM (k := 1) (by have := lyA_len w h; omega) fun g hg => sm_L 0 g) (by omega)
  have e11 := done_in_eq hn hh hw hl'
  obtain ⟨h', e12⟩ := u_done_eq hn hh hw hl'
  have e13 := same_sm (sm_doneT (w := w) (h := h) hl') (by omega)
  have e9' : g_lying_in [.val (eH h), .val (eW w)] = some (.val (.tuple ((lyA h w).map eL)), [none, none]) := e9
  simp_arith [isP_bookM, e2, e3, e4, e5, e6, e7, e8, e9', e10, e11, e12, e13]

def RowsOk (n : Int) (R : List (List Row)) : Prop := ∀ r ∈ R, ∀ x ∈ r, LOk n x.1 ∧ x.2 < R.length
theorem RowsOk.wf {n : Int} {R : List (List Row)} (h : RowsOk n R) : WfR R := fun r hr x hx => (h r hr x hx).2
def sx (s : Stg) (x : Row) : Stg := ⟨x.2, behind s.h x.1⟩
def succS (R : List (List Row)) (s : Stg) : List Stg := (R.getD s.p []).map (sx s)
def SOk (n : Int) (R : List (List Row)) (s : Stg) : Prop := s.p < R.length ∧ HOk n s.h
theorem succS_ok {n : Int} {R : List (List Row)} (hR : RowsOk n R) {s : Stg} (h : SOk n R s) : ∀ y ∈ succS R s, SOk n R y := by
  intro y hy
  obtain ⟨x, hx, rfl⟩ := List.mem_map.mp hy
  obtain ⟨r, hr⟩ : ∃ r, R[s.p]? = some r := ⟨_, List.getElem?_eq_getElem h.1⟩
  rw [getD_of hr] at hx
  obtain ⟨h1, h2⟩ := hR _ (List.mem_of_getElem? hr) x hx
  exact ⟨h2, h.2.behind h1⟩
def allS (m : Nat) : List Stg := (List.range m).flatMap fun p => (subs [0, 1, 2, 3, 4, 5]).map fun h => ⟨p, h⟩
theorem allS_len (m : Nat) : (allS m).length = m * 64 := by
  unfold allS
  induction m with
  | zero => rfl
  | succ m ih => rw [List.range_succ, List.flatMap_append, List.length_append, ih]; simp [subs_len]; omega
theorem mem_allS {n : Int} (hn : n ≤ 6) {R : List (List Row)} {s : Stg} (h : SOk n R s) : s ∈ allS R.length := by
  unfold allS
  rw [List.mem_flatMap]
  refine ⟨s.p, List.mem_range.mpr h.1, List.mem_map.mpr ⟨s.h, mem_subs _ _ (by simp) h.2.1 (fun a ha => ?_), rfl⟩⟩
  have := h.2.2 a ha
  simp; omega
theorem stages_len {n : Int} (hn : n ≤ 6) {R : List (List Row)} (hR : RowsOk n R) {s : Stg} (h : SOk n R s) (t : Nat) : (bfsT (succS R) s t).length ≤ R.length * 64 := by
  have h1 : ∀ x ∈ bfsT (succS R) s t, SOk n R x := bfsT_all _ _ (P := SOk n R) h (fun x hx => succS_ok hR hx) t
  have := nodup_len (bfsT_nodup (succS R) s t) (fun a ha => mem_allS hn (h1 a ha))
  rw [allS_len] at this
  exact this
def knS (F : List Stg) : List (PyData × M) := F.map fun s => (eS s, M.val (.bool true))
theorem knS_in (F : List Stg) (a : Stg) : (dget true (knS F) (eS a)).isSome = decide (a ∈ F) := dget_isSome eS (fun _ => M.val (.bool true)) keq_S a F
theorem knS_put {F : List Stg} {a : Stg} (h : a ∉ F) : dput true (knS F) (eS a) (.val (.bool true)) = knS (F ++ [a]) := by
  unfold knS
  rw [dput_new eS (fun _ => M.val (.bool true)) keq_S h, List.map_append]; rfl
theorem knS_len (F : List Stg) : (knS F).length = F.length := by unfold knS; simp
theorem tupS (p : Nat) (h : List Int) : PyData.tuple [.int (p : Int), eH h] = eS ⟨p, h⟩ := rfl
theorem u_stages_eq {n : Int} (hn : n ≤ 6) {R : List (List Row)} (hR : RowsOk n R) (hl : R.length ≤ 200) {s : Stg} (h : SOk n R s) : g_u_law_stages [.val (eRs R), .val (eS s)] = some (.lst (((bfsT (succS R) s (R.length * 64)).map eS).map .val), [none, none]) := by
  refine of_Sat ?_
  unfold g_u_law_stages b_u_law_stages
  have hrg : rgOk 0 ((R.length : Int) * 64) = true := by
    have := rgOk_nat (n := R.length * 64) (by omega)
    simpa using this
  have hrd : rgD 0 ((R.length : Int) * 64) = (List.range (R.length * 64)).map fun i => .int (i : Nat) := by
    have := rgD_nat (R.length * 64)
    simpa using this
  simp_arith [hrg, hrd, mulOk_r, List.length_nil, show dput true [] (eS s) (.val (.bool true)) = knS [s] from rfl]
  refine ⟨mulOk_r (by decide), ?_⟩
  refine Sat_forV (fun i : Nat => PyData.int (i : Int)) (fun xs ρ => ∃ t x5 x6 x7 x8 x9 x10, xs = List.range' t (R.length * 64 - t) ∧ t ≤ R.length * 64 ∧ ρ = [some (.val (eRs R)), some (.val (eS s)), some (.lst (((bfsT (succS R) s t).map eS).map .val)), some (.dct true (knS (bfsT (succS R) s t))), x5, x6, x7, x8, x9, x10]) ⟨0, _, _, _, _, _, _, by rw [List.range_eq_range']; rfl, by omega, rfl⟩ ?_ ?_
  · rintro ρ ⟨t, x5, x6, x7, x8, x9, x10, h1, h2, rfl⟩
    have : t = R.length * 64 := by
      have := congrArg List.length h1
      simp at this; omega
    subst this
    simp_arith []
  · rintro x xs ρ ⟨t, x5, x6, x7, x8, x9, x10, h1, h2, rfl⟩
    have hlt : t < R.length * 64 := by
      have := congrArg List.length h1
      simp at this; omega
    rw [show R.length * 64 - t = (R.length * 64 - (t + 1)) + 1 by omega, List.range'_succ, List.cons.injEq] at h1
    obtain ⟨rfl, rfl⟩ := h1
    by_cases hx : x < (bfsT (succS R) s x).length
    · obtain ⟨y, hy⟩ : ∃ y, (bfsT (succS R) s x)[x]? = some y := ⟨_, List.getElem?_eq_getElem hx⟩
      have hyok : SOk n R y := bfsT_all _ _ (P := SOk n R) h (fun x hx => succS_ok hR hx) x y (List.mem_of_getElem? hy)
      obtain ⟨r, hr⟩ : ∃ r, R[y.p]? = some r := ⟨_, List.getElem?_eq_getElem hyok.1⟩
      have hx' : (x : Int) < ((((bfsT (succS R) s x).map eS).map M.val).length : Int) := by rw [len2]; omega
      simp_arith [hx', atI_nat, List.getElem?_map, hy, at_Rs hr]
      have hrr : ∀ z ∈ r, LOk n z.1 := fun z hz => (hR r (List.mem_of_getElem? hr) z hz).1
      have hyl := hyok.2.len hn
      have hT : bfsT (succS R) s (x + 1) = addN (bfsT (succS R) s x) (r.map (sx y)) := by
        rw [bfsT_succ _ _ hy, succS, getD_of hr]
      refine Sat_forV eRow (fun ys ρ => ∃ F x7 x8 x9, ρ = [some (M.val (eRs R)), some (M.val (eS s)), some (M.lst (List.map M.val (List.map eS F))), some (M.dct true (knS F)), some (M.val (PyData.int ↑x)), some (M.val (PyData.int ↑y.p)), some (M.val (eH y.h)), x7, x8, x9] ∧ F.Nodup ∧ addN F (ys.map (sx y)) = bfsT (succS R) s (x + 1) ∧ (∀ z ∈ ys, LOk n z.1)) ⟨_, _, _, _, rfl, bfsT_nodup _ _ _, hT.symm, hrr⟩ ?_ ?_
      · rintro ρ ⟨F, x7, x8, x9, rfl, h3, h4, h5⟩
        rw [List.map_nil, addN_nil] at h4
        subst h4
        simp_arith []
        exact ⟨x + 1, _, _, _, _, _, _, rfl, hlt, rfl⟩
      · rintro z ys ρ ⟨F, x7, x8, x9, rfl, h3, h4, h5⟩
        have hz := h5 z List.mem_cons_self
        have hFl : F.length ≤ R.length * 64 := by
          have := stages_len hn hR h (x + 1)
          rw [← h4] at this
          obtain ⟨_, _, g, h6, _⟩ := addN_spec ((z :: ys).map (sx y)) F h3
          rw [h6, List.length_append] at this; omega
        have hb := u_behind_eq (h := y.h) z.1 (by omega)
        have hFl1 : (knS F).length < 16777216 := by rw [knS_len]; omega
        have hFl2 : ((F.map eS).map M.val).length < 16777216 := by rw [len2]; omega
        rw [List.map_cons, addN_cons] at h4
        have h5' : ∀ w ∈ ys, LOk n w.1 := fun w hw => h5 w (List.mem_cons_of_mem _ hw)
        by_cases hm : sx y z ∈ F
        · rw [if_pos hm] at h4
          simp_arith [hb, tupS, knS_in, show (⟨z.2, behind y.h z.1⟩ : Stg) ∈ F from hm]
          exact ⟨F, _, _, _, rfl, h3, h4, h5'⟩
        · rw [if_neg hm] at h4
          have hm' : (⟨z.2, behind y.h z.1⟩ : Stg) ∉ F := hm
          simp_arith [hb, tupS, knS_in, hm', knS_put hm', hFl1, hFl2, snoc2]
          exact ⟨F ++ [sx y z], _, _, _, rfl, by rw [List.nodup_append]; exact ⟨h3, by simp, fun a ha c hc => by rw [List.mem_singleton] at hc; subst hc; rintro rfl; exact hm ha⟩, h4, h5'⟩
    · have hx' : ¬ (x : Int) < ((((bfsT (succS R) s x).map eS).map M.val).length : Int) := by rw [len2]; omega
      simp_arith [hx']
      exact ⟨x + 1, _, _, _, _, _, _, rfl, hlt, by rw [bfsT_stop _ _ (by omega)]⟩

theorem stages_from_eq {n : Int} (hn : n ≤ 6) {R : List (List Row)} (hR : RowsOk n R) (hl : R.length ≤ 200) {s : Stg} (h : SOk n R s) : g_stages_from [bookM n R, .val (eS s)] = some (.val (.tuple ((lotS (bfsT (succS R) s (R.length * 64))).map eS)), [none, none]) := by
  refine of_Sat ?_
  unfold g_stages_from b_stages_from
  simp_arith []
  refine Sat_while (fun m ρ => ∃ t x5 x6 x7 x8 x9, m = R.length * 64 - t ∧ t ≤ R.length * 64 ∧ ρ = [some (bookM n R), some (.val (eS s)), some (.dct true (knS (bfsT (succS R) s t))), some (.lst (((bfsT (succS R) s t).map eS).map .val)), some (.val (.int ((t : Nat) : Int))), x5, x6, x7, x8, x9]) ?_ (n := R.length * 64) (by unfold wFuel; omega) ⟨0, _, _, _, _, _, rfl, by omega, rfl⟩
  rintro m ρ ⟨t, x5, x6, x7, x8, x9, rfl, h2, rfl⟩
  by_cases hx : t < (bfsT (succS R) s t).length
  · obtain ⟨y, hy⟩ : ∃ y, (bfsT (succS R) s t)[t]? = some y := ⟨_, List.getElem?_eq_getElem hx⟩
    have hlt : t < R.length * 64 := by have := stages_len hn hR h t; omega
    have hyok : SOk n R y := bfsT_all _ _ (P := SOk n R) h (fun x hx => succS_ok hR hx) t y (List.mem_of_getElem? hy)
    obtain ⟨r, hr⟩ : ∃ r, R[y.p]? = some r := ⟨_, List.getElem?_eq_getElem hyok.1⟩
    have hx' : (t : Int) < ((((bfsT (succS R) s t).map eS).map M.val).length : Int) := by rw [len2]; omega
    simp_arith [hx', atI_nat, List.getElem?_map, hy, at_Rs hr, at1_rows]
    have hrr : ∀ z ∈ r, LOk n z.1 := fun z hz => (hR r (List.mem_of_getElem? hr) z hz).1
    have hyl := hyok.2.len hn
    have hT : bfsT (succS R) s (t + 1) = addN (bfsT (succS R) s t) (r.map (sx y)) := by
      rw [bfsT_succ _ _ hy, succS, getD_of hr]
    refine Sat_forV eRow (fun ys ρ => ∃ F x7 x8 x9, ρ = [some (bookM n R), some (M.val (eS s)), some (M.dct true (knS F)), some (M.lst (List.map M.val (List.map eS F))), some (M.val (PyData.int ↑t)), some (M.val (PyData.int ↑y.p)), some (M.val (eH y.h)), x7, x8, x9] ∧ F.Nodup ∧ addN F (ys.map (sx y)) = bfsT (succS R) s (t + 1) ∧ (∀ z ∈ ys, LOk n z.1)) ⟨_, _, _, _, rfl, bfsT_nodup _ _ _, hT.symm, hrr⟩ ?_ ?_
    · rintro ρ ⟨F, x7, x8, x9, rfl, h3, h4, h5⟩
      rw [List.map_nil, addN_nil] at h4
      subst h4
      simp_arith []
      exact ⟨R.length * 64 - (t + 1), by omega, t + 1, _, _, _, _, _, rfl, hlt, rfl⟩
    · rintro z ys ρ ⟨F, x7, x8, x9, rfl, h3, h4, h5⟩
      have hz := h5 z List.mem_cons_self
      have hFl : F.length ≤ R.length * 64 := by
        have := stages_len hn hR h (t + 1)
        rw [← h4] at this
        obtain ⟨_, _, g, h6, _⟩ := addN_spec ((z :: ys).map (sx y)) F h3
        rw [h6, List.length_append] at this; omega
      have hb := held_behind_eq (h := y.h) z.1 (by omega)
      have hFl1 : (knS F).length < 16777216 := by rw [knS_len]; omega
      have hFl2 : ((F.map eS).map M.val).length < 16777216 := by rw [len2]; omega
      rw [List.map_cons, addN_cons] at h4
      have h5' : ∀ w ∈ ys, LOk n w.1 := fun w hw => h5 w (List.mem_cons_of_mem _ hw)
      by_cases hm : sx y z ∈ F
      · rw [if_pos hm] at h4
        simp_arith [hb, tupS, knS_in, show (⟨z.2, behind y.h z.1⟩ : Stg) ∈ F from hm]
        exact ⟨F, _, _, _, rfl, h3, h4, h5'⟩
      · rw [if_neg hm] at h4
        have hm' : (⟨z.2, behind y.h z.1⟩ : Stg) ∉ F := hm
        simp_arith [hb, tupS, knS_in, hm', knS_put hm', hFl1, hFl2, snoc2]
        exact ⟨F ++ [sx y z], _, _, _, rfl, by rw [List.nodup_append]; exact ⟨h3, by simp, fun a ha c hc => by rw [List.mem_singleton] at hc; subst hc; rintro rfl; exact hm ha⟩, h4, h5'⟩
  · have hx' : ¬ (t : Int) < ((((bfsT (succS R) s t).map eS).map M.val).length : Int) := by rw [len2]; omega
    have hT : bfsT (succS R) s (R.length * 64) = bfsT (succS R) s t := by
      have := bfsT_stops (succS R) s (t := t) (by omega) (R.length * 64 - t)
      rwa [show t + (R.length * 64 - t) = R.length * 64 by omega] at this
    have hle := stages_len hn hR h t
    simp_arith [hx', lot_of_S (bfsT (succS R) s t) (by omega), hT]
/-- the stage behind a row -/
def stBeh (R : List (List Row)) (s : Stg) (l : L) : PyData := match far (R.getD s.p []) l with
  | none => .none
  | some q => eS ⟨q, behind s.h l⟩
theorem stage_behind_eq {n : Int} (hn : n ≤ 6) {R : List (List Row)} {s : Stg} (h : SOk n R s) (l : L) : g_stage_behind [bookM n R, .val (eS s), .val (eL l)] = some (.val (stBeh R s l), [none, none, none]) := by
  refine of_Sat ?_
  obtain ⟨r, hr⟩ : ∃ r, R[s.p]? = some r := ⟨_, List.getElem?_eq_getElem h.1⟩
  unfold g_stage_behind b_stage_behind stBeh
  rw [getD_of hr]
  have := h.2.len hn
  cases hf : far r l with
  | none => simp_arith [isP_bookM, next_place_eq hr, hf, oI_none]
  | some q => simp_arith [isP_bookM, next_place_eq hr, hf, oI_some, held_behind_eq l (show s.h.length ≤ 1000 by omega), tupS]
theorem sm_stBeh {n : Int} (hn : n ≤ 6) {R : List (List Row)} {s : Stg} (h : SOk n R s) {l : L} (hl : s.h.length ≤ 1000) : Sm 2 (stBeh R s l) := by
  unfold stBeh
  split
  · exact .none
  · refine sm_S 0 _ ?_
    show (behind s.h l).length ≤ 1000000
    unfold behind
    split
    · have := nodup_len (xs := lotI (s.h ++ [l.b])) (ys := s.h ++ [l.b]) ((lotI_spec _).1.imp fun h => by omega) (fun a ha => ((lotI_spec _).2 a).mp ha)
      simp at this; omega
    · omega
theorem lotS_len (xs : List Stg) : (lotS xs).length ≤ xs.length := by
  unfold lotS
  have := ddp_len (srtE eS xs)
  unfold srtE at this ⊢
  rwa [List.length_mergeSort] at this
theorem lotS_mem {xs : List Stg} {a : Stg} (h : a ∈ lotS xs) : a ∈ xs := by
  have := ddp_mem h
  unfold srtE at this
  rwa [List.mem_mergeSort] at this
theorem stages_right_eq {n : Int} (hn : n ≤ 6) {R : List (List Row)} (hR : RowsOk n R) (hl : R.length ≤ 200) {s : Stg} (h : SOk n R s) (ls : List L) : g_u_law_stages_right [bookM n R, .val (eRs R), .val (.list (ls.map eL)), .val (eS s)] = some (.val (.bool true), [none, none, none, none]) := by
  refine of_Sat ?_
  unfold g_u_law_stages_right b_u_law_stages_right
  simp_arith []
  obtain ⟨r, hr⟩ : ∃ r, R[s.p]? = some r := ⟨_, List.getElem?_eq_getElem h.1⟩
  have hlen := h.2.len hn
  refine Sat_forV eL (fun xs ρ => ∃ x6 x7 x8, ρ = [some (bookM n R), some (.val (eRs R)), some (.val (.list (ls.map eL))), some (.val (eS s)), some (.val (.int (s.p : Int))), some (.val (eH s.h)), x6, x7, x8]) ⟨_, _, _, rfl⟩ ?_ ?_
  · rintro ρ ⟨x6, x7, x8, rfl⟩
    have hle := stages_len hn hR h (R.length * 64)
    have e1 := same_sm (d := .tuple ((lotS (bfsT (succS R) s (R.length * 64))).map eS)) (sm_tupM (k := 2) (by
        have := lotS_len (bfsT (succS R) s (R.length * 64))
        omega) (fun y hy => sm_S 0 y (by
          have h1 := bfsT_all _ _ (P := SOk n R) h (fun x hx => succS_ok hR hx) _ y (lotS_mem hy)
          have := h1.2.len hn
          omega))) (by omega)
    simp_arith [isP_bookM, stages_from_eq hn hR hl h, u_stages_eq hn hR hl h, u_lot_S (bfsT (succS R) s (R.length * 64)) (by omega), e1]
  · rintro l xs ρ ⟨x6, x7, x8, rfl⟩
    have e2 := stage_behind_eq hn h l
    have e3 := same_sm (sm_stBeh hn h (l := l) (by omega)) (by omega)
    unfold stBeh at e2 e3
    rw [getD_of hr] at e2 e3
    cases hf : far r l with
    | none =>
      rw [hf] at e2 e3
      simp_arith [isP_bookM, u_far_eq hr, hf, oI_none, e2, e3]
      exact ⟨_, _, _, rfl⟩
    | some q =>
      rw [hf] at e2 e3
      simp_arith [isP_bookM, u_far_eq hr, hf, oI_some, e2, e3, u_behind_eq l (show s.h.length ≤ 1000 by omega), tupS]
      exact ⟨_, _, _, rfl⟩

def ltL (a b : L) : Bool := PySem.W.dataLt (eL a) (eL b)
theorem toks_L (l : L) : PySem.W.keyToks (eL l) = [.inl 1, .inl l.a, .inl 1, .inl l.b, .inl 1, .inl l.w, .inl 0] := by
  simp [eL, PySem.W.keyToks, PySem.W.keyToksAll]
theorem ltL_total {a b : L} (h1 : ltL a b = false) (h2 : ltL b a = false) : a = b := by
  have := PyProof.Rows.lex_total (O := PyProof.Rows.itemOrd) _ _ h1 h2
  rw [toks_L, toks_L] at this
  cases a; cases b
  simp at this
  simp [this]
theorem srtL_lt {xs : List L} (h : xs.Nodup) : (srtE eL xs).Pairwise fun a b => ltL a b = true := by
  have hp := PySem.W.sort_pairwise (PySem.W.sortLe_total (PyProof.Rows.listOrd PyProof.Rows.itemOrd) false fun a : L => PySem.W.keyToks (eL a)) xs
  have hp' : (srtE eL xs).Pairwise fun a b => (!ltL b a) = true := hp
  have hn : (srtE eL xs).Nodup := (List.Perm.nodup_iff (List.mergeSort_perm _ _)).mpr h
  refine (hp'.and hn).imp fun {a b} hab => ?_
  obtain ⟨h1, h2⟩ := hab
  rw [Bool.not_eq_true'] at h1
  cases h3 : ltL a b with
  | true => rfl
  | false => exact absurd (ltL_total h3 h1) h2
theorem ordOk_L (a b : L) : ordOk (eL a) (eL b) = true := by
  show (PySem.W.alike _ _ && true && decide ((eL a).depth ≤ 64)) = true
  rw [alike_L, decide_eq_true (by have := (lay_L a).2; omega)]; rfl
theorem cmp_ltL (a b : L) : cmpB .lt (eL a) (eL b) = some (ltL a b) := by
  show okB (ordOk _ _) _ = _
  rw [ordOk_L]; rfl
theorem max_2 (a b : Int) : biMM true [.tuple [.int a, .int b]] = some (.val (.int (if a < b then b else a))) := by
  have h1 : mmOk [.int a, .int b] = true := by
    unfold mmOk allAlike
    simp only [List.all_cons, List.all_nil, PySem.W.alike, Bool.and_true, Bool.true_and]
    rw [Bool.and_eq_true]
    exact ⟨shp_list fun d hd => by
      simp only [List.mem_cons, List.not_mem_nil, or_false] at hd
      rcases hd with rfl | rfl <;> exact ⟨by rw [PyData.canLay0], by rw [PyData.depth]; omega⟩, by simp [PyData.depthAll, PyData.depth]⟩
  show (if mmOk [.int a, .int b] = true then some (M.val (PySem.W.maxD (.int a) [.int b])) else none) = _
  rw [if_pos h1]
  unfold PySem.W.maxD
  rw [List.foldl_cons, List.foldl_nil, PySem.W.dataLt_int]
  by_cases h : a < b <;> simp [h]
/-- a right letter -/
def LetOk (n : Int) (l : L) : Prop := LOk n l ∧ l.a ≠ l.b ∧ l.w < 100
theorem is_letter_eq {n : Int} {l : L} (h : LetOk n l) : g_is_letter [.val (eL l), .val (.int n)] = some (.val (.bool true), [none, none]) := by
  refine of_Sat ?_
  obtain ⟨⟨h1, h2, h3, h4, h5⟩, h6, h7⟩ := h
  unfold g_is_letter b_is_letter
  obtain ⟨ds, hds⟩ : ∃ ds, ds = [PyData.int l.a, .int l.b, .int l.w] := ⟨_, rfl⟩
  have hi : itemsM (.val (eL l)) = some (ds.map .val) := by rw [hds]; rfl
  have e : (ds.all isNum) = true := by rw [hds]; simp [isNum, h1, h3, h5]
  have hl : ds.length ≤ 16777216 := by rw [hds]; simp
  simp_arith [hi]
  refine Sat_lcD (fun d => .bool (isNum d)) ds hl (fun d _ => ?_) ?_
  · simp_arith [is_number_eq]
  · have hm : (if l.a < l.b then l.b else l.a) < n := by split <;> omega
    simp_arith [e, h6, show slM (eL l) none (some 2) = some (.val (.tuple [.int l.a, .int l.b])) by rw [eL, slM_t, cutP_2]; rfl, max_2, hm, h7]
def RowOk (n : Int) (m : Nat) (x : Row) : Prop := LetOk n x.1 ∧ x.2 < m
theorem isNum_nat (m : Nat) : isNum (.int (m : Int)) = true := by simp [isNum]
theorem is_row_eq {n : Int} {m : Nat} {x : Row} (h : RowOk n m x) : g_is_row [.val (eRow x), .val (.int n), .val (.int (m : Int))] = some (.val (.bool true), [none, none, none]) := by
  refine of_Sat ?_
  have h2 : ((x.2 : Nat) : Int) < (m : Int) := by have := h.2; omega
  unfold g_is_row b_is_row
  simp_arith [is_letter_eq h.1, is_number_eq, isNum_nat, h2]
/-- right rows of a place -/
structure PlOk (n : Int) (m : Nat) (r : List Row) : Prop where
  ok : ∀ x ∈ r, RowOk n m x
  up : r.Pairwise fun x y => ltL x.1 y.1 = true
  sp : ∀ x ∈ r, ∀ y ∈ r, x.1.a = y.1.a
theorem are_rows_eq {n : Int} {m : Nat} {r : List Row} (h : PlOk n m r) (hl : r.length ≤ 1000) : g_are_rows [.val (eR r), .val (.int n), .val (.int (m : Int))] = some (.val (.bool true), [none, none, none]) := by
  refine of_Sat ?_
  unfold g_are_rows b_are_rows
  have hrg : rgOk 1 (r.length : Int) = true := by
    unfold rgOk
    refine decide_eq_true ⟨by decide, by decide, by omega, by omega, by omega⟩
  have hrd : rgD 1 (r.length : Int) = (List.range (r.length - 1)).map fun i => .int (1 + (i : Nat)) := by
    unfold rgD
    rw [show ((r.length : Int) - 1).toNat = r.length - 1 by omega]
  simp_arith []
  refine Sat_lcM eRow (fun _ => .bool true) r (by unfold sizeLine; omega) (fun x hx => ?_) ?_
  · simp_arith [is_row_eq (h.ok x hx)]
  rw [show (r.map fun _ => PyData.bool true) = (r.map fun x => PyData.bool ((fun _ => true) x)) from rfl]
  simp_arith [show (r.all fun _ => true) = true by simp, hrg, hrd]
  refine Sat_lcM (fun i : Nat => .int (1 + (i : Int))) (fun _ => .bool true) (List.range (r.length - 1)) (by unfold sizeLine; simp; omega) (fun i hi => ?_) ?_
  · have hi : i + 1 < r.length := by have := List.mem_range.mp hi; omega
    have e1 : r[i]? = some r[i] := List.getElem?_eq_getElem (by omega)
    have e2 : r[i + 1]? = some r[i + 1] := List.getElem?_eq_getElem hi
    have e3 : ltL r[i].1 r[i + 1].1 = true := List.pairwise_iff_getElem.mp h.up i (i + 1) (by omega) hi (by omega)
    have hA : at2 (.val (eR r)) (.int (1 + (i : Int) - 1)) = some (.val (eRow r[i])) := by
      rw [show (1 + (i : Int) - 1) = (i : Int) by omega]; exact at_R e1
    have hB : at2 (.val (eR r)) (.int (1 + (i : Int))) = some (.val (eRow r[i + 1])) := by
      rw [show (1 + (i : Int)) = ((i + 1 : Nat) : Int) by omega]; exact at_R e2
    simp_arith [hA, hB, cmp_ltL, e3]
  rw [show ((List.range (r.length - 1)).map fun _ => PyData.bool true) = ((List.range (r.length - 1)).map fun x => PyData.bool ((fun _ => true) x)) from rfl]
  simp_arith [show ((List.range (r.length - 1)).all fun _ => true) = true by simp]
  refine Sat_lcM eRow (fun _ => .bool true) r (by unfold sizeLine; omega) (fun x hx => ?_) ?_
  · obtain ⟨y, hy⟩ : ∃ y, r[0]? = some y := ⟨_, List.getElem?_eq_getElem (List.length_pos_of_mem hx)⟩
    have e := h.sp x hx y (List.mem_of_getElem? hy)
    simp_arith [show at2 (.val (eR r)) (.int 0) = _ from at_R hy, e]
  rw [show (r.map fun _ => PyData.bool true) = (r.map fun x => PyData.bool ((fun _ => true) x)) from rfl]
  simp_arith [show (r.all fun _ => true) = true by simp]
/-! places come to -/
def succP (R : List (List Row)) (hs : List Int) (p : Nat) : List Nat := ((R.getD p []).filter fun x => !decide (x.1.a ∈ hs) && !decide (x.1.b ∈ hs)).map (·.2)
def eN (p : Nat) : PyData := .int (p : Int)
def knI (F : List Nat) : List (PyData × M) := F.map fun p => (eN p, M.val (.bool true))
theorem knI_in (F : List Nat) (a : Nat) : (dget false (knI F) (.int (a : Int))).isSome = decide (a ∈ F) := dget_isSome eN (fun _ => M.val (.bool true)) keq_I a F
theorem knI_put {F : List Nat} {a : Nat} (h : a ∉ F) : dput false (knI F) (.int (a : Int)) (.val (.bool true)) = knI (F ++ [a]) := by
  unfold knI
  rw [show PyData.int (a : Int) = eN a from rfl, dput_new eN (fun _ => M.val (.bool true)) keq_I h, List.map_append]; rfl
theorem knI_len (F : List Nat) : (knI F).length = F.length := by unfold knI; simp
theorem snocN (F : List Nat) (p : Nat) : (F.map eN).map M.val ++ [.val (.int (p : Int))] = ((F ++ [p]).map eN).map .val := by simp [eN]
theorem succP_lt {R : List (List Row)} (hR : WfR R) (hs : List Int) {p : Nat} (hp : p < R.length) : ∀ y ∈ succP R hs p, y < R.length := by
  intro y hy
  obtain ⟨x, hx, rfl⟩ := List.mem_map.mp hy
  obtain ⟨r, hr⟩ : ∃ r, R[p]? = some r := ⟨_, List.getElem?_eq_getElem hp⟩
  rw [getD_of hr] at hx
  exact hR _ (List.mem_of_getElem? hr) x (List.mem_filter.mp hx).1
theorem comes_len {R : List (List Row)} (hR : WfR R) (hs : List Int) {p : Nat} (hp : p < R.length) (t : Nat) : (bfsT (succP R hs) p t).length ≤ R.length := by
  have h1 : ∀ x ∈ bfsT (succP R hs) p t, x < R.length := bfsT_all _ _ (P := (· < R.length)) hp (fun x hx => succP_lt hR hs hx) t
  have := nodup_len (ys := List.range R.length) (bfsT_nodup (succP R hs) p t) (fun a ha => List.mem_range.mpr (h1 a ha))
  simpa using this
theorem come_to_eq {R : List (List Row)} (hR : WfR R) (hl : R.length ≤ 1000) (hs : List Int) {p : Nat} (hp : p < R.length) : g_come_to [.val (eRs R), .val (.int (p : Int)), .val (eH hs)] = some (.lst (((bfsT (succP R hs) p R.length).map eN).map .val), [none, none, none]) := by
  refine of_Sat ?_
  unfold g_come_to b_come_to
  simp_arith []
  refine Sat_while (fun m ρ => ∃ t x6 x7, m = R.length - t ∧ t ≤ R.length ∧ ρ = [some (.val (eRs R)), some (.val (.int (p : Int))), some (.val (eH hs)), some (.lst (((bfsT (succP R hs) p t).map eN).map .val)), some (.dct false (knI (bfsT (succP R hs) p t))), some (.val (.int ((t : Nat) : Int))), x6, x7]) ?_ (n := R.length) (by unfold wFuel; omega) ⟨0, _, _, rfl, by omega, rfl⟩
  rintro m ρ ⟨t, x6, x7, rfl, h2, rfl⟩
  by_cases hx : t < (bfsT (succP R hs) p t).length
  · obtain ⟨y, hy⟩ : ∃ y, (bfsT (succP R hs) p t)[t]? = some y := ⟨_, List.getElem?_eq_getElem hx⟩
    have hlt : t < R.length := by have := comes_len hR hs hp t; omega
    have hyok : y < R.length := bfsT_all _ _ (P := (· < R.length)) hp (fun x hx => succP_lt hR hs hx) t y (List.mem_of_getElem? hy)
    obtain ⟨r, hr⟩ : ∃ r, R[y]? = some r := ⟨_, List.getElem?_eq_getElem hyok⟩
    have hx' : (t : Int) < ((((bfsT (succP R hs) p t).map eN).map M.val).length : Int) := by rw [len2]; omega
    simp_arith [hx', atI_nat, List.getElem?_map, hy, eN, at_Rs hr]
    have hrr : ∀ z ∈ r, z.2 < R.length := fun z hz => hR r (List.mem_of_getElem? hr) z hz
    have hT : bfsT (succP R hs) p (t + 1) = addN (bfsT (succP R hs) p t) ((r.filter fun x => !decide (x.1.a ∈ hs) && !decide (x.1.b ∈ hs)).map (·.2)) := by
      rw [bfsT_succ _ _ hy, succP, getD_of hr]
    refine Sat_forV eRow (fun ys ρ => ∃ F x6 x7, ρ = [some (.val (eRs R)), some (.val (.int (p : Int))), some (.val (eH hs)), some (M.lst (List.map M.val (List.map eN F))), some (M.dct false (knI F)), some (M.val (PyData.int ↑t)), x6, x7] ∧ F.Nodup ∧ addN F ((ys.filter fun x => !decide (x.1.a ∈ hs) && !decide (x.1.b ∈ hs)).map (·.2)) = bfsT (succP R hs) p (t + 1)) ⟨_, _, _, rfl, bfsT_nodup _ _ _, hT.symm⟩ ?_ ?_
    · rintro ρ ⟨F, x6, x7, rfl, h3, h4⟩
      rw [List.filter_nil, List.map_nil, addN_nil] at h4
      subst h4
      simp_arith []
      exact ⟨R.length - (t + 1), by omega, t + 1, _, _, rfl, hlt, rfl⟩
    · rintro z ys ρ ⟨F, x6, x7, rfl, h3, h4⟩
      have hFl : F.length ≤ R.length := by
        have := comes_len hR hs hp (t + 1)
        rw [← h4] at this
        obtain ⟨_, _, g, h6, _⟩ := addN_spec (((z :: ys).filter fun x => !decide (x.1.a ∈ hs) && !decide (x.1.b ∈ hs)).map (·.2)) F h3
        rw [h6, List.length_append] at this; omega
      have hFl1 : (knI F).length < 16777216 := by rw [knI_len]; omega
      have hFl2 : ((F.map eN).map M.val).length < 16777216 := by rw [len2]; omega
      rw [List.filter_cons] at h4
      by_cases ha : z.1.a ∈ hs
      · rw [if_neg (by simp [ha])] at h4
        by_cases hm : z.2 ∈ F <;> simp_arith [knI_in, hm, cmp_ninH, ha] <;> exact ⟨F, _, _, rfl, h3, h4⟩
      · by_cases hb : z.1.b ∈ hs
        · rw [if_neg (by simp [hb])] at h4
          by_cases hm : z.2 ∈ F <;> simp_arith [knI_in, hm, cmp_ninH, ha, hb] <;> exact ⟨F, _, _, rfl, h3, h4⟩
        · rw [if_pos (by simp [ha, hb]), List.map_cons, addN_cons] at h4
          by_cases hm : z.2 ∈ F
          · rw [if_pos hm] at h4
            simp_arith [knI_in, hm]
            exact ⟨F, _, _, rfl, h3, h4⟩
          · rw [if_neg hm] at h4
            simp_arith [knI_in, hm, cmp_ninH, ha, hb, knI_put hm, hFl1, hFl2, snocN]
            exact ⟨F ++ [z.2], _, _, rfl, by rw [List.nodup_append]; exact ⟨h3, by simp, fun a ha c hc => by rw [List.mem_singleton] at hc; subst hc; rintro rfl; exact hm ha⟩, h4⟩
  · have hx' : ¬ (t : Int) < ((((bfsT (succP R hs) p t).map eN).map M.val).length : Int) := by rw [len2]; omega
    have hT : bfsT (succP R hs) p R.length = bfsT (succP R hs) p t := by
      have := bfsT_stops (succP R hs) p (t := t) (by omega) (R.length - t)
      rwa [show t + (R.length - t) = R.length by omega] at this
    simp_arith [hx', hT]
/-- right rows of a book -/
structure BkOk (n : Int) (R : List (List Row)) : Prop where
  n2 : 2 ≤ n
  n6 : n ≤ 6
  pos : 0 < R.length
  len : R.length ≤ 200
  pl : ∀ r ∈ R, PlOk n R.length r
  few : ∀ r ∈ R, r.length ≤ 1000
  sum : (R.map fun r => (r.length : Int)).sum ≤ 600
  from_ : ∀ j, 0 < j → j < R.length → ∃ i r x, i < j ∧ R[i]? = some r ∧ x ∈ r ∧ x.2 = j
theorem BkOk.rows {n : Int} {R : List (List Row)} (h : BkOk n R) : RowsOk n R := fun r hr x hx => ⟨((h.pl r hr).ok x hx).1.1, ((h.pl r hr).ok x hx).2⟩
theorem BkOk.come {n : Int} {R : List (List Row)} (h : BkOk n R) : ∀ j, j < R.length → j ∈ bfsT (succP R []) 0 R.length := by
  have hc := comes_len h.rows.wf [] h.pos
  intro j
  induction j using Nat.strongRecOn with
  | ind j ih =>
    intro hj
    by_cases h0 : j = 0
    · subst h0
      exact List.mem_of_getElem? (bfsT_mem0 (succP R []) 0 R.length)
    obtain ⟨i, r, x, hi, hr, hx, rfl⟩ := h.from_ j (by omega) hj
    obtain ⟨k, hk⟩ := List.getElem?_of_mem (ih i hi (by omega))
    have hkl : k < R.length := by
      have := (List.getElem?_eq_some_iff.mp hk).1
      have := hc R.length
      omega
    refine bfsT_closed (succP R []) 0 hkl hk ?_
    unfold succP
    rw [getD_of hr, List.mem_map]
    exact ⟨x, List.mem_filter.mpr ⟨hx, by simp⟩, rfl⟩
theorem enumD_map {α : Type} (e : α → PyData) : ∀ (xs : List α) (k : Nat), enumD (k : Int) (xs.map e) = (xs.zipIdx k).map fun p => .tuple [.int (p.2 : Int), e p.1]
  | [], k => rfl
  | x :: xs, k => by
    rw [List.map_cons, List.zipIdx_cons, List.map_cons, enumD]
    rw [show (k : Int) + 1 = ((k + 1 : Nat) : Int) by omega, enumD_map e xs (k + 1)]
theorem pF_1 (m : M) : pF "houses" m [] = [(("houses" : Str), m)] := rfl
theorem pF_2 (m n : M) : pF "rows" m [(("houses" : Str), n)] = [(("houses" : Str), n), (("rows" : Str), m)] := rfl
theorem cmp_ninN (p : Nat) (F : List Nat) : cmpB .notin (.int (p : Int)) (.list (F.map eN)) = some (!decide (p ∈ F)) := by
  rw [show F.map eN = (F.map fun q : Nat => (q : Int)).map .int by rw [List.map_map]; rfl, cmp_ninl]
  congr 2
  exact decide_eq_decide.mpr ⟨fun h => by obtain ⟨q, hq, e⟩ := List.mem_map.mp h; rwa [Int.ofNat.inj e] at hq, fun h => List.mem_map.mpr ⟨p, h, rfl⟩⟩
theorem book_init_eq {n : Int} {R : List (List Row)} (h : BkOk n R) : g_Bookzz_initzz [.ins "Book" [], .val (.int n), .val (eRs R)] = some (.val .none, [some (.ins "Book" [("houses", .val (.int n)), ("rows", .val (eRs R))]), none, none]) := by
  refine of_Sat ?_
  have h1 := h.n2
  have h2 := h.n6
  have h3 := h.pos
  have h4 := h.len
  have e1 : isNum (.int n) = true := by simp [isNum]; omega
  unfold g_Bookzz_initzz b_Bookzz_initzz
  simp_arith [is_number_eq, e1, show ¬ n < 2 by omega, show ¬ 6 < n by omega, show ¬ (R.length : Int) < 1 by omega, show ¬ 200 < (R.length : Int) by omega]
  simp_arith [eRs]
  rw [show enumD 0 (R.map eR) = _ from enumD_map eR R 0]
  simp only [show PyData.tuple (R.map eR) = eRs R from rfl]
  refine Sat_forV (fun p : List Row × Nat => PyData.tuple [.int (p.2 : Int), eR p.1]) (fun xs ρ => ∃ x3 x4, (∀ p ∈ xs, p.1 ∈ R) ∧ ρ = [some (M.ins "Book" []), some (.val (.int n)), some (.val (eRs R)), x3, x4, none]) ⟨_, _, fun p hp => by obtain ⟨h1, h2, h3⟩ := List.mem_zipIdx (x := p.1) (i := p.2) hp; rw [h3]; exact List.getElem_mem _, rfl⟩ ?_ ?_
  · rintro ρ ⟨x3, x4, _, rfl⟩
    simp_arith []
    refine Sat_lcM eR (fun r => .int (r.length : Int)) R (by unfold sizeLine; omega) (fun r _ => ?_) ?_
    · simp_arith []
    have e2 := come_to_eq h.rows.wf (by omega) [] h.pos
    have hrg : rgOk 0 (R.length : Int) = true := rgOk_nat (by omega)
    simp only [eH, List.map_nil] at e2
    simp_arith [biSum_map, show ¬ 600 < (R.map fun r => (r.length : Int)).sum by have := h.sum; omega, show g_come_to [.val (eRs R), .val (.int 0), .val (.tuple [])] = _ from e2, hrg]
    refine Sat_forV (fun i : Nat => PyData.int (i : Int)) (fun xs ρ => ∃ x3, (∀ p ∈ xs, p < R.length) ∧ ρ = [some (M.ins "Book" []), some (.val (.int n)), some (.val (eRs R)), x3, x4, some (.val (.list ((bfsT (succP R []) 0 R.length).map eN)))]) ⟨_, fun p hp => List.mem_range.mp hp, rfl⟩ ?_ ?_
    · rintro ρ ⟨x3, _, rfl⟩
      simp_arith [pF_1, pF_2]
      rfl
    · rintro j xs ρ ⟨x3, hj, rfl⟩
      simp_arith [cmp_ninN, h.come j (hj j List.mem_cons_self)]
      exact ⟨_, fun p hp => hj p (List.mem_cons_of_mem _ hp), rfl⟩
  · rintro p xs ρ ⟨x3, x4, hp, rfl⟩
    have hr := hp p List.mem_cons_self
    simp_arith [are_rows_eq (h.pl p.1 hr) (h.few p.1 hr)]
    exact ⟨_, _, fun p h => hp p (List.mem_cons_of_mem _ h), rfl⟩

theorem u_to_ok {xs : List Int} {s : Int} {n one to : Int} {ws : List Int} {d : PyData} {Q : M × List (Option M) → Prop} {u : Hold Q} (h : HpOk xs s) (hn : 2 ≤ n) (hn6 : n ≤ 6) (ho : 0 ≤ one ∧ one < n) (ht : 0 ≤ to) (hd : seqD d = some (ws.map .int)) (hw0 : ws ≠ []) (hwl : ws.length < 1000) (hw : ∀ w ∈ ws, 0 ≤ w ∧ w < 100)
    (q : ∀ l xs' s', LetOk n l → l.a = one → HpOk xs' s' → Q (.val (eL l), [some (hpM xs' s'), none, none, none, none])) : Sat (g_u_law_to [hpM xs s, .val (.int n), .val d, .val (.int one), .val (.int to)]) Q u := by
  have fin : ∀ (xs : List Int) (s o : Int) (Q' : M × List (Option M) → Prop) (u' : Hold Q'), HpOk xs s → (0 ≤ o ∧ o < n ∧ one ≠ o) → (∀ w xs' s', 0 ≤ w → w < 100 → HpOk xs' s' → Q' (.val (.int w), [some (hpM xs' s'), none])) → Sat (g_u_law_pick [hpM xs s, .val d]) Q' u' := by
    intro xs s o Q' u' h _ q'
    refine pick_ok h hd (by simpa using hw0) (by simp; omega) fun e xs' s' he h' => ?_
    obtain ⟨w, hwm, rfl⟩ := List.mem_map.mp he
    exact q' w xs' s' (hw w hwm).1 (hw w hwm).2 h'
  have key : ∀ e : Int, 0 ≤ e → e < n - 1 → 0 ≤ (one + 1 + e) % n ∧ (one + 1 + e) % n < n ∧ one ≠ (one + 1 + e) % n := by
    intro e h1 h2
    have : n = 2 ∨ n = 3 ∨ n = 4 ∨ n = 5 ∨ n = 6 := by omega
    obtain ⟨h3, h4⟩ := ho
    rcases this with rfl | rfl | rfl | rfl | rfl <;> omega
  unfold g_u_law_to b_u_law_to
  by_cases h1 : to < n
  · by_cases h2 : to = one
    · subst h2
      simp_arith [isP_hpM, h1]
      refine draw_ok h (by omega) (by omega) fun e xs' s' h0 h1 h' => ?_
      simp_arith [isP_hpM]
      refine ⟨by omega, fin xs' s' ((to + 1 + e) % n) _ _ h' (key e h0 h1) fun w xs' s' h2 h3 h' => ?_⟩
      simp_arith [isP_hpM]
      obtain ⟨k1, k2, k3⟩ := key e h0 h1
      exact q ⟨to, _, w⟩ xs' s' ⟨⟨ho.1, ho.2, k1, k2, h2⟩, k3, h3⟩ rfl h'
    · simp_arith [isP_hpM, h1, h2]
      refine fin xs s to _ _ h ⟨ht, h1, by omega⟩ fun w xs' s' h3 h4 h' => ?_
      simp_arith [isP_hpM]
      exact q ⟨one, to, w⟩ xs' s' ⟨⟨ho.1, ho.2, ht, h1, h3⟩, by show one ≠ to; omega, h4⟩ rfl h'
  · simp_arith [isP_hpM, h1]
    refine draw_ok h (by omega) (by omega) fun e xs' s' h0 h1 h' => ?_
    simp_arith [isP_hpM]
    refine ⟨by omega, fin xs' s' ((one + 1 + e) % n) _ _ h' (key e h0 h1) fun w xs' s' h2 h3 h' => ?_⟩
    simp_arith [isP_hpM]
    obtain ⟨k1, k2, k3⟩ := key e h0 h1
    exact q ⟨one, _, w⟩ xs' s' ⟨⟨ho.1, ho.2, k1, k2, h2⟩, k3, h3⟩ rfl h'
/-! places that are come to, numbered anew -/
def knN (F : List Nat) : List (PyData × M) := F.map fun p => (eN p, M.val (eN (F.idxOf p)))
theorem knN_in (F : List Nat) (a : Nat) : (dget false (knN F) (.int (a : Int))).isSome = decide (a ∈ F) := dget_isSome eN (fun p => M.val (eN (F.idxOf p))) keq_I a F
theorem knN_put {F : List Nat} {a : Nat} (h : a ∉ F) : dput false (knN F) (.int (a : Int)) (.val (.int (F.length : Int))) = knN (F ++ [a]) := by
  unfold knN
  rw [show PyData.int (a : Int) = eN a from rfl, dput_new eN (fun p => M.val (eN (F.idxOf p))) keq_I h, List.map_append]
  congr 1
  · refine List.map_congr_left fun p hp => ?_
    rw [List.idxOf_append, if_pos hp]
  · simp [List.idxOf_append, h, eN]
theorem knN_get {F : List Nat} {a : Nat} (h : a ∈ F) : dget false (knN F) (.int (a : Int)) = some (.val (.int (F.idxOf a : Nat))) := by
  have := dget_map eN (fun p => M.val (eN (F.idxOf p))) keq_I a F
  rw [if_pos h] at this
  exact this
theorem knN_len (F : List Nat) : (knN F).length = F.length := by unfold knN; simp
def succQ (R : List (List Row)) (p : Nat) : List Nat := (R.getD p []).map (·.2)
theorem succQ_lt {R : List (List Row)} (hR : WfR R) {p : Nat} (hp : p < R.length) : ∀ y ∈ succQ R p, y < R.length := by
  intro y hy
  obtain ⟨x, hx, rfl⟩ := List.mem_map.mp hy
  obtain ⟨r, hr⟩ : ∃ r, R[p]? = some r := ⟨_, List.getElem?_eq_getElem hp⟩
  rw [getD_of hr] at hx
  exact hR _ (List.mem_of_getElem? hr) x hx
theorem prun_len {R : List (List Row)} (hR : WfR R) {p : Nat} (hp : p < R.length) (t : Nat) : (bfsT (succQ R) p t).length ≤ R.length := by
  have h1 : ∀ x ∈ bfsT (succQ R) p t, x < R.length := bfsT_all _ _ (P := (· < R.length)) hp (fun x hx => succQ_lt hR hx) t
  have := nodup_len (ys := List.range R.length) (bfsT_nodup (succQ R) p t) (fun a ha => List.mem_range.mpr (h1 a ha))
  simpa using this
def prun (R : List (List Row)) : List (List Row) := (bfsT (succQ R) 0 R.length).map fun p => (R.getD p []).map fun x => (x.1, (bfsT (succQ R) 0 R.length).idxOf x.2)
theorem pruned_eq {R : List (List Row)} (hR : WfR R) (h0 : 0 < R.length) (hl : R.length ≤ 1000) (hr : ∀ r ∈ R, r.length ≤ 1000) : g_u_law_pruned [.val (.list (R.map eR))] = some (.val (eRs (prun R)), [none]) := by
  refine of_Sat ?_
  unfold g_u_law_pruned b_u_law_pruned
  have hrg : rgOk 0 (R.length : Int) = true := rgOk_nat (by omega)
  have hlen : ((R.map eR).length : Int) = (R.length : Int) := by simp
  simp_arith [hrg, hlen, rgD_nat]
  refine Sat_forV (fun i : Nat => PyData.int (i : Int)) (fun xs ρ => ∃ t x3 x4 x5, xs = List.range' t (R.length - t) ∧ t ≤ R.length ∧ ρ = [some (.val (.list (R.map eR))), some (.lst (((bfsT (succQ R) 0 t).map eN).map .val)), some (.dct false (knN (bfsT (succQ R) 0 t))), x3, x4, x5, none]) ⟨0, _, _, _, by rw [List.range_eq_range']; rfl, by omega, rfl⟩ ?_ ?_
  · rintro ρ ⟨t, x3, x4, x5, h1, h2, rfl⟩
    have : t = R.length := by
      have := congrArg List.length h1
      simp at this; omega
    subst this
    simp_arith []
    refine Sat_lcM eN (fun p => eR ((R.getD p []).map fun x => (x.1, (bfsT (succQ R) 0 R.length).idxOf x.2))) (bfsT (succQ R) 0 R.length) (by have := prun_len hR h0 R.length; unfold sizeLine; omega) (fun p hp => ?_) ?_
    · have hp1 : p < R.length := bfsT_all _ _ (P := (· < R.length)) h0 (fun x hx => succQ_lt hR hx) _ p hp
      obtain ⟨r, hr1⟩ : ∃ r, R[p]? = some r := ⟨_, List.getElem?_eq_getElem hp1⟩
      have hg : at2 (.val (.list (R.map eR))) (.int (p : Int)) = some (.val (eR r)) := by
        rw [at2_vl, atI_nat, List.getElem?_map, hr1]; rfl
      rw [getD_of hr1]
      simp_arith [eN, hg]
      refine Sat_lcM eRow (fun x => eRow (x.1, (bfsT (succQ R) 0 R.length).idxOf x.2)) r (by have := hr r (List.mem_of_getElem? hr1); unfold sizeLine; omega) (fun x hx => ?_) ?_
      · obtain ⟨k, hk⟩ := List.getElem?_of_mem hp
        have hkl : k < R.length := by
          have := (List.getElem?_eq_some_iff.mp hk).1
          have := prun_len hR h0 R.length
          omega
        have hx2 : x.2 ∈ bfsT (succQ R) 0 R.length := bfsT_closed (succQ R) 0 hkl hk (by unfold succQ; rw [getD_of hr1, List.mem_map]; exact ⟨x, hx, rfl⟩)
        simp_arith [knN_get hx2]
        rfl
      · simp_arith []
        unfold eR
        rw [List.map_map]; rfl
    · simp_arith []
      unfold eRs prun
      rw [List.map_map]; rfl
  · rintro x xs ρ ⟨t, x3, x4, x5, h1, h2, rfl⟩
    have hlt : t < R.length := by
      have := congrArg List.length h1
      simp at this; omega
    rw [show R.length - t = (R.length - (t + 1)) + 1 by omega, List.range'_succ, List.cons.injEq] at h1
    obtain ⟨rfl, rfl⟩ := h1
    by_cases hx : x < (bfsT (succQ R) 0 x).length
    · obtain ⟨y, hy⟩ : ∃ y, (bfsT (succQ R) 0 x)[x]? = some y := ⟨_, List.getElem?_eq_getElem hx⟩
      have hyok : y < R.length := bfsT_all _ _ (P := (· < R.length)) h0 (fun x hx => succQ_lt hR hx) x y (List.mem_of_getElem? hy)
      obtain ⟨r, hr1⟩ : ∃ r, R[y]? = some r := ⟨_, List.getElem?_eq_getElem hyok⟩
      have hg : at2 (.val (.list (R.map eR))) (.int (y : Int)) = some (.val (eR r)) := by
        rw [at2_vl, atI_nat, List.getElem?_map, hr1]; rfl
      have hx' : (x : Int) < ((((bfsT (succQ R) 0 x).map eN).map M.val).length : Int) := by rw [len2]; omega
      simp_arith [hx', atI_nat, List.getElem?_map, hy, eN, hg]
      have hT : bfsT (succQ R) 0 (x + 1) = addN (bfsT (succQ R) 0 x) (r.map (·.2)) := by
        rw [bfsT_succ _ _ hy, succQ, getD_of hr1]
      refine Sat_forV eRow (fun ys ρ => ∃ F x4 x5, ρ = [some (.val (.list (R.map eR))), some (M.lst (List.map M.val (List.map eN F))), some (M.dct false (knN F)), some (M.val (PyData.int ↑x)), x4, x5, none] ∧ F.Nodup ∧ addN F (ys.map (·.2)) = bfsT (succQ R) 0 (x + 1)) ⟨_, _, _, rfl, bfsT_nodup _ _ _, hT.symm⟩ ?_ ?_
      · rintro ρ ⟨F, x4, x5, rfl, h3, h4⟩
        rw [List.map_nil, addN_nil] at h4
        subst h4
        simp_arith []
        exact ⟨x + 1, _, _, _, rfl, hlt, rfl⟩
      · rintro z ys ρ ⟨F, x4, x5, rfl, h3, h4⟩
        have hFl : F.length ≤ R.length := by
          have := prun_len hR h0 (x + 1)
          rw [← h4] at this
          obtain ⟨_, _, g, h6, _⟩ := addN_spec ((z :: ys).map (·.2)) F h3
          rw [h6, List.length_append] at this; omega
        have hFl1 : (knN F).length < 16777216 := by rw [knN_len]; omega
        have hFl2 : ((F.map eN).map M.val).length < 16777216 := by rw [len2]; omega
        rw [List.map_cons, addN_cons] at h4
        by_cases hm : z.2 ∈ F
        · rw [if_pos hm] at h4
          simp_arith [knN_in, hm]
          exact ⟨F, _, _, rfl, h3, h4⟩
        · rw [if_neg hm] at h4
          have hpt : dput false (knN F) (.int (z.2 : Int)) (.val (.int ((((F.map eN).map M.val).length : Nat) : Int))) = knN (F ++ [z.2]) := by rw [len2]; exact knN_put hm
          simp_arith [knN_in, hm, hpt, hFl1, hFl2, snocN]
          exact ⟨F ++ [z.2], _, _, rfl, by rw [List.nodup_append]; exact ⟨h3, by simp, fun a ha c hc => by rw [List.mem_singleton] at hc; subst hc; rintro rfl; exact hm ha⟩, h4⟩
    · have hx' : ¬ (x : Int) < ((((bfsT (succQ R) 0 x).map eN).map M.val).length : Int) := by rw [len2]; omega
      simp_arith [hx']
      exact ⟨x + 1, _, _, _, rfl, hlt, by rw [bfsT_stop _ _ (by omega)]⟩

theorem pick_I {xs : List Int} {s : Int} {d : PyData} {ds : List PyData} {P : Int → Prop} {Q : M × List (Option M) → Prop} {u : Hold Q} (h : HpOk xs s) (hd : seqD d = some ds) (h0 : ds ≠ []) (hb : ds.length < 1000000) (hp : ∀ e ∈ ds, ∃ i, e = .int i ∧ P i) (q : ∀ i xs' s', P i → HpOk xs' s' → Q (.val (.int i), [some (hpM xs' s'), none])) : Sat (g_u_law_pick [hpM xs s, .val d]) Q u :=
  pick_ok h hd h0 hb fun e xs' s' he h' => by
    obtain ⟨i, rfl, hi⟩ := hp e he
    exact q i xs' s' hi h'
/-! rows of drawn books: dicts -/
def eD (r : List Row) : M := .dct true (r.map fun x => (eL x.1, .val (.int (x.2 : Int))))
theorem isP_eD (r : List Row) : isP (eD r) = false := rfl
theorem lenM_eD {r : List Row} (h : r.length ≤ 1000) : lenM (eD r) = some r.length := by
  unfold eD
  rw [lenM, List.length_map, if_pos (by unfold sizeLine; omega)]
theorem lenM_feD {r : List Row} (h : r.length ≤ 1000) : lenM (.fz (eD r)) = some r.length := by rw [lenM, lenM_eD h]
theorem dgetR (l : L) : ∀ r : List Row, dget true (r.map fun x => (eL x.1, M.val (.int (x.2 : Int)))) (eL l) = (far r l).map fun q => .val (.int (q : Int))
  | [] => rfl
  | x :: r => by
    rw [far_cons]
    show (if keq true (eL x.1) (eL l) then some (M.val (.int (x.2 : Int))) else dget true (r.map fun x => (eL x.1, M.val (.int (x.2 : Int)))) (eL l)) = _
    rw [keq_L, dgetR l r]
    by_cases h : x.1 = l <;> simp [h]
theorem far_some {l : L} : ∀ {r : List Row}, l ∈ r.map (·.1) → ∃ q, far r l = some q ∧ (l, q) ∈ r
  | x :: r, h => by
    rw [far_cons]
    by_cases hx : x.1 = l
    · rw [if_pos hx]
      exact ⟨x.2, rfl, by rw [← hx]; exact List.mem_cons_self⟩
    · rw [if_neg hx]
      rw [List.map_cons, List.mem_cons] at h
      obtain ⟨q, h1, h2⟩ := far_some (h.resolve_left fun e => hx e.symm)
      exact ⟨q, h1, List.mem_cons_of_mem _ h2⟩
theorem far_none {l : L} {r : List Row} (h : l ∉ r.map (·.1)) : far r l = none := by
  unfold far
  rw [Option.map_eq_none_iff, List.find?_eq_none]
  intro x hx e
  simp at e
  exact h (List.mem_map.mpr ⟨x, hx, e⟩)
theorem eD_in (r : List Row) (l : L) : dictIn (eD r) (eL l) = some (decide (l ∈ r.map (·.1))) := by
  unfold eD
  rw [dictIn_d, kok_L, dgetR]
  by_cases h : l ∈ r.map (·.1)
  · obtain ⟨q, h1, _⟩ := far_some h
    rw [h1, decide_eq_true h]; rfl
  · rw [far_none h, decide_eq_false h]; rfl
theorem eD_put {r : List Row} {l : L} (h : l ∉ r.map (·.1)) (hl : r.length ≤ 1000) (q : Nat) : stoM (eD r) (eL l) (.val (.int (q : Int))) = some (eD (r ++ [(l, q)])) := by
  unfold eD
  rw [stoM_dct, if_pos ⟨kok_L l, by rw [List.length_map]; unfold sizeLine; omega⟩]
  unfold dput
  rw [dgetR, far_none h, List.map_append]; rfl
theorem eD_emp (r : List Row) : emptyD (eD r) = some r.isEmpty := by
  unfold eD
  cases r <;> rfl
def rsM (rs : List (List Row)) : M := .lst (rs.map eD)
def spM (sp : List Int) : M := .lst ((sp.map .int).map .val)
def enM (en : List Bool) : M := .lst ((en.map .bool).map .val)
theorem rs_at {rs : List (List Row)} {i : Nat} {r : List Row} (h : rs[i]? = some r) : at2 (rsM rs) (.int (i : Int)) = some (eD r) := by
  rw [rsM, at2_lst, atI_nat, List.getElem?_map, h]; rfl
theorem sp_at {sp : List Int} {i : Nat} {r : Int} (h : sp[i]? = some r) : at2 (spM sp) (.int (i : Int)) = some (.val (.int r)) := by
  rw [spM, at2_lst, atI_nat, List.getElem?_map, List.getElem?_map, h]; rfl
theorem en_at {sp : List Bool} {i : Nat} {r : Bool} (h : sp[i]? = some r) : at2 (enM sp) (.int (i : Int)) = some (.val (.bool r)) := by
  rw [enM, at2_lst, atI_nat, List.getElem?_map, List.getElem?_map, h]; rfl
theorem rs_dn {rs : List (List Row)} {i : Nat} {r : List Row} (h : rs[i]? = some r) : dn (rsM rs) (.ix (.int (i : Int))) = some (eD r) := by
  rw [rsM, dn_lst, atI_nat, List.getElem?_map, h]; rfl
theorem rs_up {rs : List (List Row)} {i : Nat} {r : List Row} (h : rs[i]? = some r) (r' : List Row) : up (rsM rs) (.ix (.int (i : Int))) (eD r') = some (rsM (rs.set i r')) := by
  have hi := (List.getElem?_eq_some_iff.mp h).1
  rw [rsM, up_lst, ixN_nat (by simpa using hi)]
  show some (M.lst ((rs.map eD).set i (eD r'))) = _
  rw [← List.map_set]; rfl
structure Gn (n : Int) (rs : List (List Row)) (sp : List Int) (en : List Bool) : Prop where
  l1 : sp.length = rs.length
  l2 : en.length = rs.length
  pos : 0 < rs.length
  sps : ∀ s ∈ sp, 0 ≤ s ∧ s < n
  three : ∀ r ∈ rs, r.length ≤ 3
  row : ∀ (i : Nat) (r : List Row), rs[i]? = some r → (r.map (·.1)).Nodup ∧ ∀ x ∈ r, LetOk n x.1 ∧ x.2 < rs.length ∧ sp[i]? = some x.1.a
theorem Gn.add {n : Int} {rs : List (List Row)} {sp : List Int} {en : List Bool} (g : Gn n rs sp en) {p : Nat} {r : List Row} (hr : rs[p]? = some r) (h3 : r.length < 3) {l : L} (hl : LetOk n l) (ha : sp[p]? = some l.a) (hn : l ∉ r.map (·.1)) {t : Nat} (ht : t < rs.length) : Gn n (rs.set p (r ++ [(l, t)])) sp en where
  l1 := by rw [List.length_set]; exact g.l1
  l2 := by rw [List.length_set]; exact g.l2
  pos := by rw [List.length_set]; exact g.pos
  sps := g.sps
  three := by
    intro r' hr'
    rcases List.mem_or_eq_of_mem_set hr' with h | rfl
    · exact g.three r' h
    · simp; omega
  row := by
    intro i r' hr'
    rw [List.length_set]
    by_cases hi : i = p
    · subst hi
      have hi := (List.getElem?_eq_some_iff.mp hr).1
      rw [List.getElem?_set_self hi] at hr'
      cases hr'
      obtain ⟨h1, h2⟩ := g.row i r hr
      refine ⟨?_, fun x hx => ?_⟩
      · rw [List.map_append, List.nodup_append]
        exact ⟨h1, by simp, fun a ham c hc => by simp at hc; subst hc; rintro rfl; exact hn ham⟩
      · rw [List.mem_append, List.mem_singleton] at hx
        rcases hx with hx | rfl
        · exact h2 x hx
        · exact ⟨hl, ht, ha⟩
    · rw [List.getElem?_set_ne (Ne.symm hi)] at hr'
      exact g.row i r' hr'
theorem Gn.grow {n : Int} {rs : List (List Row)} {sp : List Int} {en : List Bool} (g : Gn n rs sp en) {p : Nat} {r : List Row} (hr : rs[p]? = some r) (h3 : r.length < 3) {l : L} (hl : LetOk n l) (ha : sp[p]? = some l.a) (hn : l ∉ r.map (·.1)) {s : Int} (hs : 0 ≤ s ∧ s < n) (e : Bool) : Gn n (rs.set p (r ++ [(l, rs.length)]) ++ [[]]) (sp ++ [s]) (en ++ [e]) := by
  have hlen : (rs.set p (r ++ [(l, rs.length)]) ++ [[]]).length = rs.length + 1 := by simp
  have hp := (List.getElem?_eq_some_iff.mp hr).1
  refine ⟨by rw [hlen]; simp [g.l1], by rw [hlen]; simp [g.l2], by omega, ?_, ?_, ?_⟩
  · intro x hx
    rw [List.mem_append, List.mem_singleton] at hx
    rcases hx with hx | rfl
    · exact g.sps x hx
    · exact hs
  · intro r' hr'
    rw [List.mem_append, List.mem_singleton] at hr'
    rcases hr' with hr' | rfl
    · rcases List.mem_or_eq_of_mem_set hr' with h | rfl
      · exact g.three r' h
      · simp; omega
    · simp
  · intro i r' hr'
    rw [hlen]
    have hsp : ∀ (j : Nat) (a : Int), sp[j]? = some a → (sp ++ [s])[j]? = some a := fun j a h => by
      rw [List.getElem?_append_left (List.getElem?_eq_some_iff.mp h).1]; exact h
    by_cases hi : i < rs.length
    · rw [List.getElem?_append_left (by simpa using hi)] at hr'
      by_cases hip : i = p
      · subst hip
        rw [List.getElem?_set_self hi] at hr'
        cases hr'
        obtain ⟨h1, h2⟩ := g.row i r hr
        refine ⟨?_, fun x hx => ?_⟩
        · rw [List.map_append, List.nodup_append]
          exact ⟨h1, by simp, fun a ham c hc => by simp at hc; subst hc; rintro rfl; exact hn ham⟩
        · rw [List.mem_append, List.mem_singleton] at hx
          rcases hx with hx | rfl
          · obtain ⟨k1, k2, k3⟩ := h2 x hx
            exact ⟨k1, by omega, hsp _ _ k3⟩
          · exact ⟨hl, by show rs.length < _; omega, hsp _ _ ha⟩
      · rw [List.getElem?_set_ne (Ne.symm hip)] at hr'
        obtain ⟨h1, h2⟩ := g.row i r' hr'
        exact ⟨h1, fun x hx => by obtain ⟨k1, k2, k3⟩ := h2 x hx; exact ⟨k1, by omega, hsp _ _ k3⟩⟩
    · rw [List.getElem?_append_right (by simpa using (by omega : rs.length ≤ i))] at hr'
      have : r' = [] := by
        have := List.mem_of_getElem? hr'
        simpa using this
      subst this
      exact ⟨by simp, by simp⟩
/-! the rows in order -/
def sortR (r : List Row) : List Row := (srtE eL (r.map (·.1))).map fun l => (l, (far r l).getD 0)
theorem mem_sortR {r : List Row} {x : Row} (h : x ∈ sortR r) : x ∈ r := by
  obtain ⟨l, hl, rfl⟩ := List.mem_map.mp h
  unfold srtE at hl
  rw [List.mem_mergeSort] at hl
  obtain ⟨q, h1, h2⟩ := far_some hl
  rw [h1]; exact h2
theorem sortR_len (r : List Row) : (sortR r).length = r.length := by
  unfold sortR srtE
  rw [List.length_map, List.length_mergeSort, List.length_map]
theorem prun_ok {n : Int} (hn : 2 ≤ n) (hn6 : n ≤ 6) {rs : List (List Row)} {sp : List Int} {en : List Bool} (g : Gn n rs sp en) (hl : rs.length ≤ 200) : BkOk n (prun (rs.map sortR)) := by
  have hWf : WfR (rs.map sortR) := by
    intro r hr x hx
    obtain ⟨r0, hr0, rfl⟩ := List.mem_map.mp hr
    obtain ⟨i, hi⟩ := List.getElem?_of_mem hr0
    rw [List.length_map]
    exact ((g.row i r0 hi).2 x (mem_sortR hx)).2.1
  have h0 : 0 < (rs.map sortR).length := by rw [List.length_map]; exact g.pos
  have hFl := prun_len hWf h0 (rs.map sortR).length
  have hFlt : ∀ x ∈ bfsT (succQ (rs.map sortR)) 0 (rs.map sortR).length, x < (rs.map sortR).length := bfsT_all _ _ (P := (· < (rs.map sortR).length)) h0 (fun x hx => succQ_lt hWf hx) _
  have hnd := bfsT_nodup (succQ (rs.map sortR)) 0 (rs.map sortR).length
  have hcl : ∀ (i p : Nat) (x : Row), (bfsT (succQ (rs.map sortR)) 0 (rs.map sortR).length)[i]? = some p → x ∈ (rs.map sortR).getD p [] → x.2 ∈ bfsT (succQ (rs.map sortR)) 0 (rs.map sortR).length := by
    intro i p x hi hx
    have := (List.getElem?_eq_some_iff.mp hi).1
    exact bfsT_closed (succQ (rs.map sortR)) 0 (by omega) hi (List.mem_map.mpr ⟨x, hx, rfl⟩)
  have hfr := fun j y => bfsT_from (succQ (rs.map sortR)) 0 (t := (rs.map sortR).length) (j := j) (y := y)
  have hm0 := bfsT_mem0 (succQ (rs.map sortR)) 0 (rs.map sortR).length
  have hrow : ∀ p, p < (rs.map sortR).length → ∃ r0 s, rs[p]? = some r0 ∧ sp[p]? = some s ∧ (rs.map sortR).getD p [] = sortR r0 := by
    intro p hp
    rw [List.length_map] at hp
    obtain ⟨r0, hr0⟩ : ∃ r0, rs[p]? = some r0 := ⟨_, List.getElem?_eq_getElem hp⟩
    obtain ⟨s, hs⟩ : ∃ s, sp[p]? = some s := ⟨_, List.getElem?_eq_getElem (by rw [g.l1]; exact hp)⟩
    exact ⟨r0, s, hr0, hs, by rw [List.getD_eq_getElem?_getD, List.getElem?_map, hr0]; rfl⟩
  unfold prun
  generalize bfsT (succQ (rs.map sortR)) 0 (rs.map sortR).length = F at *
  rw [List.length_map] at hFl
  have hF0 : 0 < F.length := (List.getElem?_eq_some_iff.mp hm0).1
  refine ⟨hn, hn6, by rw [List.length_map]; exact hF0, by rw [List.length_map]; omega, ?_, ?_, ?_, ?_⟩
  · intro r hr
    obtain ⟨p, hp, rfl⟩ := List.mem_map.mp hr
    obtain ⟨i, hi⟩ := List.getElem?_of_mem hp
    obtain ⟨r0, s, hr0, hs, e⟩ := hrow p (hFlt p hp)
    rw [List.length_map, e]
    obtain ⟨h1, h2⟩ := g.row p r0 hr0
    refine ⟨fun x hx => ?_, ?_, fun x hx y hy => ?_⟩
    · obtain ⟨y, hy, rfl⟩ := List.mem_map.mp hx
      exact ⟨(h2 y (mem_sortR hy)).1, List.idxOf_lt_length_of_mem (hcl i p y hi (e ▸ hy))⟩
    · rw [List.pairwise_map]
      unfold sortR
      rw [List.pairwise_map]
      exact srtL_lt h1
    · obtain ⟨x', hx', rfl⟩ := List.mem_map.mp hx
      obtain ⟨y', hy', rfl⟩ := List.mem_map.mp hy
      have k1 := (h2 x' (mem_sortR hx')).2.2
      have k2 := (h2 y' (mem_sortR hy')).2.2
      rw [k1] at k2
      exact Option.some.inj k2
  · intro r hr
    obtain ⟨p, hp, rfl⟩ := List.mem_map.mp hr
    obtain ⟨r0, s, hr0, hs, e⟩ := hrow p (hFlt p hp)
    rw [List.length_map, e, sortR_len]
    have := g.three r0 (List.mem_of_getElem? hr0)
    omega
  · have : ∀ G : List Nat, (∀ p ∈ G, p < (rs.map sortR).length) → ((G.map fun p => ((rs.map sortR).getD p []).map fun x => (x.1, F.idxOf x.2)).map fun r => (r.length : Int)).sum ≤ 3 * G.length := by
      intro G
      induction G with
      | nil => intro _; simp
      | cons p G ih =>
        intro hG
        obtain ⟨r0, s, hr0, hs, e⟩ := hrow p (hG p List.mem_cons_self)
        have h3 := g.three r0 (List.mem_of_getElem? hr0)
        have := ih fun p hp => hG p (List.mem_cons_of_mem _ hp)
        rw [List.map_cons, List.map_cons, List.sum_cons, e, List.length_map, sortR_len, List.length_cons]
        omega
    exact Int.le_trans (this F hFlt) (by omega)
  · intro j hj hjl
    rw [List.length_map] at hjl
    obtain ⟨y, hy⟩ : ∃ y, F[j]? = some y := ⟨_, List.getElem?_eq_getElem hjl⟩
    obtain ⟨i, x, hi, _, hx, hxy⟩ := hfr j y hj hy
    obtain ⟨z, hz, rfl⟩ := List.mem_map.mp hxy
    refine ⟨i, _, (z.1, F.idxOf z.2), hi, by rw [List.getElem?_map, hx]; rfl, List.mem_map.mpr ⟨z, hz, rfl⟩, ?_⟩
    have hm := List.mem_of_getElem? hy
    have h1 := List.idxOf_lt_length_of_mem hm
    have h2 : F[F.idxOf z.2]? = some z.2 := by rw [List.getElem?_eq_getElem h1, List.getElem_idxOf]
    exact (List.getElem?_inj h1 hnd).mp (h2.trans hy.symm)

theorem lenM_rsM (rs : List (List Row)) : lenM (rsM rs) = some rs.length := by rw [rsM, lenM, List.length_map]
theorem tyM_rs (rs : List (List Row)) : tyM "list" (rsM rs) = true := rfl
theorem tyM_sp (rs : List Int) : tyM "list" (spM rs) = true := rfl
theorem tyM_en (rs : List Bool) : tyM "list" (enM rs) = true := rfl
theorem isP_rs (rs : List (List Row)) : isP (rsM rs) = false := rfl
theorem app_rs {rs : List (List Row)} (h : rs.length ≤ 1000) : opAppend (rsM rs) [.dct true []] = some (.val .none, rsM (rs ++ [[]])) := by
  rw [rsM, opApp_l, if_pos (by rw [List.length_map]; unfold sizeLine; omega), rsM, List.map_append]; rfl
theorem app_sp {rs : List Int} (h : rs.length ≤ 1000) (i : Int) : opAppend (spM rs) [.val (.int i)] = some (.val .none, spM (rs ++ [i])) := by
  rw [spM, opApp_l, if_pos (by rw [List.length_map, List.length_map]; unfold sizeLine; omega), spM, List.map_append, List.map_append]; rfl
theorem app_en {rs : List Bool} (h : rs.length ≤ 1000) (i : Bool) : opAppend (enM rs) [.val (.bool i)] = some (.val .none, enM (rs ++ [i])) := by
  rw [enM, opApp_l, if_pos (by rw [List.length_map, List.length_map]; unfold sizeLine; omega), enM, List.map_append, List.map_append]; rfl
def fitB (rs : List (List Row)) (en : List Bool) (p : Nat) : Bool := !en.getD p false && decide (((rs.getD p []).length : Int) < 3)
theorem frz_eD (r : List Row) : frz (eD r) = .fz (eD r) := by
  unfold frz eD
  rw [deep]
theorem frz_rs {rs : List (List Row)} (h : 0 < rs.length) : frz (rsM rs) = .fz (rsM rs) := by
  unfold rsM
  rw [frz_lst]
  cases rs with
  | nil => cases h
  | cons r rs =>
    rw [List.map_cons, deeps]
    have : deep (eD r) = none := by unfold eD; rw [deep]
    rw [this]; rfl
theorem items_frs (rs : List (List Row)) : itemsM (.fz (rsM rs)) = some (rs.map fun r => .fz (eD r)) := by
  unfold rsM
  rw [items_fl, List.map_map]
  exact congrArg some (List.map_congr_left fun r _ => frz_eD r)
theorem keys_eD {r : List Row} (h : r.length ≤ 1000) : dkeys (.fz (eD r)) = some ((r.map (·.1)).map eL) := by
  unfold eD
  rw [emp_f, if_pos (by rw [List.length_map]; unfold sizeLine; omega), List.map_map, List.map_map]; rfl
theorem at_feD (r : List Row) (l : L) : at2 (.fz (eD r)) (eL l) = (far r l).map fun q => .val (.int (q : Int)) := by
  unfold eD
  rw [at2_fzd, kok_L]
  show Option.map frz (dget true (r.map fun x => (eL x.1, M.val (.int (x.2 : Int)))) (eL l)) = _
  rw [dgetR]
  cases far r l <;> rfl
theorem lc_rows {a0 a1 a2 a3 a4 a5 a6 a7 a8 a9 a10 a11 a12 a13 a14 : Option M} {rs : List (List Row)} {Q : List M → Prop} {u : Hold Q} (hl : rs.length ≤ 1000) (h3 : ∀ r ∈ rs, r.length ≤ 1000) (q : Q (((rs.map sortR).map eR).map .val)) :
    Sat (lcP (bName [15] 15) zYes (zTupM (zLcP (iSeq (oF (zBi biSorted (zsCons (oF (zKeys (rVar 15))) zsNil true)))) (bName [13] 13) zYes (zTup (zCons (zVar 13) (zCons (zR (rIx2 (rVar 15) (oR (rVar 13)))) zNil))) [13])) [a0, a1, a2, a3, a4, a5, a6, a7, a8, a9, a10, a11, a12, a13, a14, none] (rs.map fun r => .fz (eD r)) []) Q u := by
  refine Sat_lcT _ (fun r => some (.val (eR (sortR r)))) rs [] (by unfold sizeLine; simp; omega) (fun r hr => ?_) (by simpa [List.filterMap_eq_map', Function.comp_def] using q)
  have hrl := h3 r hr
  simp_arith [keys_eD hrl, biSorted, srtOk_L (r.map (·.1)) (by simp; omega), srt_map]
  refine Sat_lcM eL (fun l => eRow (l, (far r l).getD 0)) (srtE eL (r.map (·.1))) (by unfold srtE sizeLine; simp; omega) (fun l hl => ?_) ?_
  · unfold srtE at hl
    rw [List.mem_mergeSort] at hl
    obtain ⟨k, hk, _⟩ := far_some hl
    simp_arith [at_feD, hk, eRow, Option.getD_some]
  · simp_arith []
    unfold sortR eR
    rw [List.map_map]; rfl
theorem rows_ok {xs : List Int} {s : Int} {n most : Int} {ws : List Int} {d : PyData} {Q : M × List (Option M) → Prop} {u : Hold Q} (h : HpOk xs s) (hn : 2 ≤ n) (hn6 : n ≤ 6) (hm : 1 ≤ most) (hm30 : most ≤ 30) (hd : seqD d = some (ws.map .int)) (hw0 : ws ≠ []) (hwl : ws.length < 1000) (hw : ∀ w ∈ ws, 0 ≤ w ∧ w < 100)
    (q : ∀ R xs' s', BkOk n R → HpOk xs' s' → Q (.val (eRs R), [some (hpM xs' s'), none, none, none])) : Sat (g_u_law_rows [hpM xs s, .val (.int n), .val (.int most), .val d]) Q u := by
  unfold g_u_law_rows b_u_law_rows
  rw [S_runB, S_sSeq, Sat_bind]
  refine Sat.imp (u := ⟨⟩) (Q := fun r => ∃ many xs' s', r = Res.nx [some (hpM xs' s'), some (.val (.int n)), some (.val (.int most)), some (.val d), some (.val (.int many)), none, none, none, none, none, none, none, none, none, none, none] ∧ (1 ≤ many ∧ many ≤ 30) ∧ HpOk xs' s') ?_ ?_
  · by_cases h9 : most < 9
    · simp_arith [isP_hpM, h9]
      refine draw_ok h (by omega) (by omega) fun e xs s h0 h1 h => ?_
      simp_arith [isP_hpM]
      refine pick_I (P := fun i => 1 ≤ i ∧ i ≤ most) (ds := [.int most, .int most, .int (1 + e)]) h rfl (by simp) (by simp) (fun x hx => ?_) fun many xs s hmany h => ?_
      · simp only [List.mem_cons, List.not_mem_nil, or_false] at hx
        rcases hx with rfl | rfl | rfl
        · exact ⟨_, rfl, hm, by omega⟩
        · exact ⟨_, rfl, hm, by omega⟩
        · exact ⟨_, rfl, by omega, by omega⟩
      simp_arith [isP_hpM]
      exact ⟨_, _, _, rfl, ⟨hmany.1, by omega⟩, h⟩
    · simp_arith [isP_hpM, h9]
      refine draw_ok h (by omega) (by omega) fun e xs s h0 h1 h => ?_
      simp_arith [isP_hpM]
      exact ⟨_, _, _, rfl, ⟨by omega, by omega⟩, h⟩
  clear h xs s
  rintro _ ⟨many, xs, s, rfl, ⟨hm1, hm2⟩, h⟩
  simp_arith [isP_hpM]
  refine pick_I (P := fun i => 0 ≤ i) (ds := [.int 0, .int 0, .int 0, .int 1, .int 2]) h rfl (by simp) (by simp) (fun x hx => ?_) fun style xs s hstyle h => ?_
  · simp only [List.mem_cons, List.not_mem_nil, or_false] at hx
    rcases hx with rfl | rfl | rfl | rfl | rfl
    · exact ⟨_, rfl, by decide⟩
    · exact ⟨_, rfl, by decide⟩
    · exact ⟨_, rfl, by decide⟩
    · exact ⟨_, rfl, by decide⟩
    · exact ⟨_, rfl, by decide⟩
  simp_arith [isP_hpM, mulOk_l]
  refine ⟨mulOk_l (by decide), draw_ok h (by omega) (by omega) fun dear xs s hd0 hd1 h => ?_⟩
  simp_arith [isP_hpM]
  refine draw_ok h (by omega) (by omega) fun sp0 xs s hs0 hs1 h => ?_
  have hrd : rgD 0 (3 * many) = (List.range (3 * many).toNat).map fun i => .int (i : Nat) := rgD_int (by omega)
  have hrg : rgOk 0 (3 * many) = true := by
    have := rgOk_nat (n := (3 * many).toNat) (by omega)
    rwa [Int.toNat_of_nonneg (by omega)] at this
  simp_arith [isP_hpM, hrd, hrg]
  refine ⟨mulOk_l (by decide), ?_⟩
  refine Sat_forV (fun i : Nat => PyData.int (i : Int)) (fun _ ρ => ∃ xs s rs sp en x10 x11 x12 x13 x14 x15, ρ = [some (hpM xs s), some (.val (.int n)), some (.val (.int most)), some (.val d), some (.val (.int many)), some (.val (.int style)), some (.val (.int dear)), some (rsM rs), some (spM sp), some (enM en), x10, x11, x12, x13, x14, x15] ∧ HpOk xs s ∧ Gn n rs sp en ∧ (rs.length : Int) ≤ many) ⟨_, _, [[]], [sp0], [false], _, _, _, _, _, _, rfl, h, ⟨rfl, rfl, by decide, by simp; omega, by simp, fun i r hr => by
      have := List.mem_of_getElem? hr
      simp at this
      subst this
      exact ⟨by simp, by simp⟩⟩, hm1⟩ ?_ ?_
  · rintro ρ ⟨xs, s, rs, sp, en, x10, x11, x12, x13, x14, x15, rfl, h, g, hle⟩
    have hle30 : rs.length ≤ 30 := by omega
    simp_arith [isP_hpM, lenM_rsM]
    refine ⟨mulOk_l (by decide), draw_ok h (by omega) (by omega) fun k xs s hk0 hk1 h => ?_⟩
    have hrd2 : rgD 0 (1 + k) = (List.range (1 + k).toNat).map fun i => .int (i : Nat) := rgD_int (by omega)
    have hrg2 : rgOk 0 (1 + k) = true := by
      have := rgOk_nat (n := (1 + k).toNat) (by omega)
      rwa [Int.toNat_of_nonneg (by omega)] at this
    simp_arith [isP_hpM, hrd2, hrg2]
    have hlen := hle
    refine Sat_forV (fun i : Nat => PyData.int (i : Int)) (fun _ ρ => ∃ xs s rs x10 x12 x13 x14, ρ = [some (hpM xs s), some (.val (.int n)), some (.val (.int most)), some (.val d), some (.val (.int many)), some (.val (.int style)), some (.val (.int dear)), some (rsM rs), some (spM sp), some (enM en), x10, x11, x12, x13, x14, x15] ∧ HpOk xs s ∧ Gn n rs sp en ∧ (rs.length : Int) ≤ many) ⟨_, _, rs, _, _, _, _, rfl, h, g, hle⟩ ?_ ?_
    · clear h g hle xs s
      rintro ρ ⟨xs, s, rs, x10, x12, x13, x14, rfl, h, g, hle⟩
      obtain ⟨r0, hr0⟩ : ∃ r0, rs[0]? = some r0 := ⟨_, List.getElem?_eq_getElem g.pos⟩
      obtain ⟨s0, hs0⟩ : ∃ s0, sp[0]? = some s0 := ⟨_, List.getElem?_eq_getElem (by rw [g.l1]; exact g.pos)⟩
      have fin : ∀ {rs : List (List Row)}, Gn n rs sp en → (rs.length : Int) ≤ many → g_u_law_pruned [.val (.list ((rs.map sortR).map eR))] = some (.val (eRs (prun (rs.map sortR))), [none]) ∧ BkOk n (prun (rs.map sortR)) := by
        intro rs g hle
        refine ⟨pruned_eq ?_ (by rw [List.length_map]; exact g.pos) (by rw [List.length_map]; omega) (fun r hr => ?_), prun_ok hn hn6 g (by omega)⟩
        · intro r hr x hx
          obtain ⟨r0, hr0, rfl⟩ := List.mem_map.mp hr
          obtain ⟨i, hi⟩ := List.getElem?_of_mem hr0
          rw [List.length_map]
          exact ((g.row i r0 hi).2 x (mem_sortR hx)).2.1
        · obtain ⟨r0, hr0, rfl⟩ := List.mem_map.mp hr
          rw [sortR_len]
          have := g.three r0 hr0
          omega
      have hat : at2 (rsM rs) (.int 0) = some (eD r0) := rs_at hr0
      have hat1 : at2 (spM sp) (.int 0) = some (.val (.int s0)) := sp_at hs0
      have hdn : dn (rsM rs) (.ix (.int 0)) = some (eD r0) := rs_dn hr0
      by_cases he : r0 = []
      · subst he
        simp_arith [hat, eD_emp, hat1, hdn, isP_hpM]
        refine u_to_ok h hn hn6 (g.sps s0 (List.mem_of_getElem? hs0)) (by omega) hd hw0 hwl hw fun l xs s hl ha h => ?_
        have k1 := g.add hr0 (by decide) hl (by rw [hs0, ha]) (by simp) g.pos
        have k2 : (((rs.set 0 ([] ++ [(l, 0)])).length : Nat) : Int) ≤ many := by rw [List.length_set]; exact hle
        have hup : ∀ r', up (rsM rs) (.ix (.int 0)) (eD r') = some (rsM (rs.set 0 r')) := fun r' => rs_up hr0 r'
        have hst : stoM (eD []) (eL l) (.val (.int 0)) = some (eD ([] ++ [(l, 0)])) := eD_put (by simp) (by simp) 0
        simp_arith [isP_hpM, hst, hup, frz_rs (show 0 < (rs.set 0 ([] ++ [(l, 0)])).length by rw [List.length_set]; exact g.pos), frz_rs (show 0 < (rs.set 0 [(l, 0)]).length by rw [List.length_set]; exact g.pos), items_frs]
        refine lc_rows (by rw [List.length_set]; omega) (fun r hr => by have := k1.three r hr; omega) ?_
        obtain ⟨f1, f2⟩ := fin k1 k2
        simp only [List.nil_append] at f1 f2
        simp_arith [f1]
        exact q _ _ _ f2 h
      · simp_arith [hat, eD_emp, show r0.isEmpty = false by cases r0 <;> simp at he ⊢, frz_rs g.pos, items_frs]
        refine lc_rows (by omega) (fun r hr => by have := g.three r hr; omega) ?_
        obtain ⟨f1, f2⟩ := fin g hle
        simp_arith [f1]
        exact q _ _ _ f2 h
    · clear h g hle xs s hlen
      rintro i is ρ ⟨xs, s, rs, x10, x12, x13, x14, rfl, h, g, hle⟩
      have hpos := g.pos
      simp_arith [isP_hpM, lenM_rsM]
      refine draw_ok h (by omega) (by omega) fun pI xs s hp0 hp1 h => ?_
      simp_arith [isP_hpM, lenM_rsM]
      refine draw_ok h (by omega) (by omega) fun tI xs s ht0 ht1 h => ?_
      obtain ⟨p, rfl⟩ := Int.eq_ofNat_of_zero_le hp0
      obtain ⟨t, rfl⟩ := Int.eq_ofNat_of_zero_le ht0
      have hp : p < rs.length := by omega
      have ht : t < rs.length := by omega
      obtain ⟨r, hr⟩ : ∃ r, rs[p]? = some r := ⟨_, List.getElem?_eq_getElem hp⟩
      obtain ⟨b, hb⟩ : ∃ b, en[p]? = some b := ⟨_, List.getElem?_eq_getElem (by rw [g.l2]; exact hp)⟩
      obtain ⟨sp0, hs0⟩ : ∃ s0, sp[p]? = some s0 := ⟨_, List.getElem?_eq_getElem (by rw [g.l1]; exact hp)⟩
      obtain ⟨sp1, hs1⟩ : ∃ s0, sp[t]? = some s0 := ⟨_, List.getElem?_eq_getElem (by rw [g.l1]; exact ht)⟩
      have hsp1 := g.sps sp1 (List.mem_of_getElem? hs1)
      have h3 := g.three r (List.mem_of_getElem? hr)
      have hrl : r.length ≤ 1000 := by omega
      simp_arith [isP_hpM, sp_at hs0, sp_at hs1]
      split <;>
      · refine u_to_ok h hn hn6 (g.sps sp0 (List.mem_of_getElem? hs0)) (by omega) hd hw0 hwl hw fun l xs s hl ha h => ?_
        by_cases hr3 : (r.length : Int) < 3
        · by_cases hin : l ∈ r.map (·.1)
          · simp_arith [isP_hpM, rs_at hr, lenM_eD hrl, hr3, eD_in, hin]
            exact ⟨_, _, _, _, _, _, _, rfl, h, g, hle⟩
          · have k1 := g.add hr (by omega) hl (by rw [hs0, ha]) hin ht
            have k2 : (((rs.set p (r ++ [(l, t)])).length : Nat) : Int) ≤ many := by rw [List.length_set]; exact hle
            cases b with
            | true =>
              simp_arith [isP_hpM, rs_at hr, lenM_eD hrl, hr3, eD_in, hin, en_at hb]
              exact ⟨_, _, _, _, _, _, _, rfl, h, g, hle⟩
            | false =>
              by_cases hst : style < 2
              · simp_arith [isP_hpM, rs_at hr, lenM_eD hrl, hr3, eD_in, hin, en_at hb, hst, rs_dn hr, eD_put hin hrl, rs_up hr]
                exact ⟨_, _, _, _, _, _, _, rfl, h, k1, k2⟩
              · by_cases hsb : l.b = sp1
                · simp_arith [isP_hpM, rs_at hr, lenM_eD hrl, hr3, eD_in, hin, en_at hb, hst, sp_at hs1, hsb, rs_dn hr, eD_put hin hrl, rs_up hr]
                  exact ⟨_, _, _, _, _, _, _, rfl, h, k1, k2⟩
                · simp_arith [isP_hpM, rs_at hr, lenM_eD hrl, hr3, eD_in, hin, en_at hb, hst, sp_at hs1, hsb]
                  exact ⟨_, _, _, _, _, _, _, rfl, h, g, hle⟩
        · simp_arith [isP_hpM, rs_at hr, lenM_eD hrl, hr3]
          exact ⟨_, _, _, _, _, _, _, rfl, h, g, hle⟩
  · rintro i is ρ ⟨xs, s, rs, sp, en, x10, x11, x12, x13, x14, x15, rfl, h, g, hle⟩
    have hle30 : rs.length ≤ 30 := by omega
    have hrg : rgOk 0 (rs.length : Int) = true := rgOk_nat (by omega)
    simp_arith [isP_hpM, lenM_rsM, hrg]
    refine Sat_lcF eN (fitB rs en) eN (List.range rs.length) (by unfold sizeLine; simp; omega) (fun i hi => ?_) ?_
    · have hi := List.mem_range.mp hi
      obtain ⟨r, hr⟩ : ∃ r, rs[i]? = some r := ⟨_, List.getElem?_eq_getElem hi⟩
      obtain ⟨b, hb⟩ : ∃ b, en[i]? = some b := ⟨_, List.getElem?_eq_getElem (by rw [g.l2]; exact hi)⟩
      have h3 := g.three r (List.mem_of_getElem? hr)
      have hf : fitB rs en i = (!b && decide ((r.length : Int) < 3)) := by
        unfold fitB; rw [List.getD_eq_getElem?_getD, List.getD_eq_getElem?_getD, hr, hb]; rfl
      cases b <;> simp_arith [hf, eN, en_at hb, rs_at hr, lenM_eD (show r.length ≤ 1000 by omega)]
    have hfit : ∀ p ∈ (List.range rs.length).filter (fitB rs en), p < rs.length ∧ fitB rs en p = true := fun p hp => by
      have := List.mem_filter.mp hp
      exact ⟨List.mem_range.mp this.1, this.2⟩
    have hfl : ((List.range rs.length).filter (fitB rs en)).length ≤ 30 := by
      have := List.length_filter_le (fitB rs en) (List.range rs.length)
      rw [List.length_range] at this; omega
    generalize (List.range rs.length).filter (fitB rs en) = fit at hfit hfl
    have hsh : shp (.list (fit.map eN)) = true := (lay_listM (k := 0) fun x _ => lay_int 0 _).shp (by decide)
    by_cases hne : fit = []
    · subst hne
      obtain ⟨s0, hs0⟩ : ∃ s0, sp[0]? = some s0 := ⟨_, List.getElem?_eq_getElem (by rw [g.l1]; exact g.pos)⟩
      simp_arith [isP_hpM, cmp_nenil shp_nil, show at2 (spM sp) (.int 0) = _ from sp_at hs0]
      refine draw_ok h (by omega) (by omega) fun e xs s h0 h1 h => ?_
      simp_arith [isP_hpM]
      split <;>
      · refine u_to_ok h hn hn6 (g.sps s0 (List.mem_of_getElem? hs0)) (by omega) hd hw0 hwl hw fun l xs s hl ha h => ?_
        simp_arith [isP_hpM, cmp_nenil shp_nil]
        exact ⟨_, _, _, _, _, _, _, _, _, _, _, rfl, h, g, hle⟩
    · have hemp : (fit.map eN).isEmpty = false := by cases fit <;> simp at hne ⊢
      obtain ⟨tl, htl⟩ : ∃ tl, tl = (fit.map eN).drop ((fit.map eN).length - 1) := ⟨_, rfl⟩
      have htl1 : tl.length ≤ 1 := by rw [htl]; simp; omega
      have htl2 : ∀ x ∈ tl, x ∈ fit.map eN := fun x hx => by rw [htl] at hx; exact List.mem_of_mem_drop hx
      have hc1 : tl.length * 2 ≤ 16777216 := by omega
      have hc2 : (fit.map eN).length + [tl, tl].flatten.length ≤ 16777216 := by simp; omega
      simp_arith [isP_hpM, cmp_nenil hsh, hemp, cutP_last, ← htl, Int.reducePow, Int.reduceNeg, Int.reduceToNat, hc1, hc2]
      refine pick_ok (d := .list (fit.map eN ++ [tl, tl].flatten)) (ds := fit.map eN ++ [tl, tl].flatten) h rfl (by simp [hne]) (by simp; omega) fun e xs s he h => ?_
      have he' : e ∈ fit.map eN := by
        rw [List.mem_append] at he
        rcases he with he | he
        · exact he
        · obtain ⟨l, hl, hel⟩ := List.mem_flatten.mp he
          simp only [List.mem_cons, List.not_mem_nil, or_false, or_self] at hl
          rw [hl] at hel
          exact htl2 e hel
      obtain ⟨p, hp, rfl⟩ := List.mem_map.mp he'
      obtain ⟨hp1, hp2⟩ := hfit p hp
      obtain ⟨r, hr⟩ : ∃ r, rs[p]? = some r := ⟨_, List.getElem?_eq_getElem hp1⟩
      obtain ⟨sp0, hs0⟩ : ∃ s0, sp[p]? = some s0 := ⟨_, List.getElem?_eq_getElem (by rw [g.l1]; exact hp1)⟩
      have hr3 : r.length < 3 := by
        unfold fitB at hp2
        rw [List.getD_eq_getElem?_getD, List.getD_eq_getElem?_getD, hr] at hp2
        simp at hp2; omega
      simp_arith [isP_hpM, eN, sp_at hs0]
      refine draw_ok h (by omega) (by omega) fun e xs s h0 h1 h => ?_
      simp_arith [isP_hpM]
      split <;>
      · refine u_to_ok h hn hn6 (g.sps sp0 (List.mem_of_getElem? hs0)) (by omega) hd hw0 hwl hw fun l xs s hl ha h => ?_
        by_cases hfull : (rs.length : Int) < many
        · by_cases hin : l ∈ r.map (·.1)
          · simp_arith [isP_hpM, cmp_nenil hsh, hemp, lenM_rsM, hfull, rs_at hr, eD_in, hin]
            exact ⟨_, _, _, _, _, _, _, _, _, _, _, rfl, h, g, hle⟩
          · have hrl : r.length ≤ 1000 := by omega
            have hsl := g.l1
            have hel := g.l2
            have fin : ∀ (b : Int) (xs : List Int) (s : Int) (e : Bool), (0 ≤ b ∧ b < n) → Gn n (rs.set p (r ++ [(l, rs.length)]) ++ [[]]) (sp ++ [b]) (en ++ [e]) ∧ (((rs.set p (r ++ [(l, rs.length)]) ++ [[]]).length : Nat) : Int) ≤ many := fun b xs s e hb =>
              ⟨g.grow hr hr3 hl (by rw [hs0, ha]) hin hb e, by simp; omega⟩
            simp_arith [isP_hpM, cmp_nenil hsh, hemp, lenM_rsM, hfull, rs_at hr, eD_in, hin, rs_dn hr, eD_put hin hrl, rs_up hr, tyM_sp, isP_rs]
            by_cases hst : 0 < style
            · simp_arith [hst, isP_hpM]
              refine draw_ok h (by omega) (by omega) fun e xs s h0 h1 h => ?_
              by_cases he0 : 0 < e
              · simp_arith [isP_hpM, he0, app_sp (show sp.length ≤ 1000 by omega), tyM_rs, tyM_en, app_rs (show (rs.set p (r ++ [(l, rs.length)])).length ≤ 1000 by simp; omega)]
                refine draw_ok h (by omega) (by omega) fun e xs s h0 h1 h => ?_
                simp_arith [isP_hpM, app_en (show en.length ≤ 1000 by omega)]
                obtain ⟨k1, k2⟩ := fin l.b xs s (decide (e = 0)) ⟨hl.1.2.2.1, hl.1.2.2.2.1⟩
                exact ⟨_, _, _, _, _, _, _, _, _, _, _, rfl, h, k1, k2⟩
              · simp_arith [isP_hpM, he0]
                refine draw_ok h (by omega) (by omega) fun e xs s h0 h1 h => ?_
                simp_arith [isP_hpM, app_sp (show sp.length ≤ 1000 by omega), tyM_rs, tyM_en, app_rs (show (rs.set p (r ++ [(l, rs.length)])).length ≤ 1000 by simp; omega)]
                refine draw_ok h (by omega) (by omega) fun e2 xs s h2 h3 h => ?_
                simp_arith [isP_hpM, app_en (show en.length ≤ 1000 by omega)]
                obtain ⟨k1, k2⟩ := fin e xs s (decide (e2 = 0)) ⟨h0, h1⟩
                exact ⟨_, _, _, _, _, _, _, _, _, _, _, rfl, h, k1, k2⟩
            · simp_arith [hst, isP_hpM]
              refine draw_ok h (by omega) (by omega) fun e xs s h0 h1 h => ?_
              simp_arith [isP_hpM, app_sp (show sp.length ≤ 1000 by omega), tyM_rs, tyM_en, app_rs (show (rs.set p (r ++ [(l, rs.length)])).length ≤ 1000 by simp; omega)]
              refine draw_ok h (by omega) (by omega) fun e2 xs s h2 h3 h => ?_
              simp_arith [isP_hpM, app_en (show en.length ≤ 1000 by omega)]
              obtain ⟨k1, k2⟩ := fin e xs s (decide (e2 = 0)) ⟨h0, h1⟩
              exact ⟨_, _, _, _, _, _, _, _, _, _, _, rfl, h, k1, k2⟩
        · simp_arith [isP_hpM, cmp_nenil hsh, hemp, lenM_rsM, hfull]
          exact ⟨_, _, _, _, _, _, _, _, _, _, _, rfl, h, g, hle⟩

theorem ltL_irrefl (a : L) : ltL a a = false := PyProof.Rows.lex_irrefl (O := PyProof.Rows.itemOrd) _
theorem far_self {r : List Row} (h : r.Pairwise fun x y => ltL x.1 y.1 = true) : ∀ x ∈ r, far r x.1 = some x.2 := by
  induction r with
  | nil => intro x hx; cases hx
  | cons y r ih =>
    intro x hx
    rw [List.pairwise_cons] at h
    rw [far_cons]
    rcases List.mem_cons.mp hx with rfl | hx
    · rw [if_pos rfl]
    · have := h.1 x hx
      rw [if_neg (fun e => by rw [e, ltL_irrefl] at this; cases this)]
      exact ih h.2 x hx
theorem wEnd_snoc {R : List (List Row)} {l : L} {q q' : Nat} {r : List Row} (hr : R[q]? = some r) (hf : far r l = some q') : ∀ {w : List L} {p : Nat}, wEnd R p w = some q → wEnd R p (w ++ [l]) = some q'
  | [], p, h => by
    rw [wEnd] at h; cases h
    rw [List.nil_append, wEnd]
    simp only [hr, hf]
    rw [wEnd]
  | x :: w, p, h => by
    rw [wEnd] at h
    rw [List.cons_append, wEnd]
    cases hp : R[p]? with
    | none => rw [hp] at h; cases h
    | some r1 =>
      simp only [hp] at h ⊢
      cases hx : far r1 x with
      | none => rw [hx] at h; cases h
      | some p1 =>
        simp only [hx] at h ⊢
        exact wEnd_snoc hr hf h
theorem cmp_neR (r : List Row) : cmpB .ne (eR r) (.tuple []) = some (!r.isEmpty) := by
  rw [show eR r = .tuple (r.map eRow) from rfl, cmp_netnil (shp_R r)]
  cases r <;> rfl
theorem biList_R (r : List Row) : biList [eR r] = some (.lst ((r.map eRow).map .val)) := rfl
theorem u_walk_ok {xs : List Int} {s : Int} {n : Int} {R : List (List Row)} (hB : BkOk n R) {p : Nat} (hp : p < R.length) {most : Int} (hm0 : 0 ≤ most) (hm : most ≤ 1000) {Q : M × List (Option M) → Prop} {u : Hold Q} (h : HpOk xs s)
    (q : ∀ w q xs' s', wEnd R p w = some q → (∀ l ∈ w, LOk n l) → (w.length : Int) ≤ most → HpOk xs' s' → Q (.val (eW w), [some (hpM xs' s'), none, none, none])) : Sat (g_u_law_walk [hpM xs s, .val (eRs R), .val (.int (p : Int)), .val (.int most)]) Q u := by
  unfold g_u_law_walk b_u_law_walk
  simp_arith [isP_hpM]
  refine draw_ok h (by omega) (by omega) fun k xs s h0 h1 h => ?_
  have hrd : rgD 0 k = (List.range k.toNat).map fun i => .int (i : Nat) := rgD_int h0
  have hrg : rgOk 0 k = true := by
    have := rgOk_nat (n := k.toNat) (by omega)
    rwa [Int.toNat_of_nonneg h0] at this
  simp_arith [isP_hpM, hrd, hrg]
  refine Sat_forV (fun i : Nat => PyData.int (i : Int)) (fun is ρ => ∃ (xs : List Int) (s : Int) (p' : Nat) (ws : List L) (x5 x6 : Option M), ρ = [some (hpM xs s), some (.val (eRs R)), some (.val (.int (p' : Int))), some (.val (.int most)), some (.lst ((ws.map eL).map .val)), x5, x6] ∧ HpOk xs s ∧ p' < R.length ∧ wEnd R p ws = some p' ∧ (∀ l ∈ ws, LOk n l) ∧ ws.length + is.length ≤ k.toNat) ⟨_, _, p, [], _, _, rfl, h, hp, by rw [wEnd], by simp, by simp⟩ ?_ ?_
  · rintro ρ ⟨xs, s, p', ws, x5, x6, rfl, h, h2, h3, h4, h5⟩
    simp_arith [isP_hpM]
    exact q ws p' xs s h3 h4 (by simp at h5; omega) h
  · rintro i is ρ ⟨xs, s, p', ws, x5, x6, rfl, h, h2, h3, h4, h5⟩
    obtain ⟨r, hr⟩ : ∃ r, R[p']? = some r := ⟨_, List.getElem?_eq_getElem h2⟩
    simp only [List.length_cons] at h5
    cases r with
    | nil =>
      simp_arith [at_Rs hr, cmp_neR]
      exact ⟨_, _, _, _, _, _, rfl, h, h2, h3, h4, by omega⟩
    | cons z r =>
      have hrm := List.mem_of_getElem? hr
      simp_arith [at_Rs hr, cmp_neR, biList_R, isP_hpM]
      have hlen := hB.few _ hrm
      refine pick_ok (d := .list (eRow z :: r.map eRow)) (ds := eRow z :: r.map eRow) h rfl (by simp) (by simp at hlen ⊢; omega) fun e xs s he h => ?_
      obtain ⟨x, hx, rfl⟩ := List.mem_map.mp (show e ∈ (z :: r).map eRow from he)
      have hw := hB.rows _ hrm x hx
      have hl4 : ((ws.map eL).map M.val).length < 16777216 := by rw [len2]; omega
      simp_arith [isP_hpM, hl4, snoc2]
      refine ⟨_, _, x.2, ws ++ [x.1], _, _, rfl, h, hw.2, wEnd_snoc hr (far_self (hB.pl _ hrm).up x hx) h3, fun l hl => ?_, by simp; omega⟩
      rw [List.mem_append, List.mem_singleton] at hl
      rcases hl with hl | rfl
      · exact h4 l hl
      · exact hw.1
/-! comprehensions that change what stands around -/
theorem Sat_lcI {α : Type} {W : EvW} {T : EvB} {A : EvE} {own : List Nat} {Q : List M × Env → Prop} {u : Hold Q} (e : α → M) (I : List α → List M → Env → Prop) (hs : ∀ x xs acc ρ, I (x :: xs) acc ρ → acc.length < sizeLine ∧ Sat (W (e x) ρ) (fun ρ1 => Sat (T ρ1) (fun b => if b.1 = true then Sat (A b.2) (fun y => I xs (acc ++ [y.1]) (wipeE y.2 own)) ⟨⟩ else I xs acc (wipeE b.2 own)) ⟨⟩) ⟨⟩) (hq : ∀ acc ρ, I [] acc ρ → Q (acc, ρ)) : ∀ (xs : List α) (acc : List M) (ρ : Env), I xs acc ρ → Sat (lcF W T A own (xs.map e) acc ρ) Q u := by
  intro xs
  induction xs with
  | nil => intro acc ρ h; exact ⟨_, rfl, hq acc ρ h⟩
  | cons x xs ih =>
    intro acc ρ h
    obtain ⟨hl, ρ1, e1, b, e2, h2⟩ := hs x xs acc ρ h
    obtain ⟨b, ρ2⟩ := b
    have start : lcF W T A own ((x :: xs).map e) acc ρ = ((W (e x) ρ).bind fun ρ1 => (T ρ1).bind fun (b, ρ2) => if b = true then (A ρ2).bind fun (m, ρ3) => if acc.length < sizeLine then lcF W T A own (xs.map e) (acc ++ [m]) (wipeE ρ3 own) else none else lcF W T A own (xs.map e) acc (wipeE ρ2 own)) := rfl
    cases b with
    | true =>
      obtain ⟨y, e3, h3⟩ : Sat (A ρ2) (fun y => I xs (acc ++ [y.1]) (wipeE y.2 own)) ⟨⟩ := h2
      have : lcF W T A own ((x :: xs).map e) acc ρ = lcF W T A own (xs.map e) (acc ++ [y.1]) (wipeE y.2 own) := by
        rw [start, e1]
        show ((T ρ1).bind _) = _
        rw [e2]
        show ((A ρ2).bind _) = _
        rw [e3]
        exact if_pos hl
      unfold Sat; rw [this]
      exact ih _ _ h3
    | false =>
      have : lcF W T A own ((x :: xs).map e) acc ρ = lcF W T A own (xs.map e) acc (wipeE ρ2 own) := by
        rw [start, e1]
        show ((T ρ1).bind _) = _
        rw [e2]
        rfl
      unfold Sat; rw [this]
      exact ih _ _ h2
theorem u_some_ok {xs : List Int} {s : Int} {n : Int} (hn : 2 ≤ n) (hn6 : n ≤ 6) {Q : M × List (Option M) → Prop} {u : Hold Q} (h : HpOk xs s)
    (q : ∀ hs xs' s', HOk n hs → HpOk xs' s' → Q (.val (eH hs), [some (hpM xs' s'), none])) : Sat (g_u_law_some [hpM xs s, .val (.int n)]) Q u := by
  unfold g_u_law_some b_u_law_some
  have hrd : rgD 0 n = (List.range n.toNat).map fun i => .int (i : Nat) := rgD_int (by omega)
  have hrg : rgOk 0 n = true := by
    have := rgOk_nat (n := n.toNat) (by omega)
    rwa [Int.toNat_of_nonneg (by omega)] at this
  simp_arith [hrd, hrg]
  rw [List.map_map]
  refine Sat_lcI _ (fun (is : List Nat) acc ρ => ∃ (xs : List Int) (s : Int) (hs : List Int), acc = (hs.map .int).map .val ∧ ρ = [some (hpM xs s), some (.val (.int n)), none] ∧ HpOk xs s ∧ Asc hs ∧ (∀ x ∈ hs, 0 ≤ x ∧ x < n) ∧ hs.length + is.length ≤ 6 ∧ is.Pairwise (· < ·) ∧ (∀ i ∈ is, (i : Int) < n ∧ ∀ x ∈ hs, x < i)) (fun i is acc ρ => ?_) (fun acc ρ => ?_) _ _ _ ⟨xs, s, [], rfl, rfl, h, .nil, by simp, by simp; omega, List.pairwise_lt_range, fun i hi => ⟨by have := List.mem_range.mp hi; omega, by simp⟩⟩
  · rintro ⟨xs, s, hs, rfl, rfl, h, h1, h2, h3, h4, h5⟩
    simp only [List.length_cons] at h3
    rw [List.pairwise_cons] at h4
    have h6 := h5 i List.mem_cons_self
    refine ⟨by rw [len2]; unfold sizeLine; omega, ?_⟩
    simp_arith [isP_hpM, Function.comp_apply]
    refine draw_ok h (by omega) (by omega) fun k xs s h0 h1' h => ?_
    by_cases hk : k = 0
    · simp_arith [isP_hpM, hk]
      refine ⟨xs, s, hs ++ [(i : Int)], by simp, rfl, h, ?_, ?_, by simp; omega, h4.2, fun j hj => ⟨(h5 j (List.mem_cons_of_mem _ hj)).1, fun x hx => ?_⟩⟩
      · refine List.pairwise_append.mpr ?_
        exact ⟨h1, List.pairwise_singleton _ _, fun a ha b hb => by rw [List.mem_singleton] at hb; subst hb; exact h6.2 a ha⟩
      · intro x hx
        rw [List.mem_append, List.mem_singleton] at hx
        rcases hx with hx | rfl
        · exact h2 x hx
        · exact ⟨by omega, h6.1⟩
      · rw [List.mem_append, List.mem_singleton] at hx
        rcases hx with hx | rfl
        · exact (h5 j (List.mem_cons_of_mem _ hj)).2 x hx
        · have := h4.1 j hj; omega
    · simp_arith [isP_hpM, hk]
      exact ⟨xs, s, hs, rfl, rfl, h, h1, h2, by omega, h4.2, fun j hj => h5 j (List.mem_cons_of_mem _ hj)⟩
  · rintro ⟨xs, s, hs, rfl, rfl, h, h1, h2, h3, h4, h5⟩
    simp_arith []
    exact q hs xs s ⟨h1, h2⟩ h
/-! bent values -/
inductive Vd : Nat → PyData → Prop
  | int {k : Nat} (i : Int) : Vd k (.int i)
  | tup {k : Nat} {ds : List PyData} : ds.length ≤ 1000 → (∀ d ∈ ds, Vd k d) → Vd (k + 1) (.tuple ds)
theorem Vd.lay {k : Nat} {d : PyData} (h : Vd k d) : Lay k d := by
  induction h with
  | int i => exact lay_int _ i
  | tup _ _ ih => exact lay_tuple ih
theorem lay_str (k : Nat) {x : Str} (h : (PyData.str x).canLay0 = true) : Lay k (.str x) := ⟨h, by rw [PyData.depth]; omega⟩
theorem lay_on (k : Nat) : Lay k (.str "on") := lay_str k (by rw [PyData.canLay0]; decide +kernel)
theorem lay_say (k : Nat) : Lay k (.str "say") := lay_str k (by rw [PyData.canLay0]; decide +kernel)
theorem lay_hear (k : Nat) : Lay k (.str "hear") := lay_str k (by rw [PyData.canLay0]; decide +kernel)
theorem lay_par (k : Nat) : Lay k (.str "()") := lay_str k (by rw [PyData.canLay0]; decide +kernel)
theorem lay_tnil (k : Nat) : Lay (k + 1) (.tuple []) := lay_tuple fun _ h => by cases h
theorem lay_lnil (k : Nat) : Lay (k + 1) (.list []) := lay_list fun _ h => by cases h
theorem lay_t1 {k : Nat} {d : PyData} (h : Lay k d) : Lay (k + 1) (.tuple [d]) := lay_tuple fun e he => by rw [List.mem_singleton] at he; subst he; exact h
theorem bent_ok {m : Nat} {ps : List PyData} (hps : ∀ p ∈ ps, Lay m p) (hpl : ps.length ≤ 10000) : ∀ (k : Nat) (ds : List PyData) (xs : List Int) (s : Int) {Q : M × List (Option M) → Prop} {u : Hold Q}, Vd k (.tuple ds) → HpOk xs s →
    (∀ d xs' s', Lay (k + m + 3) d → HpOk xs' s' → Q (.val d, [some (hpM xs' s'), none, none])) → Sat (g_u_law_bent (k + 1) [hpM xs s, .val (.tuple ds), .val (.list ps)]) Q u := by
  intro k
  induction k with
  | zero => intro ds xs s Q u hv; cases hv
  | succ k ih =>
    intro ds xs s Q u hv h q
    obtain ⟨hl, hds⟩ : ds.length ≤ 1000 ∧ ∀ d ∈ ds, Vd k d := by cases hv with | tup h1 h2 => exact ⟨h1, h2⟩
    unfold g_u_law_bent b_u_law_bent
    by_cases h0 : ds = []
    · subst h0
      simp_arith [isP_hpM]
      refine pick_ok (d := .list [.none, .list [], .int 0, .tuple [.int 0], .str "()", .tuple [.tuple []]]) h rfl (by simp) (by simp) fun e xs s he h => ?_
      simp_arith [isP_hpM]
      refine q e xs s ?_ h
      simp only [List.mem_cons, List.not_mem_nil, or_false] at he
      rcases he with rfl | rfl | rfl | rfl | rfl | rfl
      · exact lay_none _
      · exact lay_lnil _
      · exact lay_int _ _
      · exact lay_t1 (lay_int _ _)
      · exact lay_par _
      · exact lay_t1 (lay_tnil _)
    · have hpos : 0 < ds.length := List.length_pos_iff.mpr h0
      simp_arith [isP_hpM, show ¬ (ds.length : Int) = 0 by omega]
      refine draw_ok h (by omega) (by omega) fun at_ xs s ha0 ha1 h => ?_
      simp_arith [isP_hpM]
      refine draw_ok h (by omega) (by omega) fun kind xs s hk0 hk1 h => ?_
      obtain ⟨a, rfl⟩ := Int.eq_ofNat_of_zero_le ha0
      obtain ⟨d, hd⟩ : ∃ d, ds[a]? = some d := ⟨_, List.getElem?_eq_getElem (by omega)⟩
      have hdv := hds d (List.mem_of_getElem? hd)
      have hti : cutP ds none (some (a : Int)) = ds.take a := cutP_take ds a
      have hdi : cutP ds (some ((a : Int) + 1)) none = ds.drop (a + 1) := by
        have := cutP_drop ds (a + 1)
        rwa [show (((a + 1 : Nat)) : Int) = (a : Int) + 1 by omega] at this
      have hlt : (ds.take a).length ≤ 1000 := by rw [List.length_take]; omega
      have hld : (ds.drop (a + 1)).length ≤ 1000 := by rw [List.length_drop]; omega
      have hc2 : (ds.take a).length + 1 ≤ 16777216 := by omega
      have hc3 : ∀ d', (ds.take a ++ [d']).length + (ds.drop (a + 1)).length ≤ 16777216 := fun d' => by rw [List.length_append]; simp only [List.length_cons, List.length_nil]; omega
      have hdl : ∀ d ∈ ds, Lay k d := fun d hd => (hds d hd).lay
      have fin : ∀ d', Lay (k + m + 3) d' → Lay (k + 1 + m + 3) (.tuple (ds.take a ++ [d'] ++ ds.drop (a + 1))) := by
        intro d' hd'
        refine (lay_tuple (k := k + m + 3) fun e he => ?_).mono (by omega)
        rw [List.mem_append, List.mem_append, List.mem_singleton] at he
        rcases he with (he | rfl) | he
        · exact (hdl e (List.mem_of_mem_take he)).mono (by omega)
        · exact hd'
        · exact (hdl e (List.mem_of_mem_drop he)).mono (by omega)
      have hat : at2 (.val (.tuple ds)) (.int (a : Int)) = some (.val d) := by rw [at2_vtn, hd]; rfl
      by_cases hk : kind = 0
      · subst hk
        have hcl : (cutP ds (some (-1)) none).length ≤ 1 := by rw [cutP_last, List.length_drop]; omega
        simp_arith [isP_hpM]
        refine ⟨by omega, by omega, ?_⟩
        generalize hA : cutP ds none (some (-1)) = A
        generalize hB : cutP ds (some (-1)) none = B at hcl
        generalize hC : cutP ds none (some 1) = C
        refine pick_ok h rfl (by simp) (by simp) fun e xs s he h => ?_
        simp_arith [isP_hpM]
        refine q e xs s ?_ h
        simp only [List.mem_cons, List.not_mem_nil, or_false] at he
        rcases he with rfl | rfl | rfl | rfl | rfl | rfl | rfl | rfl
        · rw [← hA, cutP_init]
          exact (lay_tuple fun e he => hdl e (List.dropLast_subset _ he)).mono (by omega)
        · refine (lay_tuple (k := k) fun e he => ?_).mono (by omega)
          rw [List.mem_append, List.mem_singleton] at he
          rcases he with he | rfl
          · exact hdl e he
          · exact lay_int _ _
        · exact (lay_list hdl).mono (by omega)
        · exact lay_none _
        · rw [← hC, cutP_1]
          exact (lay_tuple fun e he => hdl e (List.mem_of_mem_take he)).mono (by omega)
        · exact lay_int _ _
        · exact lay_on _
        · refine (lay_tuple (k := k) fun e he => ?_).mono (by omega)
          rw [List.mem_append, ← hB, cutP_last] at he
          rcases he with he | he
          · exact hdl e he
          · exact hdl e (List.mem_of_mem_drop he)
      have pk : ∀ (xs : List Int) (s : Int) {Q' : M × List (Option M) → Prop} {u' : Hold Q'}, HpOk xs s → (∀ d' xs' s', Lay (k + m + 3) d' → HpOk xs' s' → Q' (.val d', [some (hpM xs' s'), none])) → Sat (g_u_law_pick [hpM xs s, .val (.list (ps ++ [.none, .bool true, .int (0 - 1), .int 0, .int 1, .str "say", .str "hear", .tuple [], .tuple [.int 0], .int (10 ^ Int.toNat 9)]))]) Q' u' := by
        intro xs s Q' u' h q'
        refine pick_ok h rfl (by simp) (by simp; omega) fun e xs s he h => q' e xs s ?_ h
        rw [List.mem_append] at he
        rcases he with he | he
        · exact (hps e he).mono (by omega)
        simp only [List.mem_cons, List.not_mem_nil, or_false] at he
        rcases he with rfl | rfl | rfl | rfl | rfl | rfl | rfl | rfl | rfl | rfl
        · exact lay_none _
        · exact lay_bool _ _
        · exact lay_int _ _
        · exact lay_int _ _
        · exact lay_int _ _
        · exact lay_say _
        · exact lay_hear _
        · exact (lay_tnil 0).mono (by omega)
        · exact (lay_t1 (lay_int 0 _)).mono (by omega)
        · exact lay_int _ _
      have hcp : ps.length + 10 ≤ 16777216 := by omega
      cases hdv with
      | int i =>
        have part : kind < 8 → Sat (g_u_law_pick [hpM xs s, .val (.list [.int 1, .int 1, .int (0 - 1), .int 2])]) (fun x => ∃ j xs s, x = (.val (.int j), [some (hpM xs s), none]) ∧ HpOk xs s) ⟨⟩ := fun _ =>
          pick_I (P := fun _ => True) h rfl (by simp) (by simp) (fun x hx => by
            simp only [List.mem_cons, List.not_mem_nil, or_false] at hx
            rcases hx with rfl | rfl | rfl | rfl <;> exact ⟨_, rfl, trivial⟩) fun j xs s _ h => ⟨j, xs, s, rfl, h⟩
        by_cases h5 : kind < 5
        · have h8 : kind < 8 := by omega
          simp_arith [isP_hpM, hk, hat, h5, h8]
          refine (part h8).imp ?_
          rintro _ ⟨j, xs, s, rfl, h⟩
          simp_arith [isP_hpM, hti, hdi, hc2, hc3]
          exact q _ xs s (fin _ (lay_int _ _)) h
        · by_cases h8 : kind < 8
          · simp_arith [isP_hpM, hk, hat, h5, h8]
            refine (part h8).imp ?_
            rintro _ ⟨j, xs, s, rfl, h⟩
            simp_arith [isP_hpM, hti, hdi, hc2, hc3]
            exact q _ xs s (fin _ (lay_int _ _)) h
          · simp_arith [isP_hpM, hk, hat, h5, h8]
            refine ⟨by decide, by omega, pk xs s h fun d' xs s hd' h => ?_⟩
            simp_arith [isP_hpM, hti, hdi, hc2, hc3]
            exact q _ xs s (fin _ hd') h
      | tup h1 h2 =>
        rename_i k es
        have rest : (5 ≤ kind ∨ es = []) → kind ≠ 0 → ∀ {Q' : M × List (Option M) → Prop} {u' : Hold Q'}, (∀ d' xs' s', Lay (k + 1 + m + 3) d' → HpOk xs' s' → Q' (.val d', [some (hpM xs' s'), none])) → Sat (g_u_law_pick [hpM xs s, .val (.list (ps ++ [.none, .bool true, .int (0 - 1), .int 0, .int 1, .str "say", .str "hear", .tuple [], .tuple [.int 0], .int (10 ^ Int.toNat 9)]))]) Q' u' := fun _ _ Q' u' q' => pk xs s h q'
        by_cases h5 : kind < 5
        · by_cases he : es = []
          · subst he
            by_cases h8 : kind < 8
            · simp_arith [isP_hpM, hk, hat, h5, h8]
              refine ⟨by decide, by omega, pk xs s h fun d' xs s hd' h => ?_⟩
              simp_arith [isP_hpM, hti, hdi, hc2, hc3]
              exact q _ xs s (fin _ hd') h
            · omega
          · have hesp : (0 : Int) < (es.length : Int) := by have := List.length_pos_iff.mpr he; omega
            by_cases h4 : kind < 4
            · simp_arith [isP_hpM, hk, hat, h5, hesp, h4]
              refine ih es xs s (.tup h1 h2) h fun d' xs s hd' h => ?_
              simp_arith [isP_hpM, hti, hdi, hc2, hc3]
              exact q _ xs s (fin _ hd') h
            · simp_arith [isP_hpM, hk, hat, h5, hesp, h4, hti, hdi, hc2, hc3]
              exact q _ xs s (fin _ ((lay_list fun e he => (h2 e he).lay).mono (by omega))) h
        · by_cases h8 : kind < 8
          · simp_arith [isP_hpM, hk, hat, h5, h8]
            refine ⟨by decide, by omega, pk xs s h fun d' xs s hd' h => ?_⟩
            simp_arith [isP_hpM, hti, hdi, hc2, hc3]
            exact q _ xs s (fin _ hd') h
          · simp_arith [isP_hpM, hk, hat, h5, h8]
            refine ⟨by decide, by omega, pk xs s h fun d' xs s hd' h => ?_⟩
            simp_arith [isP_hpM, hti, hdi, hc2, hc3]
            exact q _ xs s (fin _ hd') h

def revM : M → Option M
  | .val (.tuple ds) => some (.val (.tuple ds.reverse))
  | _ => none
theorem revM_W (w : List L) : revM (.val (eW w)) = some (.val (eW w.reverse)) := by
  show some (M.val (.tuple (w.map eL).reverse)) = _
  rw [← List.map_reverse]; rfl
theorem S_zRevTr {A : EvR} {ρ : Env} {Q : M × Env → Prop} {u : Hold Q} : Sat (zRevT (oR A) (oF (zBin .sub (oF (zC (.int 0))) (oF (zC (.int 1))) true)) ρ) Q u = Sat ((A ρ).bind fun m => (revM m).map fun m' => (m', ρ)) Q u := by
  have e : zRevT (oR A) (oF (zBin .sub (oF (zC (.int 0))) (oF (zC (.int 1))) true)) ρ = ((A ρ).bind fun m => (revM m).map fun m' => (m', ρ)) := by
    unfold zRevT oR
    cases A ρ with
    | none => rfl
    | some m =>
      cases m with
      | val d => cases d <;> rfl
      | lst ms =>
        show ((vals ms).map _ |>.map _ |>.bind _) = _
        cases vals ms <;> rfl
      | _ => rfl
  rw [e]
theorem sl_W (w : List L) : slM (eW w) (some 1) none = some (.val (eW (w.drop 1))) := by
  show some (M.val (.tuple (cutP (w.map eL) (some 1) none))) = _
  rw [cutP_d1, ← List.map_drop]; rfl
theorem bin_W {w : List L} {l : L} (h : w.length ≤ 100000) : binM .add (eW w) (.tuple [eL l]) = some (.val (eW (w ++ [l]))) := by
  show ck _ _ = _
  rw [ck_true (by unfold sizeLine; simp; omega)]
  unfold eW
  rw [List.map_append]; rfl
theorem biList_W (w : List L) : biList [eW w] = some (.lst ((w.map eL).map .val)) := rfl
theorem fold_book (n : Int) (R : List (List Row)) : M.fz (.ins "Book" [("houses", .val (.int n)), ("rows", .val (eRs R))]) = bookM n R := rfl
theorem vd_L (k : Nat) (l : L) : Vd (k + 1) (eL l) := .tup (by simp) fun d hd => by
  simp only [List.mem_cons, List.not_mem_nil, or_false] at hd
  rcases hd with rfl | rfl | rfl <;> exact .int _
theorem vd_W (k : Nat) {w : List L} (h : w.length ≤ 1000) : Vd (k + 2) (eW w) := .tup (by simpa using h) fun d hd => by
  obtain ⟨l, _, rfl⟩ := List.mem_map.mp hd
  exact vd_L k l
/-! a book of one row -/
theorem one_len (l : L) : ([[(l, 0)]] : List (List Row)).length = 1 := rfl
theorem one_ok {l : L} (h : LetOk 2 l) : BkOk 2 [[(l, 0)]] where
  n2 := Int.le_refl _
  n6 := by decide
  pos := Nat.one_pos
  len := by rw [one_len]; decide
  pl := by
    intro r hr
    rw [List.mem_singleton] at hr; subst hr
    exact ⟨fun x hx => by rw [List.mem_singleton] at hx; subst hx; exact ⟨h, Nat.one_pos⟩, List.pairwise_singleton _ _, fun x hx y hy => by rw [List.mem_singleton] at hx hy; rw [hx, hy]⟩
  few := by intro r hr; rw [List.mem_singleton] at hr; subst hr; simp
  sum := by simp
  from_ := by intro j h0 h1; simp at h1; omega
theorem wEnd_one (l : L) : ∀ k, wEnd [[(l, 0)]] 0 (List.replicate k l) = some 0
  | 0 => by rw [List.replicate_zero, wEnd]
  | k + 1 => by
    rw [List.replicate_succ, wEnd]
    have : far [(l, 0)] l = some 0 := by rw [far_cons, if_pos rfl]
    simp [this, wEnd_one l k]
theorem rep_flat (l : L) (k : Nat) : (List.replicate k [eL l]).flatten = (List.replicate k l).map eL := by
  induction k with
  | zero => rfl
  | succ k ih => rw [List.replicate_succ, List.flatten_cons, ih, List.replicate_succ]; rfl
theorem isWkD_t (R : List (List Row)) (p : Nat) (ds : List PyData) : isWkD R p (.tuple ds) = (decide (ds.length ≤ 10000) && isWk R p ds) := rfl
theorem long_1 {l : L} (h : LetOk 2 l) : isWkD [[(l, 0)]] 0 (.tuple (List.replicate (Int.toNat 10000) [eL l]).flatten) = true := by
  have e : Int.toNat 10000 = 10000 := rfl
  rw [rep_flat, e]
  rw [isWkD_t, isWk_L (fun x hx => by rw [List.eq_of_mem_replicate hx]; exact ⟨h.1.1, h.1.2.2.1, h.1.2.2.2.2⟩) Nat.one_pos (one_ok h).rows.wf, wEnd_one, List.length_map, List.length_replicate]
  rfl
theorem long_2 (l : L) : isWkD [[(l, 0)]] 0 (.tuple (List.replicate (Int.toNat 10001) [eL l]).flatten) = false := by
  have e : Int.toNat 10001 = 10001 := rfl
  rw [rep_flat, e, isWkD_t, List.length_map, List.length_replicate]
  rfl
theorem long_ok {xs : List Int} {s : Int} {Q : M × List (Option M) → Prop} {u : Hold Q} (h : HpOk xs s) (q : ∀ xs' s', HpOk xs' s' → Q (.val (.bool true), [some (hpM xs' s')])) : Sat (g_u_law_long_right [hpM xs s]) Q u := by
  unfold g_u_law_long_right b_u_law_long_right
  simp_arith [isP_hpM]
  refine draw_ok h (by omega) (by omega) fun a xs s ha0 ha1 h => ?_
  simp_arith [isP_hpM]
  refine draw_ok h (by omega) (by omega) fun w xs s hw0 hw1 h => ?_
  have hl : LetOk 2 ⟨a, 1 - a, w⟩ := ⟨⟨ha0, ha1, by show 0 ≤ 1 - a; omega, by show 1 - a < 2; omega, hw0⟩, by show a ≠ 1 - a; omega, hw1⟩
  have e1 := book_init_eq (one_ok hl)
  have f1 : PyData.tuple [.tuple [.tuple [eL ⟨a, 1 - a, w⟩, .int 0]]] = eRs [[(⟨a, 1 - a, w⟩, 0)]] := rfl
  have f2 : PyData.tuple [.int a, .int (1 - a), .int w] = eL ⟨a, 1 - a, w⟩ := rfl
  have e2 : ∀ d, g_is_walk [bookM 2 [[(⟨a, 1 - a, w⟩, 0)]], .val (.int 0), .val d] = _ := fun d => is_walk_eq (one_ok hl).rows.wf (p := 0) Nat.one_pos d
  simp_arith [isP_hpM, f1, e1, fold_book, f2, Int.reduceMul, isP_bookM, e2, long_1 hl, long_2]
  exact q xs s h

theorem deep_book (n : Int) (R : List (List Row)) : deep (bookM n R) = none := by
  unfold bookM
  rw [deep, deep]
theorem sum_app (a : List Row) (b : List (List Row)) : (((a :: b).map fun r => (r.length : Int))).sum = (a.length : Int) + (b.map fun r => (r.length : Int)).sum := by
  rw [List.map_cons, List.sum_cons]
theorem Sat_lcT' {α : Type} {W : EvW} {T : EvB} {A : EvE} {ρ : Env} {Q : List M → Prop} {u : Hold Q} (e : α → PyData) (f : α → M) (xs : List α) (hl : xs.length ≤ sizeLine)
    (h : ∀ x ∈ xs, Sat (W (.val (e x)) ρ) (fun ρ1 => Sat (T ρ1) (fun b => b.1 = true ∧ Sat (A b.2) (fun y => y.1 = f x) ⟨⟩) ⟨⟩) ⟨⟩)
    (q : Q (xs.map f)) : Sat (lcP W T A ρ ((xs.map e).map .val) []) Q u := by
  rw [List.map_map]
  refine Sat_lcT _ (fun x => some (f x)) xs [] (by simpa using hl) (fun x hx => ?_) (by simpa [List.filterMap_eq_map', Function.comp_def] using q)
  obtain ⟨ρ1, e1, b, e2, hb, y, e3, h3⟩ := h x hx
  refine ⟨ρ1, e1, b, e2, ?_⟩
  show if b.1 = true then _ else _
  rw [if_pos hb]
  exact ⟨y, e3, by show some _ = some y.1; rw [show y.1 = _ from h3]⟩
def lstL (l : L) : PyData := .list [.int l.a, .int l.b, .int l.w]
theorem deeps_lists : ∀ w : List L, deeps (w.map fun l => M.lst [.val (.int l.a), .val (.int l.b), .val (.int l.w)]) = some (w.map lstL)
  | [] => rfl
  | l :: w => by
    rw [List.map_cons, deeps, deeps_lists w]; rfl
theorem HLaw (ns : List Int) (hns : ns.length ≤ 63) : ∃ x, g_law [.val (.list (ns.map .int))] = some (.val (.bool true), x) := by
  have main : Sat (g_law [.val (.list (ns.map .int))]) (fun r => ∃ x, r = (.val (.bool true), x)) ⟨⟩ := by
    unfold g_law b_law
    simp_arith []
    refine heap_ok hns fun xs s h => ?_
    simp_arith [isP_hpM]
    refine draw_ok h (by omega) (by omega) fun n0 xs s h0 h1 h => ?_
    simp_arith [isP_hpM]
    refine pick_I (P := fun i => 1 ≤ i ∧ i ≤ 30) h rfl (by simp) (by simp) (fun x hx => by
      simp only [List.mem_cons, List.not_mem_nil, or_false] at hx
      rcases hx with rfl | rfl | rfl | rfl <;> exact ⟨_, rfl, by omega⟩) fun most xs s hmost h => ?_
    simp_arith [isP_hpM]
    refine pick_ok h rfl (by simp) (by simp) fun d xs s hd h => ?_
    obtain ⟨ws, hws, hw0, hwl, hw⟩ : ∃ ws : List Int, seqD d = some (ws.map .int) ∧ ws ≠ [] ∧ ws.length < 1000 ∧ ∀ w ∈ ws, 0 ≤ w ∧ w < 100 := by
      simp only [List.mem_cons, List.not_mem_nil, or_false] at hd
      rcases hd with rfl | rfl | rfl
      · exact ⟨[0], rfl, by simp, by simp, by simp⟩
      · exact ⟨[0, 1], rfl, by simp, by simp, by simp⟩
      · exact ⟨[3, 99], rfl, by simp, by simp, by simp⟩
    simp_arith [isP_hpM]
    refine rows_ok (n := 2 + n0) h (by omega) (by omega) hmost.1 hmost.2 hws hw0 hwl hw fun R xs s hB h => ?_
    generalize hn : 2 + n0 = n at hB
    have hn2 : 2 ≤ n := by omega
    have hn6 : n ≤ 6 := by omega
    have hR := hB.rows
    have hpos := hB.pos
    have hlen := hB.len
    simp_arith [isP_hpM, book_init_eq hB, fold_book, deep_book]
    refine Sat_forV eR (fun rs ρ => ∃ (ls : List L) (x6 : Option M), ρ = [some (.val (.list (ns.map .int))), some (hpM xs s), some (.val (.int n)), some (.val (eRs R)), some (bookM n R), some (.lst ((ls.map eL).map .val)), x6, none, none, none, none, none, none, none, none, none, none, none] ∧ (∀ r ∈ rs, r ∈ R) ∧ (∀ l ∈ ls, LOk n l) ∧ (ls.length : Int) + (rs.map fun r => (r.length : Int)).sum ≤ 600) ⟨[], _, rfl, fun r hr => hr, by simp, by have := hB.sum; simpa using this⟩ ?_ ?_
    · rintro ρ ⟨ls, x6, rfl, -, hls, hll⟩
      have hll : ls.length ≤ 600 := by simp at hll; omega
      simp_arith [show rgOk 0 6 = true by decide, show rgD 0 6 = (List.range 6).map fun i => .int (i : Nat) from rgD_nat 6]
      refine Sat_forV (fun i : Nat => PyData.int (i : Int)) (fun _ ρ => ∃ (xs : List Int) (s : Int) (x7 x8 x9 x10 x11 x12 x13 x14 : Option M), ρ = [some (.val (.list (ns.map .int))), some (hpM xs s), some (.val (.int n)), some (.val (eRs R)), some (bookM n R), some (.val (.list (ls.map eL))), x6, x7, x8, x9, x10, x11, x12, x13, x14, none, none, none] ∧ HpOk xs s) ⟨_, _, _, _, _, _, _, _, _, _, rfl, h⟩ ?_ ?_
      · rintro ρ ⟨xs, s, x7, x8, x9, x10, x11, x12, x13, x14, rfl, h⟩
        simp_arith [isP_hpM]
        refine long_ok h fun xs s h => ?_
        simp_arith [isP_hpM]
        exact ⟨_, rfl⟩
      · clear h xs s
        rintro i is ρ ⟨xs, s, x7, x8, x9, x10, x11, x12, x13, x14, rfl, h⟩
        simp_arith [isP_hpM]
        refine draw_ok h (by omega) (by omega) fun pI xs s hp0 hp1 h => ?_
        obtain ⟨p, rfl⟩ := Int.eq_ofNat_of_zero_le hp0
        have hp : p < R.length := by omega
        simp_arith [isP_hpM]
        refine u_some_ok hn2 hn6 h fun held0 xs s hheld0 h => ?_
        simp_arith [isP_hpM]
        refine pick_I (P := fun i => 0 ≤ i ∧ i ≤ 40) h rfl (by simp) (by simp) (fun x hx => by
          simp only [List.mem_cons, List.not_mem_nil, or_false] at hx
          rcases hx with rfl | rfl | rfl <;> exact ⟨_, rfl, by omega⟩) fun wm xs s hwm h => ?_
        simp_arith [isP_hpM]
        refine u_walk_ok hB hp hwm.1 (by omega) h fun w q xs s hwq hwl hwn h => ?_
        simp_arith [isP_hpM]
        have hw1 : w.length ≤ 1000 := by omega
        have hrg : rgOk 0 n = true := by
          have := rgOk_nat (n := n.toNat) (by omega)
          rwa [Int.toNat_of_nonneg (by omega)] at this
        have hrd : PyData.tuple (rgD 0 n) = eH ((List.range n.toNat).map fun i : Nat => (i : Int)) := by
          rw [rgD_int (by omega)]
          unfold eH
          rw [List.map_map]; rfl
        have hrh : HOk n ((List.range n.toNat).map fun i : Nat => (i : Int)) := by
          refine ⟨List.pairwise_map.mpr (List.pairwise_lt_range.imp fun h => by omega), fun x hx => ?_⟩
          obtain ⟨k, hk, rfl⟩ := List.mem_map.mp hx
          have := List.mem_range.mp hk
          omega
        have hLs : ls.map eL ++ [PyData.tuple [.int 0, .int 1, .int 98]] = (ls ++ [(⟨0, 1, 98⟩ : L)]).map eL := by rw [List.map_append]; rfl
        have hc1 : (ls.map eL).length + 1 ≤ 16777216 := by simp; omega
        have hc4 : (ls.map eL).length + 4 ≤ 16777216 := by simp; omega
        have hsh : shp (.list (ls.map eL)) = true := (lay_listM (k := 1) fun x _ => lay_L x).shp (by decide)
        have hps : ∀ p ∈ ls.map eL ++ [PyData.none, .tuple [.int 0, .int 1], .tuple [.bool true, .int 0, .int 0], .tuple [.int 0, .int 1, .int 98]], Lay 1 p := by
          intro p hp
          rw [List.mem_append] at hp
          rcases hp with hp | hp
          · obtain ⟨l, _, rfl⟩ := List.mem_map.mp hp
            exact lay_L l
          · simp only [List.mem_cons, List.not_mem_nil, or_false] at hp
            rcases hp with rfl | rfl | rfl | rfl
            · exact lay_none _
            all_goals
              refine lay_tuple fun d hd => ?_
              simp only [List.mem_cons, List.not_mem_nil, or_false] at hd
              rcases hd with rfl | rfl | rfl <;> first | exact lay_int _ _ | exact lay_bool _ _
        have hpl : (ls.map eL ++ [PyData.none, .tuple [.int 0, .int 1], .tuple [.bool true, .int 0, .int 0], .tuple [.int 0, .int 1, .int 98]]).length ≤ 10000 := by simp; omega
        have hps : ∀ p ∈ ls.map eL ++ [PyData.none, .tuple [.int 0, .int 1], .tuple [.bool true, .int 0, .int 0], .tuple [.int 0, .int 1, .int 98]], Lay 1 p := by
          intro p hp
          rw [List.mem_append] at hp
          rcases hp with hp | hp
          · obtain ⟨l, _, rfl⟩ := List.mem_map.mp hp
            exact lay_L l
          · simp only [List.mem_cons, List.not_mem_nil, or_false] at hp
            rcases hp with rfl | rfl | rfl | rfl
            · exact lay_none _
            all_goals
              refine lay_tuple fun d hd => ?_
              simp only [List.mem_cons, List.not_mem_nil, or_false] at hd
              rcases hd with rfl | rfl | rfl <;> first | exact lay_int _ _ | exact lay_bool _ _
        have hpl : (ls.map eL ++ [PyData.none, .tuple [.int 0, .int 1], .tuple [.bool true, .int 0, .int 0], .tuple [.int 0, .int 1, .int 98]]).length ≤ 10000 := by simp; omega
        by_cases hi : (i : Int) = 0
        · simp_arith [isP_hpM, hi, hrg]
          refine pick_ok h rfl (by simp) (by simp) fun e xs s he h => ?_
          obtain ⟨held, rfl, hheld⟩ : ∃ held, e = eH held ∧ HOk n held := by
            simp only [List.mem_cons, List.not_mem_nil, or_false] at he
            rcases he with rfl | rfl | rfl
            · exact ⟨[], rfl, .nil, by simp⟩
            · exact ⟨_, hrd, hrh⟩
            · exact ⟨_, rfl, hheld0⟩
          have e1 := walk_right_eq hn6 hR.wf hp hheld hwl hw1 hwq
          have e2 := stages_right_eq hn6 hR hlen (s := ⟨p, held⟩) ⟨hp, hheld⟩ (ls ++ [(⟨0, 1, 98⟩ : L)])
          by_cases hls0 : ls = []
          · have hemp : (ls.map eL).isEmpty = true := by rw [hls0]; rfl
            simp_arith [isP_hpM, isP_bookM, e1, e2, tupS, hLs, hc1, hc4, sl_W, cmp_nenil hsh, hemp, S_zRevTr, revM_W, biList_W, hi]
            refine bent_ok (m := 1) hps hpl 39 (w.map eL) xs s (vd_W 37 hw1) h fun b1 xs s _ h => ?_
            simp_arith [isP_hpM]
            refine bent_ok (m := 1) hps hpl 39 (w.map eL) xs s (vd_W 37 hw1) h fun b2 xs s _ h => ?_
            simp_arith [isP_hpM]
            refine Sat_lcT' eL (fun l => .lst [.val (.int l.a), .val (.int l.b), .val (.int l.w)]) w (by unfold sizeLine; omega) (fun l _ => ?_) ?_
            · simp_arith [show biList [eL l] = some (.lst [.val (.int l.a), .val (.int l.b), .val (.int l.w)]) from rfl]
            simp_arith [deeps_lists]
            refine Sat_lcI M.val (fun is acc ρ => ∃ (us : List Unit) (x7 : Option M), us.length + is.length ≤ 100 ∧ acc = (us.map fun x => PyData.bool ((fun _ => true) x)).map .val ∧ ρ = [some (.val (.list (ns.map .int))), some (hpM xs s), some (.val (.int n)), some (.val (eRs R)), some (bookM n R), some (.val (.list (ls.map eL))), x6, x7, some (.val (.int (p : Int))), some (.val (eH held)), some (.val (eW w)), some (.val (.list (ls.map eL ++ [.none, .tuple [.int 0, .int 1], .tuple [.bool true, .int 0, .int 0], .tuple [.int 0, .int 1, .int 98]]))), some (.val (.list [eW w, eW (w.drop 1), .tuple [], eW w.reverse, .list (w.map eL), .none, .tuple [], b1, b2, .tuple (w.map lstL)])), x13, x14, none, none, none]) ?_ ?_ [eW w, eW (w.drop 1), .tuple [], eW w.reverse, .list (w.map eL), .none, .tuple [], b1, b2, .tuple (w.map lstL)] [] _ ⟨[], _, by simp, rfl, rfl⟩
            · rintro d is acc ρ ⟨us, x7, hus, rfl, rfl⟩
              refine ⟨by simp only [List.length_map]; unfold sizeLine; simp only [List.length_cons] at hus; omega, ?_⟩
              simp_arith [isP_bookM, is_walk_eq hR.wf hp, u_is_walk_eq hR.wf hp, same_sm (Sm.bool (k := 0) (isWkD R p d)) (by omega)]
              exact ⟨us ++ [()], x7, by simp only [List.length_append, List.length_cons, List.length_nil] at hus ⊢; omega, by simp, rfl⟩
            · rintro acc ρ ⟨us, x7, hus, rfl, rfl⟩
              simp_arith [show (us.all fun _ => true) = true by simp, isP_hpM]
              refine u_walk_ok hB (p := 0) hpos (most := 9) (by omega) (by omega) h fun tale q0 xs s hq0 htl htn h => ?_
              have htn1 : tale.length ≤ 100000 := by omega
              have hq0l := wEnd_lt hR.wf hpos hq0
              have e3 := u_end_eq hR.wf (o := some 0) (fun q hq => by cases hq; exact hpos) tale
              simp only [oI_some, Option.bind_some, hq0, nc0] at e3
              simp_arith [isP_hpM, e3]
              refine u_walk_ok hB hq0l (most := 9) (by omega) (by omega) h fun more q1 xs s hq1 hml hmn h => ?_
              have hmn1 : more.length ≤ 100000 := by omega
              have e4 := full_run_eq hn6 htl htn1
              rw [doneA_nil] at e4
              have e5 := u_full_eq htn1
              have k1 : Sm 3 (.tuple (fullA tale)) := by rw [← doneA_nil]; exact sm_doneT htn1
              have e6 := same_sm k1 (by omega)
              have e7 := rest_run_eq hn6 hheld htl hml htn1 hmn1
              rw [doneA_nil] at e7
              obtain ⟨h', e8⟩ := u_done_eq hn6 hheld hml hmn1
              have l1 := fullA_len tale
              have l2 := doneA_len more held
              have e9 := same_sm (d := .tuple (fullA tale ++ doneA held more)) (sm_tup (k := 2) (by rw [List.length_append]; omega) (fun d hd => by
                rw [List.mem_append] at hd
                rcases hd with hd | hd
                · rw [← doneA_nil] at hd; exact sm_done _ _ d hd
                · exact sm_done _ _ d hd)) (by omega)
              have hc9 : (fullA tale).length + (doneA held more).length ≤ 16777216 := by omega
              simp_arith [isP_hpM, e4, e5, e6, e7, e8, e9, hc9]
              exact ⟨_, _, _, _, _, _, _, _, _, _, rfl, h⟩
          · have hemp : (ls.map eL).isEmpty = false := by cases ls <;> simp at hls0 ⊢
            simp_arith [isP_hpM, isP_bookM, e1, e2, tupS, hLs, hc1, hc4, sl_W, cmp_nenil hsh, hemp, hi]
            refine pick_ok h rfl (by simpa using hls0) (by simp; omega) fun e xs s he h => ?_
            obtain ⟨l, hl, rfl⟩ := List.mem_map.mp he
            simp_arith [isP_hpM, bin_W (show w.length ≤ 100000 by omega), S_zRevTr, revM_W, biList_W]
            refine bent_ok (m := 1) hps hpl 39 (w.map eL) xs s (vd_W 37 hw1) h fun b1 xs s _ h => ?_
            simp_arith [isP_hpM]
            refine bent_ok (m := 1) hps hpl 39 (w.map eL) xs s (vd_W 37 hw1) h fun b2 xs s _ h => ?_
            simp_arith [isP_hpM]
            refine Sat_lcT' eL (fun l => .lst [.val (.int l.a), .val (.int l.b), .val (.int l.w)]) w (by unfold sizeLine; omega) (fun l _ => ?_) ?_
            · simp_arith [show biList [eL l] = some (.lst [.val (.int l.a), .val (.int l.b), .val (.int l.w)]) from rfl]
            simp_arith [deeps_lists]
            refine Sat_lcI M.val (fun is acc ρ => ∃ (us : List Unit) (x7 : Option M), us.length + is.length ≤ 100 ∧ acc = (us.map fun x => PyData.bool ((fun _ => true) x)).map .val ∧ ρ = [some (.val (.list (ns.map .int))), some (hpM xs s), some (.val (.int n)), some (.val (eRs R)), some (bookM n R), some (.val (.list (ls.map eL))), x6, x7, some (.val (.int (p : Int))), some (.val (eH held)), some (.val (eW w)), some (.val (.list (ls.map eL ++ [.none, .tuple [.int 0, .int 1], .tuple [.bool true, .int 0, .int 0], .tuple [.int 0, .int 1, .int 98]]))), some (.val (.list [eW w, eW (w.drop 1), eW (w ++ [l]), eW w.reverse, .list (w.map eL), .none, .tuple [], b1, b2, .tuple (w.map lstL)])), x13, x14, none, none, none]) ?_ ?_ [eW w, eW (w.drop 1), eW (w ++ [l]), eW w.reverse, .list (w.map eL), .none, .tuple [], b1, b2, .tuple (w.map lstL)] [] _ ⟨[], _, by simp, rfl, rfl⟩
            · rintro d is acc ρ ⟨us, x7, hus, rfl, rfl⟩
              refine ⟨by simp only [List.length_map]; unfold sizeLine; simp only [List.length_cons] at hus; omega, ?_⟩
              simp_arith [isP_bookM, is_walk_eq hR.wf hp, u_is_walk_eq hR.wf hp, same_sm (Sm.bool (k := 0) (isWkD R p d)) (by omega)]
              exact ⟨us ++ [()], x7, by simp only [List.length_append, List.length_cons, List.length_nil] at hus ⊢; omega, by simp, rfl⟩
            · rintro acc ρ ⟨us, x7, hus, rfl, rfl⟩
              simp_arith [show (us.all fun _ => true) = true by simp, isP_hpM]
              refine u_walk_ok hB (p := 0) hpos (most := 9) (by omega) (by omega) h fun tale q0 xs s hq0 htl htn h => ?_
              have htn1 : tale.length ≤ 100000 := by omega
              have hq0l := wEnd_lt hR.wf hpos hq0
              have e3 := u_end_eq hR.wf (o := some 0) (fun q hq => by cases hq; exact hpos) tale
              simp only [oI_some, Option.bind_some, hq0, nc0] at e3
              simp_arith [isP_hpM, e3]
              refine u_walk_ok hB hq0l (most := 9) (by omega) (by omega) h fun more q1 xs s hq1 hml hmn h => ?_
              have hmn1 : more.length ≤ 100000 := by omega
              have e4 := full_run_eq hn6 htl htn1
              rw [doneA_nil] at e4
              have e5 := u_full_eq htn1
              have k1 : Sm 3 (.tuple (fullA tale)) := by rw [← doneA_nil]; exact sm_doneT htn1
              have e6 := same_sm k1 (by omega)
              have e7 := rest_run_eq hn6 hheld htl hml htn1 hmn1
              rw [doneA_nil] at e7
              obtain ⟨h', e8⟩ := u_done_eq hn6 hheld hml hmn1
              have l1 := fullA_len tale
              have l2 := doneA_len more held
              have e9 := same_sm (d := .tuple (fullA tale ++ doneA held more)) (sm_tup (k := 2) (by rw [List.length_append]; omega) (fun d hd => by
                rw [List.mem_append] at hd
                rcases hd with hd | hd
                · rw [← doneA_nil] at hd; exact sm_done _ _ d hd
                · exact sm_done _ _ d hd)) (by omega)
              have hc9 : (fullA tale).length + (doneA held more).length ≤ 16777216 := by omega
              simp_arith [isP_hpM, e4, e5, e6, e7, e8, e9, hc9]
              exact ⟨_, _, _, _, _, _, _, _, _, _, rfl, h⟩
        · obtain ⟨held, rfl⟩ : ∃ held, held = held0 := ⟨_, rfl⟩
          have hheld := hheld0
          have e1 := walk_right_eq hn6 hR.wf hp hheld hwl hw1 hwq
          have e2 := stages_right_eq hn6 hR hlen (s := ⟨p, held⟩) ⟨hp, hheld⟩ (ls ++ [(⟨0, 1, 98⟩ : L)])
          by_cases hls0 : ls = []
          · have hemp : (ls.map eL).isEmpty = true := by rw [hls0]; rfl
            simp_arith [isP_hpM, isP_bookM, e1, e2, tupS, hLs, hc1, hc4, sl_W, cmp_nenil hsh, hemp, S_zRevTr, revM_W, biList_W, hi]
            refine bent_ok (m := 1) hps hpl 39 (w.map eL) xs s (vd_W 37 hw1) h fun b1 xs s _ h => ?_
            simp_arith [isP_hpM]
            refine bent_ok (m := 1) hps hpl 39 (w.map eL) xs s (vd_W 37 hw1) h fun b2 xs s _ h => ?_
            simp_arith [isP_hpM]
            refine Sat_lcT' eL (fun l => .lst [.val (.int l.a), .val (.int l.b), .val (.int l.w)]) w (by unfold sizeLine; omega) (fun l _ => ?_) ?_
            · simp_arith [show biList [eL l] = some (.lst [.val (.int l.a), .val (.int l.b), .val (.int l.w)]) from rfl]
            simp_arith [deeps_lists]
            refine Sat_lcI M.val (fun is acc ρ => ∃ (us : List Unit) (x7 : Option M), us.length + is.length ≤ 100 ∧ acc = (us.map fun x => PyData.bool ((fun _ => true) x)).map .val ∧ ρ = [some (.val (.list (ns.map .int))), some (hpM xs s), some (.val (.int n)), some (.val (eRs R)), some (bookM n R), some (.val (.list (ls.map eL))), x6, x7, some (.val (.int (p : Int))), some (.val (eH held)), some (.val (eW w)), some (.val (.list (ls.map eL ++ [.none, .tuple [.int 0, .int 1], .tuple [.bool true, .int 0, .int 0], .tuple [.int 0, .int 1, .int 98]]))), some (.val (.list [eW w, eW (w.drop 1), .tuple [], eW w.reverse, .list (w.map eL), .none, .tuple [], b1, b2, .tuple (w.map lstL)])), x13, x14, none, none, none]) ?_ ?_ [eW w, eW (w.drop 1), .tuple [], eW w.reverse, .list (w.map eL), .none, .tuple [], b1, b2, .tuple (w.map lstL)] [] _ ⟨[], _, by simp, rfl, rfl⟩
            · rintro d is acc ρ ⟨us, x7, hus, rfl, rfl⟩
              refine ⟨by simp only [List.length_map]; unfold sizeLine; simp only [List.length_cons] at hus; omega, ?_⟩
              simp_arith [isP_bookM, is_walk_eq hR.wf hp, u_is_walk_eq hR.wf hp, same_sm (Sm.bool (k := 0) (isWkD R p d)) (by omega)]
              exact ⟨us ++ [()], x7, by simp only [List.length_append, List.length_cons, List.length_nil] at hus ⊢; omega, by simp, rfl⟩
            · rintro acc ρ ⟨us, x7, hus, rfl, rfl⟩
              simp_arith [show (us.all fun _ => true) = true by simp, isP_hpM]
              refine u_walk_ok hB (p := 0) hpos (most := 9) (by omega) (by omega) h fun tale q0 xs s hq0 htl htn h => ?_
              have htn1 : tale.length ≤ 100000 := by omega
              have hq0l := wEnd_lt hR.wf hpos hq0
              have e3 := u_end_eq hR.wf (o := some 0) (fun q hq => by cases hq; exact hpos) tale
              simp only [oI_some, Option.bind_some, hq0, nc0] at e3
              simp_arith [isP_hpM, e3]
              refine u_walk_ok hB hq0l (most := 9) (by omega) (by omega) h fun more q1 xs s hq1 hml hmn h => ?_
              have hmn1 : more.length ≤ 100000 := by omega
              have e4 := full_run_eq hn6 htl htn1
              rw [doneA_nil] at e4
              have e5 := u_full_eq htn1
              have k1 : Sm 3 (.tuple (fullA tale)) := by rw [← doneA_nil]; exact sm_doneT htn1
              have e6 := same_sm k1 (by omega)
              have e7 := rest_run_eq hn6 hheld htl hml htn1 hmn1
              rw [doneA_nil] at e7
              obtain ⟨h', e8⟩ := u_done_eq hn6 hheld hml hmn1
              have l1 := fullA_len tale
              have l2 := doneA_len more held
              have e9 := same_sm (d := .tuple (fullA tale ++ doneA held more)) (sm_tup (k := 2) (by rw [List.length_append]; omega) (fun d hd => by
                rw [List.mem_append] at hd
                rcases hd with hd | hd
                · rw [← doneA_nil] at hd; exact sm_done _ _ d hd
                · exact sm_done _ _ d hd)) (by omega)
              have hc9 : (fullA tale).length + (doneA held more).length ≤ 16777216 := by omega
              simp_arith [isP_hpM, e4, e5, e6, e7, e8, e9, hc9]
              exact ⟨_, _, _, _, _, _, _, _, _, _, rfl, h⟩
          · have hemp : (ls.map eL).isEmpty = false := by cases ls <;> simp at hls0 ⊢
            simp_arith [isP_hpM, isP_bookM, e1, e2, tupS, hLs, hc1, hc4, sl_W, cmp_nenil hsh, hemp, hi]
            refine pick_ok h rfl (by simpa using hls0) (by simp; omega) fun e xs s he h => ?_
            obtain ⟨l, hl, rfl⟩ := List.mem_map.mp he
            simp_arith [isP_hpM, bin_W (show w.length ≤ 100000 by omega), S_zRevTr, revM_W, biList_W]
            refine bent_ok (m := 1) hps hpl 39 (w.map eL) xs s (vd_W 37 hw1) h fun b1 xs s _ h => ?_
            simp_arith [isP_hpM]
            refine bent_ok (m := 1) hps hpl 39 (w.map eL) xs s (vd_W 37 hw1) h fun b2 xs s _ h => ?_
            simp_arith [isP_hpM]
            refine Sat_lcT' eL (fun l => .lst [.val (.int l.a), .val (.int l.b), .val (.int l.w)]) w (by unfold sizeLine; omega) (fun l _ => ?_) ?_
            · simp_arith [show biList [eL l] = some (.lst [.val (.int l.a), .val (.int l.b), .val (.int l.w)]) from rfl]
            simp_arith [deeps_lists]
            refine Sat_lcI M.val (fun is acc ρ => ∃ (us : List Unit) (x7 : Option M), us.length + is.length ≤ 100 ∧ acc = (us.map fun x => PyData.bool ((fun _ => true) x)).map .val ∧ ρ = [some (.val (.list (ns.map .int))), some (hpM xs s), some (.val (.int n)), some (.val (eRs R)), some (bookM n R), some (.val (.list (ls.map eL))), x6, x7, some (.val (.int (p : Int))), some (.val (eH held)), some (.val (eW w)), some (.val (.list (ls.map eL ++ [.none, .tuple [.int 0, .int 1], .tuple [.bool true, .int 0, .int 0], .tuple [.int 0, .int 1, .int 98]]))), some (.val (.list [eW w, eW (w.drop 1), eW (w ++ [l]), eW w.reverse, .list (w.map eL), .none, .tuple [], b1, b2, .tuple (w.map lstL)])), x13, x14, none, none, none]) ?_ ?_ [eW w, eW (w.drop 1), eW (w ++ [l]), eW w.reverse, .list (w.map eL), .none, .tuple [], b1, b2, .tuple (w.map lstL)] [] _ ⟨[], _, by simp, rfl, rfl⟩
            · rintro d is acc ρ ⟨us, x7, hus, rfl, rfl⟩
              refine ⟨by simp only [List.length_map]; unfold sizeLine; simp only [List.length_cons] at hus; omega, ?_⟩
              simp_arith [isP_bookM, is_walk_eq hR.wf hp, u_is_walk_eq hR.wf hp, same_sm (Sm.bool (k := 0) (isWkD R p d)) (by omega)]
              exact ⟨us ++ [()], x7, by simp only [List.length_append, List.length_cons, List.length_nil] at hus ⊢; omega, by simp, rfl⟩
            · rintro acc ρ ⟨us, x7, hus, rfl, rfl⟩
              simp_arith [show (us.all fun _ => true) = true by simp, isP_hpM]
              refine u_walk_ok hB (p := 0) hpos (most := 9) (by omega) (by omega) h fun tale q0 xs s hq0 htl htn h => ?_
              have htn1 : tale.length ≤ 100000 := by omega
              have hq0l := wEnd_lt hR.wf hpos hq0
              have e3 := u_end_eq hR.wf (o := some 0) (fun q hq => by cases hq; exact hpos) tale
              simp only [oI_some, Option.bind_some, hq0, nc0] at e3
              simp_arith [isP_hpM, e3]
              refine u_walk_ok hB hq0l (most := 9) (by omega) (by omega) h fun more q1 xs s hq1 hml hmn h => ?_
              have hmn1 : more.length ≤ 100000 := by omega
              have e4 := full_run_eq hn6 htl htn1
              rw [doneA_nil] at e4
              have e5 := u_full_eq htn1
              have k1 : Sm 3 (.tuple (fullA tale)) := by rw [← doneA_nil]; exact sm_doneT htn1
              have e6 := same_sm k1 (by omega)
              have e7 := rest_run_eq hn6 hheld htl hml htn1 hmn1
              rw [doneA_nil] at e7
              obtain ⟨h', e8⟩ := u_done_eq hn6 hheld hml hmn1
              have l1 := fullA_len tale
              have l2 := doneA_len more held
              have e9 := same_sm (d := .tuple (fullA tale ++ doneA held more)) (sm_tup (k := 2) (by rw [List.length_append]; omega) (fun d hd => by
                rw [List.mem_append] at hd
                rcases hd with hd | hd
                · rw [← doneA_nil] at hd; exact sm_done _ _ d hd
                · exact sm_done _ _ d hd)) (by omega)
              have hc9 : (fullA tale).length + (doneA held more).length ≤ 16777216 := by omega
              simp_arith [isP_hpM, e4, e5, e6, e7, e8, e9, hc9]
              exact ⟨_, _, _, _, _, _, _, _, _, _, rfl, h⟩
    · rintro r rs ρ ⟨ls, x6, rfl, hrs, hls, hll⟩
      simp_arith []
      have hrm := hrs r List.mem_cons_self
      rw [sum_app] at hll
      have hfl := List.length_filter_le (fun x : Row => !decide (x.1 ∈ ls)) r
      have hrest : (0 : Int) ≤ (rs.map fun r => (r.length : Int)).sum := by
        clear hll hrs
        induction rs with
        | nil => simp
        | cons a rs ih => rw [sum_app]; omega
      refine Sat_lcF eRow (fun x => !decide (x.1 ∈ ls)) (fun x => eL x.1) r (by have := hB.few r hrm; unfold sizeLine; omega) (fun x hx => ?_) ?_
      · by_cases hx2 : x.1 ∈ ls <;> simp_arith [cmp_ninLL, hx2]
      · have hc : ((ls.map eL).map M.val).length + (((r.filter fun x : Row => !decide (x.1 ∈ ls)).map fun x => eL x.1).map M.val).length ≤ 16777216 := by
          simp only [List.length_map]; omega
        simp_arith [hc]
        refine ⟨ls ++ (r.filter fun x : Row => !decide (x.1 ∈ ls)).map (·.1), some (.val (eR r)), by simp [Function.comp_def], fun r' hr' => hrs r' (List.mem_cons_of_mem _ hr'), fun l hl => ?_, by simp only [List.length_append, List.length_map]; omega⟩
        rw [List.mem_append] at hl
        rcases hl with hl | hl
        · exact hls l hl
        · obtain ⟨x, hx, rfl⟩ := List.mem_map.mp hl
          exact (hR r hrm x (List.mem_filter.mp hx).1).1
  obtain ⟨_, e, x, rfl⟩ := main
  exact ⟨x, e⟩

end Z
set_option Elab.async false
set_option linter.all false
set_option maxRecDepth 100000
set_option maxHeartbeats 4000000
namespace Z
open PySem L2 Evl PyProof.Rows

/-- what the text has written -/
structure Tx (P : Program) (w : World) (K : PySem.W.Frag) (mg : Str → Option Value) (base : Heap) (ct : Str → Option Addr) : Prop where
  bt : Bt mg
  nstr : mg "str" = none
  nbool : mg "bool" = none
  ndict : mg "dict" = none
  fld_houses : ∀ X : Cx, X.K = K → FldOk X ct "houses"
  fld_rows : ∀ X : Cx, X.K = K → FldOk X ct "rows"
  k_MOST_HOUSES : ∃ t, mg "MOST_HOUSES" = some (.int 6 t)
  k_MOST_LETTERS : ∃ t, mg "MOST_LETTERS" = some (.int 10000 t)
  k_MOST_PLACES : ∃ t, mg "MOST_PLACES" = some (.int 200 t)
  k_MOST_ROWS : ∃ t, mg "MOST_ROWS" = some (.int 600 t)
  k_MOST_WORDS : ∃ t, mg "MOST_WORDS" = some (.int 100 t)
  f_is_number : ∃ f fd, mg "is_number" = some (.ref f) ∧ Fun K "is_number" "is_number" st_is_number f fd ∧ (∀ (s : Shared) (us ws : List Value), us.length + ws.length = 1 → BindsTo s fd ⟨us, ((["value"] : List Str).drop us.length).zip ws⟩ ((["value"] : List Str).zip (us ++ ws)))
  f_is_letter : ∃ f fd, mg "is_letter" = some (.ref f) ∧ Fun K "is_letter" "is_letter" st_is_letter f fd ∧ (∀ (s : Shared) (us ws : List Value), us.length + ws.length = 2 → BindsTo s fd ⟨us, ((["value", "houses"] : List Str).drop us.length).zip ws⟩ ((["value", "houses"] : List Str).zip (us ++ ws)))
  f_is_row : ∃ f fd, mg "is_row" = some (.ref f) ∧ Fun K "is_row" "is_row" st_is_row f fd ∧ (∀ (s : Shared) (us ws : List Value), us.length + ws.length = 3 → BindsTo s fd ⟨us, ((["value", "houses", "places"] : List Str).drop us.length).zip ws⟩ ((["value", "houses", "places"] : List Str).zip (us ++ ws)))
  f_are_rows : ∃ f fd, mg "are_rows" = some (.ref f) ∧ Fun K "are_rows" "are_rows" st_are_rows f fd ∧ (∀ (s : Shared) (us ws : List Value), us.length + ws.length = 3 → BindsTo s fd ⟨us, ((["value", "houses", "places"] : List Str).drop us.length).zip ws⟩ ((["value", "houses", "places"] : List Str).zip (us ++ ws)))
  f_come_to : ∃ f fd, mg "come_to" = some (.ref f) ∧ Fun K "come_to" "come_to" st_come_to f fd ∧ (∀ (s : Shared) (us ws : List Value), us.length + ws.length = 3 → BindsTo s fd ⟨us, ((["rows", "place", "houses"] : List Str).drop us.length).zip ws⟩ ((["rows", "place", "houses"] : List Str).zip (us ++ ws)))
  f_Bookzz_initzz : ∃ Ca f fd, ct "Book" = some Ca ∧ mg "Book" = some (.ref Ca) ∧ Mk K Ca f ∧ Fun K "__init__" "Book.__init__" st_Bookzz_initzz f fd ∧ (∀ (s : Shared) (us ws : List Value), us.length + ws.length = 3 → BindsTo s fd ⟨us, ((["self", "houses", "rows"] : List Str).drop us.length).zip ws⟩ ((["self", "houses", "rows"] : List Str).zip (us ++ ws)))
  f_u_law_draw : ∃ f fd, mg "_law_draw" = some (.ref f) ∧ Fun K "_law_draw" "_law_draw" st_u_law_draw f fd ∧ (∀ (s : Shared) (us ws : List Value), us.length + ws.length = 2 → BindsTo s fd ⟨us, ((["heap", "many"] : List Str).drop us.length).zip ws⟩ ((["heap", "many"] : List Str).zip (us ++ ws)))
  f_u_law_pick : ∃ f fd, mg "_law_pick" = some (.ref f) ∧ Fun K "_law_pick" "_law_pick" st_u_law_pick f fd ∧ (∀ (s : Shared) (us ws : List Value), us.length + ws.length = 2 → BindsTo s fd ⟨us, ((["heap", "some"] : List Str).drop us.length).zip ws⟩ ((["heap", "some"] : List Str).zip (us ++ ws)))
  f_u_law_bent : ∃ f fd, mg "_law_bent" = some (.ref f) ∧ Fun K "_law_bent" "_law_bent" st_u_law_bent f fd ∧ (∀ (s : Shared) (us ws : List Value), us.length + ws.length = 3 → BindsTo s fd ⟨us, ((["heap", "value", "parts"] : List Str).drop us.length).zip ws⟩ ((["heap", "value", "parts"] : List Str).zip (us ++ ws)))
  f_u_law_lot : ∃ f fd, mg "_law_lot" = some (.ref f) ∧ Fun K "_law_lot" "_law_lot" st_u_law_lot f fd ∧ (∀ (s : Shared) (us ws : List Value), us.length + ws.length = 1 → BindsTo s fd ⟨us, ((["row"] : List Str).drop us.length).zip ws⟩ ((["row"] : List Str).zip (us ++ ws)))
  f_u_law_done : ∃ f fd, mg "_law_done" = some (.ref f) ∧ Fun K "_law_done" "_law_done" st_u_law_done f fd ∧ (∀ (s : Shared) (us ws : List Value), us.length + ws.length = 2 → BindsTo s fd ⟨us, ((["held", "walk"] : List Str).drop us.length).zip ws⟩ ((["held", "walk"] : List Str).zip (us ++ ws)))
  f_u_law_far : ∃ f fd, mg "_law_far" = some (.ref f) ∧ Fun K "_law_far" "_law_far" st_u_law_far f fd ∧ (∀ (s : Shared) (us ws : List Value), us.length + ws.length = 3 → BindsTo s fd ⟨us, ((["rows", "place", "letter"] : List Str).drop us.length).zip ws⟩ ((["rows", "place", "letter"] : List Str).zip (us ++ ws)))
  f_u_law_end : ∃ f fd, mg "_law_end" = some (.ref f) ∧ Fun K "_law_end" "_law_end" st_u_law_end f fd ∧ (∀ (s : Shared) (us ws : List Value), us.length + ws.length = 3 → BindsTo s fd ⟨us, ((["rows", "place", "walk"] : List Str).drop us.length).zip ws⟩ ((["rows", "place", "walk"] : List Str).zip (us ++ ws)))
  f_u_law_full : ∃ f fd, mg "_law_full" = some (.ref f) ∧ Fun K "_law_full" "_law_full" st_u_law_full f fd ∧ (∀ (s : Shared) (us ws : List Value), us.length + ws.length = 1 → BindsTo s fd ⟨us, ((["tale"] : List Str).drop us.length).zip ws⟩ ((["tale"] : List Str).zip (us ++ ws)))
  f_u_law_heap : ∃ f fd, mg "_law_heap" = some (.ref f) ∧ Fun K "_law_heap" "_law_heap" st_u_law_heap f fd ∧ (∀ (s : Shared) (us ws : List Value), us.length + ws.length = 1 → BindsTo s fd ⟨us, ((["script"] : List Str).drop us.length).zip ws⟩ ((["script"] : List Str).zip (us ++ ws)))
  f_u_law_number : ∃ f fd, mg "_law_number" = some (.ref f) ∧ Fun K "_law_number" "_law_number" st_u_law_number f fd ∧ (∀ (s : Shared) (us ws : List Value), us.length + ws.length = 1 → BindsTo s fd ⟨us, ((["value"] : List Str).drop us.length).zip ws⟩ ((["value"] : List Str).zip (us ++ ws)))
  f_u_law_is_letter : ∃ f fd, mg "_law_is_letter" = some (.ref f) ∧ Fun K "_law_is_letter" "_law_is_letter" st_u_law_is_letter f fd ∧ (∀ (s : Shared) (us ws : List Value), us.length + ws.length = 1 → BindsTo s fd ⟨us, ((["value"] : List Str).drop us.length).zip ws⟩ ((["value"] : List Str).zip (us ++ ws)))
  f_u_law_is_walk : ∃ f fd, mg "_law_is_walk" = some (.ref f) ∧ Fun K "_law_is_walk" "_law_is_walk" st_u_law_is_walk f fd ∧ (∀ (s : Shared) (us ws : List Value), us.length + ws.length = 3 → BindsTo s fd ⟨us, ((["rows", "place", "value"] : List Str).drop us.length).zip ws⟩ ((["rows", "place", "value"] : List Str).zip (us ++ ws)))
  f_is_letter_form : ∃ f fd, mg "is_letter_form" = some (.ref f) ∧ Fun K "is_letter_form" "is_letter_form" st_is_letter_form f fd ∧ (∀ (s : Shared) (us ws : List Value), us.length + ws.length = 1 → BindsTo s fd ⟨us, ((["value"] : List Str).drop us.length).zip ws⟩ ((["value"] : List Str).zip (us ++ ws)))
  f_next_place : ∃ f fd, mg "next_place" = some (.ref f) ∧ Fun K "next_place" "next_place" st_next_place f fd ∧ (∀ (s : Shared) (us ws : List Value), us.length + ws.length = 3 → BindsTo s fd ⟨us, ((["book", "place", "letter"] : List Str).drop us.length).zip ws⟩ ((["book", "place", "letter"] : List Str).zip (us ++ ws)))
  f_is_walk : ∃ f fd, mg "is_walk" = some (.ref f) ∧ Fun K "is_walk" "is_walk" st_is_walk f fd ∧ (∀ (s : Shared) (us ws : List Value), us.length + ws.length = 3 → BindsTo s fd ⟨us, ((["book", "place", "value"] : List Str).drop us.length).zip ws⟩ ((["book", "place", "value"] : List Str).zip (us ++ ws)))
  f_u_law_long_right : ∃ f fd, mg "_law_long_right" = some (.ref f) ∧ Fun K "_law_long_right" "_law_long_right" st_u_law_long_right f fd ∧ (∀ (s : Shared) (us ws : List Value), us.length + ws.length = 1 → BindsTo s fd ⟨us, ((["heap"] : List Str).drop us.length).zip ws⟩ ((["heap"] : List Str).zip (us ++ ws)))
  f_u_law_pruned : ∃ f fd, mg "_law_pruned" = some (.ref f) ∧ Fun K "_law_pruned" "_law_pruned" st_u_law_pruned f fd ∧ (∀ (s : Shared) (us ws : List Value), us.length + ws.length = 1 → BindsTo s fd ⟨us, ((["rows"] : List Str).drop us.length).zip ws⟩ ((["rows"] : List Str).zip (us ++ ws)))
  f_u_law_to : ∃ f fd, mg "_law_to" = some (.ref f) ∧ Fun K "_law_to" "_law_to" st_u_law_to f fd ∧ (∀ (s : Shared) (us ws : List Value), us.length + ws.length = 5 → BindsTo s fd ⟨us, ((["heap", "houses", "words", "one", "to"] : List Str).drop us.length).zip ws⟩ ((["heap", "houses", "words", "one", "to"] : List Str).zip (us ++ ws)))
  f_u_law_rows : ∃ f fd, mg "_law_rows" = some (.ref f) ∧ Fun K "_law_rows" "_law_rows" st_u_law_rows f fd ∧ (∀ (s : Shared) (us ws : List Value), us.length + ws.length = 4 → BindsTo s fd ⟨us, ((["heap", "houses", "most", "words"] : List Str).drop us.length).zip ws⟩ ((["heap", "houses", "most", "words"] : List Str).zip (us ++ ws)))
  f_u_law_same : ∃ f fd, mg "_law_same" = some (.ref f) ∧ Fun K "_law_same" "_law_same" st_u_law_same f fd ∧ (∀ (s : Shared) (us ws : List Value), us.length + ws.length = 2 → BindsTo s fd ⟨us, ((["value", "due"] : List Str).drop us.length).zip ws⟩ ((["value", "due"] : List Str).zip (us ++ ws)))
  f_u_law_some : ∃ f fd, mg "_law_some" = some (.ref f) ∧ Fun K "_law_some" "_law_some" st_u_law_some f fd ∧ (∀ (s : Shared) (us ws : List Value), us.length + ws.length = 2 → BindsTo s fd ⟨us, ((["heap", "houses"] : List Str).drop us.length).zip ws⟩ ((["heap", "houses"] : List Str).zip (us ++ ws)))
  f_u_law_behind : ∃ f fd, mg "_law_behind" = some (.ref f) ∧ Fun K "_law_behind" "_law_behind" st_u_law_behind f fd ∧ (∀ (s : Shared) (us ws : List Value), us.length + ws.length = 2 → BindsTo s fd ⟨us, ((["held", "letter"] : List Str).drop us.length).zip ws⟩ ((["held", "letter"] : List Str).zip (us ++ ws)))
  f_u_law_stages : ∃ f fd, mg "_law_stages" = some (.ref f) ∧ Fun K "_law_stages" "_law_stages" st_u_law_stages f fd ∧ (∀ (s : Shared) (us ws : List Value), us.length + ws.length = 2 → BindsTo s fd ⟨us, ((["rows", "stage"] : List Str).drop us.length).zip ws⟩ ((["rows", "stage"] : List Str).zip (us ++ ws)))
  f_lot_of : ∃ f fd, mg "lot_of" = some (.ref f) ∧ Fun K "lot_of" "lot_of" st_lot_of f fd ∧ (∀ (s : Shared) (us ws : List Value), us.length + ws.length = 1 → BindsTo s fd ⟨us, ((["row"] : List Str).drop us.length).zip ws⟩ ((["row"] : List Str).zip (us ++ ws)))
  f_held_behind : ∃ f fd, mg "held_behind" = some (.ref f) ∧ Fun K "held_behind" "held_behind" st_held_behind f fd ∧ (∀ (s : Shared) (us ws : List Value), us.length + ws.length = 2 → BindsTo s fd ⟨us, ((["held", "letter"] : List Str).drop us.length).zip ws⟩ ((["held", "letter"] : List Str).zip (us ++ ws)))
  f_stage_behind : ∃ f fd, mg "stage_behind" = some (.ref f) ∧ Fun K "stage_behind" "stage_behind" st_stage_behind f fd ∧ (∀ (s : Shared) (us ws : List Value), us.length + ws.length = 3 → BindsTo s fd ⟨us, ((["book", "stage", "letter"] : List Str).drop us.length).zip ws⟩ ((["book", "stage", "letter"] : List Str).zip (us ++ ws)))
  f_stages_from : ∃ f fd, mg "stages_from" = some (.ref f) ∧ Fun K "stages_from" "stages_from" st_stages_from f fd ∧ (∀ (s : Shared) (us ws : List Value), us.length + ws.length = 2 → BindsTo s fd ⟨us, ((["book", "stage"] : List Str).drop us.length).zip ws⟩ ((["book", "stage"] : List Str).zip (us ++ ws)))
  f_u_law_stages_right : ∃ f fd, mg "_law_stages_right" = some (.ref f) ∧ Fun K "_law_stages_right" "_law_stages_right" st_u_law_stages_right f fd ∧ (∀ (s : Shared) (us ws : List Value), us.length + ws.length = 4 → BindsTo s fd ⟨us, ((["book", "rows", "letters", "stage"] : List Str).drop us.length).zip ws⟩ ((["book", "rows", "letters", "stage"] : List Str).zip (us ++ ws)))
  f_u_law_walk : ∃ f fd, mg "_law_walk" = some (.ref f) ∧ Fun K "_law_walk" "_law_walk" st_u_law_walk f fd ∧ (∀ (s : Shared) (us ws : List Value), us.length + ws.length = 4 → BindsTo s fd ⟨us, ((["heap", "rows", "place", "most"] : List Str).drop us.length).zip ws⟩ ((["heap", "rows", "place", "most"] : List Str).zip (us ++ ws)))
  f_u_law_lots : ∃ f fd, mg "_law_lots" = some (.ref f) ∧ Fun K "_law_lots" "_law_lots" st_u_law_lots f fd ∧ (∀ (s : Shared) (us ws : List Value), us.length + ws.length = 2 → BindsTo s fd ⟨us, ((["held", "walk"] : List Str).drop us.length).zip ws⟩ ((["held", "walk"] : List Str).zip (us ++ ws)))
  f_done_in : ∃ f fd, mg "done_in" = some (.ref f) ∧ Fun K "done_in" "done_in" st_done_in f fd ∧ (∀ (s : Shared) (us ws : List Value), us.length + ws.length = 2 → BindsTo s fd ⟨us, ((["held", "walk"] : List Str).drop us.length).zip ws⟩ ((["held", "walk"] : List Str).zip (us ++ ws)))
  f_held_along : ∃ f fd, mg "held_along" = some (.ref f) ∧ Fun K "held_along" "held_along" st_held_along f fd ∧ (∀ (s : Shared) (us ws : List Value), us.length + ws.length = 2 → BindsTo s fd ⟨us, ((["held", "walk"] : List Str).drop us.length).zip ws⟩ ((["held", "walk"] : List Str).zip (us ++ ws)))
  f_lying_in : ∃ f fd, mg "lying_in" = some (.ref f) ∧ Fun K "lying_in" "lying_in" st_lying_in f fd ∧ (∀ (s : Shared) (us ws : List Value), us.length + ws.length = 2 → BindsTo s fd ⟨us, ((["held", "walk"] : List Str).drop us.length).zip ws⟩ ((["held", "walk"] : List Str).zip (us ++ ws)))
  f_said_in : ∃ f fd, mg "said_in" = some (.ref f) ∧ Fun K "said_in" "said_in" st_said_in f fd ∧ (∀ (s : Shared) (us ws : List Value), us.length + ws.length = 2 → BindsTo s fd ⟨us, ((["held", "walk"] : List Str).drop us.length).zip ws⟩ ((["held", "walk"] : List Str).zip (us ++ ws)))
  f_walk_end : ∃ f fd, mg "walk_end" = some (.ref f) ∧ Fun K "walk_end" "walk_end" st_walk_end f fd ∧ (∀ (s : Shared) (us ws : List Value), us.length + ws.length = 3 → BindsTo s fd ⟨us, ((["book", "place", "walk"] : List Str).drop us.length).zip ws⟩ ((["book", "place", "walk"] : List Str).zip (us ++ ws)))
  f_u_law_walk_right : ∃ f fd, mg "_law_walk_right" = some (.ref f) ∧ Fun K "_law_walk_right" "_law_walk_right" st_u_law_walk_right f fd ∧ (∀ (s : Shared) (us ws : List Value), us.length + ws.length = 5 → BindsTo s fd ⟨us, ((["book", "rows", "place", "held", "walk"] : List Str).drop us.length).zip ws⟩ ((["book", "rows", "place", "held", "walk"] : List Str).zip (us ++ ws)))
  f_full_run : ∃ f fd, mg "full_run" = some (.ref f) ∧ Fun K "full_run" "full_run" st_full_run f fd ∧ (∀ (s : Shared) (us ws : List Value), us.length + ws.length = 1 → BindsTo s fd ⟨us, ((["tale"] : List Str).drop us.length).zip ws⟩ ((["tale"] : List Str).zip (us ++ ws)))
  f_rest_run : ∃ f fd, mg "rest_run" = some (.ref f) ∧ Fun K "rest_run" "rest_run" st_rest_run f fd ∧ (∀ (s : Shared) (us ws : List Value), us.length + ws.length = 3 → BindsTo s fd ⟨us, ((["tale", "held", "walk"] : List Str).drop us.length).zip ws⟩ ((["tale", "held", "walk"] : List Str).zip (us ++ ws)))
  f_law : ∃ f fd, mg "law" = some (.ref f) ∧ Fun K "law" "law" st_law f fd ∧ (∀ (s : Shared) (us ws : List Value), us.length + ws.length = 1 → BindsTo s fd ⟨us, ((["script"] : List Str).drop us.length).zip ws⟩ ((["script"] : List Str).zip (us ++ ws)))
theorem c_is_number {P : Program} {w : World} {K : PySem.W.Frag} {mg : Str → Option Value} {base : Heap} {ct : Str → Option Addr} (T : Tx P w K mg base ct)  : CalZ P w K mg base ct 1 "is_number" ["value"] g_is_number := by
  have nd : N_is_number.Nodup := by decide +kernel
  obtain ⟨f, fd, hm, Fu, bi⟩ := T.f_is_number
  refine ⟨f, fd, hm, Fu.kp, bi, fn_okZ (ct := ct) (k := 0) (N := N_is_number) (lk := (fun i => [].contains i)) Fu ⟨rfl, rfl, rfl, nd, rfl, by decide +kernel, by decide +kernel⟩ rfl fun cdv A outer s H E hr => ?_⟩
  have hu := huZ hr
  exact (pss_consZ (ps_retZ (pz_2 (k := false) (xIsi .int T.bt (xR 0) T.bt.int) (pz_2 (k := false) (pz_notV (xIsi .bl T.bt (xR 0) T.nbool)) (pz_1 (o := bop false) (xCmp (o := .ge) hu (po_r (xR 0)) (pz_o xInt))))))
 pss_nilZ)
theorem c_is_letter {P : Program} {w : World} {K : PySem.W.Frag} {mg : Str → Option Value} {base : Heap} {ct : Str → Option Addr} (T : Tx P w K mg base ct) (c_is_number : CalZ P w K mg base ct 1 "is_number" ["value"] g_is_number) : CalZ P w K mg base ct 2 "is_letter" ["value", "houses"] g_is_letter := by
  have nd : N_is_letter.Nodup := by decide +kernel
  obtain ⟨f, fd, hm, Fu, bi⟩ := T.f_is_letter
  refine ⟨f, fd, hm, Fu.kp, bi, fn_okZ (ct := ct) (k := 1) (N := N_is_letter) (lk := (fun i => [].contains i)) Fu ⟨rfl, rfl, rfl, nd, rfl, by decide +kernel, by decide +kernel⟩ rfl fun cdv A outer s H E hr => ?_⟩
  have hu := huZ hr
  exact (pss_consZ (ps_ifZ (tW1 (pw_2 (k := true) (pt_notZ (tTr (xIsi .tup T.bt (xR 0) T.bt.tuple))) (pw_2 (k := true) (tCmp (o := .ne) hu (pz_o (xLen T.bt (xR 0))) (pz_o xInt)) (pw_1 (k := true) (pt_notZ (tTr (xAll T.bt rfl (xsCons (pz_o (xLcP [("one", 2)] rfl nd (pi_seqR (xR 0)) (fun _ _ _ _ _ => (bN nd 2)) (fun _ _ _ _ _ => pts_nilZ) (fun _ _ _ _ _ => (xCallP c_is_number (by exact hr) (xgRef 2 pg_nilZ) (glR gl0))))) ps_nil))))))))
 (pss_consZ (ps_retZ xBl)
 pss_nilZ)
 pss_nilZ)
 (pss_consZ (ps_retZ (pz_2 (k := false) (xCmp (o := .ne) hu (po_r (xRix hu (xR 0) (pz_o xInt))) (po_r (xRix hu (xR 0) (pz_o xInt)))) (pz_2 (k := false) (xCmp (o := .lt) hu (pz_o (xMax T.bt rfl hu (xsCons (pz_o (pz_sl (po_r (xR 0)) po_noneZ (po_someZ (pz_o xInt)))) ps_nil))) (po_r (xR 1))) (pz_1 (o := bop false) (xCmp (o := .lt) hu (po_r (xRix hu (xR 0) (pz_o xInt))) (pz_o (xGI T.k_MOST_WORDS)))))))
 pss_nilZ))
theorem c_is_row {P : Program} {w : World} {K : PySem.W.Frag} {mg : Str → Option Value} {base : Heap} {ct : Str → Option Addr} (T : Tx P w K mg base ct) (c_is_letter : CalZ P w K mg base ct 2 "is_letter" ["value", "houses"] g_is_letter) (c_is_number : CalZ P w K mg base ct 1 "is_number" ["value"] g_is_number) : CalZ P w K mg base ct 3 "is_row" ["value", "houses", "places"] g_is_row := by
  have nd : N_is_row.Nodup := by decide +kernel
  obtain ⟨f, fd, hm, Fu, bi⟩ := T.f_is_row
  refine ⟨f, fd, hm, Fu.kp, bi, fn_okZ (ct := ct) (k := 2) (N := N_is_row) (lk := (fun i => [].contains i)) Fu ⟨rfl, rfl, rfl, nd, rfl, by decide +kernel, by decide +kernel⟩ rfl fun cdv A outer s H E hr => ?_⟩
  have hu := huZ hr
  exact (pss_consZ (ps_ifZ (tW1 (pw_2 (k := true) (pt_notZ (tTr (xIsi .tup T.bt (xR 0) T.bt.tuple))) (pw_2 (k := true) (tCmp (o := .ne) hu (pz_o (xLen T.bt (xR 0))) (pz_o xInt)) (pw_1 (k := true) (pt_notZ (tTr (xCallP c_is_letter hr (xgVal (pz_r (xRix hu (xR 0) (pz_o xInt))) (xgRef 1 pg_nilZ)) (glV (glR gl0)))))))))
 (pss_consZ (ps_retZ xBl)
 pss_nilZ)
 pss_nilZ)
 (pss_consZ (ps_retZ (pz_2 (k := false) (xCallP c_is_number hr (xgVal (pz_r (xRix hu (xR 0) (pz_o xInt))) pg_nilZ) (glV gl0)) (pz_1 (o := bop false) (xCmp (o := .lt) hu (po_r (xRix hu (xR 0) (pz_o xInt))) (po_r (xR 2))))))
 pss_nilZ))
theorem c_are_rows {P : Program} {w : World} {K : PySem.W.Frag} {mg : Str → Option Value} {base : Heap} {ct : Str → Option Addr} (T : Tx P w K mg base ct) (c_is_row : CalZ P w K mg base ct 3 "is_row" ["value", "houses", "places"] g_is_row) : CalZ P w K mg base ct 4 "are_rows" ["value", "houses", "places"] g_are_rows := by
  have nd : N_are_rows.Nodup := by decide +kernel
  obtain ⟨f, fd, hm, Fu, bi⟩ := T.f_are_rows
  refine ⟨f, fd, hm, Fu.kp, bi, fn_okZ (ct := ct) (k := 3) (N := N_are_rows) (lk := (fun i => [].contains i)) Fu ⟨rfl, rfl, rfl, nd, rfl, by decide +kernel, by decide +kernel⟩ rfl fun cdv A outer s H E hr => ?_⟩
  have hu := huZ hr
  exact (pss_consZ (ps_ifZ (tW1 (pw_2 (k := true) (pt_notZ (tTr (xIsi .tup T.bt (xR 0) T.bt.tuple))) (pw_1 (k := true) (pt_notZ (tTr (xAll T.bt rfl (xsCons (pz_o (xLcP [("one", 5)] rfl nd (pi_seqR (xR 0)) (fun _ _ _ _ _ => (bN nd 5)) (fun _ _ _ _ _ => pts_nilZ) (fun _ _ _ _ _ => (xCallP c_is_row (by exact hr) (xgRef 5 (xgRef 1 (xgRef 2 pg_nilZ))) (glR (glR (glR gl0))))))) ps_nil)))))))
 (pss_consZ (ps_retZ xBl)
 pss_nilZ)
 pss_nilZ)
 (pss_consZ (ps_ifZ (pt_notZ (tTr (xAll T.bt rfl (xsCons (pz_o (xLcP [("at", 4)] rfl nd (iR2x T.bt (xsCons (pz_o xInt) (xsCons (pz_o (xLen T.bt (xR 0))) ps_nil))) (fun _ _ _ _ _ => (bN nd 4)) (fun _ _ _ _ _ => pts_nilZ) (fun _ _ _ _ _ => (xCmp (o := .lt) (by exact hu) (po_r (xRix (by exact hu) (xRix (by exact hu) (xR 0) (pz_o (pz_bin (o := .sub) (po_r (xR 4)) (pz_o xInt)))) (pz_o xInt))) (po_r (xRix (by exact hu) (xRix (by exact hu) (xR 0) (po_r (xR 4))) (pz_o xInt))))))) ps_nil))))
 (pss_consZ (ps_retZ xBl)
 pss_nilZ)
 pss_nilZ)
 (pss_consZ (ps_retZ (xAll T.bt rfl (xsCons (pz_o (xLcP [("row", 3)] rfl nd (pi_seqR (xR 0)) (fun _ _ _ _ _ => (bN nd 3)) (fun _ _ _ _ _ => pts_nilZ) (fun _ _ _ _ _ => (xCmp (o := .eq) (by exact hu) (po_r (xRix (by exact hu) (xRix (by exact hu) (xR 3) (pz_o xInt)) (pz_o xInt))) (po_r (xRix (by exact hu) (xRix (by exact hu) (xRix (by exact hu) (xR 0) (pz_o xInt)) (pz_o xInt)) (pz_o xInt))))))) ps_nil)))
 pss_nilZ)))
theorem c_come_to {P : Program} {w : World} {K : PySem.W.Frag} {mg : Str → Option Value} {base : Heap} {ct : Str → Option Addr} (T : Tx P w K mg base ct)  : CalZ P w K mg base ct 1 "come_to" ["rows", "place", "houses"] g_come_to := by
  have nd : N_come_to.Nodup := by decide +kernel
  obtain ⟨f, fd, hm, Fu, bi⟩ := T.f_come_to
  refine ⟨f, fd, hm, Fu.kp, bi, fn_okZ (ct := ct) (k := 0) (N := N_come_to) (lk := (fun i => [].contains i)) Fu ⟨rfl, rfl, rfl, nd, rfl, by decide +kernel, by decide +kernel⟩ rfl fun cdv A outer s H E hr => ?_⟩
  have hu := huZ hr
  exact (pss_consZ (sSet nd 3 (pz_lst (xCons (xVar 1) pz_nil)))
 (pss_consZ (sSet nd 4 (pz_dict1 hu (t := false) (po_r (xR 1)) xBl))
 (pss_consZ (sSet nd 5 xInt)
 (pss_consZ (ps_whileZ (own_of rfl) (tCmp (o := .lt) hu (po_r (xR 5)) (pz_o (xLen T.bt (xR 3))))
 (pss_consZ (sFr (own_of rfl) rfl (pi_seqR (xRix hu (xR 0) (po_r (xRix hu (xR 3) (po_r (xR 5)))))) (wT 2 rfl (wsC (wN nd 6) (wsC (wN nd 7) pgs_nilZ)))
 (pss_consZ (ps_ifZ (tW1 (pw_2 (k := false) (tDin (ng := true) hu (po_r (xR 7)) (xR 4)) (pw_2 (k := false) (tCmp (o := .notin) hu (po_r (xRix hu (xR 6) (pz_o xInt))) (po_r (xR 2))) (pw_1 (k := false) (tCmp (o := .notin) hu (po_r (xRix hu (xR 6) (pz_o xInt))) (po_r (xR 2)))))))
 (pss_consZ (sAs xBl (wS hu (xP 4) (po_r (xR 7))))
 (pss_consZ (sEx (xApp (xP 3) (xCons (xVar 7) pz_nil)))
 pss_nilZ))
 pss_nilZ)
 pss_nilZ))
 (pss_consZ (sAg nd false 5 (pz_o xInt))
 pss_nilZ)))
 (pss_consZ (ps_retZ (xMv 3))
 pss_nilZ)))))
theorem c_Bookzz_initzz {P : Program} {w : World} {K : PySem.W.Frag} {mg : Str → Option Value} {base : Heap} {ct : Str → Option Addr} (T : Tx P w K mg base ct) (c_are_rows : CalZ P w K mg base ct 4 "are_rows" ["value", "houses", "places"] g_are_rows) (c_come_to : CalZ P w K mg base ct 1 "come_to" ["rows", "place", "houses"] g_come_to) (c_is_number : CalZ P w K mg base ct 1 "is_number" ["value"] g_is_number) : CalM P w K mg base ct 5 "Book" ["self", "houses", "rows"] g_Bookzz_initzz := by
  have nd : N_Bookzz_initzz.Nodup := by decide +kernel
  obtain ⟨Ca, f, fd, hc, hm, hk, Fu, bi⟩ := T.f_Bookzz_initzz
  refine ⟨Ca, f, fd, hc, hm, hk, binds_of bi, fn_okZ (ct := ct) (k := 4) (N := N_Bookzz_initzz) (lk := (fun i => [0].contains i)) Fu ⟨rfl, rfl, rfl, nd, rfl, by decide +kernel, by decide +kernel⟩ rfl fun cdv A outer s H E hr => ?_⟩
  have hu := huZ hr
  exact (pss_consZ (ps_ifZ (tW1 (pw_2 (k := true) (pt_notZ (tTr (xCallP c_is_number hr (xgRef 1 pg_nilZ) (glR gl0)))) (pw_2 (k := true) (tCmp (o := .lt) hu (po_r (xR 1)) (pz_o xInt)) (pw_1 (k := true) (tCmp (o := .gt) hu (po_r (xR 1)) (pz_o (xGI T.k_MOST_HOUSES)))))))
 (pss_consZ sNv
 pss_nilZ)
 pss_nilZ)
 (pss_consZ (ps_ifZ (tW1 (pw_2 (k := true) (pt_notZ (tTr (xIsi .tup T.bt (xR 2) T.bt.tuple))) (pw_2 (k := true) (tCmp (o := .lt) hu (pz_o (xLen T.bt (xR 2))) (pz_o xInt)) (pw_1 (k := true) (tCmp (o := .gt) hu (pz_o (xLen T.bt (xR 2))) (pz_o (xGI T.k_MOST_PLACES)))))))
 (pss_consZ sNv
 pss_nilZ)
 pss_nilZ)
 (pss_consZ (sFr (own_of rfl) rfl (iEnx T.bt (xdCons (po_r (xR 2)) pd_nil)) (wT 2 rfl (wsC (wN nd 3) (wsC (wN nd 4) pgs_nilZ)))
 (pss_consZ (ps_ifZ (pt_notZ (tTr (xCallP c_are_rows hr (xgRef 4 (xgRef 1 (xgVal (xLen T.bt (xR 2)) pg_nilZ))) (glR (glR (glV gl0))))))
 (pss_consZ sNv
 pss_nilZ)
 pss_nilZ)
 pss_nilZ))
 (pss_consZ (ps_ifZ (tCmp (o := .gt) hu (pz_o (xSum T.bt rfl (xsCons (pz_o (xLcP [("told", 4)] rfl nd (pi_seqR (xR 2)) (fun _ _ _ _ _ => (bN nd 4)) (fun _ _ _ _ _ => pts_nilZ) (fun _ _ _ _ _ => (xLen T.bt (xR 4))))) ps_nil))) (pz_o (xGI T.k_MOST_ROWS)))
 (pss_consZ sNv
 pss_nilZ)
 pss_nilZ)
 (pss_consZ (sSet nd 5 (pz_frz (xCallP c_come_to hr (xgRef 2 (xgVal xInt (xgVal (pz_tup pz_nil) pg_nilZ))) (glR (glV (glV gl0))))))
 (pss_consZ (sFr (own_of rfl) rfl (iR1x T.bt (xsCons (pz_o (xLen T.bt (xR 2))) ps_nil)) (wN nd 3)
 (pss_consZ (ps_ifZ (tCmp (o := .notin) hu (po_r (xR 3)) (po_r (xR 5)))
 (pss_consZ sNv
 pss_nilZ)
 pss_nilZ)
 pss_nilZ))
 (pss_consZ (sFl (T.fld_houses _ rfl) (xVar 1) (xP 0))
 (pss_consZ (sFl (T.fld_rows _ rfl) (xVar 2) (xP 0))
 pss_nilZ))))))))
theorem c_u_law_draw {P : Program} {w : World} {K : PySem.W.Frag} {mg : Str → Option Value} {base : Heap} {ct : Str → Option Addr} (T : Tx P w K mg base ct)  : CalZ P w K mg base ct 1 "_law_draw" ["heap", "many"] g_u_law_draw := by
  have nd : N_u_law_draw.Nodup := by decide +kernel
  obtain ⟨f, fd, hm, Fu, bi⟩ := T.f_u_law_draw
  refine ⟨f, fd, hm, Fu.kp, bi, fn_okZ (ct := ct) (k := 0) (N := N_u_law_draw) (lk := (fun i => [0].contains i)) Fu ⟨rfl, rfl, rfl, nd, rfl, by decide +kernel, by decide +kernel⟩ rfl fun cdv A outer s H E hr => ?_⟩
  have hu := huZ hr
  exact (pss_consZ (ps_whileZ (own_of rfl) (tW1 (pw_2 (k := false) (tCmp (o := .ne) hu (po_r (xRix hu (xR 0) (pz_o xInt))) (pz_o (pz_lst pz_nil))) (pw_1 (k := false) (tCmp (o := .eq) hu (po_r (xRix hu (xRix hu (xR 0) (pz_o xInt)) (pz_o (pz_neg (pz_o xInt))))) (pz_o xInt)))))
 (pss_consZ (sEx (xPop (xPix hu (xP 0) (pz_o xInt))))
 pss_nilZ))
 (pss_consZ (ps_ifZ (tCmp (o := .ne) hu (po_r (xRix hu (xR 0) (pz_o xInt))) (pz_o (pz_lst pz_nil)))
 (pss_consZ (sSet nd 2 (xPop (xPix hu (xP 0) (pz_o xInt))))
 (pss_consZ (sEx (xApp (xPix hu (xP 0) (pz_o xInt)) (xCons (pz_bin (o := .fdiv) (po_r (xR 2)) (po_r (xR 1))) pz_nil)))
 (pss_consZ (ps_retZ (pz_bin (o := .mod) (pz_o (xInt1 T.bt (xsCons (po_r (xR 2)) ps_nil))) (po_r (xR 1))))
 pss_nilZ)))
 pss_nilZ)
 (pss_consZ (sAs (pz_bin (o := .mod) (pz_o (xInt1 T.bt (xsCons (pz_o (pz_bin (o := .add) (pz_o (pz_bin (o := .mul) (po_r (xRix hu (xR 0) (pz_o xInt))) (pz_o xInt))) (pz_o xInt))) ps_nil))) (pz_o xInt)) (wS hu (xP 0) (pz_o xInt)))
 (pss_consZ (ps_retZ (pz_bin (o := .mod) (pz_o (xInt1 T.bt (xsCons (pz_o (pz_bin (o := .fdiv) (po_r (xRix hu (xR 0) (pz_o xInt))) (pz_o xInt))) ps_nil))) (po_r (xR 1))))
 pss_nilZ))))
theorem c_u_law_pick {P : Program} {w : World} {K : PySem.W.Frag} {mg : Str → Option Value} {base : Heap} {ct : Str → Option Addr} (T : Tx P w K mg base ct) (c_u_law_draw : CalZ P w K mg base ct 1 "_law_draw" ["heap", "many"] g_u_law_draw) : CalZ P w K mg base ct 2 "_law_pick" ["heap", "some"] g_u_law_pick := by
  have nd : N_u_law_pick.Nodup := by decide +kernel
  obtain ⟨f, fd, hm, Fu, bi⟩ := T.f_u_law_pick
  refine ⟨f, fd, hm, Fu.kp, bi, fn_okZ (ct := ct) (k := 1) (N := N_u_law_pick) (lk := (fun i => [0].contains i)) Fu ⟨rfl, rfl, rfl, nd, rfl, by decide +kernel, by decide +kernel⟩ rfl fun cdv A outer s H E hr => ?_⟩
  have hu := huZ hr
  exact (pss_consZ (ps_retZ (xIxV (j := 1) hu (pz_o (xCall c_u_law_draw hr (xgRef 0 (xgVal (xLen T.bt (xR 1)) pg_nilZ)) (glR (glV gl0))))))
 pss_nilZ)
theorem c_u_law_bent {P : Program} {w : World} {K : PySem.W.Frag} {mg : Str → Option Value} {base : Heap} {ct : Str → Option Addr} (T : Tx P w K mg base ct) (c_u_law_draw : CalZ P w K mg base ct 1 "_law_draw" ["heap", "many"] g_u_law_draw) (c_u_law_pick : CalZ P w K mg base ct 2 "_law_pick" ["heap", "some"] g_u_law_pick) : ∀ k : Nat, CalZ P w K mg base ct (3 + k) "_law_bent" ["heap", "value", "parts"] (g_u_law_bent k)
  | 0 => by
    have nd : N_u_law_bent.Nodup := by decide +kernel
    obtain ⟨f, fd, hm, Fu, bi⟩ := T.f_u_law_bent
    exact ⟨f, fd, hm, Fu.kp, bi, (fn_ok0 (ct := ct) (k := 0) (N := N_u_law_bent) Fu ⟨rfl, rfl, rfl, nd, rfl, by decide +kernel, by decide +kernel⟩ rfl).mono (by omega)⟩
  | k + 1 => by
    have nd : N_u_law_bent.Nodup := by decide +kernel
    have Cs := c_u_law_bent T c_u_law_draw c_u_law_pick k
    obtain ⟨f, fd, hm, Fu, bi⟩ := T.f_u_law_bent
    refine ⟨f, fd, hm, Fu.kp, bi, fn_okZ (ct := ct) (k := 3 + k) (N := N_u_law_bent) (lk := (fun i => [0].contains i)) Fu ⟨rfl, rfl, rfl, nd, rfl, by decide +kernel, by decide +kernel⟩ rfl fun cdv A outer s H E hr => ?_⟩
    have hu := huZ hr
    exact (pss_consZ (ps_ifZ (tCmp (o := .eq) hu (pz_o (xLen T.bt (xR 1))) (pz_o xInt))
 (pss_consZ (ps_retZ (xCall c_u_law_pick hr (xgRef 0 (xgVal (pz_lst (xCons xNon (xCons (pz_lst pz_nil) (xCons xInt (xCons (pz_tup (xCons xInt pz_nil)) (xCons xStr (xCons (pz_tup (xCons (pz_tup pz_nil) pz_nil)) pz_nil))))))) pg_nilZ)) (glR (glV gl0))))
 pss_nilZ)
 pss_nilZ)
 (pss_consZ (sPr nd rfl 3 4 (xCons (pz_frz (xCall c_u_law_draw hr (xgRef 0 (xgVal (xLen T.bt (xR 1)) pg_nilZ)) (glR (glV gl0)))) (xCons (pz_frz (xCall c_u_law_draw hr (xgRef 0 (xgVal xInt pg_nilZ)) (glR (glV gl0)))) pz_nil)))
 (pss_consZ (ps_ifZ (tCmp (o := .eq) hu (po_r (xR 4)) (pz_o xInt))
 (pss_consZ (ps_retZ (xCall c_u_law_pick hr (xgRef 0 (xgVal (pz_lst (xCons (pz_sl (po_r (xR 1)) po_noneZ (po_someZ (pz_o (pz_neg (pz_o xInt))))) (xCons (pz_bin (o := .add) (po_r (xR 1)) (pz_o (pz_tup (xCons xInt pz_nil)))) (xCons (xLstO T.bt (xsCons (po_r (xR 1)) ps_nil)) (xCons xNon (xCons (pz_sl (po_r (xR 1)) po_noneZ (po_someZ (pz_o xInt))) (xCons xInt (xCons xStr (xCons (pz_bin (o := .add) (po_r (xR 1)) (pz_o (pz_sl (po_r (xR 1)) (po_someZ (pz_o (pz_neg (pz_o xInt)))) po_noneZ))) pz_nil))))))))) pg_nilZ)) (glR (glV gl0))))
 pss_nilZ)
 pss_nilZ)
 (pss_consZ (ps_ifZ (tW1 (pw_2 (k := false) (tCmp (o := .lt) hu (po_r (xR 4)) (pz_o xInt)) (pw_2 (k := false) (tTr (xIsi .tup T.bt (xRix hu (xR 1) (po_r (xR 3))) T.bt.tuple)) (pw_1 (k := false) (tCmp (o := .gt) hu (pz_o (xLen T.bt (xRix hu (xR 1) (po_r (xR 3))))) (pz_o xInt))))))
 (pss_consZ (sSet nd 5 (pz_frz (pz_if (tCmp (o := .lt) hu (po_r (xR 4)) (pz_o xInt)) (xCall Cs hr (xgRef 0 (xgVal (pz_r (xRix hu (xR 1) (po_r (xR 3)))) (xgRef 2 pg_nilZ))) (glR (glV (glR gl0)))) (xLstO T.bt (xsCons (po_r (xRix hu (xR 1) (po_r (xR 3)))) ps_nil)))))
 pss_nilZ)
 (pss_consZ (ps_ifZ (tW1 (pw_2 (k := false) (tCmp (o := .lt) hu (po_r (xR 4)) (pz_o xInt)) (pw_1 (k := false) (tTr (xIsi .int T.bt (xRix hu (xR 1) (po_r (xR 3))) T.bt.int)))))
 (pss_consZ (sSet nd 5 (pz_frz (pz_bin (o := .add) (po_r (xRix hu (xR 1) (po_r (xR 3)))) (pz_o (xCall c_u_law_pick hr (xgRef 0 (xgVal (pz_lst (xCons xInt (xCons xInt (xCons (pz_bin (o := .sub) (pz_o xInt) (pz_o xInt)) (xCons xInt pz_nil))))) pg_nilZ)) (glR (glV gl0)))))))
 pss_nilZ)
 (pss_consZ (sSet nd 5 (pz_frz (xCall c_u_law_pick hr (xgRef 0 (xgVal (pz_bin (o := .add) (pz_o (xLstO T.bt (xsCons (po_r (xR 2)) ps_nil))) (pz_o (pz_lst (xCons xNon (xCons xBl (xCons (pz_bin (o := .sub) (pz_o xInt) (pz_o xInt)) (xCons xInt (xCons xInt (xCons xStr (xCons xStr (xCons (pz_tup pz_nil) (xCons (pz_tup (xCons xInt pz_nil)) (xCons (pz_bin (o := .pow) (pz_o xInt) (pz_o xInt)) pz_nil))))))))))))) pg_nilZ)) (glR (glV gl0)))))
 pss_nilZ))
 pss_nilZ))
 (pss_consZ (ps_retZ (pz_bin (o := .add) (pz_o (pz_bin (o := .add) (pz_o (pz_sl (po_r (xR 1)) po_noneZ (po_someZ (po_r (xR 3))))) (pz_o (pz_tup (xCons (xVar 5) pz_nil))))) (pz_o (pz_sl (po_r (xR 1)) (po_someZ (pz_o (pz_bin (o := .add) (po_r (xR 3)) (pz_o xInt)))) po_noneZ))))
 pss_nilZ)))))
theorem c_u_law_lot {P : Program} {w : World} {K : PySem.W.Frag} {mg : Str → Option Value} {base : Heap} {ct : Str → Option Addr} (T : Tx P w K mg base ct)  : CalZ P w K mg base ct 1 "_law_lot" ["row"] g_u_law_lot := by
  have nd : N_u_law_lot.Nodup := by decide +kernel
  obtain ⟨f, fd, hm, Fu, bi⟩ := T.f_u_law_lot
  refine ⟨f, fd, hm, Fu.kp, bi, fn_okZ (ct := ct) (k := 0) (N := N_u_law_lot) (lk := (fun i => [].contains i)) Fu ⟨rfl, rfl, rfl, nd, rfl, by decide +kernel, by decide +kernel⟩ rfl fun cdv A outer s H E hr => ?_⟩
  have hu := huZ hr
  exact (pss_consZ (sSet nd 1 (pz_lst pz_nil))
 (pss_consZ (sFr (own_of rfl) rfl (pi_seqZ (pz_o (xSorted T.bt hu (xsCons (po_r (xR 0)) ps_nil)))) (wN nd 2)
 (pss_consZ (ps_ifZ (tW1 (pw_2 (k := true) (tCmp (o := .eq) hu (po_r (xR 1)) (pz_o (pz_lst pz_nil))) (pw_1 (k := true) (tCmp (o := .ne) hu (po_r (xRix hu (xR 1) (pz_o (pz_bin (o := .sub) (pz_o (xLen T.bt (xR 1))) (pz_o xInt))))) (po_r (xR 2))))))
 (pss_consZ (sEx (xApp (xP 1) (xCons (xVar 2) pz_nil)))
 pss_nilZ)
 pss_nilZ)
 pss_nilZ))
 (pss_consZ (ps_retZ (xTupO T.bt (xsCons (po_r (xR 1)) ps_nil)))
 pss_nilZ)))
theorem c_u_law_done {P : Program} {w : World} {K : PySem.W.Frag} {mg : Str → Option Value} {base : Heap} {ct : Str → Option Addr} (T : Tx P w K mg base ct) (c_u_law_lot : CalZ P w K mg base ct 1 "_law_lot" ["row"] g_u_law_lot) : CalZ P w K mg base ct 2 "_law_done" ["held", "walk"] g_u_law_done := by
  have nd : N_u_law_done.Nodup := by decide +kernel
  obtain ⟨f, fd, hm, Fu, bi⟩ := T.f_u_law_done
  refine ⟨f, fd, hm, Fu.kp, bi, fn_okZ (ct := ct) (k := 1) (N := N_u_law_done) (lk := (fun i => [].contains i)) Fu ⟨rfl, rfl, rfl, nd, rfl, by decide +kernel, by decide +kernel⟩ rfl fun cdv A outer s H E hr => ?_⟩
  have hu := huZ hr
  exact (pss_consZ (sSet nd 2 (pz_lst pz_nil))
 (pss_consZ (sFr (own_of rfl) rfl (pi_seqR (xR 1)) (wN nd 3)
 (pss_consZ (ps_ifZ (tCmp (o := .isin) hu (po_r (xRix hu (xR 3) (pz_o xInt))) (po_r (xR 0)))
 (pss_consZ (sSet nd 0 (pz_frz (xCallP c_u_law_lot hr (xgVal (pz_bin (o := .add) (po_r (xR 0)) (pz_o (pz_tup (xCons (pz_r (xRix hu (xR 3) (pz_o xInt))) pz_nil)))) pg_nilZ) (glV gl0))))
 pss_nilZ)
 (pss_consZ (sEx (xApp (xP 2) (xCons (pz_tup (xCons xStr (xCons (xVar 3) pz_nil))) pz_nil)))
 (pss_consZ (ps_ifZ (tCmp (o := .notin) hu (po_r (xRix hu (xR 3) (pz_o xInt))) (po_r (xR 0)))
 (pss_consZ (sEx (xApp (xP 2) (xCons (pz_tup (xCons xStr (xCons (xVar 3) pz_nil))) pz_nil)))
 pss_nilZ)
 pss_nilZ)
 pss_nilZ)))
 pss_nilZ))
 (pss_consZ (ps_retZ (pz_tup (xCons (xTupO T.bt (xsCons (po_r (xR 2)) ps_nil)) (xCons (xVar 0) pz_nil))))
 pss_nilZ)))
theorem c_u_law_far {P : Program} {w : World} {K : PySem.W.Frag} {mg : Str → Option Value} {base : Heap} {ct : Str → Option Addr} (T : Tx P w K mg base ct)  : CalZ P w K mg base ct 1 "_law_far" ["rows", "place", "letter"] g_u_law_far := by
  have nd : N_u_law_far.Nodup := by decide +kernel
  obtain ⟨f, fd, hm, Fu, bi⟩ := T.f_u_law_far
  refine ⟨f, fd, hm, Fu.kp, bi, fn_okZ (ct := ct) (k := 0) (N := N_u_law_far) (lk := (fun i => [].contains i)) Fu ⟨rfl, rfl, rfl, nd, rfl, by decide +kernel, by decide +kernel⟩ rfl fun cdv A outer s H E hr => ?_⟩
  have hu := huZ hr
  exact (pss_consZ (sFr (own_of rfl) rfl (pi_seqR (xRix hu (xR 0) (po_r (xR 1)))) (wT 2 rfl (wsC (wN nd 3) (wsC (wN nd 4) pgs_nilZ)))
 (pss_consZ (ps_ifZ (tCmp (o := .eq) hu (po_r (xR 3)) (po_r (xR 2)))
 (pss_consZ (ps_retZ (xVar 4))
 pss_nilZ)
 pss_nilZ)
 pss_nilZ))
 (pss_consZ (ps_retZ xNon)
 pss_nilZ))
theorem c_u_law_end {P : Program} {w : World} {K : PySem.W.Frag} {mg : Str → Option Value} {base : Heap} {ct : Str → Option Addr} (T : Tx P w K mg base ct) (c_u_law_far : CalZ P w K mg base ct 1 "_law_far" ["rows", "place", "letter"] g_u_law_far) : CalZ P w K mg base ct 2 "_law_end" ["rows", "place", "walk"] g_u_law_end := by
  have nd : N_u_law_end.Nodup := by decide +kernel
  obtain ⟨f, fd, hm, Fu, bi⟩ := T.f_u_law_end
  refine ⟨f, fd, hm, Fu.kp, bi, fn_okZ (ct := ct) (k := 1) (N := N_u_law_end) (lk := (fun i => [].contains i)) Fu ⟨rfl, rfl, rfl, nd, rfl, by decide +kernel, by decide +kernel⟩ rfl fun cdv A outer s H E hr => ?_⟩
  have hu := huZ hr
  exact (pss_consZ (sFr (own_of rfl) rfl (pi_seqR (xR 2)) (wN nd 3)
 (pss_consZ (sSet nd 1 (pz_frz (pz_if (tCmp (o := .is) hu (po_r (xR 1)) (pz_o xNon)) xNon (xCallP c_u_law_far hr (xgRef 0 (xgRef 1 (xgRef 3 pg_nilZ))) (glR (glR (glR gl0)))))))
 pss_nilZ))
 (pss_consZ (ps_retZ (xVar 1))
 pss_nilZ))
theorem c_u_law_full {P : Program} {w : World} {K : PySem.W.Frag} {mg : Str → Option Value} {base : Heap} {ct : Str → Option Addr} (T : Tx P w K mg base ct)  : CalZ P w K mg base ct 1 "_law_full" ["tale"] g_u_law_full := by
  have nd : N_u_law_full.Nodup := by decide +kernel
  obtain ⟨f, fd, hm, Fu, bi⟩ := T.f_u_law_full
  refine ⟨f, fd, hm, Fu.kp, bi, fn_okZ (ct := ct) (k := 0) (N := N_u_law_full) (lk := (fun i => [].contains i)) Fu ⟨rfl, rfl, rfl, nd, rfl, by decide +kernel, by decide +kernel⟩ rfl fun cdv A outer s H E hr => ?_⟩
  have hu := huZ hr
  exact (pss_consZ (sSet nd 1 (pz_lst pz_nil))
 (pss_consZ (sFr (own_of rfl) rfl (pi_seqR (xR 0)) (wN nd 2)
 (pss_consZ (sEx (xExt (xP 1) (xCons (pz_lst (xCons (pz_tup (xCons xStr (xCons (xVar 2) pz_nil))) (xCons (pz_tup (xCons xStr (xCons (xVar 2) pz_nil))) pz_nil))) pz_nil)))
 pss_nilZ))
 (pss_consZ (ps_retZ (xTupO T.bt (xsCons (po_r (xR 1)) ps_nil)))
 pss_nilZ)))
theorem c_u_law_heap {P : Program} {w : World} {K : PySem.W.Frag} {mg : Str → Option Value} {base : Heap} {ct : Str → Option Addr} (T : Tx P w K mg base ct)  : CalZ P w K mg base ct 1 "_law_heap" ["script"] g_u_law_heap := by
  have nd : N_u_law_heap.Nodup := by decide +kernel
  obtain ⟨f, fd, hm, Fu, bi⟩ := T.f_u_law_heap
  refine ⟨f, fd, hm, Fu.kp, bi, fn_okZ (ct := ct) (k := 0) (N := N_u_law_heap) (lk := (fun i => [].contains i)) Fu ⟨rfl, rfl, rfl, nd, rfl, by decide +kernel, by decide +kernel⟩ rfl fun cdv A outer s H E hr => ?_⟩
  have hu := huZ hr
  exact (pss_consZ (sPr nd rfl 1 2 (xCons (pz_frz (xLcP [("cell", 3)] rfl nd (pi_seqZ (pz_o (pz_sl (po_r (xR 0)) po_noneZ (po_someZ (pz_o xInt))))) (fun _ _ _ _ _ => (bN nd 3)) (fun _ _ _ _ _ => pts_nilZ) (fun _ _ _ _ _ => (pz_bin (o := .add) (pz_o (pz_bin (o := .mul) (pz_o xInt) (pz_o (xAbs T.bt (xsCons (po_r (xR 3)) ps_nil))))) (pz_o (xInt1 T.bt (xsCons (pz_o (xCmp (o := .lt) (by exact hu) (po_r (xR 3)) (pz_o xInt))) ps_nil))))))) (xCons xInt pz_nil)))
 (pss_consZ (sFr (own_of rfl) rfl (pi_seqR (xR 1)) (wN nd 3)
 (pss_consZ (sSet nd 2 (pz_bin (o := .mod) (pz_o (xInt1 T.bt (xsCons (pz_o (pz_bin (o := .add) (pz_o (pz_bin (o := .add) (pz_o (pz_bin (o := .mul) (po_r (xR 2)) (pz_o xInt))) (pz_o (pz_bin (o := .mod) (pz_o (xInt1 T.bt (xsCons (po_r (xR 3)) ps_nil))) (pz_o xInt))))) (pz_o xInt))) ps_nil))) (pz_o xInt)))
 pss_nilZ))
 (pss_consZ (ps_retZ (pz_lst (xCons (pz_revL (pz_o (xLcP [("cell", 3)] rfl nd (pi_seqR (xR 1)) (fun _ _ _ _ _ => (bN nd 3)) (fun _ _ _ _ _ => (pts_oneZ (tCmp (o := .ge) (by exact hu) (po_r (xR 3)) (pz_o (pz_bin (o := .pow) (pz_o xInt) (pz_o xInt)))))) (fun _ _ _ _ _ => (pz_bin (o := .mod) (pz_o (xInt1 T.bt (xsCons (po_r (xR 3)) ps_nil))) (pz_o (pz_bin (o := .mul) (pz_o (pz_bin (o := .mul) (pz_o (pz_bin (o := .mul) (pz_o (pz_bin (o := .pow) (pz_o xInt) (pz_o xInt))) (pz_o (pz_bin (o := .pow) (pz_o xInt) (pz_o xInt))))) (pz_o (pz_bin (o := .pow) (pz_o xInt) (pz_o xInt))))) (pz_o (pz_bin (o := .pow) (pz_o xInt) (pz_o xInt)))))))))) (xCons (xVar 2) pz_nil))))
 pss_nilZ)))
theorem c_u_law_number {P : Program} {w : World} {K : PySem.W.Frag} {mg : Str → Option Value} {base : Heap} {ct : Str → Option Addr} (T : Tx P w K mg base ct)  : CalZ P w K mg base ct 1 "_law_number" ["value"] g_u_law_number := by
  have nd : N_u_law_number.Nodup := by decide +kernel
  obtain ⟨f, fd, hm, Fu, bi⟩ := T.f_u_law_number
  refine ⟨f, fd, hm, Fu.kp, bi, fn_okZ (ct := ct) (k := 0) (N := N_u_law_number) (lk := (fun i => [].contains i)) Fu ⟨rfl, rfl, rfl, nd, rfl, by decide +kernel, by decide +kernel⟩ rfl fun cdv A outer s H E hr => ?_⟩
  have hu := huZ hr
  exact (pss_consZ (ps_retZ (pz_2 (k := false) (xIsi .int T.bt (xR 0) T.bt.int) (pz_2 (k := false) (pz_notV (xIsi .bl T.bt (xR 0) T.nbool)) (pz_1 (o := bop false) (xCmp (o := .ge) hu (po_r (xR 0)) (pz_o xInt))))))
 pss_nilZ)
theorem c_u_law_is_letter {P : Program} {w : World} {K : PySem.W.Frag} {mg : Str → Option Value} {base : Heap} {ct : Str → Option Addr} (T : Tx P w K mg base ct) (c_u_law_number : CalZ P w K mg base ct 1 "_law_number" ["value"] g_u_law_number) : CalZ P w K mg base ct 2 "_law_is_letter" ["value"] g_u_law_is_letter := by
  have nd : N_u_law_is_letter.Nodup := by decide +kernel
  obtain ⟨f, fd, hm, Fu, bi⟩ := T.f_u_law_is_letter
  refine ⟨f, fd, hm, Fu.kp, bi, fn_okZ (ct := ct) (k := 1) (N := N_u_law_is_letter) (lk := (fun i => [].contains i)) Fu ⟨rfl, rfl, rfl, nd, rfl, by decide +kernel, by decide +kernel⟩ rfl fun cdv A outer s H E hr => ?_⟩
  have hu := huZ hr
  exact (pss_consZ (ps_retZ (pz_2 (k := false) (xIsi .tup T.bt (xR 0) T.bt.tuple) (pz_2 (k := false) (xCmp (o := .eq) hu (pz_o (xLen T.bt (xR 0))) (pz_o xInt)) (pz_1 (o := bop false) (xAll T.bt rfl (xsCons (pz_o (xLcP [("one", 1)] rfl nd (pi_seqR (xR 0)) (fun _ _ _ _ _ => (bN nd 1)) (fun _ _ _ _ _ => pts_nilZ) (fun _ _ _ _ _ => (xCallP c_u_law_number (by exact hr) (xgRef 1 pg_nilZ) (glR gl0))))) ps_nil))))))
 pss_nilZ)
theorem c_u_law_is_walk {P : Program} {w : World} {K : PySem.W.Frag} {mg : Str → Option Value} {base : Heap} {ct : Str → Option Addr} (T : Tx P w K mg base ct) (c_u_law_end : CalZ P w K mg base ct 2 "_law_end" ["rows", "place", "walk"] g_u_law_end) (c_u_law_is_letter : CalZ P w K mg base ct 2 "_law_is_letter" ["value"] g_u_law_is_letter) : CalZ P w K mg base ct 3 "_law_is_walk" ["rows", "place", "value"] g_u_law_is_walk := by
  have nd : N_u_law_is_walk.Nodup := by decide +kernel
  obtain ⟨f, fd, hm, Fu, bi⟩ := T.f_u_law_is_walk
  refine ⟨f, fd, hm, Fu.kp, bi, fn_okZ (ct := ct) (k := 2) (N := N_u_law_is_walk) (lk := (fun i => [].contains i)) Fu ⟨rfl, rfl, rfl, nd, rfl, by decide +kernel, by decide +kernel⟩ rfl fun cdv A outer s H E hr => ?_⟩
  have hu := huZ hr
  exact (pss_consZ (ps_ifZ (tW1 (pw_2 (k := true) (pt_notZ (tTr (xIsi .tup T.bt (xR 2) T.bt.tuple))) (pw_2 (k := true) (tCmp (o := .gt) hu (pz_o (xLen T.bt (xR 2))) (pz_o xInt)) (pw_1 (k := true) (pt_notZ (tTr (xAll T.bt rfl (xsCons (pz_o (xLcP [("letter", 3)] rfl nd (pi_seqR (xR 2)) (fun _ _ _ _ _ => (bN nd 3)) (fun _ _ _ _ _ => pts_nilZ) (fun _ _ _ _ _ => (xCallP c_u_law_is_letter (by exact hr) (xgRef 3 pg_nilZ) (glR gl0))))) ps_nil))))))))
 (pss_consZ (ps_retZ xBl)
 pss_nilZ)
 pss_nilZ)
 (pss_consZ (ps_retZ (xCmp (o := .isnot) hu (pz_o (xCallP c_u_law_end hr (xgRef 0 (xgRef 1 (xgRef 2 pg_nilZ))) (glR (glR (glR gl0))))) (pz_o xNon)))
 pss_nilZ))
theorem c_is_letter_form {P : Program} {w : World} {K : PySem.W.Frag} {mg : Str → Option Value} {base : Heap} {ct : Str → Option Addr} (T : Tx P w K mg base ct) (c_is_number : CalZ P w K mg base ct 1 "is_number" ["value"] g_is_number) : CalZ P w K mg base ct 2 "is_letter_form" ["value"] g_is_letter_form := by
  have nd : N_is_letter_form.Nodup := by decide +kernel
  obtain ⟨f, fd, hm, Fu, bi⟩ := T.f_is_letter_form
  refine ⟨f, fd, hm, Fu.kp, bi, fn_okZ (ct := ct) (k := 1) (N := N_is_letter_form) (lk := (fun i => [].contains i)) Fu ⟨rfl, rfl, rfl, nd, rfl, by decide +kernel, by decide +kernel⟩ rfl fun cdv A outer s H E hr => ?_⟩
  have hu := huZ hr
  exact (pss_consZ (ps_retZ (pz_2 (k := false) (xIsi .tup T.bt (xR 0) T.bt.tuple) (pz_2 (k := false) (xCmp (o := .eq) hu (pz_o (xLen T.bt (xR 0))) (pz_o xInt)) (pz_1 (o := bop false) (xAll T.bt rfl (xsCons (pz_o (xLcP [("one", 1)] rfl nd (pi_seqR (xR 0)) (fun _ _ _ _ _ => (bN nd 1)) (fun _ _ _ _ _ => pts_nilZ) (fun _ _ _ _ _ => (xCallP c_is_number (by exact hr) (xgRef 1 pg_nilZ) (glR gl0))))) ps_nil))))))
 pss_nilZ)
theorem c_next_place {P : Program} {w : World} {K : PySem.W.Frag} {mg : Str → Option Value} {base : Heap} {ct : Str → Option Addr} (T : Tx P w K mg base ct)  : CalZ P w K mg base ct 1 "next_place" ["book", "place", "letter"] g_next_place := by
  have nd : N_next_place.Nodup := by decide +kernel
  obtain ⟨f, fd, hm, Fu, bi⟩ := T.f_next_place
  refine ⟨f, fd, hm, Fu.kp, bi, fn_okZ (ct := ct) (k := 0) (N := N_next_place) (lk := (fun i => [].contains i)) Fu ⟨rfl, rfl, rfl, nd, rfl, by decide +kernel, by decide +kernel⟩ rfl fun cdv A outer s H E hr => ?_⟩
  have hu := huZ hr
  exact (pss_consZ (sFr (own_of rfl) rfl (pi_seqR (xRix hu (xRf (T.fld_rows _ rfl) (xR 0)) (po_r (xR 1)))) (wT 2 rfl (wsC (wN nd 3) (wsC (wN nd 4) pgs_nilZ)))
 (pss_consZ (ps_ifZ (tCmp (o := .eq) hu (po_r (xR 3)) (po_r (xR 2)))
 (pss_consZ (ps_retZ (xVar 4))
 pss_nilZ)
 pss_nilZ)
 pss_nilZ))
 (pss_consZ (ps_retZ xNon)
 pss_nilZ))
theorem c_is_walk {P : Program} {w : World} {K : PySem.W.Frag} {mg : Str → Option Value} {base : Heap} {ct : Str → Option Addr} (T : Tx P w K mg base ct) (c_is_letter_form : CalZ P w K mg base ct 2 "is_letter_form" ["value"] g_is_letter_form) (c_next_place : CalZ P w K mg base ct 1 "next_place" ["book", "place", "letter"] g_next_place) : CalZ P w K mg base ct 3 "is_walk" ["book", "place", "value"] g_is_walk := by
  have nd : N_is_walk.Nodup := by decide +kernel
  obtain ⟨f, fd, hm, Fu, bi⟩ := T.f_is_walk
  refine ⟨f, fd, hm, Fu.kp, bi, fn_okZ (ct := ct) (k := 2) (N := N_is_walk) (lk := (fun i => [].contains i)) Fu ⟨rfl, rfl, rfl, nd, rfl, by decide +kernel, by decide +kernel⟩ rfl fun cdv A outer s H E hr => ?_⟩
  have hu := huZ hr
  exact (pss_consZ (ps_ifZ (tW1 (pw_2 (k := true) (pt_notZ (tTr (xIsi .tup T.bt (xR 2) T.bt.tuple))) (pw_1 (k := true) (tCmp (o := .gt) hu (pz_o (xLen T.bt (xR 2))) (pz_o (xGI T.k_MOST_LETTERS))))))
 (pss_consZ (ps_retZ xBl)
 pss_nilZ)
 pss_nilZ)
 (pss_consZ (sFr (own_of rfl) rfl (pi_seqR (xR 2)) (wN nd 3)
 (pss_consZ (ps_ifZ (pt_notZ (tTr (xCallP c_is_letter_form hr (xgRef 3 pg_nilZ) (glR gl0))))
 (pss_consZ (ps_retZ xBl)
 pss_nilZ)
 pss_nilZ)
 (pss_consZ (sSet nd 1 (pz_frz (xCallP c_next_place hr (xgRef 0 (xgRef 1 (xgRef 3 pg_nilZ))) (glR (glR (glR gl0))))))
 (pss_consZ (ps_ifZ (tCmp (o := .is) hu (po_r (xR 1)) (pz_o xNon))
 (pss_consZ (ps_retZ xBl)
 pss_nilZ)
 pss_nilZ)
 pss_nilZ))))
 (pss_consZ (ps_retZ xBl)
 pss_nilZ)))
theorem c_u_law_long_right {P : Program} {w : World} {K : PySem.W.Frag} {mg : Str → Option Value} {base : Heap} {ct : Str → Option Addr} (T : Tx P w K mg base ct) (c_Bookzz_initzz : CalM P w K mg base ct 5 "Book" ["self", "houses", "rows"] g_Bookzz_initzz) (c_u_law_draw : CalZ P w K mg base ct 1 "_law_draw" ["heap", "many"] g_u_law_draw) (c_is_walk : CalZ P w K mg base ct 3 "is_walk" ["book", "place", "value"] g_is_walk) : CalZ P w K mg base ct 7 "_law_long_right" ["heap"] g_u_law_long_right := by
  have nd : N_u_law_long_right.Nodup := by decide +kernel
  obtain ⟨f, fd, hm, Fu, bi⟩ := T.f_u_law_long_right
  refine ⟨f, fd, hm, Fu.kp, bi, fn_okZ (ct := ct) (k := 6) (N := N_u_law_long_right) (lk := (fun i => [0].contains i)) Fu ⟨rfl, rfl, rfl, nd, rfl, by decide +kernel, by decide +kernel⟩ rfl fun cdv A outer s H E hr => ?_⟩
  have hu := huZ hr
  exact (pss_consZ (sSet nd 1 (pz_frz (pz_tup (xCons (xCall c_u_law_draw hr (xgRef 0 (xgVal xInt pg_nilZ)) (glR (glV gl0))) (xCons xInt (xCons (xCall c_u_law_draw hr (xgRef 0 (xgVal xInt pg_nilZ)) (glR (glV gl0))) pz_nil))))))
 (pss_consZ (sSet nd 1 (pz_frz (pz_tup (xCons (pz_r (xRix hu (xR 1) (pz_o xInt))) (xCons (pz_bin (o := .sub) (pz_o xInt) (po_r (xRix hu (xR 1) (pz_o xInt)))) (xCons (pz_r (xRix hu (xR 1) (pz_o xInt))) pz_nil))))))
 (pss_consZ (sSet nd 2 (pz_frz (xMake c_Bookzz_initzz hr (xgVal xInt (xgVal (pz_tup (xCons (pz_tup (xCons (pz_tup (xCons (xVar 1) (xCons xInt pz_nil))) pz_nil)) pz_nil)) pg_nilZ)) (glV (glV gl0)))))
 (pss_consZ (ps_retZ (pz_2 (k := false) (xCmp (o := .is) hu (pz_o (xCallP c_is_walk hr (xgRef 2 (xgVal xInt (xgVal (pz_times (pz_o (pz_tup (xCons (xVar 1) pz_nil))) (pz_o xInt)) pg_nilZ))) (glR (glV (glV gl0))))) (pz_o xBl)) (pz_1 (o := bop false) (xCmp (o := .is) hu (pz_o (xCallP c_is_walk hr (xgRef 2 (xgVal xInt (xgVal (pz_times (pz_o (pz_tup (xCons (xVar 1) pz_nil))) (pz_o xInt)) pg_nilZ))) (glR (glV (glV gl0))))) (pz_o xBl)))))
 pss_nilZ))))
theorem c_u_law_pruned {P : Program} {w : World} {K : PySem.W.Frag} {mg : Str → Option Value} {base : Heap} {ct : Str → Option Addr} (T : Tx P w K mg base ct)  : CalZ P w K mg base ct 1 "_law_pruned" ["rows"] g_u_law_pruned := by
  have nd : N_u_law_pruned.Nodup := by decide +kernel
  obtain ⟨f, fd, hm, Fu, bi⟩ := T.f_u_law_pruned
  refine ⟨f, fd, hm, Fu.kp, bi, fn_okZ (ct := ct) (k := 0) (N := N_u_law_pruned) (lk := (fun i => [].contains i)) Fu ⟨rfl, rfl, rfl, nd, rfl, by decide +kernel, by decide +kernel⟩ rfl fun cdv A outer s H E hr => ?_⟩
  have hu := huZ hr
  exact (pss_consZ (sAs (pz_tup (xCons (pz_lst (xCons xInt pz_nil)) (xCons (pz_dict1 hu (t := false) (pz_o xInt) xInt) pz_nil))) (wT 2 rfl (wsC (wN nd 1) (wsC (wN nd 2) pgs_nilZ))))
 (pss_consZ (sFr (own_of rfl) rfl (iR1x T.bt (xsCons (pz_o (xLen T.bt (xR 0))) ps_nil)) (wN nd 3)
 (pss_consZ (ps_ifZ (tCmp (o := .lt) hu (po_r (xR 3)) (pz_o (xLen T.bt (xR 1))))
 (pss_consZ (sFr (own_of rfl) rfl (pi_seqR (xRix hu (xR 0) (po_r (xRix hu (xR 1) (po_r (xR 3)))))) (wT 2 rfl (wsC (wN nd 4) (wsC (wN nd 5) pgs_nilZ)))
 (pss_consZ (ps_ifZ (tDin (ng := true) hu (po_r (xR 5)) (xR 2))
 (pss_consZ (sAs (xLen T.bt (xR 1)) (wS hu (xP 2) (po_r (xR 5))))
 (pss_consZ (sEx (xApp (xP 1) (xCons (xVar 5) pz_nil)))
 pss_nilZ))
 pss_nilZ)
 pss_nilZ))
 pss_nilZ)
 pss_nilZ)
 pss_nilZ))
 (ps_frz (pss_consZ (ps_retZ (xTupM T.bt (xLcP [("place", 6)] rfl nd (pi_seqR (xR 1)) (fun _ _ _ _ _ => (bN nd 6)) (fun _ _ _ _ _ => pts_nilZ) (fun _ _ _ _ _ => (xTupM T.bt (xLcP [("letter", 4), ("to", 5)] rfl nd (pi_seqR (xRix (by exact hu) (xR 0) (po_r (xR 6)))) (fun _ _ _ _ _ => (bT 2 rfl (bsC (bN nd 4) (bsC (bN nd 5) pws_nil)))) (fun _ _ _ _ _ => pts_nilZ) (fun _ _ _ _ _ => (pz_tup (xCons (xVar 4) (xCons (pz_r (xRix (by exact hu) (xR 2) (po_r (xR 5)))) pz_nil))))))))))
 pss_nilZ))))
theorem c_u_law_to {P : Program} {w : World} {K : PySem.W.Frag} {mg : Str → Option Value} {base : Heap} {ct : Str → Option Addr} (T : Tx P w K mg base ct) (c_u_law_draw : CalZ P w K mg base ct 1 "_law_draw" ["heap", "many"] g_u_law_draw) (c_u_law_pick : CalZ P w K mg base ct 2 "_law_pick" ["heap", "some"] g_u_law_pick) : CalZ P w K mg base ct 3 "_law_to" ["heap", "houses", "words", "one", "to"] g_u_law_to := by
  have nd : N_u_law_to.Nodup := by decide +kernel
  obtain ⟨f, fd, hm, Fu, bi⟩ := T.f_u_law_to
  refine ⟨f, fd, hm, Fu.kp, bi, fn_okZ (ct := ct) (k := 2) (N := N_u_law_to) (lk := (fun i => [0].contains i)) Fu ⟨rfl, rfl, rfl, nd, rfl, by decide +kernel, by decide +kernel⟩ rfl fun cdv A outer s H E hr => ?_⟩
  have hu := huZ hr
  exact (pss_consZ (sSet nd 5 (pz_frz (pz_if (tW1 (pw_2 (k := false) (tCmp (o := .lt) hu (po_r (xR 4)) (po_r (xR 1))) (pw_1 (k := false) (tCmp (o := .ne) hu (po_r (xR 4)) (po_r (xR 3)))))) (xVar 4) (pz_bin (o := .mod) (pz_o (xInt1 T.bt (xsCons (pz_o (pz_bin (o := .add) (pz_o (pz_bin (o := .add) (po_r (xR 3)) (pz_o xInt))) (pz_o (xCall c_u_law_draw hr (xgRef 0 (xgVal (pz_bin (o := .sub) (po_r (xR 1)) (pz_o xInt)) pg_nilZ)) (glR (glV gl0)))))) ps_nil))) (po_r (xR 1))))))
 (pss_consZ (ps_retZ (pz_tup (xCons (xVar 3) (xCons (xVar 5) (xCons (xCall c_u_law_pick hr (xgRef 0 (xgRef 2 pg_nilZ)) (glR (glR gl0))) pz_nil)))))
 pss_nilZ))
theorem c_u_law_rows {P : Program} {w : World} {K : PySem.W.Frag} {mg : Str → Option Value} {base : Heap} {ct : Str → Option Addr} (T : Tx P w K mg base ct) (c_u_law_draw : CalZ P w K mg base ct 1 "_law_draw" ["heap", "many"] g_u_law_draw) (c_u_law_pick : CalZ P w K mg base ct 2 "_law_pick" ["heap", "some"] g_u_law_pick) (c_u_law_pruned : CalZ P w K mg base ct 1 "_law_pruned" ["rows"] g_u_law_pruned) (c_u_law_to : CalZ P w K mg base ct 3 "_law_to" ["heap", "houses", "words", "one", "to"] g_u_law_to) : CalZ P w K mg base ct 4 "_law_rows" ["heap", "houses", "most", "words"] g_u_law_rows := by
  have nd : N_u_law_rows.Nodup := by decide +kernel
  obtain ⟨f, fd, hm, Fu, bi⟩ := T.f_u_law_rows
  refine ⟨f, fd, hm, Fu.kp, bi, fn_okZ (ct := ct) (k := 3) (N := N_u_law_rows) (lk := (fun i => [0].contains i)) Fu ⟨rfl, rfl, rfl, nd, rfl, by decide +kernel, by decide +kernel⟩ rfl fun cdv A outer s H E hr => ?_⟩
  have hu := huZ hr
  exact (pss_consZ (sSet nd 4 (pz_frz (pz_if (tCmp (o := .lt) hu (po_r (xR 2)) (pz_o xInt)) (xCall c_u_law_pick hr (xgRef 0 (xgVal (pz_lst (xCons (xVar 2) (xCons (xVar 2) (xCons (pz_bin (o := .add) (pz_o xInt) (pz_o (xCall c_u_law_draw hr (xgRef 0 (xgRef 2 pg_nilZ)) (glR (glR gl0))))) pz_nil)))) pg_nilZ)) (glR (glV gl0))) (pz_bin (o := .add) (pz_o xInt) (pz_o (xCall c_u_law_draw hr (xgRef 0 (xgRef 2 pg_nilZ)) (glR (glR gl0))))))))
 (pss_consZ (sPr nd rfl 5 6 (xCons (pz_frz (xCall c_u_law_pick hr (xgRef 0 (xgVal (pz_lst (xCons xInt (xCons xInt (xCons xInt (xCons xInt (xCons xInt pz_nil)))))) pg_nilZ)) (glR (glV gl0)))) (xCons (pz_frz (xCall c_u_law_draw hr (xgRef 0 (xgVal (pz_bin (o := .mul) (pz_o xInt) (po_r (xR 1))) pg_nilZ)) (glR (glV gl0)))) pz_nil)))
 (pss_consZ (sAs (pz_tup (xCons (pz_lst (xCons (pz_dict0 (t := true)) pz_nil)) (xCons (pz_lst (xCons (xCall c_u_law_draw hr (xgRef 0 (xgRef 1 pg_nilZ)) (glR (glR gl0))) pz_nil)) (xCons (pz_lst (xCons xBl pz_nil)) pz_nil)))) (wT 3 rfl (wsC (wN nd 7) (wsC (wN nd 8) (wsC (wN nd 9) pgs_nilZ)))))
 (pss_consZ (sFr (own_of rfl) rfl (iR1x T.bt (xsCons (pz_o (pz_bin (o := .mul) (pz_o xInt) (po_r (xR 4)))) ps_nil)) (wN nd 10)
 (pss_consZ (sLcP [("place", 12)] 11 rfl nd (iR1x T.bt (xsCons (pz_o (xLen T.bt (xR 7))) ps_nil)) (fun _ _ _ _ _ => (bN nd 12)) (fun _ _ _ _ _ => (pts_oneZ (tW1 (pw_2 (k := false) (pt_notZ (tRr (xRix (by exact hu) (xR 9) (po_r (xR 12))))) (pw_1 (k := false) (tCmp (o := .lt) (by exact hu) (pz_o (xLen T.bt (xRix (by exact hu) (xR 7) (po_r (xR 12))))) (pz_o xInt))))))) (fun _ _ _ _ _ => (xVar 12)))
 (ps_frz (pss_consZ (sSet nd 12 (pz_frz (pz_if (tCmp (o := .ne) hu (po_r (xR 11)) (pz_o (pz_lst pz_nil))) (xCall c_u_law_pick hr (xgRef 0 (xgVal (pz_bin (o := .add) (po_r (xR 11)) (pz_o (pz_repL (pz_sl (po_r (xR 11)) (po_someZ (pz_o (pz_neg (pz_o xInt)))) po_noneZ) (pz_o xInt)))) pg_nilZ)) (glR (glV gl0))) xInt)))
 (pss_consZ (sSet nd 13 (pz_frz (xCall c_u_law_to hr (xgRef 0 (xgRef 1 (xgRef 3 (xgVal (pz_r (xRix hu (xR 8) (po_r (xR 12)))) (xgVal (pz_if (tCmp (o := .eq) hu (pz_o (xCall c_u_law_draw hr (xgRef 0 (xgVal xInt pg_nilZ)) (glR (glV gl0)))) (pz_o xInt)) (xVar 6) (xVar 1)) pg_nilZ))))) (glR (glR (glR (glV (glV gl0))))))))
 (pss_consZ (ps_ifZ (tW1 (pw_2 (k := false) (tCmp (o := .ne) hu (po_r (xR 11)) (pz_o (pz_lst pz_nil))) (pw_2 (k := false) (tCmp (o := .lt) hu (pz_o (xLen T.bt (xR 7))) (po_r (xR 4))) (pw_1 (k := false) (tDin (ng := true) hu (po_r (xR 13)) (xRix hu (xR 7) (po_r (xR 12))))))))
 (pss_consZ (sAs (xLen T.bt (xR 7)) (wS hu (xPix hu (xP 7) (po_r (xR 12))) (po_r (xR 13))))
 (pss_consZ (sEx (xAppH (xP 8) (xCons (pz_if (tW1 (pw_2 (k := false) (tCmp (o := .gt) hu (po_r (xR 5)) (pz_o xInt)) (pw_1 (k := false) (tCmp (o := .gt) hu (pz_o (xCall c_u_law_draw hr (xgRef 0 (xgVal xInt pg_nilZ)) (glR (glV gl0)))) (pz_o xInt))))) (pz_r (xRix hu (xR 13) (pz_o xInt))) (xCall c_u_law_draw hr (xgRef 0 (xgRef 1 pg_nilZ)) (glR (glR gl0)))) pz_nil)))
 (pss_consZ (sEx (xApp (xP 7) (xCons (pz_dict0 (t := true)) pz_nil)))
 (pss_consZ (sEx (xAppH (xP 9) (xCons (xCmp (o := .eq) hu (pz_o (xCall c_u_law_draw hr (xgRef 0 (xgVal xInt pg_nilZ)) (glR (glV gl0)))) (pz_o xInt)) pz_nil)))
 pss_nilZ))))
 pss_nilZ)
 pss_nilZ))))))
 (pss_consZ (sFr (own_of rfl) rfl (iR1x T.bt (xsCons (pz_o (pz_bin (o := .add) (pz_o xInt) (pz_o (xCall c_u_law_draw hr (xgRef 0 (xgVal (pz_bin (o := .add) (pz_o (pz_bin (o := .mul) (pz_o xInt) (pz_o (xLen T.bt (xR 7))))) (pz_o xInt)) pg_nilZ)) (glR (glV gl0)))))) ps_nil)) (wN nd 10)
 (pss_consZ (sPr nd rfl 12 14 (xCons (pz_frz (xCall c_u_law_draw hr (xgRef 0 (xgVal (xLen T.bt (xR 7)) pg_nilZ)) (glR (glV gl0)))) (xCons (pz_frz (xCall c_u_law_draw hr (xgRef 0 (xgVal (xLen T.bt (xR 7)) pg_nilZ)) (glR (glV gl0)))) pz_nil)))
 (pss_consZ (sSet nd 13 (pz_frz (xCall c_u_law_to hr (xgRef 0 (xgRef 1 (xgRef 3 (xgVal (pz_r (xRix hu (xR 8) (po_r (xR 12)))) (xgVal (pz_if (tCmp (o := .gt) hu (po_r (xR 5)) (pz_o xInt)) (pz_r (xRix hu (xR 8) (po_r (xR 14)))) (xVar 1)) pg_nilZ))))) (glR (glR (glR (glV (glV gl0))))))))
 (pss_consZ (ps_ifZ (tW1 (pw_2 (k := false) (tCmp (o := .lt) hu (pz_o (xLen T.bt (xRix hu (xR 7) (po_r (xR 12))))) (pz_o xInt)) (pw_2 (k := false) (tDin (ng := true) hu (po_r (xR 13)) (xRix hu (xR 7) (po_r (xR 12)))) (pw_2 (k := false) (pt_notZ (tRr (xRix hu (xR 9) (po_r (xR 12))))) (pw_1 (k := false) (tW1 (pw_2 (k := true) (tCmp (o := .lt) hu (po_r (xR 5)) (pz_o xInt)) (pw_1 (k := true) (tCmp (o := .eq) hu (po_r (xRix hu (xR 13) (pz_o xInt))) (po_r (xRix hu (xR 8) (po_r (xR 14)))))))))))))
 (pss_consZ (sAs (xVar 14) (wS hu (xPix hu (xP 7) (po_r (xR 12))) (po_r (xR 13))))
 pss_nilZ)
 pss_nilZ)
 pss_nilZ))))
 (pss_consZ (ps_ifZ (tEmp hu (xRix hu (xR 7) (pz_o xInt)))
 (pss_consZ (sAs xInt (wSH hu (xPix hu (xP 7) (pz_o xInt)) (pz_o (xCall c_u_law_to hr (xgRef 0 (xgRef 1 (xgRef 3 (xgVal (pz_r (xRix hu (xR 8) (pz_o xInt))) (xgRef 1 pg_nilZ))))) (glR (glR (glR (glV (glR gl0)))))))))
 pss_nilZ)
 pss_nilZ)
 (ps_frz (pss_consZ (ps_retZ (xCallP c_u_law_pruned hr (xgVal (xLcP [("told", 15)] rfl nd (pi_seqR (xR 7)) (fun _ _ _ _ _ => (bN nd 15)) (fun _ _ _ _ _ => pts_nilZ) (fun _ _ _ _ _ => (xTupM T.bt (xLcP [("letter", 13)] rfl nd (pi_seqZ (pz_o (xSorted T.bt (by exact hu) (xsCons (pz_o (xKeys T.bt rfl (xR 15))) ps_nil)))) (fun _ _ _ _ _ => (bN nd 13)) (fun _ _ _ _ _ => pts_nilZ) (fun _ _ _ _ _ => (pz_tup (xCons (xVar 13) (xCons (pz_r (xRix (by exact hu) (xR 15) (po_r (xR 13)))) pz_nil)))))))) pg_nilZ) (glV gl0)))
 pss_nilZ))))))))
theorem c_u_law_same {P : Program} {w : World} {K : PySem.W.Frag} {mg : Str → Option Value} {base : Heap} {ct : Str → Option Addr} (T : Tx P w K mg base ct)  : ∀ k : Nat, CalZ P w K mg base ct (1 + k) "_law_same" ["value", "due"] (g_u_law_same k)
  | 0 => by
    have nd : N_u_law_same.Nodup := by decide +kernel
    obtain ⟨f, fd, hm, Fu, bi⟩ := T.f_u_law_same
    exact ⟨f, fd, hm, Fu.kp, bi, (fn_ok0 (ct := ct) (k := 0) (N := N_u_law_same) Fu ⟨rfl, rfl, rfl, nd, rfl, by decide +kernel, by decide +kernel⟩ rfl).mono (by omega)⟩
  | k + 1 => by
    have nd : N_u_law_same.Nodup := by decide +kernel
    have Cs := c_u_law_same T  k
    obtain ⟨f, fd, hm, Fu, bi⟩ := T.f_u_law_same
    refine ⟨f, fd, hm, Fu.kp, bi, fn_okZ (ct := ct) (k := 1 + k) (N := N_u_law_same) (lk := (fun i => [].contains i)) Fu ⟨rfl, rfl, rfl, nd, rfl, by decide +kernel, by decide +kernel⟩ rfl fun cdv A outer s H E hr => ?_⟩
    have hu := huZ hr
    exact (pss_consZ (ps_ifZ (tTr (xIsi .tup T.bt (xR 1) T.bt.tuple))
 (pss_consZ (ps_retZ (pz_2 (k := false) (xIsi .tup T.bt (xR 0) T.bt.tuple) (pz_2 (k := false) (xCmp (o := .eq) hu (pz_o (xLen T.bt (xR 0))) (pz_o (xLen T.bt (xR 1)))) (pz_1 (o := bop false) (xAll T.bt rfl (xsCons (pz_o (xLcP [("at", 2)] rfl nd (iR1x T.bt (xsCons (pz_o (xLen T.bt (xR 1))) ps_nil)) (fun _ _ _ _ _ => (bN nd 2)) (fun _ _ _ _ _ => pts_nilZ) (fun _ _ _ _ _ => (xCallP Cs (by exact hr) (xgVal (pz_r (xRix (by exact hu) (xR 0) (po_r (xR 2)))) (xgVal (pz_r (xRix (by exact hu) (xR 1) (po_r (xR 2)))) pg_nilZ)) (glV (glV gl0)))))) ps_nil))))))
 pss_nilZ)
 pss_nilZ)
 (pss_consZ (ps_ifZ (tW1 (pw_2 (k := true) (tCmp (o := .is) hu (po_r (xR 1)) (pz_o xNon)) (pw_1 (k := true) (tTr (xIsi .str T.bt (xR 1) T.nstr)))))
 (pss_consZ (ps_retZ (pz_2 (k := false) (xCmp (o := .eq) hu (pz_o (xCmp (o := .is) hu (po_r (xR 0)) (pz_o xNon))) (pz_o (xCmp (o := .is) hu (po_r (xR 1)) (pz_o xNon)))) (pz_2 (k := false) (xCmp (o := .eq) hu (pz_o (xIsi .str T.bt (xR 0) T.nstr)) (pz_o (xIsi .str T.bt (xR 1) T.nstr))) (pz_1 (o := bop false) (xCmp (o := .eq) hu (po_r (xR 0)) (po_r (xR 1)))))))
 pss_nilZ)
 pss_nilZ)
 (pss_consZ (ps_retZ (pz_2 (k := false) (xIsi .int T.bt (xR 0) T.bt.int) (pz_2 (k := false) (xCmp (o := .eq) hu (pz_o (xIsi .bl T.bt (xR 0) T.nbool)) (pz_o (xIsi .bl T.bt (xR 1) T.nbool))) (pz_1 (o := bop false) (xCmp (o := .eq) hu (po_r (xR 0)) (po_r (xR 1)))))))
 pss_nilZ)))
theorem c_u_law_some {P : Program} {w : World} {K : PySem.W.Frag} {mg : Str → Option Value} {base : Heap} {ct : Str → Option Addr} (T : Tx P w K mg base ct) (c_u_law_draw : CalZ P w K mg base ct 1 "_law_draw" ["heap", "many"] g_u_law_draw) : CalZ P w K mg base ct 2 "_law_some" ["heap", "houses"] g_u_law_some := by
  have nd : N_u_law_some.Nodup := by decide +kernel
  obtain ⟨f, fd, hm, Fu, bi⟩ := T.f_u_law_some
  refine ⟨f, fd, hm, Fu.kp, bi, fn_okZ (ct := ct) (k := 1) (N := N_u_law_some) (lk := (fun i => [0].contains i)) Fu ⟨rfl, rfl, rfl, nd, rfl, by decide +kernel, by decide +kernel⟩ rfl fun cdv A outer s H E hr => ?_⟩
  have hu := huZ hr
  exact (pss_consZ (ps_retZ (xTupM T.bt (xLcF [("house", 2)] rfl nd (iR1x T.bt (xsCons (po_r (xR 1)) ps_nil)) (fun _ _ _ _ _ => (bN nd 2)) (fun _ _ _ _ _ => (pts_oneZ (tCmp (o := .eq) (by exact hu) (pz_o (xCall c_u_law_draw (by exact hr) (xgRef 0 (xgVal xInt pg_nilZ)) (glR (glV gl0)))) (pz_o xInt)))) (fun _ _ _ _ _ => (xVar 2)))))
 pss_nilZ)
theorem c_u_law_behind {P : Program} {w : World} {K : PySem.W.Frag} {mg : Str → Option Value} {base : Heap} {ct : Str → Option Addr} (T : Tx P w K mg base ct) (c_u_law_lot : CalZ P w K mg base ct 1 "_law_lot" ["row"] g_u_law_lot) : CalZ P w K mg base ct 2 "_law_behind" ["held", "letter"] g_u_law_behind := by
  have nd : N_u_law_behind.Nodup := by decide +kernel
  obtain ⟨f, fd, hm, Fu, bi⟩ := T.f_u_law_behind
  refine ⟨f, fd, hm, Fu.kp, bi, fn_okZ (ct := ct) (k := 1) (N := N_u_law_behind) (lk := (fun i => [].contains i)) Fu ⟨rfl, rfl, rfl, nd, rfl, by decide +kernel, by decide +kernel⟩ rfl fun cdv A outer s H E hr => ?_⟩
  have hu := huZ hr
  exact (pss_consZ (ps_retZ (pz_if (tCmp (o := .isin) hu (po_r (xRix hu (xR 1) (pz_o xInt))) (po_r (xR 0))) (xCallP c_u_law_lot hr (xgVal (pz_bin (o := .add) (po_r (xR 0)) (pz_o (pz_tup (xCons (pz_r (xRix hu (xR 1) (pz_o xInt))) pz_nil)))) pg_nilZ) (glV gl0)) (xVar 0)))
 pss_nilZ)
theorem c_u_law_stages {P : Program} {w : World} {K : PySem.W.Frag} {mg : Str → Option Value} {base : Heap} {ct : Str → Option Addr} (T : Tx P w K mg base ct) (c_u_law_behind : CalZ P w K mg base ct 2 "_law_behind" ["held", "letter"] g_u_law_behind) : CalZ P w K mg base ct 3 "_law_stages" ["rows", "stage"] g_u_law_stages := by
  have nd : N_u_law_stages.Nodup := by decide +kernel
  obtain ⟨f, fd, hm, Fu, bi⟩ := T.f_u_law_stages
  refine ⟨f, fd, hm, Fu.kp, bi, fn_okZ (ct := ct) (k := 2) (N := N_u_law_stages) (lk := (fun i => [].contains i)) Fu ⟨rfl, rfl, rfl, nd, rfl, by decide +kernel, by decide +kernel⟩ rfl fun cdv A outer s H E hr => ?_⟩
  have hu := huZ hr
  exact (pss_consZ (sPr nd rfl 2 3 (xCons (pz_lst (xCons (xVar 1) pz_nil)) (xCons (pz_dict0 (t := true)) pz_nil)))
 (pss_consZ (sAs xBl (wS hu (xP 3) (po_r (xR 1))))
 (pss_consZ (sFr (own_of rfl) rfl (iR1x T.bt (xsCons (pz_o (pz_bin (o := .mul) (pz_o (xLen T.bt (xR 0))) (pz_o xInt))) ps_nil)) (wN nd 4)
 (pss_consZ (ps_ifZ (tCmp (o := .lt) hu (po_r (xR 4)) (pz_o (xLen T.bt (xR 2))))
 (pss_consZ (sAs (pz_r (xRix hu (xR 2) (po_r (xR 4)))) (wT 2 rfl (wsC (wN nd 5) (wsC (wN nd 6) pgs_nilZ))))
 (pss_consZ (sFr (own_of rfl) rfl (pi_seqR (xRix hu (xR 0) (po_r (xR 5)))) (wT 2 rfl (wsC (wN nd 7) (wsC (wN nd 8) pgs_nilZ)))
 (pss_consZ (sSet nd 9 (pz_frz (pz_tup (xCons (xVar 8) (xCons (xCallP c_u_law_behind hr (xgRef 6 (xgRef 7 pg_nilZ)) (glR (glR gl0))) pz_nil)))))
 (pss_consZ (ps_ifZ (tDin (ng := true) hu (po_r (xR 9)) (xR 3))
 (pss_consZ (sAs xBl (wS hu (xP 3) (po_r (xR 9))))
 (pss_consZ (sEx (xApp (xP 2) (xCons (xVar 9) pz_nil)))
 pss_nilZ))
 pss_nilZ)
 pss_nilZ)))
 pss_nilZ))
 pss_nilZ)
 pss_nilZ))
 (pss_consZ (ps_retZ (xMv 2))
 pss_nilZ))))
theorem c_lot_of {P : Program} {w : World} {K : PySem.W.Frag} {mg : Str → Option Value} {base : Heap} {ct : Str → Option Addr} (T : Tx P w K mg base ct)  : CalZ P w K mg base ct 1 "lot_of" ["row"] g_lot_of := by
  have nd : N_lot_of.Nodup := by decide +kernel
  obtain ⟨f, fd, hm, Fu, bi⟩ := T.f_lot_of
  refine ⟨f, fd, hm, Fu.kp, bi, fn_okZ (ct := ct) (k := 0) (N := N_lot_of) (lk := (fun i => [].contains i)) Fu ⟨rfl, rfl, rfl, nd, rfl, by decide +kernel, by decide +kernel⟩ rfl fun cdv A outer s H E hr => ?_⟩
  have hu := huZ hr
  exact (pss_consZ (sSet nd 1 (pz_lst pz_nil))
 (pss_consZ (sFr (own_of rfl) rfl (pi_seqZ (pz_o (xSorted T.bt hu (xsCons (po_r (xR 0)) ps_nil)))) (wN nd 2)
 (pss_consZ (ps_ifZ (tW1 (pw_2 (k := true) (pt_notZ (tRr (xR 1))) (pw_1 (k := true) (tCmp (o := .ne) hu (po_r (xRix hu (xR 1) (pz_o (pz_neg (pz_o xInt))))) (po_r (xR 2))))))
 (pss_consZ (sEx (xApp (xP 1) (xCons (xVar 2) pz_nil)))
 pss_nilZ)
 pss_nilZ)
 pss_nilZ))
 (pss_consZ (ps_retZ (xTupO T.bt (xsCons (po_r (xR 1)) ps_nil)))
 pss_nilZ)))
theorem c_held_behind {P : Program} {w : World} {K : PySem.W.Frag} {mg : Str → Option Value} {base : Heap} {ct : Str → Option Addr} (T : Tx P w K mg base ct) (c_lot_of : CalZ P w K mg base ct 1 "lot_of" ["row"] g_lot_of) : CalZ P w K mg base ct 2 "held_behind" ["held", "letter"] g_held_behind := by
  have nd : N_held_behind.Nodup := by decide +kernel
  obtain ⟨f, fd, hm, Fu, bi⟩ := T.f_held_behind
  refine ⟨f, fd, hm, Fu.kp, bi, fn_okZ (ct := ct) (k := 1) (N := N_held_behind) (lk := (fun i => [].contains i)) Fu ⟨rfl, rfl, rfl, nd, rfl, by decide +kernel, by decide +kernel⟩ rfl fun cdv A outer s H E hr => ?_⟩
  have hu := huZ hr
  exact (pss_consZ (ps_retZ (pz_if (tCmp (o := .isin) hu (po_r (xRix hu (xR 1) (pz_o xInt))) (po_r (xR 0))) (xCallP c_lot_of hr (xgVal (pz_bin (o := .add) (po_r (xR 0)) (pz_o (pz_tup (xCons (pz_r (xRix hu (xR 1) (pz_o xInt))) pz_nil)))) pg_nilZ) (glV gl0)) (xVar 0)))
 pss_nilZ)
theorem c_stage_behind {P : Program} {w : World} {K : PySem.W.Frag} {mg : Str → Option Value} {base : Heap} {ct : Str → Option Addr} (T : Tx P w K mg base ct) (c_held_behind : CalZ P w K mg base ct 2 "held_behind" ["held", "letter"] g_held_behind) (c_next_place : CalZ P w K mg base ct 1 "next_place" ["book", "place", "letter"] g_next_place) : CalZ P w K mg base ct 3 "stage_behind" ["book", "stage", "letter"] g_stage_behind := by
  have nd : N_stage_behind.Nodup := by decide +kernel
  obtain ⟨f, fd, hm, Fu, bi⟩ := T.f_stage_behind
  refine ⟨f, fd, hm, Fu.kp, bi, fn_okZ (ct := ct) (k := 2) (N := N_stage_behind) (lk := (fun i => [].contains i)) Fu ⟨rfl, rfl, rfl, nd, rfl, by decide +kernel, by decide +kernel⟩ rfl fun cdv A outer s H E hr => ?_⟩
  have hu := huZ hr
  exact (pss_consZ (sSet nd 3 (pz_frz (xCallP c_next_place hr (xgRef 0 (xgVal (pz_r (xRix hu (xR 1) (pz_o xInt))) (xgRef 2 pg_nilZ))) (glR (glV (glR gl0))))))
 (pss_consZ (ps_retZ (pz_if (tCmp (o := .is) hu (po_r (xR 3)) (pz_o xNon)) xNon (pz_tup (xCons (xVar 3) (xCons (xCallP c_held_behind hr (xgVal (pz_r (xRix hu (xR 1) (pz_o xInt))) (xgRef 2 pg_nilZ)) (glV (glR gl0))) pz_nil)))))
 pss_nilZ))
theorem c_stages_from {P : Program} {w : World} {K : PySem.W.Frag} {mg : Str → Option Value} {base : Heap} {ct : Str → Option Addr} (T : Tx P w K mg base ct) (c_held_behind : CalZ P w K mg base ct 2 "held_behind" ["held", "letter"] g_held_behind) (c_lot_of : CalZ P w K mg base ct 1 "lot_of" ["row"] g_lot_of) : CalZ P w K mg base ct 3 "stages_from" ["book", "stage"] g_stages_from := by
  have nd : N_stages_from.Nodup := by decide +kernel
  obtain ⟨f, fd, hm, Fu, bi⟩ := T.f_stages_from
  refine ⟨f, fd, hm, Fu.kp, bi, fn_okZ (ct := ct) (k := 2) (N := N_stages_from) (lk := (fun i => [].contains i)) Fu ⟨rfl, rfl, rfl, nd, rfl, by decide +kernel, by decide +kernel⟩ rfl fun cdv A outer s H E hr => ?_⟩
  have hu := huZ hr
  exact (pss_consZ (sSet nd 2 (pz_dict1 hu (t := true) (po_r (xR 1)) xBl))
 (pss_consZ (sSet nd 3 (pz_lst (xCons (xVar 1) pz_nil)))
 (pss_consZ (sSet nd 4 xInt)
 (pss_consZ (ps_whileZ (own_of rfl) (tCmp (o := .lt) hu (po_r (xR 4)) (pz_o (xLen T.bt (xR 3))))
 (pss_consZ (sAs (pz_r (xRix hu (xR 3) (po_r (xR 4)))) (wT 2 rfl (wsC (wN nd 5) (wsC (wN nd 6) pgs_nilZ))))
 (pss_consZ (sFr (own_of rfl) rfl (pi_seqR (xRix hu (xRf (T.fld_rows _ rfl) (xR 0)) (po_r (xR 5)))) (wT 2 rfl (wsC (wN nd 7) (wsC (wN nd 8) pgs_nilZ)))
 (pss_consZ (sSet nd 9 (pz_frz (pz_tup (xCons (xVar 8) (xCons (xCallP c_held_behind hr (xgRef 6 (xgRef 7 pg_nilZ)) (glR (glR gl0))) pz_nil)))))
 (pss_consZ (ps_ifZ (tDin (ng := true) hu (po_r (xR 9)) (xR 2))
 (pss_consZ (sAs xBl (wS hu (xP 2) (po_r (xR 9))))
 (pss_consZ (sEx (xApp (xP 3) (xCons (xVar 9) pz_nil)))
 pss_nilZ))
 pss_nilZ)
 pss_nilZ)))
 (pss_consZ (sAg nd false 4 (pz_o xInt))
 pss_nilZ))))
 (ps_frz (pss_consZ (ps_retZ (xCall c_lot_of hr (xgRef 3 pg_nilZ) (glR gl0)))
 pss_nilZ))))))
theorem c_u_law_stages_right {P : Program} {w : World} {K : PySem.W.Frag} {mg : Str → Option Value} {base : Heap} {ct : Str → Option Addr} (T : Tx P w K mg base ct) (c_u_law_behind : CalZ P w K mg base ct 2 "_law_behind" ["held", "letter"] g_u_law_behind) (c_u_law_far : CalZ P w K mg base ct 1 "_law_far" ["rows", "place", "letter"] g_u_law_far) (c_u_law_lot : CalZ P w K mg base ct 1 "_law_lot" ["row"] g_u_law_lot) (c_u_law_same : CalZ P w K mg base ct 41 "_law_same" ["value", "due"] (g_u_law_same 40)) (c_u_law_stages : CalZ P w K mg base ct 3 "_law_stages" ["rows", "stage"] g_u_law_stages) (c_stage_behind : CalZ P w K mg base ct 3 "stage_behind" ["book", "stage", "letter"] g_stage_behind) (c_stages_from : CalZ P w K mg base ct 3 "stages_from" ["book", "stage"] g_stages_from) : CalZ P w K mg base ct 42 "_law_stages_right" ["book", "rows", "letters", "stage"] g_u_law_stages_right := by
  have nd : N_u_law_stages_right.Nodup := by decide +kernel
  obtain ⟨f, fd, hm, Fu, bi⟩ := T.f_u_law_stages_right
  refine ⟨f, fd, hm, Fu.kp, bi, fn_okZ (ct := ct) (k := 41) (N := N_u_law_stages_right) (lk := (fun i => [].contains i)) Fu ⟨rfl, rfl, rfl, nd, rfl, by decide +kernel, by decide +kernel⟩ rfl fun cdv A outer s H E hr => ?_⟩
  have hu := huZ hr
  exact (pss_consZ (sAs (xVar 3) (wT 2 rfl (wsC (wN nd 4) (wsC (wN nd 5) pgs_nilZ))))
 (pss_consZ (sFr (own_of rfl) rfl (pi_seqR (xR 2)) (wN nd 6)
 (pss_consZ (sSet nd 7 (pz_frz (xCallP c_u_law_far hr (xgRef 1 (xgRef 4 (xgRef 6 pg_nilZ))) (glR (glR (glR gl0))))))
 (pss_consZ (sSet nd 8 (pz_frz (pz_if (tCmp (o := .is) hu (po_r (xR 7)) (pz_o xNon)) xNon (pz_tup (xCons (xVar 7) (xCons (xCallP c_u_law_behind hr (xgRef 5 (xgRef 6 pg_nilZ)) (glR (glR gl0))) pz_nil))))))
 (pss_consZ (ps_ifZ (pt_notZ (tTr (xCallP c_u_law_same hr (xgVal (xCallP c_stage_behind hr (xgRef 0 (xgRef 3 (xgRef 6 pg_nilZ))) (glR (glR (glR gl0)))) (xgRef 8 pg_nilZ)) (glV (glR gl0)))))
 (pss_consZ (ps_retZ xBl)
 pss_nilZ)
 pss_nilZ)
 pss_nilZ))))
 (pss_consZ (ps_retZ (xCallP c_u_law_same hr (xgVal (xCallK c_stages_from hr (xgRef 0 pg_nilZ) (kRef 3 kNil) (glR gl0) (glR gl0)) (xgVal (xCallP c_u_law_lot hr (xgVal (xCallP c_u_law_stages hr (xgRef 1 (xgRef 3 pg_nilZ)) (glR (glR gl0))) pg_nilZ) (glV gl0)) pg_nilZ)) (glV (glV gl0))))
 pss_nilZ)))
theorem c_u_law_walk {P : Program} {w : World} {K : PySem.W.Frag} {mg : Str → Option Value} {base : Heap} {ct : Str → Option Addr} (T : Tx P w K mg base ct) (c_u_law_draw : CalZ P w K mg base ct 1 "_law_draw" ["heap", "many"] g_u_law_draw) (c_u_law_pick : CalZ P w K mg base ct 2 "_law_pick" ["heap", "some"] g_u_law_pick) : CalZ P w K mg base ct 3 "_law_walk" ["heap", "rows", "place", "most"] g_u_law_walk := by
  have nd : N_u_law_walk.Nodup := by decide +kernel
  obtain ⟨f, fd, hm, Fu, bi⟩ := T.f_u_law_walk
  refine ⟨f, fd, hm, Fu.kp, bi, fn_okZ (ct := ct) (k := 2) (N := N_u_law_walk) (lk := (fun i => [0].contains i)) Fu ⟨rfl, rfl, rfl, nd, rfl, by decide +kernel, by decide +kernel⟩ rfl fun cdv A outer s H E hr => ?_⟩
  have hu := huZ hr
  exact (pss_consZ (sSet nd 4 (pz_lst pz_nil))
 (pss_consZ (sFr (own_of rfl) rfl (iR1x T.bt (xsCons (pz_o (xCall c_u_law_draw hr (xgRef 0 (xgVal (pz_bin (o := .add) (po_r (xR 3)) (pz_o xInt)) pg_nilZ)) (glR (glV gl0)))) ps_nil)) (wN nd 5)
 (pss_consZ (ps_ifZ (tCmp (o := .ne) hu (po_r (xRix hu (xR 1) (po_r (xR 2)))) (pz_o (pz_tup pz_nil)))
 (pss_consZ (sAs (xCall c_u_law_pick hr (xgRef 0 (xgVal (xLstO T.bt (xsCons (po_r (xRix hu (xR 1) (po_r (xR 2)))) ps_nil)) pg_nilZ)) (glR (glV gl0))) (wT 2 rfl (wsC (wN nd 6) (wsC (wN nd 2) pgs_nilZ))))
 (pss_consZ (sEx (xApp (xP 4) (xCons (xVar 6) pz_nil)))
 pss_nilZ))
 pss_nilZ)
 pss_nilZ))
 (pss_consZ (ps_retZ (xTupO T.bt (xsCons (po_r (xR 4)) ps_nil)))
 pss_nilZ)))
theorem c_u_law_lots {P : Program} {w : World} {K : PySem.W.Frag} {mg : Str → Option Value} {base : Heap} {ct : Str → Option Addr} (T : Tx P w K mg base ct) (c_u_law_behind : CalZ P w K mg base ct 2 "_law_behind" ["held", "letter"] g_u_law_behind) : CalZ P w K mg base ct 3 "_law_lots" ["held", "walk"] g_u_law_lots := by
  have nd : N_u_law_lots.Nodup := by decide +kernel
  obtain ⟨f, fd, hm, Fu, bi⟩ := T.f_u_law_lots
  refine ⟨f, fd, hm, Fu.kp, bi, fn_okZ (ct := ct) (k := 2) (N := N_u_law_lots) (lk := (fun i => [].contains i)) Fu ⟨rfl, rfl, rfl, nd, rfl, by decide +kernel, by decide +kernel⟩ rfl fun cdv A outer s H E hr => ?_⟩
  have hu := huZ hr
  exact (pss_consZ (sSet nd 2 (pz_lst (xCons (xVar 0) pz_nil)))
 (pss_consZ (sFr (own_of rfl) rfl (pi_seqR (xR 1)) (wN nd 3)
 (pss_consZ (sEx (xApp (xP 2) (xCons (xCallP c_u_law_behind hr (xgVal (pz_r (xRix hu (xR 2) (pz_o (pz_bin (o := .sub) (pz_o (xLen T.bt (xR 2))) (pz_o xInt))))) (xgRef 3 pg_nilZ)) (glV (glR gl0))) pz_nil)))
 pss_nilZ))
 (pss_consZ (ps_retZ (xTupO T.bt (xsCons (po_r (xR 2)) ps_nil)))
 pss_nilZ)))
theorem c_done_in {P : Program} {w : World} {K : PySem.W.Frag} {mg : Str → Option Value} {base : Heap} {ct : Str → Option Addr} (T : Tx P w K mg base ct) (c_held_behind : CalZ P w K mg base ct 2 "held_behind" ["held", "letter"] g_held_behind) : CalZ P w K mg base ct 3 "done_in" ["held", "walk"] g_done_in := by
  have nd : N_done_in.Nodup := by decide +kernel
  obtain ⟨f, fd, hm, Fu, bi⟩ := T.f_done_in
  refine ⟨f, fd, hm, Fu.kp, bi, fn_okZ (ct := ct) (k := 2) (N := N_done_in) (lk := (fun i => [].contains i)) Fu ⟨rfl, rfl, rfl, nd, rfl, by decide +kernel, by decide +kernel⟩ rfl fun cdv A outer s H E hr => ?_⟩
  have hu := huZ hr
  exact (pss_consZ (sSet nd 2 (pz_lst pz_nil))
 (pss_consZ (sFr (own_of rfl) rfl (pi_seqR (xR 1)) (wN nd 3)
 (pss_consZ (ps_ifZ (tCmp (o := .notin) hu (po_r (xRix hu (xR 3) (pz_o xInt))) (po_r (xR 0)))
 (pss_consZ (sEx (xApp (xP 2) (xCons (pz_tup (xCons xStr (xCons (xVar 3) pz_nil))) pz_nil)))
 (pss_consZ (ps_ifZ (tCmp (o := .notin) hu (po_r (xRix hu (xR 3) (pz_o xInt))) (po_r (xR 0)))
 (pss_consZ (sEx (xApp (xP 2) (xCons (pz_tup (xCons xStr (xCons (xVar 3) pz_nil))) pz_nil)))
 pss_nilZ)
 pss_nilZ)
 pss_nilZ))
 pss_nilZ)
 (pss_consZ (sSet nd 0 (pz_frz (xCallP c_held_behind hr (xgRef 0 (xgRef 3 pg_nilZ)) (glR (glR gl0)))))
 pss_nilZ)))
 (pss_consZ (ps_retZ (xTupO T.bt (xsCons (po_r (xR 2)) ps_nil)))
 pss_nilZ)))
theorem c_held_along {P : Program} {w : World} {K : PySem.W.Frag} {mg : Str → Option Value} {base : Heap} {ct : Str → Option Addr} (T : Tx P w K mg base ct) (c_held_behind : CalZ P w K mg base ct 2 "held_behind" ["held", "letter"] g_held_behind) : CalZ P w K mg base ct 3 "held_along" ["held", "walk"] g_held_along := by
  have nd : N_held_along.Nodup := by decide +kernel
  obtain ⟨f, fd, hm, Fu, bi⟩ := T.f_held_along
  refine ⟨f, fd, hm, Fu.kp, bi, fn_okZ (ct := ct) (k := 2) (N := N_held_along) (lk := (fun i => [].contains i)) Fu ⟨rfl, rfl, rfl, nd, rfl, by decide +kernel, by decide +kernel⟩ rfl fun cdv A outer s H E hr => ?_⟩
  have hu := huZ hr
  exact (pss_consZ (sSet nd 2 (pz_lst (xCons (xVar 0) pz_nil)))
 (pss_consZ (sFr (own_of rfl) rfl (pi_seqR (xR 1)) (wN nd 3)
 (pss_consZ (sEx (xApp (xP 2) (xCons (xCallP c_held_behind hr (xgVal (pz_r (xRix hu (xR 2) (pz_o (pz_neg (pz_o xInt))))) (xgRef 3 pg_nilZ)) (glV (glR gl0))) pz_nil)))
 pss_nilZ))
 (pss_consZ (ps_retZ (xTupO T.bt (xsCons (po_r (xR 2)) ps_nil)))
 pss_nilZ)))
theorem c_lying_in {P : Program} {w : World} {K : PySem.W.Frag} {mg : Str → Option Value} {base : Heap} {ct : Str → Option Addr} (T : Tx P w K mg base ct) (c_held_behind : CalZ P w K mg base ct 2 "held_behind" ["held", "letter"] g_held_behind) : CalZ P w K mg base ct 3 "lying_in" ["held", "walk"] g_lying_in := by
  have nd : N_lying_in.Nodup := by decide +kernel
  obtain ⟨f, fd, hm, Fu, bi⟩ := T.f_lying_in
  refine ⟨f, fd, hm, Fu.kp, bi, fn_okZ (ct := ct) (k := 2) (N := N_lying_in) (lk := (fun i => [].contains i)) Fu ⟨rfl, rfl, rfl, nd, rfl, by decide +kernel, by decide +kernel⟩ rfl fun cdv A outer s H E hr => ?_⟩
  have hu := huZ hr
  exact (pss_consZ (sSet nd 2 (pz_lst pz_nil))
 (pss_consZ (sFr (own_of rfl) rfl (pi_seqR (xR 1)) (wN nd 3)
 (pss_consZ (ps_ifZ (tW1 (pw_2 (k := false) (tCmp (o := .notin) hu (po_r (xRix hu (xR 3) (pz_o xInt))) (po_r (xR 0))) (pw_1 (k := false) (tCmp (o := .isin) hu (po_r (xRix hu (xR 3) (pz_o xInt))) (po_r (xR 0))))))
 (pss_consZ (sEx (xApp (xP 2) (xCons (xVar 3) pz_nil)))
 pss_nilZ)
 pss_nilZ)
 (pss_consZ (sSet nd 0 (pz_frz (xCallP c_held_behind hr (xgRef 0 (xgRef 3 pg_nilZ)) (glR (glR gl0)))))
 pss_nilZ)))
 (pss_consZ (ps_retZ (xTupO T.bt (xsCons (po_r (xR 2)) ps_nil)))
 pss_nilZ)))
theorem c_said_in {P : Program} {w : World} {K : PySem.W.Frag} {mg : Str → Option Value} {base : Heap} {ct : Str → Option Addr} (T : Tx P w K mg base ct) (c_held_along : CalZ P w K mg base ct 3 "held_along" ["held", "walk"] g_held_along) : CalZ P w K mg base ct 4 "said_in" ["held", "walk"] g_said_in := by
  have nd : N_said_in.Nodup := by decide +kernel
  obtain ⟨f, fd, hm, Fu, bi⟩ := T.f_said_in
  refine ⟨f, fd, hm, Fu.kp, bi, fn_okZ (ct := ct) (k := 3) (N := N_said_in) (lk := (fun i => [].contains i)) Fu ⟨rfl, rfl, rfl, nd, rfl, by decide +kernel, by decide +kernel⟩ rfl fun cdv A outer s H E hr => ?_⟩
  have hu := huZ hr
  exact (pss_consZ (ps_retZ (xTupM T.bt (xLcP [("letter", 2), ("now", 3)] rfl nd (iZpx T.bt (xdCons (po_r (xR 1)) (xdCons (pz_o (xCallP c_held_along hr (xgRef 0 (xgRef 1 pg_nilZ)) (glR (glR gl0)))) pd_nil))) (fun _ _ _ _ _ => (bT 2 rfl (bsC (bN nd 2) (bsC (bN nd 3) pws_nil)))) (fun _ _ _ _ _ => pts_nilZ) (fun _ _ _ _ _ => (xCmp (o := .notin) (by exact hu) (po_r (xRix (by exact hu) (xR 2) (pz_o xInt))) (po_r (xR 3)))))))
 pss_nilZ)
theorem c_walk_end {P : Program} {w : World} {K : PySem.W.Frag} {mg : Str → Option Value} {base : Heap} {ct : Str → Option Addr} (T : Tx P w K mg base ct) (c_next_place : CalZ P w K mg base ct 1 "next_place" ["book", "place", "letter"] g_next_place) : CalZ P w K mg base ct 2 "walk_end" ["book", "place", "walk"] g_walk_end := by
  have nd : N_walk_end.Nodup := by decide +kernel
  obtain ⟨f, fd, hm, Fu, bi⟩ := T.f_walk_end
  refine ⟨f, fd, hm, Fu.kp, bi, fn_okZ (ct := ct) (k := 1) (N := N_walk_end) (lk := (fun i => [].contains i)) Fu ⟨rfl, rfl, rfl, nd, rfl, by decide +kernel, by decide +kernel⟩ rfl fun cdv A outer s H E hr => ?_⟩
  have hu := huZ hr
  exact (pss_consZ (sFr (own_of rfl) rfl (pi_seqR (xR 2)) (wN nd 3)
 (pss_consZ (sSet nd 1 (pz_frz (xCallP c_next_place hr (xgRef 0 (xgRef 1 (xgRef 3 pg_nilZ))) (glR (glR (glR gl0))))))
 pss_nilZ))
 (pss_consZ (ps_retZ (xVar 1))
 pss_nilZ))
theorem c_u_law_walk_right {P : Program} {w : World} {K : PySem.W.Frag} {mg : Str → Option Value} {base : Heap} {ct : Str → Option Addr} (T : Tx P w K mg base ct) (c_u_law_done : CalZ P w K mg base ct 2 "_law_done" ["held", "walk"] g_u_law_done) (c_u_law_end : CalZ P w K mg base ct 2 "_law_end" ["rows", "place", "walk"] g_u_law_end) (c_u_law_lots : CalZ P w K mg base ct 3 "_law_lots" ["held", "walk"] g_u_law_lots) (c_u_law_same : CalZ P w K mg base ct 41 "_law_same" ["value", "due"] (g_u_law_same 40)) (c_done_in : CalZ P w K mg base ct 3 "done_in" ["held", "walk"] g_done_in) (c_held_along : CalZ P w K mg base ct 3 "held_along" ["held", "walk"] g_held_along) (c_lying_in : CalZ P w K mg base ct 3 "lying_in" ["held", "walk"] g_lying_in) (c_said_in : CalZ P w K mg base ct 4 "said_in" ["held", "walk"] g_said_in) (c_walk_end : CalZ P w K mg base ct 2 "walk_end" ["book", "place", "walk"] g_walk_end) : CalZ P w K mg base ct 42 "_law_walk_right" ["book", "rows", "place", "held", "walk"] g_u_law_walk_right := by
  have nd : N_u_law_walk_right.Nodup := by decide +kernel
  obtain ⟨f, fd, hm, Fu, bi⟩ := T.f_u_law_walk_right
  refine ⟨f, fd, hm, Fu.kp, bi, fn_okZ (ct := ct) (k := 41) (N := N_u_law_walk_right) (lk := (fun i => [].contains i)) Fu ⟨rfl, rfl, rfl, nd, rfl, by decide +kernel, by decide +kernel⟩ rfl fun cdv A outer s H E hr => ?_⟩
  have hu := huZ hr
  exact (pss_consZ (sSet nd 5 (pz_frz (xCallP c_u_law_lots hr (xgRef 3 (xgRef 4 pg_nilZ)) (glR (glR gl0)))))
 (pss_consZ (sSet nd 6 (pz_frz (xTupM T.bt (xLcP [("at", 8)] rfl nd (iR1x T.bt (xsCons (pz_o (xLen T.bt (xR 4))) ps_nil)) (fun _ _ _ _ _ => (bN nd 8)) (fun _ _ _ _ _ => pts_nilZ) (fun _ _ _ _ _ => (xCmp (o := .notin) (by exact hu) (po_r (xRix (by exact hu) (xRix (by exact hu) (xR 4) (po_r (xR 8))) (pz_o xInt))) (po_r (xRix (by exact hu) (xR 5) (po_r (xR 8))))))))))
 (pss_consZ (sSet nd 7 (pz_frz (xTupM T.bt (xLcP [("at", 8)] rfl nd (iR1x T.bt (xsCons (pz_o (xLen T.bt (xR 4))) ps_nil)) (fun _ _ _ _ _ => (bN nd 8)) (fun _ _ _ _ _ => (pts_oneZ (tW1 (pw_2 (k := false) (tRr (xRix (by exact hu) (xR 6) (po_r (xR 8)))) (pw_1 (k := false) (tCmp (o := .isin) (by exact hu) (po_r (xRix (by exact hu) (xRix (by exact hu) (xR 4) (po_r (xR 8))) (pz_o xInt))) (po_r (xRix (by exact hu) (xR 5) (po_r (xR 8)))))))))) (fun _ _ _ _ _ => (pz_r (xRix (by exact hu) (xR 4) (po_r (xR 8)))))))))
 (pss_consZ (ps_ifZ (tW1 (pw_2 (k := true) (pt_notZ (tTr (xCallP c_u_law_same hr (xgVal (xCallP c_walk_end hr (xgRef 0 (xgRef 2 (xgRef 4 pg_nilZ))) (glR (glR (glR gl0)))) (xgVal (xCallP c_u_law_end hr (xgRef 1 (xgRef 2 (xgRef 4 pg_nilZ))) (glR (glR (glR gl0)))) pg_nilZ)) (glV (glV gl0))))) (pw_1 (k := true) (pt_notZ (tTr (xCallP c_u_law_same hr (xgVal (xCallP c_held_along hr (xgRef 3 (xgRef 4 pg_nilZ)) (glR (glR gl0))) (xgRef 5 pg_nilZ)) (glV (glR gl0))))))))
 (pss_consZ (ps_retZ xBl)
 pss_nilZ)
 pss_nilZ)
 (pss_consZ (ps_ifZ (tW1 (pw_2 (k := true) (pt_notZ (tTr (xCallP c_u_law_same hr (xgVal (xCallK c_said_in hr (xgRef 3 pg_nilZ) (kRef 4 kNil) (glR gl0) (glR gl0)) (xgRef 6 pg_nilZ)) (glV (glR gl0))))) (pw_1 (k := true) (pt_notZ (tTr (xCallP c_u_law_same hr (xgVal (xCallP c_lying_in hr (xgRef 3 (xgRef 4 pg_nilZ)) (glR (glR gl0))) (xgRef 7 pg_nilZ)) (glV (glR gl0))))))))
 (pss_consZ (ps_retZ xBl)
 pss_nilZ)
 pss_nilZ)
 (pss_consZ (ps_retZ (xCallP c_u_law_same hr (xgVal (xCallK0 c_done_in hr (kRef 3 (kRef 4 kNil)) (glR (glR gl0))) (xgVal (xIx (pz_o (xCallP c_u_law_done hr (xgRef 3 (xgRef 4 pg_nilZ)) (glR (glR gl0)))) (pz_o xInt)) pg_nilZ)) (glV (glV gl0))))
 pss_nilZ))))))
theorem c_full_run {P : Program} {w : World} {K : PySem.W.Frag} {mg : Str → Option Value} {base : Heap} {ct : Str → Option Addr} (T : Tx P w K mg base ct) (c_done_in : CalZ P w K mg base ct 3 "done_in" ["held", "walk"] g_done_in) : CalZ P w K mg base ct 4 "full_run" ["tale"] g_full_run := by
  have nd : N_full_run.Nodup := by decide +kernel
  obtain ⟨f, fd, hm, Fu, bi⟩ := T.f_full_run
  refine ⟨f, fd, hm, Fu.kp, bi, fn_okZ (ct := ct) (k := 3) (N := N_full_run) (lk := (fun i => [].contains i)) Fu ⟨rfl, rfl, rfl, nd, rfl, by decide +kernel, by decide +kernel⟩ rfl fun cdv A outer s H E hr => ?_⟩
  have hu := huZ hr
  exact (pss_consZ (ps_retZ (xCallP c_done_in hr (xgVal (pz_tup pz_nil) (xgRef 0 pg_nilZ)) (glV (glR gl0))))
 pss_nilZ)
theorem c_rest_run {P : Program} {w : World} {K : PySem.W.Frag} {mg : Str → Option Value} {base : Heap} {ct : Str → Option Addr} (T : Tx P w K mg base ct) (c_done_in : CalZ P w K mg base ct 3 "done_in" ["held", "walk"] g_done_in) (c_full_run : CalZ P w K mg base ct 4 "full_run" ["tale"] g_full_run) : CalZ P w K mg base ct 5 "rest_run" ["tale", "held", "walk"] g_rest_run := by
  have nd : N_rest_run.Nodup := by decide +kernel
  obtain ⟨f, fd, hm, Fu, bi⟩ := T.f_rest_run
  refine ⟨f, fd, hm, Fu.kp, bi, fn_okZ (ct := ct) (k := 4) (N := N_rest_run) (lk := (fun i => [].contains i)) Fu ⟨rfl, rfl, rfl, nd, rfl, by decide +kernel, by decide +kernel⟩ rfl fun cdv A outer s H E hr => ?_⟩
  have hu := huZ hr
  exact (pss_consZ (ps_retZ (pz_bin (o := .add) (pz_o (xCallP c_full_run hr (xgRef 0 pg_nilZ) (glR gl0))) (pz_o (xCallP c_done_in hr (xgRef 1 (xgRef 2 pg_nilZ)) (glR (glR gl0))))))
 pss_nilZ)
theorem c_law {P : Program} {w : World} {K : PySem.W.Frag} {mg : Str → Option Value} {base : Heap} {ct : Str → Option Addr} (T : Tx P w K mg base ct) (c_Bookzz_initzz : CalM P w K mg base ct 5 "Book" ["self", "houses", "rows"] g_Bookzz_initzz) (c_u_law_bent : CalZ P w K mg base ct 43 "_law_bent" ["heap", "value", "parts"] (g_u_law_bent 40)) (c_u_law_done : CalZ P w K mg base ct 2 "_law_done" ["held", "walk"] g_u_law_done) (c_u_law_draw : CalZ P w K mg base ct 1 "_law_draw" ["heap", "many"] g_u_law_draw) (c_u_law_end : CalZ P w K mg base ct 2 "_law_end" ["rows", "place", "walk"] g_u_law_end) (c_u_law_full : CalZ P w K mg base ct 1 "_law_full" ["tale"] g_u_law_full) (c_u_law_heap : CalZ P w K mg base ct 1 "_law_heap" ["script"] g_u_law_heap) (c_u_law_is_walk : CalZ P w K mg base ct 3 "_law_is_walk" ["rows", "place", "value"] g_u_law_is_walk) (c_u_law_long_right : CalZ P w K mg base ct 7 "_law_long_right" ["heap"] g_u_law_long_right) (c_u_law_pick : CalZ P w K mg base ct 2 "_law_pick" ["heap", "some"] g_u_law_pick) (c_u_law_rows : CalZ P w K mg base ct 4 "_law_rows" ["heap", "houses", "most", "words"] g_u_law_rows) (c_u_law_same : CalZ P w K mg base ct 41 "_law_same" ["value", "due"] (g_u_law_same 40)) (c_u_law_some : CalZ P w K mg base ct 2 "_law_some" ["heap", "houses"] g_u_law_some) (c_u_law_stages_right : CalZ P w K mg base ct 42 "_law_stages_right" ["book", "rows", "letters", "stage"] g_u_law_stages_right) (c_u_law_walk : CalZ P w K mg base ct 3 "_law_walk" ["heap", "rows", "place", "most"] g_u_law_walk) (c_u_law_walk_right : CalZ P w K mg base ct 42 "_law_walk_right" ["book", "rows", "place", "held", "walk"] g_u_law_walk_right) (c_full_run : CalZ P w K mg base ct 4 "full_run" ["tale"] g_full_run) (c_is_walk : CalZ P w K mg base ct 3 "is_walk" ["book", "place", "value"] g_is_walk) (c_rest_run : CalZ P w K mg base ct 5 "rest_run" ["tale", "held", "walk"] g_rest_run) {f : Addr} {fd : FuncData} (Fu : Fun K "law" "law" st_law f fd) : FnOk P w K mg base (L2.CX P w) 44 f fd ["script"] (spOf ⟨P, w, K, ct⟩ 1 g_law) := by
  have nd : N_law.Nodup := by decide +kernel
  refine fn_okZ (ct := ct) (k := 43) (N := N_law) (lk := (fun i => [].contains i)) Fu ⟨rfl, rfl, rfl, nd, rfl, by decide +kernel, by decide +kernel⟩ rfl fun cdv A outer s H E hr => ?_
  have hu := huZ hr
  exact (pss_consZ (sSet nd 1 (xCallP c_u_law_heap hr (xgRef 0 pg_nilZ) (glR gl0)))
 (pss_consZ (sSet nd 2 (pz_frz (pz_bin (o := .add) (pz_o xInt) (pz_o (xCall c_u_law_draw hr (xgRef 1 (xgVal xInt pg_nilZ)) (glR (glV gl0)))))))
 (pss_consZ (sSet nd 3 (pz_frz (xCall c_u_law_rows hr (xgRef 1 (xgRef 2 (xgVal (xCall c_u_law_pick hr (xgRef 1 (xgVal (pz_lst (xCons xInt (xCons xInt (xCons xInt (xCons xInt pz_nil))))) pg_nilZ)) (glR (glV gl0))) (xgVal (xCall c_u_law_pick hr (xgRef 1 (xgVal (pz_lst (xCons (pz_lst (xCons xInt pz_nil)) (xCons (pz_lst (xCons xInt (xCons xInt pz_nil))) (xCons (pz_lst (xCons xInt (xCons xInt pz_nil))) pz_nil)))) pg_nilZ)) (glR (glV gl0))) pg_nilZ)))) (glR (glR (glV (glV gl0)))))))
 (pss_consZ (sAs (pz_tup (xCons (pz_frz (xMake c_Bookzz_initzz hr (xgRef 2 (xgRef 3 pg_nilZ)) (glR (glR gl0)))) (xCons (pz_lst pz_nil) pz_nil))) (wT 2 rfl (wsC (wN nd 4) (wsC (wN nd 5) pgs_nilZ))))
 (pss_consZ (sFr (own_of rfl) rfl (pi_seqR (xR 3)) (wN nd 6)
 (pss_consZ (sEx (xExt (xP 5) (xCons (xLcP [("letter", 15), ("to", 16)] rfl nd (pi_seqR (xR 6)) (fun _ _ _ _ _ => (bT 2 rfl (bsC (bN nd 15) (bsC (bN nd 16) pws_nil)))) (fun _ _ _ _ _ => (pts_oneZ (tCmp (o := .notin) (by exact hu) (po_r (xR 15)) (po_r (xR 5))))) (fun _ _ _ _ _ => (xVar 15))) pz_nil)))
 pss_nilZ))
 (ps_frz (pss_consZ (sFr (own_of rfl) rfl (iR1x T.bt (xsCons (pz_o xInt) ps_nil)) (wN nd 7)
 (pss_consZ (sSet nd 8 (pz_frz (xCall c_u_law_draw hr (xgRef 1 (xgVal (xLen T.bt (xR 3)) pg_nilZ)) (glR (glV gl0)))))
 (pss_consZ (sPr nd rfl 9 10 (xCons (pz_frz (xCall c_u_law_some hr (xgRef 1 (xgRef 2 pg_nilZ)) (glR (glR gl0)))) (xCons (pz_frz (xCall c_u_law_walk hr (xgRef 1 (xgRef 3 (xgRef 8 (xgVal (xCall c_u_law_pick hr (xgRef 1 (xgVal (pz_lst (xCons xInt (xCons xInt (xCons xInt pz_nil)))) pg_nilZ)) (glR (glV gl0))) pg_nilZ)))) (glR (glR (glR (glV gl0)))))) pz_nil)))
 (pss_consZ (ps_ifZ (tCmp (o := .eq) hu (po_r (xR 7)) (pz_o xInt))
 (pss_consZ (sSet nd 9 (pz_frz (xCall c_u_law_pick hr (xgRef 1 (xgVal (pz_lst (xCons (pz_tup pz_nil) (xCons (xRgT T.bt rfl (gRg1x T.bt (po_r (xR 2)))) (xCons (xVar 9) pz_nil)))) pg_nilZ)) (glR (glV gl0)))))
 pss_nilZ)
 pss_nilZ)
 (pss_consZ (ps_ifZ (tW1 (pw_2 (k := true) (pt_notZ (tTr (xCallP c_u_law_walk_right hr (xgRef 4 (xgRef 3 (xgRef 8 (xgRef 9 (xgRef 10 pg_nilZ))))) (glR (glR (glR (glR (glR gl0)))))))) (pw_1 (k := true) (pt_notZ (tTr (xCallP c_u_law_stages_right hr (xgRef 4 (xgRef 3 (xgVal (pz_bin (o := .add) (po_r (xR 5)) (pz_o (pz_lst (xCons (pz_tup (xCons xInt (xCons xInt (xCons xInt pz_nil)))) pz_nil)))) (xgVal (pz_tup (xCons (xVar 8) (xCons (xVar 9) pz_nil))) pg_nilZ)))) (glR (glR (glV (glV gl0))))))))))
 (pss_consZ (ps_retZ xBl)
 pss_nilZ)
 pss_nilZ)
 (pss_consZ (sSet nd 11 (pz_frz (pz_bin (o := .add) (po_r (xR 5)) (pz_o (pz_lst (xCons xNon (xCons (pz_tup (xCons xInt (xCons xInt pz_nil))) (xCons (pz_tup (xCons xBl (xCons xInt (xCons xInt pz_nil)))) (xCons (pz_tup (xCons xInt (xCons xInt (xCons xInt pz_nil)))) pz_nil)))))))))
 (pss_consZ (sSet nd 12 (pz_frz (pz_lst (xCons (xVar 10) (xCons (pz_sl (po_r (xR 10)) (po_someZ (pz_o xInt)) po_noneZ) (xCons (pz_if (tCmp (o := .ne) hu (po_r (xR 5)) (pz_o (pz_lst pz_nil))) (pz_bin (o := .add) (po_r (xR 10)) (pz_o (pz_tup (xCons (xCall c_u_law_pick hr (xgRef 1 (xgRef 5 pg_nilZ)) (glR (glR gl0))) pz_nil)))) (pz_tup pz_nil)) (xCons (pz_revT (po_r (xR 10)) (pz_o (pz_bin (o := .sub) (pz_o xInt) (pz_o xInt)))) (xCons (xLstO T.bt (xsCons (po_r (xR 10)) ps_nil)) (xCons xNon (xCons (pz_tup pz_nil) pz_nil))))))))))
 (pss_consZ (sSet nd 12 (pz_frz (pz_bin (o := .add) (po_r (xR 12)) (pz_o (pz_lst (xCons (xCall c_u_law_bent hr (xgRef 1 (xgRef 10 (xgRef 11 pg_nilZ))) (glR (glR (glR gl0)))) (xCons (xCall c_u_law_bent hr (xgRef 1 (xgRef 10 (xgRef 11 pg_nilZ))) (glR (glR (glR gl0)))) (xCons (xTupM T.bt (xLcP [("letter", 15)] rfl nd (pi_seqR (xR 10)) (fun _ _ _ _ _ => (bN nd 15)) (fun _ _ _ _ _ => pts_nilZ) (fun _ _ _ _ _ => (xLstO T.bt (xsCons (po_r (xR 15)) ps_nil))))) pz_nil))))))))
 (pss_consZ (ps_ifZ (pt_notZ (tTr (xAll T.bt rfl (xsCons (pz_o (xLcF [("value", 17)] rfl nd (pi_seqR (xR 12)) (fun _ _ _ _ _ => (bN nd 17)) (fun _ _ _ _ _ => pts_nilZ) (fun _ _ _ _ _ => (xCallP c_u_law_same (by exact hr) (xgVal (xCallK c_is_walk (by exact hr) (xgRef 4 (xgRef 8 pg_nilZ)) (kRef 17 kNil) (glR (glR gl0)) (glR gl0)) (xgVal (xCallP c_u_law_is_walk (by exact hr) (xgRef 3 (xgRef 8 (xgRef 17 pg_nilZ))) (glR (glR (glR gl0)))) pg_nilZ)) (glV (glV gl0)))))) ps_nil))))
 (pss_consZ (ps_retZ xBl)
 pss_nilZ)
 pss_nilZ)
 (pss_consZ (sSet nd 13 (pz_frz (xCall c_u_law_walk hr (xgRef 1 (xgRef 3 (xgVal xInt (xgVal xInt pg_nilZ)))) (glR (glR (glV (glV gl0)))))))
 (pss_consZ (sSet nd 14 (pz_frz (xCall c_u_law_walk hr (xgRef 1 (xgRef 3 (xgVal (xCallP c_u_law_end hr (xgRef 3 (xgVal xInt (xgRef 13 pg_nilZ))) (glR (glV (glR gl0)))) (xgVal xInt pg_nilZ)))) (glR (glR (glV (glV gl0)))))))
 (pss_consZ (ps_ifZ (pt_notZ (tTr (xCallP c_u_law_same hr (xgVal (xCallP c_full_run hr (xgRef 13 pg_nilZ) (glR gl0)) (xgVal (xCallP c_u_law_full hr (xgRef 13 pg_nilZ) (glR gl0)) pg_nilZ)) (glV (glV gl0)))))
 (pss_consZ (ps_retZ xBl)
 pss_nilZ)
 pss_nilZ)
 (pss_consZ (ps_ifZ (pt_notZ (tTr (xCallP c_u_law_same hr (xgVal (xCallP c_rest_run hr (xgRef 13 (xgRef 9 (xgRef 14 pg_nilZ))) (glR (glR (glR gl0)))) (xgVal (pz_bin (o := .add) (pz_o (xCallP c_u_law_full hr (xgRef 13 pg_nilZ) (glR gl0))) (pz_o (xIx (pz_o (xCallP c_u_law_done hr (xgRef 9 (xgRef 14 pg_nilZ)) (glR (glR gl0)))) (pz_o xInt)))) pg_nilZ)) (glV (glV gl0)))))
 (pss_consZ (ps_retZ xBl)
 pss_nilZ)
 pss_nilZ)
 pss_nilZ)))))))))))))
 (pss_consZ (ps_retZ (xCall c_u_law_long_right hr (xgRef 1 pg_nilZ) (glR gl0)))
 pss_nilZ))))))))
end Z

set_option Elab.async false
set_option linter.all false
set_option maxRecDepth 100000
set_option maxHeartbeats 0
namespace Z
open PySem L2 Evl PyProof.Rows

theorem only_at {H : Hp} (a : Addr) : Ex (fun b => if b = a then H b else none) H := fun b u e => by
  have e : (if b = a then H b else none) = some u := e
  split at e
  · exact e
  · cases e
theorem ints_dp {K : PySem.W.Frag} {F : Hp} : ∀ ns : List Int, DpAll K F (ns.map V.int) (ns.map PyData.int)
  | [] => .nil
  | n :: ns => .cons (.int n) (ints_dp ns)
def spLaw (K : PySem.W.Frag) : Sp := fun vs H Q _ => ∃ (a : Addr) (ns : List Int), vs = [.ref a] ∧ SqL K H a (ns.map V.int) ∧ ns.length ≤ 63 ∧ ∀ H', Q (.bl true) H'
theorem law_sp {P : Program} {w : World} {K : PySem.W.Frag} {ct : Str → Option Addr} {G : List M → Option (M × List (Option M))} (HL : ∀ ns : List Int, ns.length ≤ 63 → ∃ x, G [.val (.list (ns.map .int))] = some (.val (.bool true), x)) : ∀ vs H Q E, spLaw K vs H Q E → spOf ⟨P, w, K, ct⟩ 1 G vs H Q E := by
  rintro vs H Q E ⟨a, ns, rfl, hS, hl, q⟩
  obtain ⟨x, hx⟩ := HL ns hl
  have hF : SqL K (fun b => if b = a then H b else none) a (ns.map V.int) := by
    rcases hS with (h | ⟨o, h⟩) | h
    · exact .inl (.inl (by show (if a = a then H a else none) = _; rw [if_pos rfl]; exact h))
    · exact .inl (.inr ⟨o, by show (if a = a then H a else none) = _; rw [if_pos rfl]; exact h⟩)
    · exact .inr h
  have rep : MReps ⟨P, w, K, ct⟩ (fun b => if b = a then H b else none) H [.ref a] [.val (.list (ns.map .int))] (fa f0 f0) := .cons (.val (.lst hF (ints_dp ns))) .nil
  rw [fa0] at rep
  refine ⟨rfl, _, _, f0, _, _, ⟨only_at a, fun _ => Nat.zero_le _, fun a h => absurd h (Nat.lt_irrefl _)⟩, rep, hx, fun F' H' v g g' st en r => ?_⟩
  cases r with
  | val r => cases r; exact q H'
theorem spl1 {p : List Value → List Value → Prop} (h0 : ∀ a0 : Value, p [] [a0]) (h1 : ∀ a0 : Value, p [a0] []) : ∀ us ws : List Value, us.length + ws.length = 1 → p us ws := by
  intro us ws e
  rcases us with _ | ⟨a0, us⟩
  · rcases ws with _ | ⟨a0, ws⟩; · simp at e
    rcases ws with _ | ⟨y, ws⟩; rotate_left; · simp at e; try omega
    exact h0 a0
  rcases us with _ | ⟨z, us⟩
  · rcases ws with _ | ⟨y, ws⟩; rotate_left; · simp at e; try omega
    exact h1 a0
  simp at e; try omega
theorem spl2 {p : List Value → List Value → Prop} (h0 : ∀ a0 a1 : Value, p [] [a0, a1]) (h1 : ∀ a0 a1 : Value, p [a0] [a1]) (h2 : ∀ a0 a1 : Value, p [a0, a1] []) : ∀ us ws : List Value, us.length + ws.length = 2 → p us ws := by
  intro us ws e
  rcases us with _ | ⟨a0, us⟩
  · rcases ws with _ | ⟨a0, ws⟩; · simp at e
    rcases ws with _ | ⟨a1, ws⟩; · simp at e
    rcases ws with _ | ⟨y, ws⟩; rotate_left; · simp at e; try omega
    exact h0 a0 a1
  rcases us with _ | ⟨a1, us⟩
  · rcases ws with _ | ⟨a1, ws⟩; · simp at e
    rcases ws with _ | ⟨y, ws⟩; rotate_left; · simp at e; try omega
    exact h1 a0 a1
  rcases us with _ | ⟨z, us⟩
  · rcases ws with _ | ⟨y, ws⟩; rotate_left; · simp at e; try omega
    exact h2 a0 a1
  simp at e; try omega
theorem spl3 {p : List Value → List Value → Prop} (h0 : ∀ a0 a1 a2 : Value, p [] [a0, a1, a2]) (h1 : ∀ a0 a1 a2 : Value, p [a0] [a1, a2]) (h2 : ∀ a0 a1 a2 : Value, p [a0, a1] [a2]) (h3 : ∀ a0 a1 a2 : Value, p [a0, a1, a2] []) : ∀ us ws : List Value, us.length + ws.length = 3 → p us ws := by
  intro us ws e
  rcases us with _ | ⟨a0, us⟩
  · rcases ws with _ | ⟨a0, ws⟩; · simp at e
    rcases ws with _ | ⟨a1, ws⟩; · simp at e
    rcases ws with _ | ⟨a2, ws⟩; · simp at e
    rcases ws with _ | ⟨y, ws⟩; rotate_left; · simp at e; try omega
    exact h0 a0 a1 a2
  rcases us with _ | ⟨a1, us⟩
  · rcases ws with _ | ⟨a1, ws⟩; · simp at e
    rcases ws with _ | ⟨a2, ws⟩; · simp at e
    rcases ws with _ | ⟨y, ws⟩; rotate_left; · simp at e; try omega
    exact h1 a0 a1 a2
  rcases us with _ | ⟨a2, us⟩
  · rcases ws with _ | ⟨a2, ws⟩; · simp at e
    rcases ws with _ | ⟨y, ws⟩; rotate_left; · simp at e; try omega
    exact h2 a0 a1 a2
  rcases us with _ | ⟨z, us⟩
  · rcases ws with _ | ⟨y, ws⟩; rotate_left; · simp at e; try omega
    exact h3 a0 a1 a2
  simp at e; try omega
theorem spl4 {p : List Value → List Value → Prop} (h0 : ∀ a0 a1 a2 a3 : Value, p [] [a0, a1, a2, a3]) (h1 : ∀ a0 a1 a2 a3 : Value, p [a0] [a1, a2, a3]) (h2 : ∀ a0 a1 a2 a3 : Value, p [a0, a1] [a2, a3]) (h3 : ∀ a0 a1 a2 a3 : Value, p [a0, a1, a2] [a3]) (h4 : ∀ a0 a1 a2 a3 : Value, p [a0, a1, a2, a3] []) : ∀ us ws : List Value, us.length + ws.length = 4 → p us ws := by
  intro us ws e
  rcases us with _ | ⟨a0, us⟩
  · rcases ws with _ | ⟨a0, ws⟩; · simp at e
    rcases ws with _ | ⟨a1, ws⟩; · simp at e
    rcases ws with _ | ⟨a2, ws⟩; · simp at e
    rcases ws with _ | ⟨a3, ws⟩; · simp at e
    rcases ws with _ | ⟨y, ws⟩; rotate_left; · simp at e; try omega
    exact h0 a0 a1 a2 a3
  rcases us with _ | ⟨a1, us⟩
  · rcases ws with _ | ⟨a1, ws⟩; · simp at e
    rcases ws with _ | ⟨a2, ws⟩; · simp at e
    rcases ws with _ | ⟨a3, ws⟩; · simp at e
    rcases ws with _ | ⟨y, ws⟩; rotate_left; · simp at e; try omega
    exact h1 a0 a1 a2 a3
  rcases us with _ | ⟨a2, us⟩
  · rcases ws with _ | ⟨a2, ws⟩; · simp at e
    rcases ws with _ | ⟨a3, ws⟩; · simp at e
    rcases ws with _ | ⟨y, ws⟩; rotate_left; · simp at e; try omega
    exact h2 a0 a1 a2 a3
  rcases us with _ | ⟨a3, us⟩
  · rcases ws with _ | ⟨a3, ws⟩; · simp at e
    rcases ws with _ | ⟨y, ws⟩; rotate_left; · simp at e; try omega
    exact h3 a0 a1 a2 a3
  rcases us with _ | ⟨z, us⟩
  · rcases ws with _ | ⟨y, ws⟩; rotate_left; · simp at e; try omega
    exact h4 a0 a1 a2 a3
  simp at e; try omega
theorem spl5 {p : List Value → List Value → Prop} (h0 : ∀ a0 a1 a2 a3 a4 : Value, p [] [a0, a1, a2, a3, a4]) (h1 : ∀ a0 a1 a2 a3 a4 : Value, p [a0] [a1, a2, a3, a4]) (h2 : ∀ a0 a1 a2 a3 a4 : Value, p [a0, a1] [a2, a3, a4]) (h3 : ∀ a0 a1 a2 a3 a4 : Value, p [a0, a1, a2] [a3, a4]) (h4 : ∀ a0 a1 a2 a3 a4 : Value, p [a0, a1, a2, a3] [a4]) (h5 : ∀ a0 a1 a2 a3 a4 : Value, p [a0, a1, a2, a3, a4] []) : ∀ us ws : List Value, us.length + ws.length = 5 → p us ws := by
  intro us ws e
  rcases us with _ | ⟨a0, us⟩
  · rcases ws with _ | ⟨a0, ws⟩; · simp at e
    rcases ws with _ | ⟨a1, ws⟩; · simp at e
    rcases ws with _ | ⟨a2, ws⟩; · simp at e
    rcases ws with _ | ⟨a3, ws⟩; · simp at e
    rcases ws with _ | ⟨a4, ws⟩; · simp at e
    rcases ws with _ | ⟨y, ws⟩; rotate_left; · simp at e; try omega
    exact h0 a0 a1 a2 a3 a4
  rcases us with _ | ⟨a1, us⟩
  · rcases ws with _ | ⟨a1, ws⟩; · simp at e
    rcases ws with _ | ⟨a2, ws⟩; · simp at e
    rcases ws with _ | ⟨a3, ws⟩; · simp at e
    rcases ws with _ | ⟨a4, ws⟩; · simp at e
    rcases ws with _ | ⟨y, ws⟩; rotate_left; · simp at e; try omega
    exact h1 a0 a1 a2 a3 a4
  rcases us with _ | ⟨a2, us⟩
  · rcases ws with _ | ⟨a2, ws⟩; · simp at e
    rcases ws with _ | ⟨a3, ws⟩; · simp at e
    rcases ws with _ | ⟨a4, ws⟩; · simp at e
    rcases ws with _ | ⟨y, ws⟩; rotate_left; · simp at e; try omega
    exact h2 a0 a1 a2 a3 a4
  rcases us with _ | ⟨a3, us⟩
  · rcases ws with _ | ⟨a3, ws⟩; · simp at e
    rcases ws with _ | ⟨a4, ws⟩; · simp at e
    rcases ws with _ | ⟨y, ws⟩; rotate_left; · simp at e; try omega
    exact h3 a0 a1 a2 a3 a4
  rcases us with _ | ⟨a4, us⟩
  · rcases ws with _ | ⟨a4, ws⟩; · simp at e
    rcases ws with _ | ⟨y, ws⟩; rotate_left; · simp at e; try omega
    exact h4 a0 a1 a2 a3 a4
  rcases us with _ | ⟨z, us⟩
  · rcases ws with _ | ⟨y, ws⟩; rotate_left; · simp at e; try omega
    exact h5 a0 a1 a2 a3 a4
  simp at e; try omega
theorem all_mk (HL : ∀ ns : List Int, ns.length ≤ 63 → ∃ x, g_law [.val (.list (ns.map .int))] = some (.val (.bool true), x)) {l : PySem.W.OpenLaw} {w : World} {K : PySem.W.Frag} {h : Heap} {mg : Str → Option Value} {fa : Addr} (X : K.In h) (G : h.Ns mainGlobals mg) (hfa : mg "law" = some (.ref fa))
    {f1 : Addr} {od1 an1 : Option Addr} {sl1 : Array (Option Value)} {oc1 kV1 dc1 pm1 cd1 ct1 : Value}
    {f2 : Addr} {od2 an2 : Option Addr} {sl2 : Array (Option Value)} {oc2 kV2 dc2 pm2 cd2 ct2 : Value}
    {f3 : Addr} {od3 an3 : Option Addr} {sl3 : Array (Option Value)} {oc3 kV3 dc3 pm3 cd3 ct3 : Value}
    {f4 : Addr} {od4 an4 : Option Addr} {sl4 : Array (Option Value)} {oc4 kV4 dc4 pm4 cd4 ct4 : Value}
    {f5 : Addr} {od5 an5 : Option Addr} {sl5 : Array (Option Value)} {oc5 kV5 dc5 pm5 cd5 ct5 : Value}
    {f6 : Addr} {od6 an6 : Option Addr} {sl6 : Array (Option Value)} {oc6 kV6 dc6 pm6 cd6 ct6 : Value}
    {f7 : Addr} {od7 an7 : Option Addr} {sl7 : Array (Option Value)} {oc7 kV7 dc7 pm7 cd7 ct7 : Value}
    {f8 : Addr} {od8 an8 : Option Addr} {sl8 : Array (Option Value)} {oc8 kV8 dc8 pm8 cd8 ct8 : Value}
    {f9 : Addr} {od9 an9 : Option Addr} {sl9 : Array (Option Value)} {oc9 kV9 dc9 pm9 cd9 ct9 : Value}
    {f10 : Addr} {od10 an10 : Option Addr} {sl10 : Array (Option Value)} {oc10 kV10 dc10 pm10 cd10 ct10 : Value}
    {f11 : Addr} {od11 an11 : Option Addr} {sl11 : Array (Option Value)} {oc11 kV11 dc11 pm11 cd11 ct11 : Value}
    {f12 : Addr} {od12 an12 : Option Addr} {sl12 : Array (Option Value)} {oc12 kV12 dc12 pm12 cd12 ct12 : Value}
    {f13 : Addr} {od13 an13 : Option Addr} {sl13 : Array (Option Value)} {oc13 kV13 dc13 pm13 cd13 ct13 : Value}
    {f14 : Addr} {od14 an14 : Option Addr} {sl14 : Array (Option Value)} {oc14 kV14 dc14 pm14 cd14 ct14 : Value}
    {f15 : Addr} {od15 an15 : Option Addr} {sl15 : Array (Option Value)} {oc15 kV15 dc15 pm15 cd15 ct15 : Value}
    {f16 : Addr} {od16 an16 : Option Addr} {sl16 : Array (Option Value)} {oc16 kV16 dc16 pm16 cd16 ct16 : Value}
    {f17 : Addr} {od17 an17 : Option Addr} {sl17 : Array (Option Value)} {oc17 kV17 dc17 pm17 cd17 ct17 : Value}
    {f18 : Addr} {od18 an18 : Option Addr} {sl18 : Array (Option Value)} {oc18 kV18 dc18 pm18 cd18 ct18 : Value}
    {f19 : Addr} {od19 an19 : Option Addr} {sl19 : Array (Option Value)} {oc19 kV19 dc19 pm19 cd19 ct19 : Value}
    {f20 : Addr} {od20 an20 : Option Addr} {sl20 : Array (Option Value)} {oc20 kV20 dc20 pm20 cd20 ct20 : Value}
    {f21 : Addr} {od21 an21 : Option Addr} {sl21 : Array (Option Value)} {oc21 kV21 dc21 pm21 cd21 ct21 : Value}
    {f22 : Addr} {od22 an22 : Option Addr} {sl22 : Array (Option Value)} {oc22 kV22 dc22 pm22 cd22 ct22 : Value}
    {f23 : Addr} {od23 an23 : Option Addr} {sl23 : Array (Option Value)} {oc23 kV23 dc23 pm23 cd23 ct23 : Value}
    {f24 : Addr} {od24 an24 : Option Addr} {sl24 : Array (Option Value)} {oc24 kV24 dc24 pm24 cd24 ct24 : Value}
    {f25 : Addr} {od25 an25 : Option Addr} {sl25 : Array (Option Value)} {oc25 kV25 dc25 pm25 cd25 ct25 : Value}
    {f26 : Addr} {od26 an26 : Option Addr} {sl26 : Array (Option Value)} {oc26 kV26 dc26 pm26 cd26 ct26 : Value}
    {f27 : Addr} {od27 an27 : Option Addr} {sl27 : Array (Option Value)} {oc27 kV27 dc27 pm27 cd27 ct27 : Value}
    {f28 : Addr} {od28 an28 : Option Addr} {sl28 : Array (Option Value)} {oc28 kV28 dc28 pm28 cd28 ct28 : Value}
    {f29 : Addr} {od29 an29 : Option Addr} {sl29 : Array (Option Value)} {oc29 kV29 dc29 pm29 cd29 ct29 : Value}
    {f30 : Addr} {od30 an30 : Option Addr} {sl30 : Array (Option Value)} {oc30 kV30 dc30 pm30 cd30 ct30 : Value}
    {f31 : Addr} {od31 an31 : Option Addr} {sl31 : Array (Option Value)} {oc31 kV31 dc31 pm31 cd31 ct31 : Value}
    {f32 : Addr} {od32 an32 : Option Addr} {sl32 : Array (Option Value)} {oc32 kV32 dc32 pm32 cd32 ct32 : Value}
    {f33 : Addr} {od33 an33 : Option Addr} {sl33 : Array (Option Value)} {oc33 kV33 dc33 pm33 cd33 ct33 : Value}
    {f34 : Addr} {od34 an34 : Option Addr} {sl34 : Array (Option Value)} {oc34 kV34 dc34 pm34 cd34 ct34 : Value}
    {f35 : Addr} {od35 an35 : Option Addr} {sl35 : Array (Option Value)} {oc35 kV35 dc35 pm35 cd35 ct35 : Value}
    {f36 : Addr} {od36 an36 : Option Addr} {sl36 : Array (Option Value)} {oc36 kV36 dc36 pm36 cd36 ct36 : Value}
    {f37 : Addr} {od37 an37 : Option Addr} {sl37 : Array (Option Value)} {oc37 kV37 dc37 pm37 cd37 ct37 : Value}
    {f38 : Addr} {od38 an38 : Option Addr} {sl38 : Array (Option Value)} {oc38 kV38 dc38 pm38 cd38 ct38 : Value}
    {f39 : Addr} {od39 an39 : Option Addr} {sl39 : Array (Option Value)} {oc39 kV39 dc39 pm39 cd39 ct39 : Value}
    {f40 : Addr} {od40 an40 : Option Addr} {sl40 : Array (Option Value)} {oc40 kV40 dc40 pm40 cd40 ct40 : Value}
    {f41 : Addr} {od41 an41 : Option Addr} {sl41 : Array (Option Value)} {oc41 kV41 dc41 pm41 cd41 ct41 : Value}
    {f42 : Addr} {od42 an42 : Option Addr} {sl42 : Array (Option Value)} {oc42 kV42 dc42 pm42 cd42 ct42 : Value}
    {f43 : Addr} {od43 an43 : Option Addr} {sl43 : Array (Option Value)} {oc43 kV43 dc43 pm43 cd43 ct43 : Value}
    {f44 : Addr} {od44 an44 : Option Addr} {sl44 : Array (Option Value)} {oc44 kV44 dc44 pm44 cd44 ct44 : Value}
    {f45 : Addr} {od45 an45 : Option Addr} {sl45 : Array (Option Value)} {oc45 kV45 dc45 pm45 cd45 ct45 : Value}
    {CBook : Addr}
    {tMOST_HOUSES : Tok}
    {tMOST_LETTERS : Tok}
    {tMOST_PLACES : Tok}
    {tMOST_ROWS : Tok}
    {tMOST_WORDS : Tok}
    (aCBook : PySem.W.nsIn K mainGlobals "Book" = some (some (.ref CBook))) (pgBook : PySem.W.plainGet K CBook Str.empty = true) (hdBook : PySem.W.hasDictIn K CBook = true) (poBook : PySem.W.plainOver K CBook = true) (saBook : PySem.W.findIn K (.ref CBook) "__setattr__" = some (some (.builtin "object.__setattr__"))) (mkBook : PySem.W.makesIn K CBook = true) (kcBook : PySem.W.keepIn K (.ref CBook) = true)
    (nBook_fld_houses : PySem.W.findIn K (.ref CBook) "houses" = some none)
    (nBook_fld_rows : PySem.W.findIn K (.ref CBook) "rows" = some none)
    (a1 : PySem.W.nsIn K mainGlobals "is_number" = some (some (.ref f1)))
    (l1 : K.lookup f1 = some ⟨oc1, od1, .func (PySem.W.fnOf "is_number" "is_number" (defArgs st_is_number) (defBody st_is_number) (defScope st_is_number) .none kV1 dc1 pm1 an1 cd1 ct1), sl1⟩) (c1 : PySem.W.codeIn K cd1 "is_number" = true) (k1 : PySem.W.keepIn K (.ref f1) = true)
    (a2 : PySem.W.nsIn K mainGlobals "is_letter" = some (some (.ref f2)))
    (l2 : K.lookup f2 = some ⟨oc2, od2, .func (PySem.W.fnOf "is_letter" "is_letter" (defArgs st_is_letter) (defBody st_is_letter) (defScope st_is_letter) .none kV2 dc2 pm2 an2 cd2 ct2), sl2⟩) (c2 : PySem.W.codeIn K cd2 "is_letter" = true) (k2 : PySem.W.keepIn K (.ref f2) = true)
    (a3 : PySem.W.nsIn K mainGlobals "is_row" = some (some (.ref f3)))
    (l3 : K.lookup f3 = some ⟨oc3, od3, .func (PySem.W.fnOf "is_row" "is_row" (defArgs st_is_row) (defBody st_is_row) (defScope st_is_row) .none kV3 dc3 pm3 an3 cd3 ct3), sl3⟩) (c3 : PySem.W.codeIn K cd3 "is_row" = true) (k3 : PySem.W.keepIn K (.ref f3) = true)
    (a4 : PySem.W.nsIn K mainGlobals "are_rows" = some (some (.ref f4)))
    (l4 : K.lookup f4 = some ⟨oc4, od4, .func (PySem.W.fnOf "are_rows" "are_rows" (defArgs st_are_rows) (defBody st_are_rows) (defScope st_are_rows) .none kV4 dc4 pm4 an4 cd4 ct4), sl4⟩) (c4 : PySem.W.codeIn K cd4 "are_rows" = true) (k4 : PySem.W.keepIn K (.ref f4) = true)
    (a5 : PySem.W.nsIn K mainGlobals "come_to" = some (some (.ref f5)))
    (l5 : K.lookup f5 = some ⟨oc5, od5, .func (PySem.W.fnOf "come_to" "come_to" (defArgs st_come_to) (defBody st_come_to) (defScope st_come_to) .none kV5 dc5 pm5 an5 cd5 ct5), sl5⟩) (c5 : PySem.W.codeIn K cd5 "come_to" = true) (k5 : PySem.W.keepIn K (.ref f5) = true)
    (a6 : PySem.W.findIn K (.ref CBook) "__init__" = some (some (.ref f6))) (i6 : PySem.W.isFn K (.ref f6) = true)
    (l6 : K.lookup f6 = some ⟨oc6, od6, .func (PySem.W.fnOf "__init__" "Book.__init__" (defArgs st_Bookzz_initzz) (defBody st_Bookzz_initzz) (defScope st_Bookzz_initzz) .none kV6 dc6 pm6 an6 cd6 ct6), sl6⟩) (c6 : PySem.W.codeIn K cd6 "Book.__init__" = true) (k6 : PySem.W.keepIn K (.ref f6) = true)
    (a7 : PySem.W.nsIn K mainGlobals "_law_draw" = some (some (.ref f7)))
    (l7 : K.lookup f7 = some ⟨oc7, od7, .func (PySem.W.fnOf "_law_draw" "_law_draw" (defArgs st_u_law_draw) (defBody st_u_law_draw) (defScope st_u_law_draw) .none kV7 dc7 pm7 an7 cd7 ct7), sl7⟩) (c7 : PySem.W.codeIn K cd7 "_law_draw" = true) (k7 : PySem.W.keepIn K (.ref f7) = true)
    (a8 : PySem.W.nsIn K mainGlobals "_law_pick" = some (some (.ref f8)))
    (l8 : K.lookup f8 = some ⟨oc8, od8, .func (PySem.W.fnOf "_law_pick" "_law_pick" (defArgs st_u_law_pick) (defBody st_u_law_pick) (defScope st_u_law_pick) .none kV8 dc8 pm8 an8 cd8 ct8), sl8⟩) (c8 : PySem.W.codeIn K cd8 "_law_pick" = true) (k8 : PySem.W.keepIn K (.ref f8) = true)
    (a9 : PySem.W.nsIn K mainGlobals "_law_bent" = some (some (.ref f9)))
    (l9 : K.lookup f9 = some ⟨oc9, od9, .func (PySem.W.fnOf "_law_bent" "_law_bent" (defArgs st_u_law_bent) (defBody st_u_law_bent) (defScope st_u_law_bent) .none kV9 dc9 pm9 an9 cd9 ct9), sl9⟩) (c9 : PySem.W.codeIn K cd9 "_law_bent" = true) (k9 : PySem.W.keepIn K (.ref f9) = true)
    (a10 : PySem.W.nsIn K mainGlobals "_law_lot" = some (some (.ref f10)))
    (l10 : K.lookup f10 = some ⟨oc10, od10, .func (PySem.W.fnOf "_law_lot" "_law_lot" (defArgs st_u_law_lot) (defBody st_u_law_lot) (defScope st_u_law_lot) .none kV10 dc10 pm10 an10 cd10 ct10), sl10⟩) (c10 : PySem.W.codeIn K cd10 "_law_lot" = true) (k10 : PySem.W.keepIn K (.ref f10) = true)
    (a11 : PySem.W.nsIn K mainGlobals "_law_done" = some (some (.ref f11)))
    (l11 : K.lookup f11 = some ⟨oc11, od11, .func (PySem.W.fnOf "_law_done" "_law_done" (defArgs st_u_law_done) (defBody st_u_law_done) (defScope st_u_law_done) .none kV11 dc11 pm11 an11 cd11 ct11), sl11⟩) (c11 : PySem.W.codeIn K cd11 "_law_done" = true) (k11 : PySem.W.keepIn K (.ref f11) = true)
    (a12 : PySem.W.nsIn K mainGlobals "_law_far" = some (some (.ref f12)))
    (l12 : K.lookup f12 = some ⟨oc12, od12, .func (PySem.W.fnOf "_law_far" "_law_far" (defArgs st_u_law_far) (defBody st_u_law_far) (defScope st_u_law_far) .none kV12 dc12 pm12 an12 cd12 ct12), sl12⟩) (c12 : PySem.W.codeIn K cd12 "_law_far" = true) (k12 : PySem.W.keepIn K (.ref f12) = true)
    (a13 : PySem.W.nsIn K mainGlobals "_law_end" = some (some (.ref f13)))
    (l13 : K.lookup f13 = some ⟨oc13, od13, .func (PySem.W.fnOf "_law_end" "_law_end" (defArgs st_u_law_end) (defBody st_u_law_end) (defScope st_u_law_end) .none kV13 dc13 pm13 an13 cd13 ct13), sl13⟩) (c13 : PySem.W.codeIn K cd13 "_law_end" = true) (k13 : PySem.W.keepIn K (.ref f13) = true)
    (a14 : PySem.W.nsIn K mainGlobals "_law_full" = some (some (.ref f14)))
    (l14 : K.lookup f14 = some ⟨oc14, od14, .func (PySem.W.fnOf "_law_full" "_law_full" (defArgs st_u_law_full) (defBody st_u_law_full) (defScope st_u_law_full) .none kV14 dc14 pm14 an14 cd14 ct14), sl14⟩) (c14 : PySem.W.codeIn K cd14 "_law_full" = true) (k14 : PySem.W.keepIn K (.ref f14) = true)
    (a15 : PySem.W.nsIn K mainGlobals "_law_heap" = some (some (.ref f15)))
    (l15 : K.lookup f15 = some ⟨oc15, od15, .func (PySem.W.fnOf "_law_heap" "_law_heap" (defArgs st_u_law_heap) (defBody st_u_law_heap) (defScope st_u_law_heap) .none kV15 dc15 pm15 an15 cd15 ct15), sl15⟩) (c15 : PySem.W.codeIn K cd15 "_law_heap" = true) (k15 : PySem.W.keepIn K (.ref f15) = true)
    (a16 : PySem.W.nsIn K mainGlobals "_law_number" = some (some (.ref f16)))
    (l16 : K.lookup f16 = some ⟨oc16, od16, .func (PySem.W.fnOf "_law_number" "_law_number" (defArgs st_u_law_number) (defBody st_u_law_number) (defScope st_u_law_number) .none kV16 dc16 pm16 an16 cd16 ct16), sl16⟩) (c16 : PySem.W.codeIn K cd16 "_law_number" = true) (k16 : PySem.W.keepIn K (.ref f16) = true)
    (a17 : PySem.W.nsIn K mainGlobals "_law_is_letter" = some (some (.ref f17)))
    (l17 : K.lookup f17 = some ⟨oc17, od17, .func (PySem.W.fnOf "_law_is_letter" "_law_is_letter" (defArgs st_u_law_is_letter) (defBody st_u_law_is_letter) (defScope st_u_law_is_letter) .none kV17 dc17 pm17 an17 cd17 ct17), sl17⟩) (c17 : PySem.W.codeIn K cd17 "_law_is_letter" = true) (k17 : PySem.W.keepIn K (.ref f17) = true)
    (a18 : PySem.W.nsIn K mainGlobals "_law_is_walk" = some (some (.ref f18)))
    (l18 : K.lookup f18 = some ⟨oc18, od18, .func (PySem.W.fnOf "_law_is_walk" "_law_is_walk" (defArgs st_u_law_is_walk) (defBody st_u_law_is_walk) (defScope st_u_law_is_walk) .none kV18 dc18 pm18 an18 cd18 ct18), sl18⟩) (c18 : PySem.W.codeIn K cd18 "_law_is_walk" = true) (k18 : PySem.W.keepIn K (.ref f18) = true)
    (a19 : PySem.W.nsIn K mainGlobals "is_letter_form" = some (some (.ref f19)))
    (l19 : K.lookup f19 = some ⟨oc19, od19, .func (PySem.W.fnOf "is_letter_form" "is_letter_form" (defArgs st_is_letter_form) (defBody st_is_letter_form) (defScope st_is_letter_form) .none kV19 dc19 pm19 an19 cd19 ct19), sl19⟩) (c19 : PySem.W.codeIn K cd19 "is_letter_form" = true) (k19 : PySem.W.keepIn K (.ref f19) = true)
    (a20 : PySem.W.nsIn K mainGlobals "next_place" = some (some (.ref f20)))
    (l20 : K.lookup f20 = some ⟨oc20, od20, .func (PySem.W.fnOf "next_place" "next_place" (defArgs st_next_place) (defBody st_next_place) (defScope st_next_place) .none kV20 dc20 pm20 an20 cd20 ct20), sl20⟩) (c20 : PySem.W.codeIn K cd20 "next_place" = true) (k20 : PySem.W.keepIn K (.ref f20) = true)
    (a21 : PySem.W.nsIn K mainGlobals "is_walk" = some (some (.ref f21)))
    (l21 : K.lookup f21 = some ⟨oc21, od21, .func (PySem.W.fnOf "is_walk" "is_walk" (defArgs st_is_walk) (defBody st_is_walk) (defScope st_is_walk) .none kV21 dc21 pm21 an21 cd21 ct21), sl21⟩) (c21 : PySem.W.codeIn K cd21 "is_walk" = true) (k21 : PySem.W.keepIn K (.ref f21) = true)
    (a22 : PySem.W.nsIn K mainGlobals "_law_long_right" = some (some (.ref f22)))
    (l22 : K.lookup f22 = some ⟨oc22, od22, .func (PySem.W.fnOf "_law_long_right" "_law_long_right" (defArgs st_u_law_long_right) (defBody st_u_law_long_right) (defScope st_u_law_long_right) .none kV22 dc22 pm22 an22 cd22 ct22), sl22⟩) (c22 : PySem.W.codeIn K cd22 "_law_long_right" = true) (k22 : PySem.W.keepIn K (.ref f22) = true)
    (a23 : PySem.W.nsIn K mainGlobals "_law_pruned" = some (some (.ref f23)))
    (l23 : K.lookup f23 = some ⟨oc23, od23, .func (PySem.W.fnOf "_law_pruned" "_law_pruned" (defArgs st_u_law_pruned) (defBody st_u_law_pruned) (defScope st_u_law_pruned) .none kV23 dc23 pm23 an23 cd23 ct23), sl23⟩) (c23 : PySem.W.codeIn K cd23 "_law_pruned" = true) (k23 : PySem.W.keepIn K (.ref f23) = true)
    (a24 : PySem.W.nsIn K mainGlobals "_law_to" = some (some (.ref f24)))
    (l24 : K.lookup f24 = some ⟨oc24, od24, .func (PySem.W.fnOf "_law_to" "_law_to" (defArgs st_u_law_to) (defBody st_u_law_to) (defScope st_u_law_to) .none kV24 dc24 pm24 an24 cd24 ct24), sl24⟩) (c24 : PySem.W.codeIn K cd24 "_law_to" = true) (k24 : PySem.W.keepIn K (.ref f24) = true)
    (a25 : PySem.W.nsIn K mainGlobals "_law_rows" = some (some (.ref f25)))
    (l25 : K.lookup f25 = some ⟨oc25, od25, .func (PySem.W.fnOf "_law_rows" "_law_rows" (defArgs st_u_law_rows) (defBody st_u_law_rows) (defScope st_u_law_rows) .none kV25 dc25 pm25 an25 cd25 ct25), sl25⟩) (c25 : PySem.W.codeIn K cd25 "_law_rows" = true) (k25 : PySem.W.keepIn K (.ref f25) = true)
    (a26 : PySem.W.nsIn K mainGlobals "_law_same" = some (some (.ref f26)))
    (l26 : K.lookup f26 = some ⟨oc26, od26, .func (PySem.W.fnOf "_law_same" "_law_same" (defArgs st_u_law_same) (defBody st_u_law_same) (defScope st_u_law_same) .none kV26 dc26 pm26 an26 cd26 ct26), sl26⟩) (c26 : PySem.W.codeIn K cd26 "_law_same" = true) (k26 : PySem.W.keepIn K (.ref f26) = true)
    (a27 : PySem.W.nsIn K mainGlobals "_law_some" = some (some (.ref f27)))
    (l27 : K.lookup f27 = some ⟨oc27, od27, .func (PySem.W.fnOf "_law_some" "_law_some" (defArgs st_u_law_some) (defBody st_u_law_some) (defScope st_u_law_some) .none kV27 dc27 pm27 an27 cd27 ct27), sl27⟩) (c27 : PySem.W.codeIn K cd27 "_law_some" = true) (k27 : PySem.W.keepIn K (.ref f27) = true)
    (a28 : PySem.W.nsIn K mainGlobals "_law_behind" = some (some (.ref f28)))
    (l28 : K.lookup f28 = some ⟨oc28, od28, .func (PySem.W.fnOf "_law_behind" "_law_behind" (defArgs st_u_law_behind) (defBody st_u_law_behind) (defScope st_u_law_behind) .none kV28 dc28 pm28 an28 cd28 ct28), sl28⟩) (c28 : PySem.W.codeIn K cd28 "_law_behind" = true) (k28 : PySem.W.keepIn K (.ref f28) = true)
    (a29 : PySem.W.nsIn K mainGlobals "_law_stages" = some (some (.ref f29)))
    (l29 : K.lookup f29 = some ⟨oc29, od29, .func (PySem.W.fnOf "_law_stages" "_law_stages" (defArgs st_u_law_stages) (defBody st_u_law_stages) (defScope st_u_law_stages) .none kV29 dc29 pm29 an29 cd29 ct29), sl29⟩) (c29 : PySem.W.codeIn K cd29 "_law_stages" = true) (k29 : PySem.W.keepIn K (.ref f29) = true)
    (a30 : PySem.W.nsIn K mainGlobals "lot_of" = some (some (.ref f30)))
    (l30 : K.lookup f30 = some ⟨oc30, od30, .func (PySem.W.fnOf "lot_of" "lot_of" (defArgs st_lot_of) (defBody st_lot_of) (defScope st_lot_of) .none kV30 dc30 pm30 an30 cd30 ct30), sl30⟩) (c30 : PySem.W.codeIn K cd30 "lot_of" = true) (k30 : PySem.W.keepIn K (.ref f30) = true)
    (a31 : PySem.W.nsIn K mainGlobals "held_behind" = some (some (.ref f31)))
    (l31 : K.lookup f31 = some ⟨oc31, od31, .func (PySem.W.fnOf "held_behind" "held_behind" (defArgs st_held_behind) (defBody st_held_behind) (defScope st_held_behind) .none kV31 dc31 pm31 an31 cd31 ct31), sl31⟩) (c31 : PySem.W.codeIn K cd31 "held_behind" = true) (k31 : PySem.W.keepIn K (.ref f31) = true)
    (a32 : PySem.W.nsIn K mainGlobals "stage_behind" = some (some (.ref f32)))
    (l32 : K.lookup f32 = some ⟨oc32, od32, .func (PySem.W.fnOf "stage_behind" "stage_behind" (defArgs st_stage_behind) (defBody st_stage_behind) (defScope st_stage_behind) .none kV32 dc32 pm32 an32 cd32 ct32), sl32⟩) (c32 : PySem.W.codeIn K cd32 "stage_behind" = true) (k32 : PySem.W.keepIn K (.ref f32) = true)
    (a33 : PySem.W.nsIn K mainGlobals "stages_from" = some (some (.ref f33)))
    (l33 : K.lookup f33 = some ⟨oc33, od33, .func (PySem.W.fnOf "stages_from" "stages_from" (defArgs st_stages_from) (defBody st_stages_from) (defScope st_stages_from) .none kV33 dc33 pm33 an33 cd33 ct33), sl33⟩) (c33 : PySem.W.codeIn K cd33 "stages_from" = true) (k33 : PySem.W.keepIn K (.ref f33) = true)
    (a34 : PySem.W.nsIn K mainGlobals "_law_stages_right" = some (some (.ref f34)))
    (l34 : K.lookup f34 = some ⟨oc34, od34, .func (PySem.W.fnOf "_law_stages_right" "_law_stages_right" (defArgs st_u_law_stages_right) (defBody st_u_law_stages_right) (defScope st_u_law_stages_right) .none kV34 dc34 pm34 an34 cd34 ct34), sl34⟩) (c34 : PySem.W.codeIn K cd34 "_law_stages_right" = true) (k34 : PySem.W.keepIn K (.ref f34) = true)
    (a35 : PySem.W.nsIn K mainGlobals "_law_walk" = some (some (.ref f35)))
    (l35 : K.lookup f35 = some ⟨oc35, od35, .func (PySem.W.fnOf "_law_walk" "_law_walk" (defArgs st_u_law_walk) (defBody st_u_law_walk) (defScope st_u_law_walk) .none kV35 dc35 pm35 an35 cd35 ct35), sl35⟩) (c35 : PySem.W.codeIn K cd35 "_law_walk" = true) (k35 : PySem.W.keepIn K (.ref f35) = true)
    (a36 : PySem.W.nsIn K mainGlobals "_law_lots" = some (some (.ref f36)))
    (l36 : K.lookup f36 = some ⟨oc36, od36, .func (PySem.W.fnOf "_law_lots" "_law_lots" (defArgs st_u_law_lots) (defBody st_u_law_lots) (defScope st_u_law_lots) .none kV36 dc36 pm36 an36 cd36 ct36), sl36⟩) (c36 : PySem.W.codeIn K cd36 "_law_lots" = true) (k36 : PySem.W.keepIn K (.ref f36) = true)
    (a37 : PySem.W.nsIn K mainGlobals "done_in" = some (some (.ref f37)))
    (l37 : K.lookup f37 = some ⟨oc37, od37, .func (PySem.W.fnOf "done_in" "done_in" (defArgs st_done_in) (defBody st_done_in) (defScope st_done_in) .none kV37 dc37 pm37 an37 cd37 ct37), sl37⟩) (c37 : PySem.W.codeIn K cd37 "done_in" = true) (k37 : PySem.W.keepIn K (.ref f37) = true)
    (a38 : PySem.W.nsIn K mainGlobals "held_along" = some (some (.ref f38)))
    (l38 : K.lookup f38 = some ⟨oc38, od38, .func (PySem.W.fnOf "held_along" "held_along" (defArgs st_held_along) (defBody st_held_along) (defScope st_held_along) .none kV38 dc38 pm38 an38 cd38 ct38), sl38⟩) (c38 : PySem.W.codeIn K cd38 "held_along" = true) (k38 : PySem.W.keepIn K (.ref f38) = true)
    (a39 : PySem.W.nsIn K mainGlobals "lying_in" = some (some (.ref f39)))
    (l39 : K.lookup f39 = some ⟨oc39, od39, .func (PySem.W.fnOf "lying_in" "lying_in" (defArgs st_lying_in) (defBody st_lying_in) (defScope st_lying_in) .none kV39 dc39 pm39 an39 cd39 ct39), sl39⟩) (c39 : PySem.W.codeIn K cd39 "lying_in" = true) (k39 : PySem.W.keepIn K (.ref f39) = true)
    (a40 : PySem.W.nsIn K mainGlobals "said_in" = some (some (.ref f40)))
    (l40 : K.lookup f40 = some ⟨oc40, od40, .func (PySem.W.fnOf "said_in" "said_in" (defArgs st_said_in) (defBody st_said_in) (defScope st_said_in) .none kV40 dc40 pm40 an40 cd40 ct40), sl40⟩) (c40 : PySem.W.codeIn K cd40 "said_in" = true) (k40 : PySem.W.keepIn K (.ref f40) = true)
    (a41 : PySem.W.nsIn K mainGlobals "walk_end" = some (some (.ref f41)))
    (l41 : K.lookup f41 = some ⟨oc41, od41, .func (PySem.W.fnOf "walk_end" "walk_end" (defArgs st_walk_end) (defBody st_walk_end) (defScope st_walk_end) .none kV41 dc41 pm41 an41 cd41 ct41), sl41⟩) (c41 : PySem.W.codeIn K cd41 "walk_end" = true) (k41 : PySem.W.keepIn K (.ref f41) = true)
    (a42 : PySem.W.nsIn K mainGlobals "_law_walk_right" = some (some (.ref f42)))
    (l42 : K.lookup f42 = some ⟨oc42, od42, .func (PySem.W.fnOf "_law_walk_right" "_law_walk_right" (defArgs st_u_law_walk_right) (defBody st_u_law_walk_right) (defScope st_u_law_walk_right) .none kV42 dc42 pm42 an42 cd42 ct42), sl42⟩) (c42 : PySem.W.codeIn K cd42 "_law_walk_right" = true) (k42 : PySem.W.keepIn K (.ref f42) = true)
    (a43 : PySem.W.nsIn K mainGlobals "full_run" = some (some (.ref f43)))
    (l43 : K.lookup f43 = some ⟨oc43, od43, .func (PySem.W.fnOf "full_run" "full_run" (defArgs st_full_run) (defBody st_full_run) (defScope st_full_run) .none kV43 dc43 pm43 an43 cd43 ct43), sl43⟩) (c43 : PySem.W.codeIn K cd43 "full_run" = true) (k43 : PySem.W.keepIn K (.ref f43) = true)
    (a44 : PySem.W.nsIn K mainGlobals "rest_run" = some (some (.ref f44)))
    (l44 : K.lookup f44 = some ⟨oc44, od44, .func (PySem.W.fnOf "rest_run" "rest_run" (defArgs st_rest_run) (defBody st_rest_run) (defScope st_rest_run) .none kV44 dc44 pm44 an44 cd44 ct44), sl44⟩) (c44 : PySem.W.codeIn K cd44 "rest_run" = true) (k44 : PySem.W.keepIn K (.ref f44) = true)
    (a45 : PySem.W.nsIn K mainGlobals "law" = some (some (.ref f45)))
    (l45 : K.lookup f45 = some ⟨oc45, od45, .func (PySem.W.fnOf "law" "law" (defArgs st_law) (defBody st_law) (defScope st_law) .none kV45 dc45 pm45 an45 cd45 ct45), sl45⟩) (c45 : PySem.W.codeIn K cd45 "law" = true) (k45 : PySem.W.keepIn K (.ref f45) = true)
    (zlen : PySem.W.nsIn K mainGlobals "len" = some none)
    (zrange : PySem.W.nsIn K mainGlobals "range" = some none)
    (zisinstance : PySem.W.nsIn K mainGlobals "isinstance" = some none)
    (ztuple : PySem.W.nsIn K mainGlobals "tuple" = some none)
    (zlist : PySem.W.nsIn K mainGlobals "list" = some none)
    (zint : PySem.W.nsIn K mainGlobals "int" = some none)
    (zall : PySem.W.nsIn K mainGlobals "all" = some none)
    (zany : PySem.W.nsIn K mainGlobals "any" = some none)
    (zsum : PySem.W.nsIn K mainGlobals "sum" = some none)
    (zmax : PySem.W.nsIn K mainGlobals "max" = some none)
    (zmin : PySem.W.nsIn K mainGlobals "min" = some none)
    (zabs : PySem.W.nsIn K mainGlobals "abs" = some none)
    (zsorted : PySem.W.nsIn K mainGlobals "sorted" = some none)
    (zenumerate : PySem.W.nsIn K mainGlobals "enumerate" = some none)
    (zzip : PySem.W.nsIn K mainGlobals "zip" = some none)
    (zstr : PySem.W.nsIn K mainGlobals "str" = some none)
    (zbool : PySem.W.nsIn K mainGlobals "bool" = some none)
    (zdict : PySem.W.nsIn K mainGlobals "dict" = some none)
    (gMOST_HOUSES : PySem.W.nsIn K mainGlobals "MOST_HOUSES" = some (some (.int 6 tMOST_HOUSES)))
    (gMOST_LETTERS : PySem.W.nsIn K mainGlobals "MOST_LETTERS" = some (some (.int 10000 tMOST_LETTERS)))
    (gMOST_PLACES : PySem.W.nsIn K mainGlobals "MOST_PLACES" = some (some (.int 200 tMOST_PLACES)))
    (gMOST_ROWS : PySem.W.nsIn K mainGlobals "MOST_ROWS" = some (some (.int 600 tMOST_ROWS)))
    (gMOST_WORDS : PySem.W.nsIn K mainGlobals "MOST_WORDS" = some (some (.int 100 tMOST_WORDS)))
    : ∃ fd : FuncData, (∀ (s : Shared) (v : Value), BindsTo s fd ⟨[v], []⟩ [("script", v)]) ∧ ∀ base : Heap, K.In base → base.Ns mainGlobals mg → FnOk l.prog w K mg base (L2.CX l.prog w) 44 fa fd ["script"] (spLaw K) := by
  have e := hfa.symm.trans (PySem.W.mg_of X G a45)
  cases e
  let ct : Str → Option Addr := fun c => if c = "Book" then some CBook else none
  have T : ∀ base : Heap, Tx l.prog w K mg base ct := fun base => by
    refine { bt := ⟨PySem.W.mg_none_of X G zlen, PySem.W.mg_none_of X G zrange, PySem.W.mg_none_of X G zisinstance, PySem.W.mg_none_of X G ztuple, PySem.W.mg_none_of X G zlist, PySem.W.mg_none_of X G zint, PySem.W.mg_none_of X G zall, PySem.W.mg_none_of X G zany, PySem.W.mg_none_of X G zsum, PySem.W.mg_none_of X G zmax, PySem.W.mg_none_of X G zmin, PySem.W.mg_none_of X G zabs, PySem.W.mg_none_of X G zsorted, PySem.W.mg_none_of X G zenumerate, PySem.W.mg_none_of X G zzip⟩, nstr := PySem.W.mg_none_of X G zstr, nbool := PySem.W.mg_none_of X G zbool, ndict := PySem.W.mg_none_of X G zdict, fld_houses := ?_, fld_rows := ?_, k_MOST_HOUSES := ⟨_, PySem.W.mg_of X G gMOST_HOUSES⟩, k_MOST_LETTERS := ⟨_, PySem.W.mg_of X G gMOST_LETTERS⟩, k_MOST_PLACES := ⟨_, PySem.W.mg_of X G gMOST_PLACES⟩, k_MOST_ROWS := ⟨_, PySem.W.mg_of X G gMOST_ROWS⟩, k_MOST_WORDS := ⟨_, PySem.W.mg_of X G gMOST_WORDS⟩, f_is_number := ?_, f_is_letter := ?_, f_is_row := ?_, f_are_rows := ?_, f_come_to := ?_, f_Bookzz_initzz := ?_, f_u_law_draw := ?_, f_u_law_pick := ?_, f_u_law_bent := ?_, f_u_law_lot := ?_, f_u_law_done := ?_, f_u_law_far := ?_, f_u_law_end := ?_, f_u_law_full := ?_, f_u_law_heap := ?_, f_u_law_number := ?_, f_u_law_is_letter := ?_, f_u_law_is_walk := ?_, f_is_letter_form := ?_, f_next_place := ?_, f_is_walk := ?_, f_u_law_long_right := ?_, f_u_law_pruned := ?_, f_u_law_to := ?_, f_u_law_rows := ?_, f_u_law_same := ?_, f_u_law_some := ?_, f_u_law_behind := ?_, f_u_law_stages := ?_, f_lot_of := ?_, f_held_behind := ?_, f_stage_behind := ?_, f_stages_from := ?_, f_u_law_stages_right := ?_, f_u_law_walk := ?_, f_u_law_lots := ?_, f_done_in := ?_, f_held_along := ?_, f_lying_in := ?_, f_said_in := ?_, f_walk_end := ?_, f_u_law_walk_right := ?_, f_full_run := ?_, f_rest_run := ?_, f_law := ?_ }
    · intro Y hY c Ca hc
      rw [hY]
      have hc : (if c = "Book" then some CBook else none) = some Ca := hc
      split at hc
      · cases hc; exact ⟨⟨pgBook, hdBook, poBook, saBook⟩, nBook_fld_houses⟩
      cases hc
    · intro Y hY c Ca hc
      rw [hY]
      have hc : (if c = "Book" then some CBook else none) = some Ca := hc
      split at hc
      · cases hc; exact ⟨⟨pgBook, hdBook, poBook, saBook⟩, nBook_fld_rows⟩
      cases hc
    · exact ⟨f1, _, PySem.W.mg_of X G a1, fun_mk (st := st_is_number) l1 c1 k1, (fun _ => spl1 (fun _ => .of_eq rfl) (fun _ => .of_eq rfl))⟩
    · exact ⟨f2, _, PySem.W.mg_of X G a2, fun_mk (st := st_is_letter) l2 c2 k2, (fun _ => spl2 (fun _ _ => .of_eq rfl) (fun _ _ => .of_eq rfl) (fun _ _ => .of_eq rfl))⟩
    · exact ⟨f3, _, PySem.W.mg_of X G a3, fun_mk (st := st_is_row) l3 c3 k3, (fun _ => spl3 (fun _ _ _ => .of_eq rfl) (fun _ _ _ => .of_eq rfl) (fun _ _ _ => .of_eq rfl) (fun _ _ _ => .of_eq rfl))⟩
    · exact ⟨f4, _, PySem.W.mg_of X G a4, fun_mk (st := st_are_rows) l4 c4 k4, (fun _ => spl3 (fun _ _ _ => .of_eq rfl) (fun _ _ _ => .of_eq rfl) (fun _ _ _ => .of_eq rfl) (fun _ _ _ => .of_eq rfl))⟩
    · exact ⟨f5, _, PySem.W.mg_of X G a5, fun_mk (st := st_come_to) l5 c5 k5, (fun _ => spl3 (fun _ _ _ => .of_eq rfl) (fun _ _ _ => .of_eq rfl) (fun _ _ _ => .of_eq rfl) (fun _ _ _ => .of_eq rfl))⟩
    · exact ⟨CBook, f6, _, by show (if ("Book" : Str) = "Book" then some CBook else none) = _; simp, PySem.W.mg_of X G aCBook, ⟨mkBook, a6, i6, kcBook⟩, fun_mk (st := st_Bookzz_initzz) l6 c6 k6, (fun _ => spl3 (fun _ _ _ => .of_eq rfl) (fun _ _ _ => .of_eq rfl) (fun _ _ _ => .of_eq rfl) (fun _ _ _ => .of_eq rfl))⟩
    · exact ⟨f7, _, PySem.W.mg_of X G a7, fun_mk (st := st_u_law_draw) l7 c7 k7, (fun _ => spl2 (fun _ _ => .of_eq rfl) (fun _ _ => .of_eq rfl) (fun _ _ => .of_eq rfl))⟩
    · exact ⟨f8, _, PySem.W.mg_of X G a8, fun_mk (st := st_u_law_pick) l8 c8 k8, (fun _ => spl2 (fun _ _ => .of_eq rfl) (fun _ _ => .of_eq rfl) (fun _ _ => .of_eq rfl))⟩
    · exact ⟨f9, _, PySem.W.mg_of X G a9, fun_mk (st := st_u_law_bent) l9 c9 k9, (fun _ => spl3 (fun _ _ _ => .of_eq rfl) (fun _ _ _ => .of_eq rfl) (fun _ _ _ => .of_eq rfl) (fun _ _ _ => .of_eq rfl))⟩
    · exact ⟨f10, _, PySem.W.mg_of X G a10, fun_mk (st := st_u_law_lot) l10 c10 k10, (fun _ => spl1 (fun _ => .of_eq rfl) (fun _ => .of_eq rfl))⟩
    · exact ⟨f11, _, PySem.W.mg_of X G a11, fun_mk (st := st_u_law_done) l11 c11 k11, (fun _ => spl2 (fun _ _ => .of_eq rfl) (fun _ _ => .of_eq rfl) (fun _ _ => .of_eq rfl))⟩
    · exact ⟨f12, _, PySem.W.mg_of X G a12, fun_mk (st := st_u_law_far) l12 c12 k12, (fun _ => spl3 (fun _ _ _ => .of_eq rfl) (fun _ _ _ => .of_eq rfl) (fun _ _ _ => .of_eq rfl) (fun _ _ _ => .of_eq rfl))⟩
    · exact ⟨f13, _, PySem.W.mg_of X G a13, fun_mk (st := st_u_law_end) l13 c13 k13, (fun _ => spl3 (fun _ _ _ => .of_eq rfl) (fun _ _ _ => .of_eq rfl) (fun _ _ _ => .of_eq rfl) (fun _ _ _ => .of_eq rfl))⟩
    · exact ⟨f14, _, PySem.W.mg_of X G a14, fun_mk (st := st_u_law_full) l14 c14 k14, (fun _ => spl1 (fun _ => .of_eq rfl) (fun _ => .of_eq rfl))⟩
    · exact ⟨f15, _, PySem.W.mg_of X G a15, fun_mk (st := st_u_law_heap) l15 c15 k15, (fun _ => spl1 (fun _ => .of_eq rfl) (fun _ => .of_eq rfl))⟩
    · exact ⟨f16, _, PySem.W.mg_of X G a16, fun_mk (st := st_u_law_number) l16 c16 k16, (fun _ => spl1 (fun _ => .of_eq rfl) (fun _ => .of_eq rfl))⟩
    · exact ⟨f17, _, PySem.W.mg_of X G a17, fun_mk (st := st_u_law_is_letter) l17 c17 k17, (fun _ => spl1 (fun _ => .of_eq rfl) (fun _ => .of_eq rfl))⟩
    · exact ⟨f18, _, PySem.W.mg_of X G a18, fun_mk (st := st_u_law_is_walk) l18 c18 k18, (fun _ => spl3 (fun _ _ _ => .of_eq rfl) (fun _ _ _ => .of_eq rfl) (fun _ _ _ => .of_eq rfl) (fun _ _ _ => .of_eq rfl))⟩
    · exact ⟨f19, _, PySem.W.mg_of X G a19, fun_mk (st := st_is_letter_form) l19 c19 k19, (fun _ => spl1 (fun _ => .of_eq rfl) (fun _ => .of_eq rfl))⟩
    · exact ⟨f20, _, PySem.W.mg_of X G a20, fun_mk (st := st_next_place) l20 c20 k20, (fun _ => spl3 (fun _ _ _ => .of_eq rfl) (fun _ _ _ => .of_eq rfl) (fun _ _ _ => .of_eq rfl) (fun _ _ _ => .of_eq rfl))⟩
    · exact ⟨f21, _, PySem.W.mg_of X G a21, fun_mk (st := st_is_walk) l21 c21 k21, (fun _ => spl3 (fun _ _ _ => .of_eq rfl) (fun _ _ _ => .of_eq rfl) (fun _ _ _ => .of_eq rfl) (fun _ _ _ => .of_eq rfl))⟩
    · exact ⟨f22, _, PySem.W.mg_of X G a22, fun_mk (st := st_u_law_long_right) l22 c22 k22, (fun _ => spl1 (fun _ => .of_eq rfl) (fun _ => .of_eq rfl))⟩
    · exact ⟨f23, _, PySem.W.mg_of X G a23, fun_mk (st := st_u_law_pruned) l23 c23 k23, (fun _ => spl1 (fun _ => .of_eq rfl) (fun _ => .of_eq rfl))⟩
    · exact ⟨f24, _, PySem.W.mg_of X G a24, fun_mk (st := st_u_law_to) l24 c24 k24, (fun _ => spl5 (fun _ _ _ _ _ => .of_eq rfl) (fun _ _ _ _ _ => .of_eq rfl) (fun _ _ _ _ _ => .of_eq rfl) (fun _ _ _ _ _ => .of_eq rfl) (fun _ _ _ _ _ => .of_eq rfl) (fun _ _ _ _ _ => .of_eq rfl))⟩
    · exact ⟨f25, _, PySem.W.mg_of X G a25, fun_mk (st := st_u_law_rows) l25 c25 k25, (fun _ => spl4 (fun _ _ _ _ => .of_eq rfl) (fun _ _ _ _ => .of_eq rfl) (fun _ _ _ _ => .of_eq rfl) (fun _ _ _ _ => .of_eq rfl) (fun _ _ _ _ => .of_eq rfl))⟩
    · exact ⟨f26, _, PySem.W.mg_of X G a26, fun_mk (st := st_u_law_same) l26 c26 k26, (fun _ => spl2 (fun _ _ => .of_eq rfl) (fun _ _ => .of_eq rfl) (fun _ _ => .of_eq rfl))⟩
    · exact ⟨f27, _, PySem.W.mg_of X G a27, fun_mk (st := st_u_law_some) l27 c27 k27, (fun _ => spl2 (fun _ _ => .of_eq rfl) (fun _ _ => .of_eq rfl) (fun _ _ => .of_eq rfl))⟩
    · exact ⟨f28, _, PySem.W.mg_of X G a28, fun_mk (st := st_u_law_behind) l28 c28 k28, (fun _ => spl2 (fun _ _ => .of_eq rfl) (fun _ _ => .of_eq rfl) (fun _ _ => .of_eq rfl))⟩
    · exact ⟨f29, _, PySem.W.mg_of X G a29, fun_mk (st := st_u_law_stages) l29 c29 k29, (fun _ => spl2 (fun _ _ => .of_eq rfl) (fun _ _ => .of_eq rfl) (fun _ _ => .of_eq rfl))⟩
    · exact ⟨f30, _, PySem.W.mg_of X G a30, fun_mk (st := st_lot_of) l30 c30 k30, (fun _ => spl1 (fun _ => .of_eq rfl) (fun _ => .of_eq rfl))⟩
    · exact ⟨f31, _, PySem.W.mg_of X G a31, fun_mk (st := st_held_behind) l31 c31 k31, (fun _ => spl2 (fun _ _ => .of_eq rfl) (fun _ _ => .of_eq rfl) (fun _ _ => .of_eq rfl))⟩
    · exact ⟨f32, _, PySem.W.mg_of X G a32, fun_mk (st := st_stage_behind) l32 c32 k32, (fun _ => spl3 (fun _ _ _ => .of_eq rfl) (fun _ _ _ => .of_eq rfl) (fun _ _ _ => .of_eq rfl) (fun _ _ _ => .of_eq rfl))⟩
    · exact ⟨f33, _, PySem.W.mg_of X G a33, fun_mk (st := st_stages_from) l33 c33 k33, (fun _ => spl2 (fun _ _ => .of_eq rfl) (fun _ _ => .of_eq rfl) (fun _ _ => .of_eq rfl))⟩
    · exact ⟨f34, _, PySem.W.mg_of X G a34, fun_mk (st := st_u_law_stages_right) l34 c34 k34, (fun _ => spl4 (fun _ _ _ _ => .of_eq rfl) (fun _ _ _ _ => .of_eq rfl) (fun _ _ _ _ => .of_eq rfl) (fun _ _ _ _ => .of_eq rfl) (fun _ _ _ _ => .of_eq rfl))⟩
    · exact ⟨f35, _, PySem.W.mg_of X G a35, fun_mk (st := st_u_law_walk) l35 c35 k35, (fun _ => spl4 (fun _ _ _ _ => .of_eq rfl) (fun _ _ _ _ => .of_eq rfl) (fun _ _ _ _ => .of_eq rfl) (fun _ _ _ _ => .of_eq rfl) (fun _ _ _ _ => .of_eq rfl))⟩
    · exact ⟨f36, _, PySem.W.mg_of X G a36, fun_mk (st := st_u_law_lots) l36 c36 k36, (fun _ => spl2 (fun _ _ => .of_eq rfl) (fun _ _ => .of_eq rfl) (fun _ _ => .of_eq rfl))⟩
    · exact ⟨f37, _, PySem.W.mg_of X G a37, fun_mk (st := st_done_in) l37 c37 k37, (fun _ => spl2 (fun _ _ => .of_eq rfl) (fun _ _ => .of_eq rfl) (fun _ _ => .of_eq rfl))⟩
    · exact ⟨f38, _, PySem.W.mg_of X G a38, fun_mk (st := st_held_along) l38 c38 k38, (fun _ => spl2 (fun _ _ => .of_eq rfl) (fun _ _ => .of_eq rfl) (fun _ _ => .of_eq rfl))⟩
    · exact ⟨f39, _, PySem.W.mg_of X G a39, fun_mk (st := st_lying_in) l39 c39 k39, (fun _ => spl2 (fun _ _ => .of_eq rfl) (fun _ _ => .of_eq rfl) (fun _ _ => .of_eq rfl))⟩
    · exact ⟨f40, _, PySem.W.mg_of X G a40, fun_mk (st := st_said_in) l40 c40 k40, (fun _ => spl2 (fun _ _ => .of_eq rfl) (fun _ _ => .of_eq rfl) (fun _ _ => .of_eq rfl))⟩
    · exact ⟨f41, _, PySem.W.mg_of X G a41, fun_mk (st := st_walk_end) l41 c41 k41, (fun _ => spl3 (fun _ _ _ => .of_eq rfl) (fun _ _ _ => .of_eq rfl) (fun _ _ _ => .of_eq rfl) (fun _ _ _ => .of_eq rfl))⟩
    · exact ⟨f42, _, PySem.W.mg_of X G a42, fun_mk (st := st_u_law_walk_right) l42 c42 k42, (fun _ => spl5 (fun _ _ _ _ _ => .of_eq rfl) (fun _ _ _ _ _ => .of_eq rfl) (fun _ _ _ _ _ => .of_eq rfl) (fun _ _ _ _ _ => .of_eq rfl) (fun _ _ _ _ _ => .of_eq rfl) (fun _ _ _ _ _ => .of_eq rfl))⟩
    · exact ⟨f43, _, PySem.W.mg_of X G a43, fun_mk (st := st_full_run) l43 c43 k43, (fun _ => spl1 (fun _ => .of_eq rfl) (fun _ => .of_eq rfl))⟩
    · exact ⟨f44, _, PySem.W.mg_of X G a44, fun_mk (st := st_rest_run) l44 c44 k44, (fun _ => spl3 (fun _ _ _ => .of_eq rfl) (fun _ _ _ => .of_eq rfl) (fun _ _ _ => .of_eq rfl) (fun _ _ _ => .of_eq rfl))⟩
    · exact ⟨fa, _, PySem.W.mg_of X G a45, fun_mk (st := st_law) l45 c45 k45, (fun _ => spl1 (fun _ => .of_eq rfl) (fun _ => .of_eq rfl))⟩
  refine ⟨PySem.W.fnOf "law" "law" (defArgs st_law) (defBody st_law) (defScope st_law) .none kV45 dc45 pm45 an45 cd45 ct45, fun s v => .of_eq rfl, fun base _ _ => ?_⟩
  have h_is_number := c_is_number (T base) 
  have h_is_letter := c_is_letter (T base) (h_is_number)
  have h_is_row := c_is_row (T base) (h_is_letter) (h_is_number)
  have h_are_rows := c_are_rows (T base) (h_is_row)
  have h_come_to := c_come_to (T base) 
  have h_Bookzz_initzz := c_Bookzz_initzz (T base) (h_are_rows) (h_come_to) (h_is_number)
  have h_u_law_draw := c_u_law_draw (T base) 
  have h_u_law_pick := c_u_law_pick (T base) (h_u_law_draw)
  have h_u_law_bent := c_u_law_bent (T base) (h_u_law_draw) (h_u_law_pick) 40
  have h_u_law_lot := c_u_law_lot (T base) 
  have h_u_law_done := c_u_law_done (T base) (h_u_law_lot)
  have h_u_law_far := c_u_law_far (T base) 
  have h_u_law_end := c_u_law_end (T base) (h_u_law_far)
  have h_u_law_full := c_u_law_full (T base) 
  have h_u_law_heap := c_u_law_heap (T base) 
  have h_u_law_number := c_u_law_number (T base) 
  have h_u_law_is_letter := c_u_law_is_letter (T base) (h_u_law_number)
  have h_u_law_is_walk := c_u_law_is_walk (T base) (h_u_law_end) (h_u_law_is_letter)
  have h_is_letter_form := c_is_letter_form (T base) (h_is_number)
  have h_next_place := c_next_place (T base) 
  have h_is_walk := c_is_walk (T base) (h_is_letter_form) (h_next_place)
  have h_u_law_long_right := c_u_law_long_right (T base) (h_Bookzz_initzz) (h_u_law_draw) (h_is_walk)
  have h_u_law_pruned := c_u_law_pruned (T base) 
  have h_u_law_to := c_u_law_to (T base) (h_u_law_draw) (h_u_law_pick)
  have h_u_law_rows := c_u_law_rows (T base) (h_u_law_draw) (h_u_law_pick) (h_u_law_pruned) (h_u_law_to)
  have h_u_law_same := c_u_law_same (T base)  40
  have h_u_law_some := c_u_law_some (T base) (h_u_law_draw)
  have h_u_law_behind := c_u_law_behind (T base) (h_u_law_lot)
  have h_u_law_stages := c_u_law_stages (T base) (h_u_law_behind)
  have h_lot_of := c_lot_of (T base) 
  have h_held_behind := c_held_behind (T base) (h_lot_of)
  have h_stage_behind := c_stage_behind (T base) (h_held_behind) (h_next_place)
  have h_stages_from := c_stages_from (T base) (h_held_behind) (h_lot_of)
  have h_u_law_stages_right := c_u_law_stages_right (T base) (h_u_law_behind) (h_u_law_far) (h_u_law_lot) (h_u_law_same) (h_u_law_stages) (h_stage_behind) (h_stages_from)
  have h_u_law_walk := c_u_law_walk (T base) (h_u_law_draw) (h_u_law_pick)
  have h_u_law_lots := c_u_law_lots (T base) (h_u_law_behind)
  have h_done_in := c_done_in (T base) (h_held_behind)
  have h_held_along := c_held_along (T base) (h_held_behind)
  have h_lying_in := c_lying_in (T base) (h_held_behind)
  have h_said_in := c_said_in (T base) (h_held_along)
  have h_walk_end := c_walk_end (T base) (h_next_place)
  have h_u_law_walk_right := c_u_law_walk_right (T base) (h_u_law_done) (h_u_law_end) (h_u_law_lots) (h_u_law_same) (h_done_in) (h_held_along) (h_lying_in) (h_said_in) (h_walk_end)
  have h_full_run := c_full_run (T base) (h_done_in)
  have h_rest_run := c_rest_run (T base) (h_done_in) (h_full_run)
  exact FnOk.imp ( c_law (T base) (h_Bookzz_initzz) (h_u_law_bent) (h_u_law_done) (h_u_law_draw) (h_u_law_end) (h_u_law_full) (h_u_law_heap) (h_u_law_is_walk) (h_u_law_long_right) (h_u_law_pick) (h_u_law_rows) (h_u_law_same) (h_u_law_some) (h_u_law_stages_right) (h_u_law_walk) (h_u_law_walk_right) (h_full_run) (h_is_walk) (h_rest_run) (fun_mk (st := st_law) l45 c45 k45)) (law_sp HL)
theorem walk {l : PySem.W.OpenLaw} {q : Program} {loose : List Str} {XP : (Str → Option Value) → Heap → Prop} {YP : World → Heap → Prop} {d : DefRec} {K : Params → PySem.W.Frag} (hn : l.most = some 63) (hdf : d.params.defaults = [])
    (hY : ∀ (w : World) (h : Heap), YP w h → (K w.params).In h)
    (F : ∀ (w : World) (mg : Str → Option Value) (fa : Addr) (h : Heap), (K w.params).In h → h.Ns mainGlobals mg → mg d.name = some (.ref fa) →
      ∃ fd : FuncData, (∀ (s : Shared) (u : Value), BindsTo s fd ⟨[u], []⟩ [("script", u)]) ∧ ∀ base : Heap, (K w.params).In base → base.Ns mainGlobals mg → FnOk l.prog w (K w.params) mg base (L2.CX l.prog w) 44 fa fd ["script"] (spLaw (K w.params))) :
    PySem.W.WalkO q loose XP YP l.row.toRowW d [] (fun f vs => PySem.call f vs) :=
  L2.walk_of (n := 63) (k := 44) (x := "script") (CX := fun w => L2.CX l.prog w) (sp := fun w => spLaw (K w.params)) hn (by decide) hdf ⟨rfl, by decide, by decide⟩ hY F (fun _ _ a ns hl _ hS => ⟨a, ns, rfl, hS, hl, fun _ => rfl⟩) fun _ _ _ _ _ h => by
    obtain ⟨_, _, _, _, _, _, _, _, _, _, _, _, z⟩ := h
    exact z.elim
end Z

open PySem PySem.W PyProof.Rows
set_option maxRecDepth 100000 in
set_option maxHeartbeats 0 in
theorem PySem.Challenge.cw_playedapart_k14_whole_held_walks_holds : PySem.Challenge.rw_playedapart_k14_whole_held_walks.Holds := by
  w_on; o_law; k_head; (case hw => w_witness2)
  k_fill
  refine Z.walk (l := PySem.Challenge.rw_playedapart_k14_whole_held_walks) rfl rfl (fun w h Y => PySem.W.kIn_of Y) ?F
  case F =>
    intro w mg fa h KX G hmg
    refine' Z.all_mk Z.HLaw KX G hmg ?aCBook ?a1 ?l1 ?c1 ?k1 ?a2 ?l2 ?c2 ?k2 ?a3 ?l3 ?c3 ?k3 ?a4 ?l4 ?c4 ?k4 ?a5 ?l5 ?c5 ?k5 ?a6 ?i6 ?l6 ?c6 ?k6 ?a7 ?l7 ?c7 ?k7 ?a8 ?l8 ?c8 ?k8 ?a9 ?l9 ?c9 ?k9 ?a10 ?l10 ?c10 ?k10 ?a11 ?l11 ?c11 ?k11 ?a12 ?l12 ?c12 ?k12 ?a13 ?l13 ?c13 ?k13 ?a14 ?l14 ?c14 ?k14 ?a15 ?l15 ?c15 ?k15 ?a16 ?l16 ?c16 ?k16 ?a17 ?l17 ?c17 ?k17 ?a18 ?l18 ?c18 ?k18 ?a19 ?l19 ?c19 ?k19 ?a20 ?l20 ?c20 ?k20 ?a21 ?l21 ?c21 ?k21 ?a22 ?l22 ?c22 ?k22 ?a23 ?l23 ?c23 ?k23 ?a24 ?l24 ?c24 ?k24 ?a25 ?l25 ?c25 ?k25 ?a26 ?l26 ?c26 ?k26 ?a27 ?l27 ?c27 ?k27 ?a28 ?l28 ?c28 ?k28 ?a29 ?l29 ?c29 ?k29 ?a30 ?l30 ?c30 ?k30 ?a31 ?l31 ?c31 ?k31 ?a32 ?l32 ?c32 ?k32 ?a33 ?l33 ?c33 ?k33 ?a34 ?l34 ?c34 ?k34 ?a35 ?l35 ?c35 ?k35 ?a36 ?l36 ?c36 ?k36 ?a37 ?l37 ?c37 ?k37 ?a38 ?l38 ?c38 ?k38 ?a39 ?l39 ?c39 ?k39 ?a40 ?l40 ?c40 ?k40 ?a41 ?l41 ?c41 ?k41 ?a42 ?l42 ?c42 ?k42 ?a43 ?l43 ?c43 ?k43 ?a44 ?l44 ?c44 ?k44 ?a45 ?l45 ?c45 ?k45 ?pgBook ?hdBook ?poBook ?saBook ?mkBook ?kcBook ?nBook_fld_houses ?nBook_fld_rows ?zlen ?zrange ?zisinstance ?ztuple ?zlist ?zint ?zall ?zany ?zsum ?zmax ?zmin ?zabs ?zsorted ?zenumerate ?zzip ?zstr ?zbool ?zdict ?gMOST_HOUSES ?gMOST_LETTERS ?gMOST_PLACES ?gMOST_ROWS ?gMOST_WORDS
    (case aCBook => k_is)
    (case a1 => k_is)
    (case l1 => k_is)
    (case c1 => k_is)
    (case k1 => k_is)
    (case a2 => k_is)
    (case l2 => k_is)
    (case c2 => k_is)
    (case k2 => k_is)
    (case a3 => k_is)
    (case l3 => k_is)
    (case c3 => k_is)
    (case k3 => k_is)
    (case a4 => k_is)
    (case l4 => k_is)
    (case c4 => k_is)
    (case k4 => k_is)
    (case a5 => k_is)
    (case l5 => k_is)
    (case c5 => k_is)
    (case k5 => k_is)
    (case a6 => k_is)
    (case i6 => k_is)
    (case l6 => k_is)
    (case c6 => k_is)
    (case k6 => k_is)
    (case a7 => k_is)
    (case l7 => k_is)
    (case c7 => k_is)
    (case k7 => k_is)
    (case a8 => k_is)
    (case l8 => k_is)
    (case c8 => k_is)
    (case k8 => k_is)
    (case a9 => k_is)
    (case l9 => k_is)
    (case c9 => k_is)
    (case k9 => k_is)
    (case a10 => k_is)
    (case l10 => k_is)
    (case c10 => k_is)
    (case k10 => k_is)
    (case a11 => k_is)
    (case l11 => k_is)
    (case c11 => k_is)
    (case k11 => k_is)
    (case a12 => k_is)
    (case l12 => k_is)
    (case c12 => k_is)
    (case k12 => k_is)
    (case a13 => k_is)
    (case l13 => k_is)
    (case c13 => k_is)
    (case k13 => k_is)
    (case a14 => k_is)
    (case l14 => k_is)
    (case c14 => k_is)
    (case k14 => k_is)
    (case a15 => k_is)
    (case l15 => k_is)
    (case c15 => k_is)
    (case k15 => k_is)
    (case a16 => k_is)
    (case l16 => k_is)
    (case c16 => k_is)
    (case k16 => k_is)
    (case a17 => k_is)
    (case l17 => k_is)
    (case c17 => k_is)
    (case k17 => k_is)
    (case a18 => k_is)
    (case l18 => k_is)
    (case c18 => k_is)
    (case k18 => k_is)
    (case a19 => k_is)
    (case l19 => k_is)
    (case c19 => k_is)
    (case k19 => k_is)
    (case a20 => k_is)
    (case l20 => k_is)
    (case c20 => k_is)
    (case k20 => k_is)
    (case a21 => k_is)
    (case l21 => k_is)
    (case c21 => k_is)
    (case k21 => k_is)
    (case a22 => k_is)
    (case l22 => k_is)
    (case c22 => k_is)
    (case k22 => k_is)
    (case a23 => k_is)
    (case l23 => k_is)
    (case c23 => k_is)
    (case k23 => k_is)
    (case a24 => k_is)
    (case l24 => k_is)
    (case c24 => k_is)
    (case k24 => k_is)
    (case a25 => k_is)
    (case l25 => k_is)
    (case c25 => k_is)
    (case k25 => k_is)
    (case a26 => k_is)
    (case l26 => k_is)
    (case c26 => k_is)
    (case k26 => k_is)
    (case a27 => k_is)
    (case l27 => k_is)
    (case c27 => k_is)
    (case k27 => k_is)
    (case a28 => k_is)
    (case l28 => k_is)
    (case c28 => k_is)
    (case k28 => k_is)
    (case a29 => k_is)
    (case l29 => k_is)
    (case c29 => k_is)
    (case k29 => k_is)
    (case a30 => k_is)
    (case l30 => k_is)
    (case c30 => k_is)
    (case k30 => k_is)
    (case a31 => k_is)
    (case l31 => k_is)
    (case c31 => k_is)
    (case k31 => k_is)
    (case a32 => k_is)
    (case l32 => k_is)
    (case c32 => k_is)
    (case k32 => k_is)
    (case a33 => k_is)
    (case l33 => k_is)
    (case c33 => k_is)
    (case k33 => k_is)
    (case a34 => k_is)
    (case l34 => k_is)
    (case c34 => k_is)
    (case k34 => k_is)
    (case a35 => k_is)
    (case l35 => k_is)
    (case c35 => k_is)
    (case k35 => k_is)
    (case a36 => k_is)
    (case l36 => k_is)
    (case c36 => k_is)
    (case k36 => k_is)
    (case a37 => k_is)
    (case l37 => k_is)
    (case c37 => k_is)
    (case k37 => k_is)
    (case a38 => k_is)
    (case l38 => k_is)
    (case c38 => k_is)
    (case k38 => k_is)
    (case a39 => k_is)
    (case l39 => k_is)
    (case c39 => k_is)
    (case k39 => k_is)
    (case a40 => k_is)
    (case l40 => k_is)
    (case c40 => k_is)
    (case k40 => k_is)
    (case a41 => k_is)
    (case l41 => k_is)
    (case c41 => k_is)
    (case k41 => k_is)
    (case a42 => k_is)
    (case l42 => k_is)
    (case c42 => k_is)
    (case k42 => k_is)
    (case a43 => k_is)
    (case l43 => k_is)
    (case c43 => k_is)
    (case k43 => k_is)
    (case a44 => k_is)
    (case l44 => k_is)
    (case c44 => k_is)
    (case k44 => k_is)
    (case a45 => k_is)
    (case l45 => k_is)
    (case c45 => k_is)
    (case k45 => k_is)
    (case pgBook => k_is)
    (case hdBook => k_is)
    (case poBook => k_is)
    (case saBook => k_is)
    (case mkBook => k_is)
    (case kcBook => k_is)
    (case nBook_fld_houses => k_is)
    (case nBook_fld_rows => k_is)
    (case zlen => k_is)
    (case zrange => k_is)
    (case zisinstance => k_is)
    (case ztuple => k_is)
    (case zlist => k_is)
    (case zint => k_is)
    (case zall => k_is)
    (case zany => k_is)
    (case zsum => k_is)
    (case zmax => k_is)
    (case zmin => k_is)
    (case zabs => k_is)
    (case zsorted => k_is)
    (case zenumerate => k_is)
    (case zzip => k_is)
    (case zstr => k_is)
    (case zbool => k_is)
    (case zdict => k_is)
    (case gMOST_HOUSES => k_is)
    (case gMOST_LETTERS => k_is)
    (case gMOST_PLACES => k_is)
    (case gMOST_ROWS => k_is)
    (case gMOST_WORDS => k_is)
