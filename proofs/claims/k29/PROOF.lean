import PyProof.Rows.All
import Wide.All
import OpenK.AllK
import Wide.FinOn
import PyProof.EqAt
import PyProof.EqKinds
import PyProof.TupleCall
import HandS.ForMost
import HandS.Exc
import HandS.TryOnly
import HandS.TryMany
import HandS.ExcInit
import HandS.WordsExc
import HandS.Wide
import HandS.WideMore
import HandS.IsInst
import HandS.MakeKwOnly
import HandS.Style
import HandS.Flow
import HandS.Defaults
import HandS.Head0
import HandS.Head1
import HandS.Head2
import HandS.HeadEnd
import HandS.HeadHook1
import HandS.HeadHook2
import PySem.Challenge.RW_wanehold_k29_joined_and_passed
set_option Elab.async false
set_option linter.all false
set_option maxRecDepth 100000
set_option maxHeartbeats 0
namespace Eg
open PySem PySem.Spec PyProof.Rows L2
inductive A where
  | non | bl (b : Bool) | int (i : Int) | str (x : Str)
  | tup (xs : List A) | lst (xs : List A) | kl (xs : List A)
  | obj (C : Nat) (ns : List Nat) (xs : List A)
  | exc (C : Nat) (ns : List Nat) (xs : List A)
  | ref (n : Nat)
  deriving Inhabited
inductive LO where
  | lst (xs : List A)
  | ins (C : Nat) (ns : List Nat) (xs : List A)
inductive Sl where
  | va (a : A)
  | ow (b : Bool) (o : LO)
abbrev En := List (Option Sl)
abbrev GS := List LO
structure Gd where
  K : PySem.W.Frag
  ca : Nat → Addr
  nf : Nat
  fld : Nat → Str
  finj : ∀ a b, a < nf → b < nf → fld a = fld b → a = b
  cls : Nat → Bool
  cOk : ∀ C, cls C = true → Cls K (ca C)
  nAt : ∀ C f, cls C = true → f < nf → NoAttr K (ca C) (fld f)
  cX : ∀ C, cls C = true → PySem.W.findIn K (.ref (ca C)) "__class__" = some (some (.builtin "object.__class__")) ∧ PySem.W.specialIn K (.builtin "object.__class__") "__get__" = some (some (.builtin "getset_descriptor.__get__")) ∧
    PySem.W.takesIn K (.builtin "object.__class__") = some true ∧ PySem.W.mroIn K (ca C) (.type "object") = some true
  dig : PySem.W.nsIn K cStatics "sys.int_max_str_digits" = some none
structure Gh where
  al : Nat → Addr
  sz : Nat
  ow : Nat → Addr
  Om : Addr → Prop
  H0 : Hp
  T : Addr → Prop
  Om0 : Addr → Prop
  pr : Hp
  io : Nat → Addr
def KT (K : PySem.W.Frag) (p : Addr) (vs : List V) : Prop := SqT K (fun _ => none) p vs
def KL (K : PySem.W.Frag) (p : Addr) (vs : List V) : Prop := SqL K (fun _ => none) p vs
mutual
def RelA (D : Gd) (γ : Gh) (H : Hp) : A → V → Prop
  | .non, v => v = .non
  | .bl b, v => v = .bl b
  | .int i, v => v = .int i
  | .str x, v => v = .str x
  | .tup xs, v => ∃ p vs, v = .ref p ∧ ((γ.Om p ∧ H p = some (.tup vs)) ∨ KT D.K p vs) ∧ RelL D γ H xs vs
  | .lst xs, v => ∃ p vs, v = .ref p ∧ γ.Om p ∧ H p = some (.lst vs) ∧ RelL D γ H xs vs
  | .kl xs, v => ∃ p vs, v = .ref p ∧ ((γ.Om p ∧ ∃ o, H p = some (.frz o (.lst vs))) ∨ KL D.K p vs) ∧ RelL D γ H xs vs
  | .obj C ns xs, v => ∃ p dx fs, v = .ref p ∧ γ.Om p ∧ γ.Om dx ∧ H p = some (.ins (D.ca C) dx fs) ∧ D.cls C = true ∧ RelF D γ H ns xs fs
  | .exc _ _ _, _ => False
  | .ref n, v => n < γ.sz ∧ v = .ref (γ.al n)
def RelL (D : Gd) (γ : Gh) (H : Hp) : List A → List V → Prop
  | [], vs => vs = []
  | a :: as, vs => ∃ v r, vs = v :: r ∧ RelA D γ H a v ∧ RelL D γ H as r
def RelF (D : Gd) (γ : Gh) (H : Hp) (ns : List Nat) : List A → List (Str × V) → Prop
  | [], fs => ns = [] ∧ fs = []
  | a :: as, fs => ∃ n nr v r, ns = n :: nr ∧ fs = (D.fld n, v) :: r ∧ n < D.nf ∧ RelA D γ H a v ∧ RelF D γ H nr as r
end
structure Mono (γ : Gh) (H : Hp) (γ' : Gh) (H' : Hp) : Prop where
  om : ∀ p, γ.Om p → γ'.Om p
  kp : ∀ p, γ.Om p → H' p = H p
  sz : γ.sz ≤ γ'.sz
  al : ∀ n, n < γ.sz → γ'.al n = γ.al n
theorem Mono.refl (γ : Gh) (H : Hp) : Mono γ H γ H := ⟨fun _ h => h, fun _ _ => rfl, Nat.le_refl _, fun _ _ => rfl⟩
theorem Mono.trans {γ γ1 γ2 : Gh} {H H1 H2 : Hp} (a : Mono γ H γ1 H1) (b : Mono γ1 H1 γ2 H2) : Mono γ H γ2 H2 :=
  ⟨fun p h => b.om p (a.om p h), fun p h => (b.kp p (a.om p h)).trans (a.kp p h), Nat.le_trans a.sz b.sz, fun n h => (b.al n (Nat.lt_of_lt_of_le h a.sz)).trans (a.al n h)⟩
mutual
theorem RelA.mono {D : Gd} {γ γ' : Gh} {H H' : Hp} (m : Mono γ H γ' H') : ∀ (a : A) (v : V), RelA D γ H a v → RelA D γ' H' a v
  | .non, v, h => by simp only [RelA] at h ⊢; exact h
  | .bl b, v, h => by simp only [RelA] at h ⊢; exact h
  | .int i, v, h => by simp only [RelA] at h ⊢; exact h
  | .str x, v, h => by simp only [RelA] at h ⊢; exact h
  | .tup xs, v, h => by
    simp only [RelA] at h ⊢
    obtain ⟨p, vs, e, h1, h2⟩ := h
    refine ⟨p, vs, e, ?_, RelL.mono m xs vs h2⟩
    rcases h1 with ⟨a, b⟩ | h1
    · exact .inl ⟨m.om p a, (m.kp p a).trans b⟩
    · exact .inr h1
  | .lst xs, v, h => by
    simp only [RelA] at h ⊢
    obtain ⟨p, vs, e, h0, h1, h2⟩ := h
    exact ⟨p, vs, e, m.om p h0, (m.kp p h0).trans h1, RelL.mono m xs vs h2⟩
  | .kl xs, v, h => by
    simp only [RelA] at h ⊢
    obtain ⟨p, vs, e, h1, h2⟩ := h
    refine ⟨p, vs, e, ?_, RelL.mono m xs vs h2⟩
    rcases h1 with ⟨a, o, b⟩ | h1
    · exact .inl ⟨m.om p a, o, (m.kp p a).trans b⟩
    · exact .inr h1
  | .obj C ns xs, v, h => by
    simp only [RelA] at h ⊢
    obtain ⟨p, dx, fs, e, h0, h1, h2, hc, h3⟩ := h
    exact ⟨p, dx, fs, e, m.om p h0, m.om dx h1, (m.kp p h0).trans h2, hc, RelF.mono m ns xs fs h3⟩
  | .exc _ _ _, v, h => by simp only [RelA] at h
  | .ref n, v, h => by
    simp only [RelA] at h ⊢
    exact ⟨Nat.lt_of_lt_of_le h.1 m.sz, by rw [m.al n h.1]; exact h.2⟩
theorem RelL.mono {D : Gd} {γ γ' : Gh} {H H' : Hp} (m : Mono γ H γ' H') : ∀ (as : List A) (vs : List V), RelL D γ H as vs → RelL D γ' H' as vs
  | [], vs, h => by simp only [RelL] at h ⊢; exact h
  | a :: as, vs, h => by
    simp only [RelL] at h ⊢
    obtain ⟨v, r, e, h1, h2⟩ := h
    exact ⟨v, r, e, RelA.mono m a v h1, RelL.mono m as r h2⟩
theorem RelF.mono {D : Gd} {γ γ' : Gh} {H H' : Hp} (m : Mono γ H γ' H') : ∀ (ns : List Nat) (as : List A) (fs : List (Str × V)), RelF D γ H ns as fs → RelF D γ' H' ns as fs
  | ns, [], fs, h => by simp only [RelF] at h ⊢; exact h
  | ns, a :: as, fs, h => by
    simp only [RelF] at h ⊢
    obtain ⟨n, nr, v, r, e1, e2, h0, h1, h2⟩ := h
    exact ⟨n, nr, v, r, e1, e2, h0, RelA.mono m a v h1, RelF.mono m nr as r h2⟩
end
section
variable {D : Gd} {γ : Gh} {H : Hp}
theorem RelL.length : ∀ {as : List A} {vs : List V}, RelL D γ H as vs → as.length = vs.length
  | [], vs, h => by simp only [RelL] at h; rw [h]; rfl
  | a :: as, vs, h => by
    simp only [RelL] at h
    obtain ⟨v, r, e, _, h2⟩ := h
    rw [e, List.length_cons, List.length_cons, RelL.length h2]
theorem RelL.nil : RelL D γ H [] [] := by simp only [RelL]
theorem RelL.cons {a : A} {v : V} {as : List A} {vs : List V} (h : RelA D γ H a v) (t : RelL D γ H as vs) : RelL D γ H (a :: as) (v :: vs) := by
  simp only [RelL]; exact ⟨v, vs, rfl, h, t⟩
theorem RelL.get : ∀ {as : List A} {vs : List V} {i : Nat} {a : A}, RelL D γ H as vs → as[i]? = some a → ∃ v, vs[i]? = some v ∧ RelA D γ H a v
  | [], vs, i, a, h, e => by simp at e
  | b :: as, vs, 0, a, h, e => by
    simp only [RelL] at h
    obtain ⟨v, r, e1, h1, h2⟩ := h
    simp at e; subst e; subst e1
    exact ⟨v, rfl, h1⟩
  | b :: as, vs, i + 1, a, h, e => by
    simp only [RelL] at h
    obtain ⟨v, r, e1, h1, h2⟩ := h
    subst e1
    simp at e
    obtain ⟨w, hw, q⟩ := RelL.get (i := i) h2 e
    exact ⟨w, by simpa using hw, q⟩
theorem RelL.get' : ∀ {as : List A} {vs : List V} {i : Nat} {v : V}, RelL D γ H as vs → vs[i]? = some v → ∃ a, as[i]? = some a ∧ RelA D γ H a v
  | [], vs, i, a, h, e => by simp only [RelL] at h; subst h; simp at e
  | b :: as, vs, 0, a, h, e => by
    simp only [RelL] at h
    obtain ⟨v, r, e1, h1, h2⟩ := h
    subst e1
    simp at e; subst e
    exact ⟨b, rfl, h1⟩
  | b :: as, vs, i + 1, a, h, e => by
    simp only [RelL] at h
    obtain ⟨v, r, e1, h1, h2⟩ := h
    subst e1
    simp at e
    obtain ⟨w, hw, q⟩ := RelL.get' (i := i) h2 e
    exact ⟨w, by simpa using hw, q⟩
theorem RelL.append : ∀ {as bs : List A} {vs us : List V}, RelL D γ H as vs → RelL D γ H bs us → RelL D γ H (as ++ bs) (vs ++ us)
  | [], bs, vs, us, h, h' => by simp only [RelL] at h; subst h; exact h'
  | a :: as, bs, vs, us, h, h' => by
    simp only [RelL] at h
    obtain ⟨v, r, e1, h1, h2⟩ := h
    subst e1
    exact RelL.cons h1 (RelL.append h2 h')
theorem RelL.take : ∀ {as : List A} {vs : List V} (n : Nat), RelL D γ H as vs → RelL D γ H (as.take n) (vs.take n)
  | _, _, 0, _ => by simp only [List.take_zero]; exact RelL.nil
  | [], vs, n + 1, h => by simp only [RelL] at h; subst h; simp; exact RelL.nil
  | a :: as, vs, n + 1, h => by
    simp only [RelL] at h
    obtain ⟨v, r, e1, h1, h2⟩ := h
    subst e1
    exact RelL.cons h1 (RelL.take n h2)
theorem RelL.drop : ∀ {as : List A} {vs : List V} (n : Nat), RelL D γ H as vs → RelL D γ H (as.drop n) (vs.drop n)
  | _, _, 0, h => h
  | [], vs, n + 1, h => by simp only [RelL] at h; subst h; simp; exact RelL.nil
  | a :: as, vs, n + 1, h => by
    simp only [RelL] at h
    obtain ⟨v, r, e1, h1, h2⟩ := h
    subst e1
    exact RelL.drop n h2
theorem RelL.set : ∀ {as : List A} {vs : List V} (i : Nat) {a : A} {v : V}, RelL D γ H as vs → RelA D γ H a v → RelL D γ H (as.set i a) (vs.set i v)
  | [], vs, i, a, v, h, _ => by simp only [RelL] at h; subst h; exact RelL.nil
  | b :: as, vs, 0, a, v, h, q => by
    simp only [RelL] at h
    obtain ⟨w, r, e1, h1, h2⟩ := h
    subst e1
    exact RelL.cons q h2
  | b :: as, vs, i + 1, a, v, h, q => by
    simp only [RelL] at h
    obtain ⟨w, r, e1, h1, h2⟩ := h
    subst e1
    exact RelL.cons h1 (RelL.set i h2 q)
theorem RelL.reverse {as : List A} {vs : List V} (h : RelL D γ H as vs) : RelL D γ H as.reverse vs.reverse := by
  induction as generalizing vs with
  | nil => simp only [RelL] at h; subst h; exact RelL.nil
  | cons a as ih =>
    simp only [RelL] at h
    obtain ⟨w, r, e1, h1, h2⟩ := h
    subst e1
    rw [List.reverse_cons, List.reverse_cons]
    exact RelL.append (ih h2) (RelL.cons h1 RelL.nil)
theorem RelL.eraseIdx : ∀ {as : List A} {vs : List V} (i : Nat), RelL D γ H as vs → RelL D γ H (as.eraseIdx i) (vs.eraseIdx i)
  | [], vs, i, h => by simp only [RelL] at h; subst h; exact RelL.nil
  | a :: as, vs, 0, h => by
    simp only [RelL] at h
    obtain ⟨w, r, e1, h1, h2⟩ := h
    subst e1
    exact h2
  | a :: as, vs, i + 1, h => by
    simp only [RelL] at h
    obtain ⟨w, r, e1, h1, h2⟩ := h
    subst e1
    exact RelL.cons h1 (RelL.eraseIdx i h2)
theorem RelL.flatten_rep {as : List A} {vs : List V} (h : RelL D γ H as vs) : ∀ k : Nat, RelL D γ H (List.replicate k as).flatten (List.replicate k vs).flatten
  | 0 => RelL.nil
  | k + 1 => by
    rw [List.replicate_succ, List.replicate_succ, List.flatten_cons, List.flatten_cons]
    exact RelL.append h (RelL.flatten_rep h k)
end
def getF : List Nat → List A → Nat → Option A
  | n :: ns, a :: as, f => if n = f then some a else getF ns as f
  | _, _, _ => none
def putF (f : Nat) (a : A) : List Nat → List A → List Nat × List A
  | n :: ns, b :: bs => if n = f then (n :: ns, a :: bs) else let r := putF f a ns bs; (n :: r.1, b :: r.2)
  | _, _ => ([f], [a])
section
variable {D : Gd} {γ : Gh} {H : Hp}
theorem RelF.get : ∀ {ns : List Nat} {as : List A} {fs : List (Str × V)} {f : Nat} {a : A}, RelF D γ H ns as fs → f < D.nf → getF ns as f = some a → ∃ v, fs.lookup (D.fld f) = some v ∧ RelA D γ H a v
  | ns, [], fs, f, a, h, hf, e => by
    simp only [RelF] at h
    rw [h.1] at e
    simp [getF] at e
  | ns, b :: as, fs, f, a, h, hf, e => by
    simp only [RelF] at h
    obtain ⟨n, nr, v, r, e1, e2, h0, h1, h2⟩ := h
    subst e1; subst e2
    simp only [getF] at e
    by_cases q : n = f
    · rw [if_pos q] at e
      cases e
      refine ⟨v, ?_, h1⟩
      subst q
      simp [List.lookup]
    · rw [if_neg q] at e
      obtain ⟨w, hw, qw⟩ := RelF.get h2 hf e
      refine ⟨w, ?_, qw⟩
      have : (D.fld f == D.fld n) = false := beq_eq_false_iff_ne.mpr fun z => q (D.finj _ _ hf h0 z).symm
      simp only [List.lookup, this]
      exact hw
theorem RelF.none_of : ∀ {ns : List Nat} {as : List A} {fs : List (Str × V)} {x : Str}, RelF D γ H ns as fs → (∀ n, n < D.nf → D.fld n ≠ x) → fs.lookup x = none
  | ns, [], fs, x, h, hx => by
    simp only [RelF] at h
    rw [h.2]
    rfl
  | ns, b :: as, fs, x, h, hx => by
    simp only [RelF] at h
    obtain ⟨n, nr, v, r, e1, e2, h0, h1, h2⟩ := h
    subst e1; subst e2
    have : (x == D.fld n) = false := beq_eq_false_iff_ne.mpr fun z => hx n h0 z.symm
    simp only [List.lookup, this]
    exact RelF.none_of h2 hx
theorem RelF.put : ∀ {ns : List Nat} {as : List A} {fs : List (Str × V)} {f : Nat} {a : A} {v : V}, RelF D γ H ns as fs → f < D.nf → RelA D γ H a v → RelF D γ H (putF f a ns as).1 (putF f a ns as).2 (L2.putF (D.fld f) v fs)
  | ns, [], fs, f, a, v, h, hf, q => by
    simp only [RelF] at h
    rw [h.1, h.2]
    simp only [putF, L2.putF, RelF]
    exact ⟨f, [], v, [], rfl, rfl, hf, q, rfl, rfl⟩
  | ns, b :: as, fs, f, a, v, h, hf, q => by
    simp only [RelF] at h
    obtain ⟨n, nr, w, r, e1, e2, h0, h1, h2⟩ := h
    subst e1; subst e2
    by_cases z : n = f
    · subst z
      simp only [putF, L2.putF, if_true, RelF]
      exact ⟨n, nr, v, r, rfl, rfl, h0, q, h2⟩
    · have : ¬ D.fld n = D.fld f := fun y => z (D.finj _ _ h0 hf y)
      simp only [putF, L2.putF, if_neg z, if_neg this, RelF]
      exact ⟨n, _, w, _, rfl, rfl, h0, h1, RelF.put h2 hf q⟩
theorem RelF.length : ∀ {ns : List Nat} {as : List A} {fs : List (Str × V)}, RelF D γ H ns as fs → fs.length = as.length
  | ns, [], fs, h => by simp only [RelF] at h; rw [h.2]; rfl
  | ns, b :: as, fs, h => by
    simp only [RelF] at h
    obtain ⟨n, nr, w, r, e1, e2, h0, h1, h2⟩ := h
    rw [e2, List.length_cons, List.length_cons, RelF.length h2]
end
def RelO (D : Gd) (γ : Gh) (H : Hp) : LO → Addr → Prop
  | .lst xs, p => ∃ vs, H p = some (.lst vs) ∧ RelL D γ H xs vs
  | .ins C ns xs, p => ∃ dx fs, H p = some (.ins (D.ca C) dx fs) ∧ D.cls C = true ∧ H dx = some (.own p) ∧ (∀ y, H y = some (.own p) → ¬ γ.Om y ∧ (γ.H0 y = none ∨ γ.T y)) ∧ RelF D γ H ns xs fs
def fz : LO → A
  | .lst xs => .lst xs
  | .ins C ns xs => .obj C ns xs
structure Rel (D : Gd) (γ : Gh) (ρ : En) (g : GS) (σ : L2.St) (H : Hp) : Prop where
  len : ρ.length = σ.length
  va : ∀ (i : Nat) (a : A), ρ[i]? = some (some (Sl.va a)) → ∃ v, σ[i]? = some (some v) ∧ RelA D γ H a v
  ow : ∀ (i : Nat) (b : Bool) (o : LO), ρ[i]? = some (some (Sl.ow b o)) → σ[i]? = some (some (V.ref (γ.ow i))) ∧ RelO D γ H o (γ.ow i) ∧ ¬ γ.Om (γ.ow i) ∧ (γ.H0 (γ.ow i) = none ∨ (b = true ∧ γ.T (γ.ow i)))
  sz : γ.sz = g.length
  ob : ∀ (n : Nat) (o : LO), g[n]? = some o → RelO D γ H o (γ.al n) ∧ ¬ γ.Om (γ.al n) ∧ (γ.H0 (γ.al n) = none ∨ γ.T (γ.al n))
  ainj : ∀ n m, n < γ.sz → m < γ.sz → γ.al n = γ.al m → n = m
  oinj : ∀ (i j : Nat) (b b' : Bool) (o o' : LO), ρ[i]? = some (some (Sl.ow b o)) → ρ[j]? = some (some (Sl.ow b' o')) → γ.ow i = γ.ow j → i = j
  oa : ∀ (i : Nat) (b : Bool) (o : LO) (n : Nat), ρ[i]? = some (some (Sl.ow b o)) → n < γ.sz → γ.ow i ≠ γ.al n
  om : ∀ p, γ.Om p → H p ≠ none
  fr : ∀ p o, γ.H0 p = some o → ¬ γ.T p → H p = some o
  omN : ∀ p, γ.Om p → γ.Om0 p ∨ γ.H0 p = none
  om0 : ∀ p, γ.Om0 p → γ.Om p
  keep : ∀ p, γ.H0 p ≠ none → H p ≠ none
  iok : ∀ (i : Nat) (o : LO), ρ[i]? = some (some (Sl.ow true o)) → γ.ow i = γ.io i
  prk : ∀ p o, γ.pr p = some o → H p = some o ∧ (∃ xs, o = .lst xs) ∧ ¬ γ.Om p ∧ (∀ n, n < γ.sz → p ≠ γ.al n) ∧ ∀ (i : Nat) (b : Bool) (o : LO), ρ[i]? = some (some (Sl.ow b o)) → p ≠ γ.ow i
structure Nx0 (γ : Gh) (H : Hp) (γ' : Gh) (H' : Hp) : Prop extends Mono γ H γ' H' where
  h0 : γ'.H0 = γ.H0
  t : γ'.T = γ.T
  m0 : γ'.Om0 = γ.Om0
  pr : γ'.pr = γ.pr
  io : γ'.io = γ.io
  own : ∀ p q, H p = some (.own q) → H' p = some (.own q)
  keep : ∀ p, H p ≠ none → H' p ≠ none
  ownb : ∀ y p, H' y = some (.own p) → H p ≠ none → H y = some (.own p)
  kd : ∀ p xs, H p = some (.lst xs) → ∃ ys, H' p = some (.lst ys)
theorem Nx0.refl (γ : Gh) (H : Hp) : Nx0 γ H γ H := ⟨Mono.refl γ H, rfl, rfl, rfl, rfl, rfl, fun _ _ h => h, fun _ h => h, fun _ _ h _ => h, fun _ xs h => ⟨xs, h⟩⟩
theorem Nx0.trans {γ γ1 γ2 : Gh} {H H1 H2 : Hp} (a : Nx0 γ H γ1 H1) (b : Nx0 γ1 H1 γ2 H2) : Nx0 γ H γ2 H2 :=
  ⟨a.toMono.trans b.toMono, b.h0.trans a.h0, b.t.trans a.t, b.m0.trans a.m0, b.pr.trans a.pr, b.io.trans a.io, fun p q h => b.own p q (a.own p q h), fun p h => b.keep p (a.keep p h), fun y p h hp => a.ownb y p (b.ownb y p h (a.keep p hp)) hp, fun p xs h => let ⟨ys, e⟩ := a.kd p xs h; b.kd p ys e⟩
structure Nxt (γ : Gh) (H : Hp) (γ' : Gh) (H' : Hp) : Prop extends Nx0 γ H γ' H' where
  ow : γ'.ow = γ.ow
theorem Nxt.refl (γ : Gh) (H : Hp) : Nxt γ H γ H := ⟨Nx0.refl γ H, rfl⟩
theorem Nxt.trans {γ γ1 γ2 : Gh} {H H1 H2 : Hp} (a : Nxt γ H γ1 H1) (b : Nxt γ1 H1 γ2 H2) : Nxt γ H γ2 H2 :=
  ⟨a.toNx0.trans b.toNx0, b.ow.trans a.ow⟩
inductive Rv where
  | va (a : A)
  | nw (o : LO)
def fzR : Rv → A
  | .va a => a
  | .nw o => fz o
structure Free (γ : Gh) (ρ : En) (p : Addr) : Prop where
  om : ¬ γ.Om p
  h0 : γ.H0 p = none
  al : ∀ n, n < γ.sz → p ≠ γ.al n
  ow : ∀ (i : Nat) (b : Bool) (o : LO), ρ[i]? = some (some (Sl.ow b o)) → p ≠ γ.ow i
  pr : γ.pr p = none
def RelR (D : Gd) (γ : Gh) (ρ : En) (H : Hp) : Rv → V → Prop
  | .va a, v => RelA D γ H a v
  | .nw o, v => ∃ p, v = .ref p ∧ RelO D γ H o p ∧ Free γ ρ p ∧ (∀ dx fs C, H p = some (.ins C dx fs) → γ.H0 dx = none)
def Gh.froze (γ : Gh) (P : Addr → Prop) : Gh := { γ with Om := fun q => γ.Om q ∨ P q }
theorem froze_mono (γ : Gh) (P : Addr → Prop) (H : Hp) : Nxt γ H (γ.froze P) H :=
  ⟨⟨⟨fun _ h => .inl h, fun _ _ => rfl, Nat.le_refl _, fun _ _ => rfl⟩, rfl, rfl, rfl, rfl, rfl, fun _ _ h => h, fun _ h => h, fun _ _ h _ => h, fun _ xs h => ⟨xs, h⟩⟩, rfl⟩
theorem RelO.froze {D : Gd} {γ : Gh} {H : Hp} {P : Addr → Prop} {o : LO} {p : Addr} (h : RelO D γ H o p) (hd : ∀ dx, H dx = some (.own p) → ¬ P dx) : RelO D (γ.froze P) H o p := by
  cases o with
  | lst xs =>
    obtain ⟨vs, e, r⟩ := h
    exact ⟨vs, e, RelL.mono (froze_mono γ P H).toMono _ _ r⟩
  | ins C ns xs =>
    obtain ⟨dx, fs, e, hc, e1, n1, r⟩ := h
    exact ⟨dx, fs, e, hc, e1, fun y ey => ⟨fun z => z.elim (n1 y ey).1 (hd y ey), (n1 y ey).2⟩, RelF.mono (froze_mono γ P H).toMono _ _ _ r⟩
theorem RelO.at {D : Gd} {γ : Gh} {H : Hp} {o : LO} {p : Addr} (h : RelO D γ H o p) : ∃ u, H p = some u ∧ (∀ q, u ≠ .own q) := by
  cases o with
  | lst xs => obtain ⟨vs, e, _⟩ := h; exact ⟨_, e, fun q z => by cases z⟩
  | ins C ns xs => obtain ⟨dx, fs, e, _⟩ := h; exact ⟨_, e, fun q z => by cases z⟩
theorem Rel.froze {D : Gd} {γ : Gh} {ρ : En} {g : GS} {σ : L2.St} {H : Hp} {p dx : Addr} {u : HO} (R : Rel D γ ρ g σ H) (fp : Free γ ρ p) (hu : H p = some u) (nu : ∀ q, u ≠ .own q) (hd : dx = p ∨ (H dx = some (.own p) ∧ γ.H0 dx = none)) :
    Rel D (γ.froze fun q => q = p ∨ q = dx) ρ g σ H := by
  have hown : ∀ q y, q ≠ p → H y = some (.own q) → ¬ (y = p ∨ y = dx) := fun q y nq e z => by
    have h1 : ∀ y, H y = some (.own q) → y ≠ p := fun y e z => by
      subst z; rw [hu] at e; exact nu q (Option.some.inj e)
    rcases z with z | z
    · exact h1 y e z
    · rcases hd with hd | ⟨hd, _⟩
      · exact h1 y e (z.trans hd)
      · subst z
        rw [e] at hd
        injection hd with hd
        injection hd with hd
        exact nq hd
  have nP : ∀ q w, H q = some w → (∀ y, w ≠ .own y) → q ≠ p → ¬ (q = p ∨ q = dx) := fun q w e nw nq z => by
    rcases z with z | z
    · exact nq z
    · rcases hd with hd | ⟨hd, _⟩
      · exact nq (z.trans hd)
      · subst z
        rw [e] at hd
        exact nw p (Option.some.inj hd)
  have hdn : H dx ≠ none := by
    rcases hd with hd | ⟨hd, _⟩
    · rw [hd, hu]; exact fun y => by cases y
    · rw [hd]; exact fun y => by cases y
  have hd0 : γ.H0 dx = none := by
    rcases hd with hd | ⟨_, hd⟩
    · rw [hd]; exact fp.h0
    · exact hd
  have m := (froze_mono γ (fun q => q = p ∨ q = dx) H).toMono
  refine ⟨R.len, fun i a e => ?_, fun i b w e => ?_, R.sz, fun n w e => ?_, R.ainj, R.oinj, R.oa, fun q z => ?_, R.fr, fun q z => ?_, fun q z => .inl (R.om0 q z), R.keep, R.iok, fun q w e => ?_⟩
  · obtain ⟨v, e1, e2⟩ := R.va i a e
    exact ⟨v, e1, RelA.mono m _ _ e2⟩
  · obtain ⟨e1, e2, e3, e4⟩ := R.ow i b w e
    have ne : γ.ow i ≠ p := fun z => fp.ow i b w e z.symm
    obtain ⟨u2, hu2, nu2⟩ := e2.at
    exact ⟨e1, e2.froze fun dx q => hown _ dx ne q, fun z => z.elim e3 (nP _ _ hu2 nu2 ne), e4⟩
  · obtain ⟨e2, e3, e4⟩ := R.ob n w e
    have ln : n < γ.sz := by rw [R.sz]; exact (List.getElem?_eq_some_iff.mp e).1
    have ne : γ.al n ≠ p := fun z => fp.al n ln z.symm
    obtain ⟨u2, hu2, nu2⟩ := e2.at
    exact ⟨e2.froze fun dx q => hown _ dx ne q, fun z => z.elim e3 (nP _ _ hu2 nu2 ne), e4⟩
  · rcases z with z | z | z
    · exact R.om q z
    · subst z; rw [hu]; exact fun y => by cases y
    · subst z; exact hdn
  · rcases z with z | z | z
    · exact R.omN q z
    · subst z; exact .inr fp.h0
    · subst z; exact .inr hd0
  · obtain ⟨h1, ⟨xs, h2⟩, h3, h4, h5⟩ := R.prk q w e
    refine ⟨h1, ⟨xs, h2⟩, fun z => ?_, h4, h5⟩
    have nq : q ≠ p := fun z => by
      have e' : γ.pr q = some w := e
      rw [z, fp.pr] at e'; cases e'
    rcases z with z | z | z
    · exact h3 z
    · exact nq z
    · rcases hd with hd | ⟨hd, _⟩
      · exact nq (z.trans hd)
      · subst z
        rw [h1, h2] at hd
        cases hd
theorem Rel.freeze {D : Gd} {γ : Gh} {ρ : En} {g : GS} {σ : L2.St} {H : Hp} {o : LO} {v : V} (R : Rel D γ ρ g σ H) (h : RelR D γ ρ H (.nw o) v) :
    ∃ γ', Nxt γ H γ' H ∧ Rel D γ' ρ g σ H ∧ RelA D γ' H (fz o) v := by
  obtain ⟨p, rfl, ro, fp, hdx⟩ := h
  cases o with
  | lst xs =>
    obtain ⟨vs, e, r⟩ := ro
    refine ⟨γ.froze fun q => q = p ∨ q = p, froze_mono _ _ _, R.froze fp e (fun q z => by cases z) (.inl rfl), ?_⟩
    simp only [fz, RelA]
    exact ⟨p, vs, rfl, .inr (.inl rfl), e, RelL.mono (froze_mono _ _ _).toMono _ _ r⟩
  | ins C ns xs =>
    obtain ⟨dx, fs, e, hc, e1, n1, r⟩ := ro
    refine ⟨γ.froze fun q => q = p ∨ q = dx, froze_mono _ _ _, R.froze fp e (fun q z => by cases z) (.inr ⟨e1, hdx _ _ _ e⟩), ?_⟩
    simp only [fz, RelA]
    exact ⟨p, dx, fs, rfl, .inr (.inl rfl), .inr (.inr rfl), e, hc, RelF.mono (froze_mono _ _ _).toMono _ _ _ r⟩
end Eg
namespace Eg
open PySem PySem.Spec PyProof.Rows L2
inductive Res (α : Type) where
  | ok (x : α) (ρ : En) (g : GS)
  | ex (e : A) (ρ : En) (g : GS)
  | bad
def M (α : Type) := En → GS → Res α
@[inline] def M.pure {α : Type} (x : α) : M α := fun ρ g => .ok x ρ g
@[inline] def M.bind {α β : Type} (m : M α) (f : α → M β) : M β := fun ρ g => match m ρ g with
  | .ok x ρ g => f x ρ g
  | .ex e ρ g => .ex e ρ g
  | .bad => .bad
instance : Monad M where
  pure := M.pure
  bind := M.bind
def bad {α : Type} : M α := fun _ _ => .bad
def ofO {α : Type} : Option α → M α
  | some x => M.pure x
  | none => bad
inductive BOp | add | sub | mul | fdiv | mod | pow
  deriving DecidableEq
inductive COp | eq | ne | lt | le | gt | ge | isN | notN | inn | notIn
  deriving DecidableEq
inductive Ty | int | bool | str | list | tuple | dict | own (C : Nat)
  deriving DecidableEq
inductive Bi | len | abs | min2 | max2 | max3 | int1 | str1 | list1 | tuple1 | all1 | any1 | sum1 | repr1 | divmod2 | min1 | max1 | join | listr1 | listr3
  deriving DecidableEq
inductive Mk | append | pop0 | popAt | insert | reverse | clear | extend
  deriving DecidableEq
inductive ItK | seq | r1 | r2 | r3 | zip | enum
  deriving DecidableEq
inductive Tg
  | n (i : Nat)
  | t (is : List Nat)
inductive Ex where
  | v (i : Nat)
  | c (a : A)
  | gl (k : Nat)
  | bin (o : BOp) (a b : Ex)
  | neg (a : Ex)
  | cmp (o : COp) (a b : Ex)
  | cmp2 (o1 o2 : COp) (a b c : Ex)
  | not (a : Ex)
  | and (a b : Ex)
  | or (a b : Ex)
  | ite (c a b : Ex)
  | tup (es : List Ex)
  | lst (es : List Ex)
  | sub (a i : Ex)
  | slc (a lo hi : Ex)
  | rev (a : Ex)
  | fld (a : Ex) (f : Nat)
  | call (f : Nat) (es : List Ex)
  | make (C : Nat) (f : Nat) (es : List Ex)
  | meth (m : Nat) (a : Ex) (es : List Ex)
  | bi (b : Bi) (es : List Ex)
  | mut (k : Mk) (i : Nat) (es : List Ex)
  | isi (a : Ex) (ts : List Ty)
  | lc (elt : Ex) (tg : Tg) (k : ItK) (es : List Ex) (cond : Ex)
inductive St where
  | ex (e : Ex)
  | asg (tg : Tg) (e : Ex) (own : Bool)
  | par (is : List Nat) (es : List Ex)
  | augN (i : Nat) (o : BOp) (e : Ex)
  | setI (o i e : Ex)
  | augI (o i : Ex) (op : BOp) (e : Ex)
  | setF (o : Ex) (f : Nat) (e : Ex)
  | augF (o : Ex) (f : Nat) (op : BOp) (e : Ex)
  | ifs (c : Ex) (a b : List St)
  | for_ (tg : Tg) (k : ItK) (es : List Ex) (body : List St)
  | whl (c : Ex) (body : List St)
  | ret (e : Ex)
  | retN | brk | cnt | pass
  | rai (C : Nat) (es : List Ex)
inductive Ag where
  | va (a : A)
  | lo (o : LO)
inductive FR where
  | ok (r : Rv) (outs : List LO) (g : GS)
  | ex (e : A) (outs : List LO) (g : GS)
  | bad
structure Fn where
  io : List Bool
  run : List Ag → GS → FR
structure Tab where
  fn : Nat → Option Fn
  gl : Nat → Option A
  me : Nat → Nat → Option Nat
  oc : Nat → Nat → Option Bool
  ot : Nat → Bool
  bc : Nat → Bool
mutual
def A.py : A → Option PyData
  | .non => some .none
  | .bl b => some (.bool b)
  | .int i => some (.int i)
  | .str x => some (.str x)
  | .tup xs => (pyL xs).map .tuple
  | .lst xs => (pyL xs).map .list
  | .kl xs => (pyL xs).map .list
  | .obj _ _ _ => none
  | .exc _ _ _ => none
  | .ref _ => none
def pyL : List A → Option (List PyData)
  | [] => some []
  | a :: as => match a.py, pyL as with
    | some d, some ds => some (d :: ds)
    | _, _ => none
end
def eqD (x y : A) : Option Bool := match x.py, y.py with
  | some d, some e => if SeqAt.shaped d && SeqAt.shaped e then some (PyData.eqv d e) else none
  | _, _ => none
def eqA : A → A → Option Bool
  | .int i, .int j => some (decide (i = j))
  | .str i, .str j => some (decide (i = j))
  | .bl i, .bl j => some (decide (i = j))
  | .non, .non => some true
  | .non, .int _ => some false
  | .int _, .non => some false
  | x, y => eqD x y
def mulOk (i j : Int) : Bool := decide (i.natAbs.log2 + j.natAbs.log2 < 1000000)
def divOk (j : Int) : Bool := decide (0 < j) && decide (j.natAbs.log2 < 9000)
def powOk (i j : Int) : Bool := decide (0 ≤ j) && decide ((Builtin.Int.intBits i : Int) * j ≤ 2 ^ 27)
def lineOk (n : Nat) : Bool := decide (n ≤ sizeLine)
def guardO {α : Type} (b : Bool) (x : α) : Option α := if b then some x else none
def binA : BOp → A → A → Option Rv
  | .add, .int i, .int j => some (.va (.int (i + j)))
  | .sub, .int i, .int j => some (.va (.int (i - j)))
  | .mul, .int i, .int j => guardO (mulOk i j) (.va (.int (i * j)))
  | .fdiv, .int i, .int j => guardO (divOk j) (.va (.int (i / j)))
  | .mod, .int i, .int j => guardO (decide (0 < j)) (.va (.int (i % j)))
  | .pow, .int i, .int j => guardO (powOk i j) (.va (.int (i ^ j.toNat)))
  | .add, .str x, .str y => guardO (lineOk (x.length + y.length)) (.va (.str (x ++ y)))
  | .add, .lst xs, .lst ys => guardO (lineOk (xs.length + ys.length)) (.nw (.lst (xs ++ ys)))
  | .add, .tup (x :: xs), .tup ys => guardO (lineOk (xs.length + 1 + ys.length)) (.va (.tup (x :: xs ++ ys)))
  | .mul, .lst xs, .int k => guardO (decide (-(2 ^ 63) ≤ k) && decide (k < 2 ^ 63) && lineOk (xs.length * k.toNat)) (.nw (.lst (List.replicate k.toNat xs).flatten))
  | _, _, _ => none
def ordA : COp → Int → Int → Bool
  | .lt, i, j => decide (i < j)
  | .le, i, j => decide (i ≤ j)
  | .gt, i, j => decide (j < i)
  | .ge, i, j => decide (j ≤ i)
  | _, _, _ => false
def isNon : A → Bool
  | .non => true
  | _ => false
def cmpA : COp → A → A → Option Bool
  | .eq, x, y => eqA x y
  | .ne, x, y => (eqA x y).map (!·)
  | .isN, x, .non => some (isNon x)
  | .notN, x, .non => some (!isNon x)
  | .lt, .int i, .int j => some (decide (i < j))
  | .le, .int i, .int j => some (decide (i ≤ j))
  | .gt, .int i, .int j => some (decide (j < i))
  | .ge, .int i, .int j => some (decide (j ≤ i))
  | _, _, _ => none
inductive Bv where
  | va (a : A)
  | ow (i : Nat)
def lookOw (i : Nat) : M LO := fun ρ g => match ρ[i]? with
  | some (some (Sl.ow _ o)) => .ok o ρ g
  | _ => .bad
def setOw (i : Nat) (o : LO) : M Unit := fun ρ g => match ρ[i]? with
  | some (some (Sl.ow b _)) => .ok () (ρ.set i (some (.ow b o))) g
  | _ => .bad
inductive SK | tup | lst | kl | own
  deriving DecidableEq
inductive Ct where
  | str (x : Str)
  | seq (k : SK) (xs : List A)
  | ins (C : Nat) (ns : List Nat) (xs : List A)
def ctA : A → Option Ct
  | .str x => some (.str x)
  | .tup xs => some (.seq .tup xs)
  | .lst xs => some (.seq .lst xs)
  | .kl xs => some (.seq .kl xs)
  | .obj C ns xs => some (.ins C ns xs)
  | _ => none
def ctO : LO → Ct
  | .lst xs => .seq .own xs
  | .ins C ns xs => .ins C ns xs
def holdB : Bv → M Ct
  | .va a => ofO (ctA a)
  | .ow i => do let o ← lookOw i; pure (ctO o)
def rdV (i : Nat) : M A := fun ρ g => match ρ[i]? with
  | some (some (Sl.va a)) => .ok a ρ g
  | some (some (Sl.ow false (.lst xs))) => .ok (.lst xs) (ρ.set i (some (.va (.lst xs)))) g
  | _ => .bad
def brw (e : Ex) (m : M A) : M Bv := fun ρ g => match e with
  | .v i => match ρ[i]? with
    | some (some (Sl.va a)) => .ok (.va a) ρ g
    | some (some (Sl.ow _ _)) => .ok (.ow i) ρ g
    | _ => .bad
  | _ => match m ρ g with
    | .ok x ρ g => .ok (.va x) ρ g
    | .ex e ρ g => .ex e ρ g
    | .bad => .bad
def boolM : A → M Bool
  | .bl b => pure b
  | _ => bad
def intM : A → M Int
  | .int i => pure i
  | _ => bad
def isNonC : Ex → Bool
  | .c .non => true
  | _ => false
def partM (e : Ex) : A → M (Option Int)
  | .non => if isNonC e then pure none else bad
  | .int i => if isNonC e then bad else pure (some i)
  | _ => bad
def cutA (xs : List A) (lo hi : Option Int) : List A := (xs.drop (HT.sIx xs.length 0 lo)).take (HT.sIx xs.length xs.length hi - HT.sIx xs.length 0 lo)
def guardN {α : Type} (b : Bool) (x : α) : Option α := if b then some x else none
def slcC (c : Ct) (lo hi : Option Int) : Option Rv := match c with
  | .seq .tup xs => if decide ((cutA xs lo hi).length = xs.length) then none else some (.va (.tup (cutA xs lo hi)))
  | .seq _ xs => some (.nw (.lst (cutA xs lo hi)))
  | .str x => guardN (lineOk x.length) (.va (.str (cutS x lo hi)))
  | _ => none
def revC : Ct → Option Rv
  | .seq .tup _ => none
  | .seq _ xs => some (.nw (.lst xs.reverse))
  | _ => none
def subC (c : Ct) (k : A) : Option A := match c, k with
  | .str x, .int i => if lineOk x.length then (atI x.cps.toList i).map fun c => .str ⟨#[c]⟩ else none
  | .seq _ xs, .int i => atI xs i
  | _, _ => none
def lenC : Ct → Option A
  | .str x => guardN (lineOk x.length) (.int x.length)
  | .seq _ xs => some (.int xs.length)
  | _ => none
def fldC (f : Nat) : Ct → Option A
  | .ins _ ns xs => getF ns xs f
  | _ => none
def tyB (c : Ty) : Ty → Bool
  | .int => decide (c = .int) || decide (c = .bool)
  | t => decide (c = t)
def kindA : A → Option Ty
  | .bl _ => some .bool
  | .int _ => some .int
  | .str _ => some .str
  | .lst _ => some .list
  | .tup _ => some .tuple
  | .obj C _ _ => some (.own C)
  | _ => none
def tyIs (Φ : Tab) (x : A) (t : Ty) : Option Bool := match x, t with
  | .non, .own C => guardO (Φ.ot C) false
  | .non, _ => some false
  | x, t => match kindA x, t with
    | some (.own C), .own C' => Φ.oc C C'
    | some (.own C), _ => guardO (Φ.bc C) false
    | some _, .own C => guardO (Φ.ot C) false
    | some c, t => some (tyB c t)
    | none, _ => none
def allBl : List A → Option (List Bool)
  | [] => some []
  | .bl b :: as => (allBl as).map (b :: ·)
  | _ => none
def allInt : List A → Option (List Int)
  | [] => some []
  | .int b :: as => (allInt as).map (b :: ·)
  | _ => none
def reprD (x : A) : Option A := match x.py with
  | some d => guardO (d.showable && SeqAt.shaped d && decide (d.shown.length + 64 ≤ sizeLine)) (.str d.shown)
  | none => none
def bigIs : A → Option (List Int)
  | .tup xs => match allInt xs with
    | some is => guardO (is.all fun i => decide (i.natAbs < 10 ^ 4300)) is
    | none => none
  | _ => none
def bigT (is : List Int) : Str := tupleText (is.map fun i => (toString i : Str))
def reprA (x : A) : Option A := match reprD x with
  | some r => some r
  | none => match bigIs x with
    | some is => guardO (decide ((bigT is).length ≤ sizeLine)) (.str (bigT is))
    | none => none
def seqA : A → Option (List A)
  | .lst xs => some xs
  | .kl xs => some xs
  | .tup xs => some xs
  | _ => none
def lstA : A → Option (List A)
  | .lst xs => some xs
  | .kl xs => some xs
  | _ => none
def biA (b : Bi) (xs : List A) : Option Rv := match b, xs with
  | .abs, [.int i] => some (.va (.int (if i < 0 then -i else i)))
  | .min2, [.int i, .int j] => some (.va (.int (if j < i then j else i)))
  | .max2, [.int i, .int j] => some (.va (.int (if j > i then j else i)))
  | .int1, [.int i] => some (.va (.int i))
  | .int1, [.bl k] => some (.va (.int (if k then 1 else 0)))
  | .repr1, [x] => (reprA x).map .va
  | .list1, [x] => (seqA x).map fun xs => .nw (.lst xs)
  | .tuple1, [x] => (seqA x).map fun xs => .va (.tup xs)
  | .all1, [x] => (lstA x).bind fun xs => (allBl xs).map fun bs => .va (.bl (bs.all id))
  | .any1, [x] => (lstA x).bind fun xs => (allBl xs).map fun bs => .va (.bl (bs.any id))
  | .sum1, [x] => (lstA x).bind fun xs => (allInt xs).map fun bs => .va (.int bs.sum)
  | .str1, [.int i] => guardO (decide (i.natAbs.log2 < 1920)) (.va (.str (toString i)))
  | _, _ => none
def rngA (lo : Int) (n : Nat) : List A := (List.range n).map fun (k : Nat) => A.int (lo + ((k : Nat) : Int))
def itSq : List A → Option (List A)
  | [.lst xs] => some xs
  | [.kl xs] => some xs
  | [.tup xs] => some xs
  | [.str x] => guardO (lineOk x.length) (x.cps.toList.map fun c => .str ⟨#[c]⟩)
  | _ => none
def itR1 : List A → Option (List A)
  | [.int n] => guardO (decide (n < 2 ^ 62) && decide (-(2 ^ 62) ≤ n)) (rngA 0 n.toNat)
  | _ => none
def itR2 : List A → Option (List A)
  | [.int a, .int b] => guardO (decide (a < 2 ^ 62) && decide (-(2 ^ 62) ≤ a) && decide (b < 2 ^ 62) && decide (-(2 ^ 62) ≤ b)) (rngA a (b - a).toNat)
  | _ => none
def itA : ItK → List A → Option (List A)
  | .seq => itSq
  | .r1 => itR1
  | .r2 => itR2
  | _ => fun _ => none
def itM (k : ItK) (xs : List A) : M (List A) := ofO (itA k xs)
def setSl (i : Nat) (s : Sl) : M Unit := fun ρ g => if i < ρ.length then .ok () (ρ.set i (some s)) g else .bad
def setAll : List Nat → List A → M Unit
  | [], [] => pure ()
  | i :: is, a :: as => do setSl i (.va a); setAll is as
  | _, _ => bad
def tgM (t : Tg) (a : A) : M Unit := match t, a with
  | .n i, a => setSl i (.va a)
  | .t is, .tup as => setAll is as
  | .t is, .lst as => setAll is as
  | .t is, .kl as => setAll is as
  | .t _, _ => bad
def Tg.slots : Tg → List Nat
  | .n i => [i]
  | .t is => is
def wipeE (ρ : En) : List Nat → En
  | [] => ρ
  | v :: vs => (wipeE ρ vs).set v none
def restE (ρ0 ρ1 : En) : List Nat → En
  | [] => ρ1
  | v :: vs => (restE ρ0 ρ1 vs).set v (match ρ0[v]? with
    | some (some (Sl.va a)) => some (.va a)
    | _ => none)
def compM (vs : List Nat) (f : A → M (Option A)) : List A → List A → M (List A)
  | [], acc => pure acc
  | x :: xs, acc => fun ρ g => match f x (wipeE ρ vs) g with
    | .ok (some y) ρ1 g1 => if acc.length < sizeLine then compM vs f xs (acc ++ [y]) ρ1 g1 else .bad
    | .ok none ρ1 g1 => compM vs f xs acc ρ1 g1
    | .ex e ρ1 g1 => .ex e ρ1 g1
    | .bad => .bad
def compR (vs : List Nat) (f : A → M (Option A)) (xs : List A) : M Rv := fun ρ g => match compM vs f xs [] ρ g with
  | .ok ys ρ1 g1 => .ok (.nw (.lst ys)) (restE ρ ρ1 vs) g1
  | _ => .bad
inductive AV where
  | va (a : A)
  | io (i : Nat)
def argsOf : List AV → En → Option (List Ag)
  | [], _ => some []
  | .va a :: r, ρ => (argsOf r ρ).map (.va a :: ·)
  | .io i :: r, ρ => match ρ[i]? with
    | some (some (Sl.ow _ o)) => (argsOf r ρ).map (.lo o :: ·)
    | _ => none
def ioOf : List AV → List Nat
  | [] => []
  | .va _ :: r => ioOf r
  | .io i :: r => i :: ioOf r
def backE : List Nat → List LO → En → Option En
  | [], [], ρ => some ρ
  | i :: is, o :: os, ρ => match ρ[i]? with
    | some (some (Sl.ow b _)) => backE is os (ρ.set i (some (.ow b o)))
    | _ => none
  | _, _, _ => none
def callM (F : Fn) (avs : List AV) : M Rv := fun ρ g => match argsOf avs ρ with
  | none => .bad
  | some as => if (ioOf avs).Nodup then match F.run as g with
      | .ok r outs g1 => match backE (ioOf avs) outs ρ with
        | some ρ1 => .ok r ρ1 g1
        | none => .bad
      | .ex e outs g1 => match backE (ioOf avs) outs ρ with
        | some ρ1 => .ex e ρ1 g1
        | none => .bad
      | .bad => .bad
    else .bad
def fzM (m : M Rv) : M A := do let r ← m; pure (fzR r)
def isV : Ex → Option Nat
  | .v i => some i
  | _ => none
mutual
def evR (Φ : Tab) : Ex → M Rv
  | .v i => do let a ← rdV i; pure (.va a)
  | .c a => pure (.va a)
  | .gl k => do let a ← ofO (Φ.gl k); pure (.va a)
  | .bin o a b => do
    let x ← fzM (evR Φ a)
    let y ← fzM (evR Φ b)
    ofO (binA o x y)
  | .neg a => do
    let x ← fzM (evR Φ a)
    let i ← intM x
    pure (.va (.int (-i)))
  | .cmp o a b => do
    let x ← fzM (evR Φ a)
    let y ← fzM (evR Φ b)
    let k ← ofO (cmpA o x y)
    pure (.va (.bl k))
  | .cmp2 o1 o2 a b c => do
    let x ← fzM (evR Φ a)
    let y ← fzM (evR Φ b)
    let k ← ofO (cmpA o1 x y)
    if k then do
      let z ← fzM (evR Φ c)
      let k2 ← ofO (cmpA o2 y z)
      pure (.va (.bl k2))
    else pure (.va (.bl false))
  | .not a => do
    let x ← fzM (evR Φ a)
    let k ← boolM x
    pure (.va (.bl (!k)))
  | .and a b => do
    let x ← fzM (evR Φ a)
    let k ← boolM x
    if k then evR Φ b else pure (.va (.bl false))
  | .or a b => do
    let x ← fzM (evR Φ a)
    let k ← boolM x
    if k then pure (.va (.bl true)) else evR Φ b
  | .ite c a b => do
    let x ← fzM (evR Φ c)
    let k ← boolM x
    if k then evR Φ a else evR Φ b
  | .tup es => do
    let xs ← evL Φ es
    if lineOk xs.length then pure (.va (.tup xs)) else bad
  | .lst es => do
    let xs ← evL Φ es
    if lineOk xs.length then pure (.nw (.lst xs)) else bad
  | .sub a i => do
    let x ← brw a (fzM (evR Φ a))
    let k ← fzM (evR Φ i)
    let c ← holdB x
    let y ← ofO (subC c k)
    pure (.va y)
  | .slc a lo hi => do
    let x ← brw a (fzM (evR Φ a))
    let l ← fzM (evR Φ lo)
    let l' ← partM lo l
    let h ← fzM (evR Φ hi)
    let h' ← partM hi h
    let c ← holdB x
    ofO (slcC c l' h')
  | .rev a => do
    let x ← brw a (fzM (evR Φ a))
    let c ← holdB x
    ofO (revC c)
  | .fld a f => do
    let x ← brw a (fzM (evR Φ a))
    let c ← holdB x
    let y ← ofO (fldC f c)
    pure (.va y)
  | .call f es => do
    let F ← ofO (Φ.fn f)
    let avs ← evAV Φ es F.io
    callM F avs
  | .make C f es => bad
  | .meth m a es => bad
  | .bi .len [a] => do
    let x ← brw a (fzM (evR Φ a))
    let c ← holdB x
    let y ← ofO (lenC c)
    pure (.va y)
  | .bi b es => do
    let xs ← evL Φ es
    ofO (biA b xs)
  | .mut k i es => bad
  | .isi a ts => do
    let x ← fzM (evR Φ a)
    match ts with
    | [t] => do
      let k ← ofO (tyIs Φ x t)
      pure (.va (.bl k))
    | _ => bad
  | .lc elt tg k es cond => do
    let xs ← evL Φ es
    let items ← itM k xs
    compR tg.slots (fun x => do
      tgM tg x
      let c ← fzM (evR Φ cond)
      let c' ← boolM c
      if c' then do
        let y ← fzM (evR Φ elt)
        pure (some y)
      else pure none) items
def evL (Φ : Tab) : List Ex → M (List A)
  | [] => pure []
  | e :: es => do
    let x ← fzM (evR Φ e)
    let xs ← evL Φ es
    pure (x :: xs)
def evAV (Φ : Tab) : List Ex → List Bool → M (List AV)
  | [], [] => pure []
  | e :: es, b :: bs => do
    if b then match isV e with
      | some i => do
        let o ← lookOw i
        let r ← evAV Φ es bs
        pure (.io i :: r)
      | none => bad
    else do
      let x ← fzM (evR Φ e)
      let r ← evAV Φ es bs
      pure (.va x :: r)
  | _, _ => bad
end
abbrev evA (Φ : Tab) (e : Ex) : M A := fzM (evR Φ e)
inductive Out where
  | nx (ρ : En) (g : GS)
  | bk (ρ : En) (g : GS)
  | ct (ρ : En) (g : GS)
  | rt (r : Rv) (ρ : En) (g : GS)
  | ex (e : A) (ρ : En) (g : GS)
  | bad
def Out.then (o : Out) (f : En → GS → Out) : Out := match o with
  | .nx ρ g => f ρ g
  | o => o
def toOut {α : Type} (m : M α) (f : α → En → GS → Out) (ρ : En) (g : GS) : Out := match m ρ g with
  | .ok x ρ g => f x ρ g
  | .ex e ρ g => .ex e ρ g
  | .bad => .bad
def endN : M Unit → En → GS → Out := fun m => toOut m fun _ ρ g => .nx ρ g
def fuel : Nat := 10 ^ 60
def whlN (c : M Bool) (b : En → GS → Out) : Nat → En → GS → Out
  | 0, _, _ => .bad
  | n + 1, ρ, g => toOut c (fun k ρ g => if k then match b ρ g with
      | .nx ρ g => whlN c b n ρ g
      | .ct ρ g => whlN c b n ρ g
      | .bk ρ g => .nx ρ g
      | o => o
    else .nx ρ g) ρ g
def forN (t : A → M Unit) (b : En → GS → Out) : List A → En → GS → Out
  | [], ρ, g => .nx ρ g
  | x :: xs, ρ, g => toOut (t x) (fun _ ρ g => match b ρ g with
      | .nx ρ g => forN t b xs ρ g
      | .ct ρ g => forN t b xs ρ g
      | .bk ρ g => .nx ρ g
      | o => o) ρ g
def asgM (tg : Tg) (own : Bool) (r : Rv) : M Unit := match tg, own, r with
  | .n i, true, .nw (.lst xs) => setSl i (.ow false (.lst xs))
  | tg, _, r => tgM tg (fzR r)
def setB (b : Bv) (k a : A) : M Unit := match b, k with
  | .ow i, .int n => do match ← lookOw i with
    | .lst xs => do
      let j ← ofO (ixN xs.length n)
      setOw i (.lst (xs.set j a))
    | _ => bad
  | _, _ => bad
def getOwB (b : Bv) (k : A) : M A := match b, k with
  | .ow i, .int n => do match ← lookOw i with
    | .lst xs => ofO (atI xs n)
    | _ => bad
  | _, _ => bad
def setFB (b : Bv) (f : Nat) (a : A) : M Unit := match b with
  | .ow i => do match ← lookOw i with
    | .ins C ns xs => if ns.length < 900 then setOw i (.ins C (putF f a ns xs).1 (putF f a ns xs).2) else bad
    | _ => bad
  | _ => bad
def retR (e : Ex) (m : M Rv) : M Rv := fun ρ g => match e with
  | .v i => match ρ[i]? with
    | some (some (Sl.va a)) => .ok (.va a) ρ g
    | some (some (Sl.ow false (.lst xs))) => .ok (.nw (.lst xs)) (ρ.set i none) g
    | _ => .bad
  | _ => m ρ g
mutual
def exS (Φ : Tab) : St → En → GS → Out
  | .ex e => toOut (evR Φ e) fun _ ρ g => .nx ρ g
  | .asg tg e own => endN (do let r ← evR Φ e; asgM tg own r)
  | .par is es => endN (do let xs ← evL Φ es; setAll is xs)
  | .augN i o e => endN (do
    let x ← rdV i
    let y ← evA Φ e
    let r ← ofO (binA o x y)
    match r with
    | .va (.int z) => setSl i (.va (.int z))
    | _ => bad)
  | .setI o i e => endN (do
    let a ← evA Φ e
    let b ← brw o (evA Φ o)
    let k ← evA Φ i
    setB b k a)
  | .augI o i op e => endN (do
    let b ← brw o (evA Φ o)
    let k ← evA Φ i
    let x ← getOwB b k
    let y ← evA Φ e
    let r ← ofO (binA op x y)
    match r with
    | .va (.int z) => setB b k (.int z)
    | _ => bad)
  | .setF o f e => endN (do
    let a ← evA Φ e
    let b ← brw o (evA Φ o)
    setFB b f a)
  | .augF o f op e => fun _ _ => .bad
  | .ifs c a b => toOut (evA Φ c >>= boolM) fun k ρ g => if k then exL Φ a ρ g else exL Φ b ρ g
  | .for_ tg k es body => toOut (do let xs ← evL Φ es; itM k xs) fun items ρ g => forN (tgM tg) (exL Φ body) items ρ g
  | .whl c body => whlN (evA Φ c >>= boolM) (exL Φ body) fuel
  | .ret e => toOut (retR e (evR Φ e)) fun r ρ g => .rt r ρ g
  | .retN => fun ρ g => .rt (.va .non) ρ g
  | .brk => .bk
  | .cnt => .ct
  | .pass => .nx
  | .rai C es => fun _ _ => .bad
def exL (Φ : Tab) : List St → En → GS → Out
  | [] => .nx
  | s :: ss => fun ρ g => (exS Φ s ρ g).then (exL Φ ss)
end
def outsOf : List Bool → Nat → En → Option (List LO)
  | [], _, _ => some []
  | false :: bs, i, ρ => outsOf bs (i + 1) ρ
  | true :: bs, i, ρ => match ρ[i]? with
    | some (some (Sl.ow true o)) => (outsOf bs (i + 1) ρ).map (o :: ·)
    | _ => none
def slOf : Ag → Sl
  | .va a => .va a
  | .lo o => .ow true o
def agOk : List Bool → List Ag → Bool
  | [], [] => true
  | true :: bs, .lo _ :: as => agOk bs as
  | false :: bs, .va _ :: as => agOk bs as
  | _, _ => false
def runF (Φ : Tab) (io : List Bool) (n : Nat) (body : List St) (as : List Ag) (g : GS) : FR :=
  if agOk io as then
    match exL Φ body (as.map (fun a => some (slOf a)) ++ List.replicate (n - as.length) none) g with
    | .nx ρ g => match outsOf io 0 ρ with
      | some os => .ok (.va .non) os g
      | none => .bad
    | .rt r ρ g => match outsOf io 0 ρ with
      | some os => .ok r os g
      | none => .bad
    | .ex e ρ g => match outsOf io 0 ρ with
      | some os => .ex e os g
      | none => .bad
    | _ => .bad
  else .bad
def mkFn (Φ : Tab) (io : List Bool) (n : Nat) (body : List St) : Fn := ⟨io, runF Φ io n body⟩
end Eg
namespace Eg
open PySem PySem.Spec PyProof.Rows L2
section
variable {D : Gd} {γ γ' : Gh} {ρ : En} {g : GS} {σ : L2.St} {H H' : Hp}
theorem set_get {α : Type} {l : List α} {i j : Nat} {x y : α} (h : (l.set i x)[j]? = some y) : (i = j ∧ y = x ∧ i < l.length) ∨ (i ≠ j ∧ l[j]? = some y) := by
  by_cases e : i = j
  · subst e
    by_cases hl : i < l.length
    · rw [List.getElem?_set_self hl] at h
      exact .inl ⟨rfl, (Option.some.inj h).symm, hl⟩
    · rw [List.getElem?_eq_none (by simpa using hl)] at h
      cases h
  · rw [List.getElem?_set_ne e] at h
    exact .inr ⟨e, h⟩
theorem Rel.drop (R : Rel D γ ρ g σ H) (i : Nat) : Rel D γ (ρ.set i none) g σ H := by
  have f : ∀ {j : Nat} {s : Sl}, (ρ.set i none)[j]? = some (some s) → j ≠ i ∧ ρ[j]? = some (some s) := fun {j s} h => by
    rcases set_get h with ⟨_, e, _⟩ | ⟨ne, e⟩
    · cases e
    · exact ⟨fun z => ne z.symm, e⟩
  exact ⟨by rw [List.length_set]; exact R.len, fun j a e => R.va j a (f e).2, fun j b o e => R.ow j b o (f e).2, R.sz, R.ob, R.ainj,
    fun j k b b' o o' e e' => R.oinj j k b b' o o' (f e).2 (f e').2, fun j b o n e => R.oa j b o n (f e).2, R.om, R.fr, R.omN, R.om0, R.keep, fun j o e => R.iok j o (f e).2, fun q w e => let ⟨h1, h2, h3, h4, h5⟩ := R.prk q w e; ⟨h1, h2, h3, h4, fun j b o e => h5 j b o (f e).2⟩⟩
theorem Free.drop (F : Free γ ρ p) (i : Nat) : Free γ (ρ.set i none) p := ⟨F.om, F.h0, F.al, fun j b o e => by
  rcases set_get e with ⟨_, e, _⟩ | ⟨ne, e⟩
  · cases e
  · exact F.ow j b o e, F.pr⟩
theorem Rel.freed (R : Rel D γ ρ g σ H) {i : Nat} {o : LO} (e : ρ[i]? = some (some (Sl.ow false o))) : Free γ (ρ.set i none) (γ.ow i) := by
  obtain ⟨_, _, h1, h2⟩ := R.ow i false o e
  refine ⟨h1, ?_, fun n hn => R.oa i false o n e hn, fun j b o' e' z => ?_, ?_⟩
  · rcases h2 with h2 | ⟨h2, _⟩
    · exact h2
    · cases h2
  · rcases set_get e' with ⟨_, q, _⟩ | ⟨ne, q⟩
    · cases q
    · exact ne (R.oinj i j false b o o' e q z)
  · cases q : γ.pr (γ.ow i) with
    | none => rfl
    | some w => exact absurd rfl ((R.prk _ w q).2.2.2.2 i false o e)
theorem Rel.setVa (R : Rel D γ ρ g σ H) {i : Nat} {a : A} {v : V} (h : RelA D γ H a v) : Rel D γ (ρ.set i (some (.va a))) g (σ.set i (some v)) H := by
  have f : ∀ {j : Nat} {b : Bool} {o : LO}, (ρ.set i (some (Sl.va a)))[j]? = some (some (Sl.ow b o)) → i ≠ j ∧ ρ[j]? = some (some (Sl.ow b o)) := fun {j b o} h => by
    rcases set_get h with ⟨_, e, _⟩ | ⟨ne, e⟩
    · cases e
    · exact ⟨ne, e⟩
  refine ⟨by rw [List.length_set, List.length_set]; exact R.len, fun j b e => ?_, fun j b o e => ?_, R.sz, R.ob, R.ainj,
    fun j k b b' o o' e e' => R.oinj j k b b' o o' (f e).2 (f e').2, fun j b o n e => R.oa j b o n (f e).2, R.om, R.fr, R.omN, R.om0, R.keep, fun j o e => R.iok j o (f e).2, fun q w e => let ⟨h1, h2, h3, h4, h5⟩ := R.prk q w e; ⟨h1, h2, h3, h4, fun j b o e => h5 j b o (f e).2⟩⟩
  · rcases set_get e with ⟨rfl, q, hl⟩ | ⟨ne, q⟩
    · cases q
      exact ⟨v, by rw [List.getElem?_set_self (by rw [← R.len]; exact hl)], h⟩
    · obtain ⟨w, e1, e2⟩ := R.va j b q
      exact ⟨w, by rw [List.getElem?_set_ne ne]; exact e1, e2⟩
  · obtain ⟨ne, q⟩ := f e
    obtain ⟨e1, r⟩ := R.ow j b o q
    exact ⟨by rw [List.getElem?_set_ne ne]; exact e1, r⟩
theorem Rel.asVa (R : Rel D γ ρ g σ H) {i : Nat} {a : A} {v : V} (e : σ[i]? = some (some v)) (h : RelA D γ H a v) : Rel D γ (ρ.set i (some (.va a))) g σ H := by
  have := R.setVa (i := i) h
  rwa [show σ.set i (some v) = σ from by
    apply List.ext_getElem?
    intro j
    by_cases hj : i = j
    · subst hj
      have hl : i < σ.length := (List.getElem?_eq_some_iff.mp e).1
      rw [List.getElem?_set_self hl, e]
    · rw [List.getElem?_set_ne hj]] at this
def Gh.owned (γ : Gh) (i : Nat) (p : Addr) : Gh := { γ with ow := fun j => if j = i then p else γ.ow j }
theorem owned_nxt (γ : Gh) (i : Nat) (p : Addr) (H : Hp) : Nx0 γ H (γ.owned i p) H := ⟨⟨fun _ h => h, fun _ _ => rfl, Nat.le_refl _, fun _ _ => rfl⟩, rfl, rfl, rfl, rfl, rfl, fun _ _ h => h, fun _ h => h, fun _ _ h _ => h, fun _ xs h => ⟨xs, h⟩⟩
theorem owned_self (γ : Gh) (i : Nat) : (γ.owned i (γ.ow i)) = γ := by
  unfold Gh.owned
  have : (fun j => if j = i then γ.ow i else γ.ow j) = γ.ow := by
    funext j
    by_cases h : j = i
    · rw [if_pos h, h]
    · rw [if_neg h]
  rw [this]
theorem RelO.to {o : LO} {p : Addr} (m : Nx0 γ H γ' H') (h : RelO D γ H o p) (e : ∀ u, H p = some u → H' p = some u) (ed : ∀ dx, H' dx = some (.own p) → H dx = some (.own p) ∧ (γ'.Om dx → γ.Om dx)) : RelO D γ' H' o p := by
  cases o with
  | lst xs =>
    obtain ⟨vs, q, r⟩ := h
    exact ⟨vs, e _ q, RelL.mono m.toMono _ _ r⟩
  | ins C ns xs =>
    obtain ⟨dx, fs, q, hc, e1, n1, r⟩ := h
    exact ⟨dx, fs, e _ q, hc, m.own _ _ e1, fun y ey => ⟨fun z => (n1 y (ed y ey).1).1 ((ed y ey).2 z), by rw [m.h0, m.t]; exact (n1 y (ed y ey).1).2⟩, RelF.mono m.toMono _ _ _ r⟩
theorem Rel.own (R : Rel D γ ρ g σ H) {i : Nat} {p : Addr} {b : Bool} {o : LO} (hi : ρ[i]? = some none) (hσ : σ[i]? = some (some (.ref p))) (ho : RelO D γ H o p) (hm : ¬ γ.Om p) (h0 : γ.H0 p = none ∨ (b = true ∧ γ.T p))
    (ha : ∀ n, n < γ.sz → p ≠ γ.al n) (hw : ∀ j b o, ρ[j]? = some (some (Sl.ow b o)) → p ≠ γ.ow j) (hpr : γ.pr p = none) (hio : b = true → p = γ.io i) : Rel D (γ.owned i p) (ρ.set i (some (.ow b o))) g σ H := by
  have m := owned_nxt γ i p H
  have ro : ∀ {o : LO} {q : Addr}, RelO D γ H o q → RelO D (γ.owned i p) H o q := fun h => h.to m (fun _ e => e) fun _ e => ⟨e, fun z => z⟩
  have hl : i < ρ.length := (List.getElem?_eq_some_iff.mp hi).1
  have ow_ne : ∀ {j : Nat}, j ≠ i → (γ.owned i p).ow j = γ.ow j := fun h => if_neg h
  have ow_eq : (γ.owned i p).ow i = p := if_pos rfl
  have f : ∀ {j : Nat} {c : Bool} {u : LO}, (ρ.set i (some (Sl.ow b o)))[j]? = some (some (Sl.ow c u)) → (j = i ∧ c = b ∧ u = o) ∨ (j ≠ i ∧ ρ[j]? = some (some (Sl.ow c u))) := fun {j c u} h => by
    rcases set_get h with ⟨e, q, _⟩ | ⟨ne, q⟩
    · cases q; exact .inl ⟨e.symm, rfl, rfl⟩
    · exact .inr ⟨fun z => ne z.symm, q⟩
  refine ⟨by rw [List.length_set]; exact R.len, fun j a e => ?_, fun j c u e => ?_, R.sz, fun n u e => ?_, R.ainj, fun j k c c' u u' e e' z => ?_, fun j c u n e hn => ?_, R.om, R.fr, R.omN, R.om0, R.keep, fun j u e => ?_, fun q w e => ?_⟩
  · rcases set_get e with ⟨_, q, _⟩ | ⟨ne, q⟩
    · cases q
    · obtain ⟨v, e1, e2⟩ := R.va j a q
      exact ⟨v, e1, RelA.mono m.toMono _ _ e2⟩
  · rcases f e with ⟨rfl, rfl, rfl⟩ | ⟨ne, q⟩
    · rw [ow_eq]; exact ⟨hσ, ro ho, hm, h0⟩
    · rw [ow_ne ne]
      obtain ⟨e1, e2, e3, e4⟩ := R.ow j c u q
      exact ⟨e1, ro e2, e3, e4⟩
  · obtain ⟨e1, e2, e3⟩ := R.ob n u e
    exact ⟨ro e1, e2, e3⟩
  · rcases f e with ⟨rfl, _, _⟩ | ⟨ne, q⟩
    · rcases f e' with ⟨rfl, _, _⟩ | ⟨ne', q'⟩
      · rfl
      · rw [ow_eq, ow_ne ne'] at z
        exact absurd z (hw k c' u' q')
    · rcases f e' with ⟨rfl, _, _⟩ | ⟨ne', q'⟩
      · rw [ow_eq, ow_ne ne] at z
        exact absurd z.symm (hw j c u q)
      · rw [ow_ne ne, ow_ne ne'] at z
        exact R.oinj j k c c' u u' q q' z
  · rcases f e with ⟨rfl, _, _⟩ | ⟨ne, q⟩
    · rw [ow_eq]; exact ha n hn
    · rw [ow_ne ne]; exact R.oa j c u n q hn
  · rcases f e with ⟨rfl, rfl, _⟩ | ⟨ne, q⟩
    · rw [ow_eq]; exact hio rfl
    · rw [ow_ne ne]; exact R.iok j u q
  · obtain ⟨h1, h2, h3, h4, h5⟩ := R.prk q w e
    refine ⟨h1, h2, h3, h4, fun j c u e' => ?_⟩
    rcases f e' with ⟨rfl, _, _⟩ | ⟨ne, q'⟩
    · rw [ow_eq]
      intro z
      rw [z] at e
      rw [show γ.pr p = some w from e] at hpr
      cases hpr
    · rw [ow_ne ne]; exact h5 j c u q'
theorem Rel.updt (R : Rel D γ ρ g σ H) {p : Addr} {u : HO} (hm : ¬ γ.Om p) (h0 : γ.H0 p = none ∨ γ.T p) (ha : ∀ n, n < γ.sz → p ≠ γ.al n) (hw : ∀ (j : Nat) b o, ρ[j]? = some (some (Sl.ow b o)) → p ≠ γ.ow j)
    (hp : ∀ q, H p ≠ some (.own q)) (hpr : γ.pr p = none) (hun : ∀ q, u ≠ .own q) (hk : ∀ xs, H p = some (.lst xs) → ∃ ys, u = .lst ys) : Rel D γ ρ g σ (upd H p u) ∧ Nxt γ H γ (upd H p u) := by
  have m : Nxt γ H γ (L2.upd H p u) := ⟨⟨⟨fun _ h => h, fun q hq => upd_ne fun z => hm (z ▸ hq), Nat.le_refl _, fun _ _ => rfl⟩, rfl, rfl, rfl, rfl, rfl, fun q y h => by rw [upd_ne fun z : q = p => hp y (by rw [← z]; exact h)]; exact h, fun q h => by
    by_cases z : q = p
    · subst z; rw [upd_same]; exact fun y => by cases y
    · rw [upd_ne z]; exact h, fun y q h hq => by
    by_cases z : y = p
    · subst z; rw [upd_same] at h; exact absurd (Option.some.inj h) (hun q)
    · rwa [upd_ne z] at h, fun q xs h => by
    by_cases z : q = p
    · subst z
      obtain ⟨ys, e⟩ := hk xs h
      exact ⟨ys, by rw [upd_same, e]⟩
    · exact ⟨xs, by rw [upd_ne z]; exact h⟩⟩, rfl⟩
  have ro : ∀ {o : LO} {q : Addr}, q ≠ p → RelO D γ H o q → RelO D γ (L2.upd H p u) o q := fun {o q} nq h => h.to m.toNx0 (fun w e => by rw [upd_ne nq]; exact e) fun dx e => ⟨by
    by_cases z : dx = p
    · subst z
      rw [upd_same] at e
      exact absurd (Option.some.inj e) (hun q)
    · rwa [upd_ne z] at e, fun z => z⟩
  refine ⟨⟨R.len, fun j a e => ?_, fun j c w e => ?_, R.sz, fun n w e => ?_, R.ainj, R.oinj, R.oa, fun q hq => ?_, fun q w e t => ?_, R.omN, R.om0, fun q hq => ?_, R.iok, fun q w e => ?_⟩, m⟩
  · obtain ⟨v, e1, e2⟩ := R.va j a e
    exact ⟨v, e1, RelA.mono m.toMono _ _ e2⟩
  · obtain ⟨e1, e2, e3, e4⟩ := R.ow j c w e
    exact ⟨e1, ro (fun z => hw j c w e z.symm) e2, e3, e4⟩
  · obtain ⟨e1, e2, e3⟩ := R.ob n w e
    have ln : n < γ.sz := by rw [R.sz]; exact (List.getElem?_eq_some_iff.mp e).1
    exact ⟨ro (fun z => ha n ln z.symm) e1, e2, e3⟩
  · rw [m.kp q hq]; exact R.om q hq
  · rw [upd_ne ?_]
    · exact R.fr q w e t
    · intro z
      subst z
      rcases h0 with h0 | h0
      · rw [e] at h0; cases h0
      · exact t h0
  · by_cases z : q = p
    · subst z; rw [upd_same]; exact fun y => by cases y
    · rw [upd_ne z]; exact R.keep q hq
  · obtain ⟨h1, h2⟩ := R.prk q w e
    refine ⟨?_, h2⟩
    rw [upd_ne fun z => ?_]
    · exact h1
    · rw [z, hpr] at e; cases e
theorem Rel.fresh (R : Rel D γ ρ g σ H) {p : Addr} (hp : H p = none) : Free γ ρ p := by
  refine ⟨fun z => R.om p z hp, ?_, fun n hn z => ?_, fun j b o e z => ?_, ?_⟩
  · cases e : γ.H0 p with
    | none => rfl
    | some u => exact absurd hp (R.keep p (by rw [e]; exact fun y => by cases y))
  · have hl : n < g.length := by rw [← R.sz]; exact hn
    obtain ⟨e1, _⟩ := R.ob n g[n] (List.getElem?_eq_getElem hl)
    obtain ⟨u, e, _⟩ := e1.at
    rw [← z, hp] at e; cases e
  · obtain ⟨_, e1, _⟩ := R.ow j b o e
    obtain ⟨u, e, _⟩ := e1.at
    rw [← z, hp] at e; cases e
  · cases q : γ.pr p with
    | none => rfl
    | some w =>
      have := (R.prk _ w q).1
      rw [hp] at this
      cases this
theorem Rel.newLst (R : Rel D γ ρ g σ H) {p : Addr} {xs : List A} {vs : List V} (hp : H p = none) (h : RelL D γ H xs vs) :
    Rel D γ ρ g σ (upd H p (.lst vs)) ∧ Nxt γ H γ (upd H p (.lst vs)) ∧ RelR D γ ρ (upd H p (.lst vs)) (.nw (.lst xs)) (.ref p) := by
  have F := R.fresh hp
  obtain ⟨R1, m⟩ := R.updt (u := .lst vs) F.om (.inl F.h0) F.al F.ow (fun q => by rw [hp]; exact fun y => by cases y) F.pr (fun q z => by cases z) (fun xs e => by rw [hp] at e; cases e)
  refine ⟨R1, m, p, rfl, ⟨vs, upd_same, RelL.mono m.toMono _ _ h⟩, F, fun dx fs C e => ?_⟩
  rw [upd_same] at e; cases e
theorem Rel.newTup (R : Rel D γ ρ g σ H) {p : Addr} {xs : List A} {vs : List V} (hp : H p = none) (h : RelL D γ H xs vs) :
    ∃ γ', Rel D γ' ρ g σ (upd H p (.tup vs)) ∧ Nxt γ H γ' (upd H p (.tup vs)) ∧ RelA D γ' (upd H p (.tup vs)) (.tup xs) (.ref p) := by
  have F := R.fresh hp
  obtain ⟨R1, m⟩ := R.updt (u := .tup vs) F.om (.inl F.h0) F.al F.ow (fun q => by rw [hp]; exact fun y => by cases y) F.pr (fun q z => by cases z) (fun xs e => by rw [hp] at e; cases e)
  have R2 := R1.froze (p := p) (dx := p) F upd_same (fun q z => by cases z) (.inl rfl)
  have m2 := m.trans (froze_mono γ (fun q => q = p ∨ q = p) (L2.upd H p (.tup vs)))
  refine ⟨_, R2, m2, ?_⟩
  simp only [RelA]
  exact ⟨p, vs, rfl, .inl ⟨.inr (.inl rfl), upd_same⟩, RelL.mono m2.toMono _ _ h⟩
theorem Rel.freezeAt (R : Rel D γ ρ g σ H) {i : Nat} {o : LO} (e : ρ[i]? = some (some (Sl.ow false o))) (hd : ∀ dx fs C, H (γ.ow i) = some (.ins C dx fs) → γ.H0 dx = none) :
    ∃ γ' v, Nxt γ H γ' H ∧ σ[i]? = some (some v) ∧ Rel D γ' (ρ.set i (some (.va (fz o)))) g σ H ∧ RelA D γ' H (fz o) v := by
  obtain ⟨e1, e2, e3, e4⟩ := R.ow i false o e
  obtain ⟨γ', m, R1, r⟩ := (R.drop i).freeze (o := o) (v := .ref (γ.ow i)) ⟨_, rfl, e2, R.freed e, hd⟩
  refine ⟨γ', _, m, e1, ?_, r⟩
  have := R1.asVa e1 r
  rwa [List.set_set] at this
theorem Rel.setOw (R : Rel D γ ρ g σ H) {i : Nat} {b : Bool} {o o' : LO} {u : HO} (e : ρ[i]? = some (some (Sl.ow b o)))
    (hun : ∀ q, u ≠ .own q) (hk : ∀ xs, H (γ.ow i) = some (.lst xs) → ∃ ys, u = .lst ys) (ho : Nxt γ H γ (upd H (γ.ow i) u) → RelO D γ (upd H (γ.ow i) u) o' (γ.ow i)) : Rel D γ (ρ.set i (some (.ow b o'))) g σ (upd H (γ.ow i) u) ∧ Nxt γ H γ (upd H (γ.ow i) u) := by
  obtain ⟨e1, e2, e3, e4⟩ := R.ow i b o e
  obtain ⟨w, hw, nw⟩ := e2.at
  have hwd : ∀ (j : Nat) c z, (ρ.set i none)[j]? = some (some (Sl.ow c z)) → γ.ow i ≠ γ.ow j := fun j c z q => by
    rcases set_get q with ⟨_, q, _⟩ | ⟨ne, q⟩
    · cases q
    · exact fun y => ne (R.oinj i j b c o z e q y)
  have hpr : γ.pr (γ.ow i) = none := by
    cases q : γ.pr (γ.ow i) with
    | none => rfl
    | some w => exact absurd rfl ((R.prk _ w q).2.2.2.2 i b o e)
  obtain ⟨R1, m⟩ := (R.drop i).updt (u := u) e3 (e4.imp id And.right) (fun n hn => R.oa i b o n e hn) hwd (fun q => by rw [hw]; exact fun y => nw q (Option.some.inj y)) hpr hun hk
  have hl : i < ρ.length := (List.getElem?_eq_some_iff.mp e).1
  have R2 := R1.own (i := i) (p := γ.ow i) (b := b) (o := o') (List.getElem?_set_self hl) e1 (ho m) e3 e4 (fun n hn => R.oa i b o n e hn) hwd hpr (fun hb => by subst hb; exact R.iok i o e)
  rw [List.set_set, owned_self] at R2
  exact ⟨R2, m⟩
end
def RelX (D : Gd) (γ : Gh) (H : Hp) : A → Value → Option Addr → Prop
  | .exc C ns xs, cls, d => cls = .ref (D.ca C) ∧ ((ns = [] ∧ xs = [] ∧ d = none) ∨ ∃ dd fs, d = some dd ∧ γ.Om dd ∧ H dd = some (.xd fs) ∧ RelF D γ H ns xs fs)
  | _, _, _ => False
abbrev WX := L2.WX
def Post {α β : Type} (D : Gd) (W : WX) (T : Gh → En → Hp → α → β → Prop) (γ : Gh) (σ : L2.St) (H : Hp) (r : Res α) (Q : β → Hp → Prop) : Prop := match r with
  | .ok x ρ g => ∀ γ' H' v, Nxt γ H γ' H' → Rel D γ' ρ g σ H' → T γ' ρ H' x v → Q v H'
  | .ex e ρ g => ∀ γ' H' cls d, Nxt γ H γ' H' → Rel D γ' ρ g σ H' → RelX D γ' H' e cls d → W cls d σ H'
  | .bad => False
def Rg {α β : Type} (D : Gd) (W : WX) (T : Gh → En → Hp → α → β → Prop) (m : M α) (σ : L2.St) (H : Hp) (Q : β → Hp → Prop) : Prop :=
  ∃ γ ρ g, Rel D γ ρ g σ H ∧ Post D W T γ σ H (m ρ g) Q
section
variable {D : Gd} {W : WX} {α β α' β' : Type} {T : Gh → En → Hp → α → β → Prop} {T' : Gh → En → Hp → α' → β' → Prop} {γ γ' : Gh} {ρ : En} {g : GS} {σ : L2.St} {H H' : Hp}
theorem Post.nxt {r : Res α} {Q : β → Hp → Prop} (h : Post D W T γ σ H r Q) (m : Nxt γ H γ' H') : Post D W T γ' σ H' r Q := by
  cases r with
  | ok x ρ g => exact fun γ2 H2 v n R t => h γ2 H2 v (m.trans n) R t
  | ex e ρ g => exact fun γ2 H2 c d n R t => h γ2 H2 c d (m.trans n) R t
  | bad => exact h
theorem Post.mono {r : Res α} {Q Q' : β → Hp → Prop} (h : Post D W T γ σ H r Q) (q : ∀ v H, Q v H → Q' v H) : Post D W T γ σ H r Q' := by
  cases r with
  | ok x ρ g => exact fun γ2 H2 v n R t => q _ _ (h γ2 H2 v n R t)
  | ex e ρ g => exact h
  | bad => exact h
theorem Rg.mono {m : M α} {Q Q' : β → Hp → Prop} (h : Rg D W T m σ H Q) (q : ∀ v H, Q v H → Q' v H) : Rg D W T m σ H Q' := by
  obtain ⟨γ, ρ, g, R, P⟩ := h
  exact ⟨γ, ρ, g, R, P.mono q⟩
theorem Post.bind {m : M α} {f : α → M α'} {Q : β' → Hp → Prop} (R : Rel D γ ρ g σ H) (h : Post D W T' γ σ H ((m >>= f) ρ g) Q) :
    Rg D W T m σ H fun v H1 => ∃ x γ1 ρ1 g1, Nxt γ H γ1 H1 ∧ Rel D γ1 ρ1 g1 σ H1 ∧ T γ1 ρ1 H1 x v ∧ Post D W T' γ1 σ H1 (f x ρ1 g1) Q := by
  refine ⟨γ, ρ, g, R, ?_⟩
  have e : (m >>= f) ρ g = M.bind m f ρ g := rfl
  rw [e] at h
  unfold M.bind at h
  cases q : m ρ g with
  | ok x ρ1 g1 =>
    rw [q] at h
    exact fun γ' H' v n R' t => ⟨x, γ', ρ1, g1, n, R', t, Post.nxt h n⟩
  | ex e ρ1 g1 =>
    rw [q] at h
    exact h
  | bad =>
    rw [q] at h
    exact h.elim
theorem Post.pure {x : α} {v : β} {Q : β → Hp → Prop} (h : Post D W T γ σ H ((Pure.pure x : M α) ρ g) Q) (R : Rel D γ ρ g σ H) (t : T γ ρ H x v) : Q v H := h γ H v (Nxt.refl _ _) R t
theorem Post.pure' {x : α} {v : β} {Q : β → Hp → Prop} (h : Post D W T γ σ H ((Pure.pure x : M α) ρ g) Q) (m : Nxt γ H γ' H') (R : Rel D γ' ρ g σ H') (t : T γ' ρ H' x v) : Q v H' := h γ' H' v m R t
theorem Post.ofO {x : Option α} {Q : β → Hp → Prop} (h : Post D W T γ σ H (ofO x ρ g) Q) : ∃ y, x = some y ∧ Post D W T γ σ H ((Pure.pure y : M α) ρ g) Q := by
  cases x with
  | none => exact h.elim
  | some y => exact ⟨y, rfl, h⟩
theorem Post.bindO {x : Option α} {f : α → M α'} {Q : β' → Hp → Prop} (h : Post D W T' γ σ H ((Eg.ofO x >>= f) ρ g) Q) : ∃ y, x = some y ∧ Post D W T' γ σ H (f y ρ g) Q := by
  cases x with
  | none => exact h.elim
  | some y => exact ⟨y, rfl, h⟩
end
abbrev tE (D : Gd) (W : WX) (Φ : Tab) (m : Ex) : TE := Rg D W (fun γ ρ H r v => RelR D γ ρ H r v) (evR Φ m)
abbrev tA (D : Gd) (W : WX) (Φ : Tab) (m : Ex) : TE := Rg D W (fun γ _ H a v => RelA D γ H a v) (evA Φ m)
abbrev tLs (D : Gd) (W : WX) (Φ : Tab) (m : List Ex) : TA := Rg D W (fun γ _ H a v => RelL D γ H a v) (evL Φ m)
abbrev tTs (D : Gd) (W : WX) (Φ : Tab) (m : Ex) : TT := Rg D W (fun _ _ _ a b => a = b) (evA Φ m >>= boolM)
def RelB (D : Gd) (γ : Gh) (ρ : En) (H : Hp) : Bv → V → Prop
  | .va a, v => RelA D γ H a v
  | .ow i, v => v = .ref (γ.ow i) ∧ ∃ b o, ρ[i]? = some (some (Sl.ow b o))
abbrev tBs (D : Gd) (W : WX) (Φ : Tab) (m : Ex) : TE := Rg D W (fun γ ρ H a v => RelB D γ ρ H a v) (brw m (evA Φ m))
end Eg
namespace Eg
open PySem PySem.Spec PyProof.Rows L2
theorem PE.imp {X : Cx} {e : Expr} {t t' : TE} (h : PE X e t) (i : ∀ σ H Q, t' σ H Q → t σ H Q) : PE X e t' := ⟨fun pins s σ H Q I q => h.run pins s σ H Q I (i σ H Q q)⟩
theorem PT.imp {X : Cx} {e : Expr} {t t' : TT} (h : PT X e t) (i : ∀ σ H Q, t' σ H Q → t σ H Q) : PT X e t' := ⟨fun pins s σ H Q I q => h.run pins s σ H Q I (i σ H Q q)⟩
theorem PW.imp {X : Cx} {e : Expr} {t t' : TT} (h : PW X e t) (i : ∀ σ H Q, t' σ H Q → t σ H Q) : PW X e t' := ⟨fun wh pins s σ H Q I q => h.run wh pins s σ H Q I (i σ H Q q)⟩
theorem PA.imp {X : Cx} {e : List Expr} {t t' : TA} (h : PA X e t) (i : ∀ σ H Q, t' σ H Q → t σ H Q) : PA X e t' := ⟨fun p pins s σ H Q I q => h.run p pins s σ H Q I (i σ H Q q)⟩
theorem PS.imp {X : Cx} {e : Stmt} {t t' : TS} (h : PS X e t) (i : ∀ D σ H, t' D σ H → t D σ H) : PS X e t' := ⟨fun pins s σ H D I q => h.run pins s σ H D I (i D σ H q)⟩
theorem PSs.imp {X : Cx} {e : List Stmt} {t t' : TS} (h : PSs X e t) (i : ∀ D σ H, t' D σ H → t D σ H) : PSs X e t' := ⟨fun pins s σ H D I q => h.run pins s σ H D I (i D σ H q)⟩
section
variable {X : Cx} {D : Gd} {W : WX} {Φ : Tab} {pos : Pos} {a b c : Expr} {ma mb mc : Ex} {γ γ' : Gh} {ρ : En} {g : GS} {σ : L2.St} {H H' : Hp}
theorem M.assoc {α β δ : Type} (m : M α) (f : α → M β) (k : β → M δ) : (m >>= f) >>= k = m >>= fun x => f x >>= k := by
  funext ρ g
  show M.bind (M.bind m f) k ρ g = M.bind m (fun x => M.bind (f x) k) ρ g
  unfold M.bind
  cases m ρ g <;> rfl
theorem of_pure {α β : Type} {T : Gh → En → Hp → α → β → Prop} {x : α} {Q : β → Hp → Prop} (h : Post D W T γ σ H ((Pure.pure x : M α) ρ g) Q) (R : Rel D γ ρ g σ H) {v : β} (t : T γ ρ H x v) : Q v H := h γ H v (Nxt.refl _ _) R t
theorem tA_tE {m : Ex} {Q : VK} (h : tA D W Φ m σ H Q) : tE D W Φ m σ H Q := by
  obtain ⟨γ, ρ, g, R, P⟩ := h
  refine ⟨γ, ρ, g, R, ?_⟩
  have e : evA Φ m ρ g = M.bind (evR Φ m) (fun r => M.pure (fzR r)) ρ g := rfl
  rw [e] at P
  unfold M.bind at P
  cases q : evR Φ m ρ g with
  | ok r ρ1 g1 =>
    rw [q] at P
    intro γ' H' v n R' t
    cases r with
    | va a => exact P γ' H' v n R' t
    | nw o =>
      obtain ⟨γ2, n2, R2, t2⟩ := R'.freeze t
      exact P γ2 H' v (n.trans n2) R2 t2
  | ex e ρ1 g1 =>
    rw [q] at P
    exact P
  | bad =>
    rw [q] at P
    exact P.elim
theorem pA (h : PE X a (tE D W Φ ma)) : PE X a (tA D W Φ ma) := PE.imp h fun _ _ _ => tA_tE
theorem Post.raw {m : M Rv} {Q : VK} {r : Rv} (h : Post D W (fun γ ρ H r v => RelR D γ ρ H r v) γ σ H ((Pure.pure r : M Rv) ρ g) Q) (R : Rel D γ ρ g σ H) {v : V} (t : RelR D γ ρ H r v) : Q v H := h γ H v (Nxt.refl _ _) R t
theorem d_c {x : A} {v : V} (h : PE X a (tC v)) (r : ∀ γ H, RelA D γ H x v) : PE X a (tE D W Φ (.c x)) := PE.imp h fun σ H Q ⟨γ, ρ, g, R, P⟩ => by
  have P' : Post D W (fun γ ρ H r v => RelR D γ ρ H r v) γ σ H ((Pure.pure (Rv.va x) : M Rv) ρ g) Q := P
  exact of_pure P' R (r γ H)
theorem d_gl {x : A} {v : V} {k : Nat} (h : PE X a (tC v)) (e : Φ.gl k = some x) (r : ∀ γ H, RelA D γ H x v) : PE X a (tE D W Φ (.gl k)) := PE.imp h fun σ H Q ⟨γ, ρ, g, R, P⟩ => by
  have P' : Post D W (fun γ ρ H r v => RelR D γ ρ H r v) γ σ H ((do let a ← ofO (Φ.gl k); Pure.pure (Rv.va a) : M Rv) ρ g) Q := by simpa only [evR] using P
  obtain ⟨y, q, P1⟩ := Post.bindO P'
  rw [e] at q
  cases q
  exact of_pure P1 R (r γ H)
theorem rdV_post {i : Nat} {Q : VK} (R : Rel D γ ρ g σ H) (P : Post D W (fun γ _ H a v => RelA D γ H a v) γ σ H (rdV i ρ g) Q) :
    ∃ v, σ[i]? = some (some v) ∧ Q v H := by
  unfold rdV at P
  split at P
  · rename_i a e
    obtain ⟨v, h1, h2⟩ := R.va i a e
    exact ⟨v, h1, P γ H v (Nxt.refl _ _) R h2⟩
  · rename_i xs e
    obtain ⟨γ', v, n, e1, R1, r⟩ := R.freezeAt e fun dx fs C z => by
      obtain ⟨_, ⟨vs, q, _⟩, _⟩ := R.ow i false _ e
      rw [q] at z
      cases z
    exact ⟨v, e1, P γ' H v n R1 r⟩
  · exact P.elim
theorem d_v {i : Nat} (h : PE X a (tVar i)) : PE X a (tE D W Φ (.v i)) := PE.imp h fun σ H Q ⟨γ, ρ, g, R, P⟩ => by
  have P' : Post D W (fun γ ρ H r v => RelR D γ ρ H r v) γ σ H ((do let a ← rdV i; Pure.pure (Rv.va a) : M Rv) ρ g) Q := by simpa only [evR] using P
  have P2 : Post D W (fun γ _ H a v => RelA D γ H a v) γ σ H (rdV i ρ g) Q := by
    have e : (do let a ← rdV i; Pure.pure (Rv.va a) : M Rv) ρ g = M.bind (rdV i) (fun a => M.pure (Rv.va a)) ρ g := rfl
    rw [e] at P'
    unfold M.bind at P'
    cases q : rdV i ρ g with
    | ok x ρ1 g1 => rw [q] at P'; exact P'
    | ex x ρ1 g1 => rw [q] at P'; exact P'
    | bad => rw [q] at P'; exact P'
  exact rdV_post R P2
theorem d_bin {o : BOp} {op : Operator} {r : R2} (ho : OpR X (binaryOp op) r) (ha : PE X a (tE D W Φ ma)) (hb : PE X b (tE D W Φ mb))
    (hr : ∀ x y r' γ ρ g σ H v u (Q : VK), Rel D γ ρ g σ H → RelA D γ H x v → RelA D γ H y u → binA o x y = some r' → Post D W (fun γ ρ H r v => RelR D γ ρ H r v) γ σ H ((Pure.pure r' : M Rv) ρ g) Q → r v u H Q) :
    PE X (.BinOp a op b pos) (tE D W Φ (.bin o ma mb)) := PE.imp (pe_op ho (pA ha) (pA hb)) fun σ H Q ⟨γ, ρ, g, R, P⟩ => by
  have P' : Post D W (fun γ ρ H r v => RelR D γ ρ H r v) γ σ H ((do let x ← evA Φ ma; let y ← evA Φ mb; ofO (binA o x y) : M Rv) ρ g) Q := by simpa only [evR] using P
  refine Rg.mono (Post.bind R P') fun v H1 ⟨x, γ1, ρ1, g1, n1, R1, r1, P1⟩ => ?_
  refine Rg.mono (Post.bind R1 P1) fun u H2 ⟨y, γ2, ρ2, g2, n2, R2, r2, P2⟩ => ?_
  obtain ⟨r', e, P3⟩ := Post.ofO P2
  exact hr x y r' γ2 ρ2 g2 σ H2 v u Q R2 (RelA.mono n2.toMono _ _ r1) r2 e P3
theorem d_cmpG {o : COp} {r : R2} {e : Expr} (h : PE X e (tOp r (tA D W Φ ma) (tA D W Φ mb)))
    (hr : ∀ x y k γ σ H ρ g v u (Q : VK), Rel D γ ρ g σ H → RelA D γ H x v → RelA D γ H y u → cmpA o x y = some k → Q (.bl k) H → r v u H Q) :
    PE X e (tE D W Φ (.cmp o ma mb)) := PE.imp h fun σ H Q ⟨γ, ρ, g, R, P⟩ => by
  have P' : Post D W (fun γ ρ H r v => RelR D γ ρ H r v) γ σ H ((do let x ← evA Φ ma; let y ← evA Φ mb; let k ← ofO (cmpA o x y); Pure.pure (Rv.va (.bl k)) : M Rv) ρ g) Q := by simpa only [evR] using P
  refine Rg.mono (Post.bind R P') fun v H1 ⟨x, γ1, ρ1, g1, n1, R1, r1, P1⟩ => ?_
  refine Rg.mono (Post.bind R1 P1) fun u H2 ⟨y, γ2, ρ2, g2, n2, R2, r2, P2⟩ => ?_
  obtain ⟨k, e, P3⟩ := Post.bindO P2
  exact hr x y k γ2 σ H2 ρ2 g2 v u Q R2 (RelA.mono n2.toMono _ _ r1) r2 e (of_pure P3 R2 (by simp only [RelR, RelA]))
theorem tT_of {m : Ex} {Q : Bool → Hp → Prop} (h : tTs D W Φ m σ H Q) : tA D W Φ m σ H fun v H1 => ∃ k, v = .bl k ∧ Q k H1 := by
  obtain ⟨γ, ρ, g, R, P⟩ := h
  refine Rg.mono (Post.bind R P) fun v H1 ⟨x, γ1, ρ1, g1, n1, R1, r1, P1⟩ => ?_
  cases x with
  | bl k =>
    simp only [RelA] at r1
    exact ⟨k, r1, of_pure (v := k) P1 R1 rfl⟩
  | _ => exact P1.elim
theorem p_val {m : Ex} (h : PE X a (tE D W Φ m)) (he : ∀ whole, isTrue a X.env whole = (do let v ← whole; standAt a.pos; holding [v] (truthy v))) : PT X a (tTs D W Φ m) :=
  PT.imp (pt_val (pA h) he) fun σ H Q q => tT_of q
theorem p_cmpG {o : COp} {r : R2} {e : Expr} (h : PT X e (tTest (tOp r (tA D W Φ ma) (tA D W Φ mb))))
    (hr : ∀ x y k γ σ H ρ g v u (Q : VK), Rel D γ ρ g σ H → RelA D γ H x v → RelA D γ H y u → cmpA o x y = some k → Q (.bl k) H → r v u H Q) :
    PT X e (tTs D W Φ (.cmp o ma mb)) := PT.imp h fun σ H Q q => by
  obtain ⟨γ, ρ, g, R, P⟩ := tA_tE (tT_of q)
  have P' : Post D W (fun γ ρ H r v => RelR D γ ρ H r v) γ σ H ((do let x ← evA Φ ma; let y ← evA Φ mb; let k ← ofO (cmpA o x y); Pure.pure (Rv.va (.bl k)) : M Rv) ρ g) (fun v H1 => ∃ k, v = .bl k ∧ Q k H1) := by simpa only [evR] using P
  refine Rg.mono (Post.bind R P') fun v H1 ⟨x, γ1, ρ1, g1, n1, R1, r1, P1⟩ => ?_
  refine Rg.mono (Post.bind R1 P1) fun u H2 ⟨y, γ2, ρ2, g2, n2, R2, r2, P2⟩ => ?_
  obtain ⟨k, e, P3⟩ := Post.bindO P2
  exact hr x y k γ2 σ H2 ρ2 g2 v u _ R2 (RelA.mono n2.toMono _ _ r1) r2 e (of_pure P3 R2 (by simp only [RelR, RelA]))
theorem d_not (h : PT X a (tTs D W Φ ma)) (hv : PE X a (tE D W Φ ma)) : PE X (.UnaryOp .Not a pos) (tE D W Φ (.not ma)) := PE.imp (pe_not (pA hv)) fun σ H Q ⟨γ, ρ, g, R, P⟩ => by
  have P' : Post D W (fun γ ρ H r v => RelR D γ ρ H r v) γ σ H ((do let x ← evA Φ ma; let k ← boolM x; Pure.pure (Rv.va (.bl (!k))) : M Rv) ρ g) Q := by simpa only [evR] using P
  refine Rg.mono (Post.bind R P') fun v H1 ⟨x, γ1, ρ1, g1, n1, R1, r1, P1⟩ => ?_
  cases x with
  | bl k =>
    simp only [RelA] at r1
    exact ⟨k, r1, of_pure P1 R1 (by simp only [RelR, RelA])⟩
  | _ => exact P1.elim
theorem p_not (h : PT X a (tTs D W Φ ma)) : PT X (.UnaryOp .Not a pos) (tTs D W Φ (.not ma)) := PT.imp (pt_not h) fun σ H Q q => by
  obtain ⟨γ, ρ, g, R, P⟩ := tA_tE (tT_of q)
  have P' : Post D W (fun γ ρ H r v => RelR D γ ρ H r v) γ σ H (((evA Φ ma >>= boolM) >>= fun k => (Pure.pure (Rv.va (.bl (!k))) : M Rv)) ρ g) (fun v H1 => ∃ k, v = .bl k ∧ Q k H1) := by
    rw [M.assoc]
    simpa only [evR] using P
  refine Rg.mono (Post.bind R P') fun v H1 ⟨x, γ1, ρ1, g1, n1, R1, r1, P1⟩ => ?_
  cases r1
  obtain ⟨k, e, q⟩ := of_pure P1 R1 (v := .bl (!v)) (by simp only [RelR, RelA])
  injection e with e
  rw [e]
  exact q
end
end Eg
namespace Eg
open PySem PySem.Spec PyProof.Rows L2
section
variable {X : Cx} {D : Gd} {W : WX} {Φ : Tab} {pos : Pos} {a b c : Expr} {ma mb mc : Ex} {γ γ' : Gh} {ρ : En} {g : GS} {σ : L2.St} {H H' : Hp} {es : List Expr} {ms : List Ex} {rest : List Expr}
abbrev TR (D : Gd) : Gh → En → Hp → Rv → V → Prop := fun γ ρ H r v => RelR D γ ρ H r v
abbrev TAr (D : Gd) : Gh → En → Hp → A → V → Prop := fun γ _ H a v => RelA D γ H a v
abbrev TB : Gh → En → Hp → Bool → Bool → Prop := fun _ _ _ a b => a = b
theorem Post.toA {m : M Rv} {Q : VK} (h : Post D W (TAr D) γ σ H (fzM m ρ g) Q) : Post D W (TR D) γ σ H (m ρ g) Q := by
  have e : fzM m ρ g = M.bind m (fun r => M.pure (fzR r)) ρ g := rfl
  rw [e] at h
  unfold M.bind at h
  cases q : m ρ g with
  | ok r ρ1 g1 =>
    rw [q] at h
    intro γ' H' v n R' t
    cases r with
    | va a => exact h γ' H' v n R' t
    | nw o =>
      obtain ⟨γ2, n2, R2, t2⟩ := R'.freeze t
      exact h γ2 H' v (n.trans n2) R2 t2
  | ex e ρ1 g1 => rw [q] at h; exact h
  | bad => rw [q] at h; exact h.elim
theorem post_if {k : Bool} {r : Rv} {m2 : M Rv} {Q : VK} : Post D W (TR D) γ σ H ((if k then m2 else Pure.pure r) ρ g) Q → if k = true then Post D W (TR D) γ σ H (m2 ρ g) Q else Post D W (TR D) γ σ H ((Pure.pure r : M Rv) ρ g) Q := by
  cases k <;> exact id
theorem d_one {op} (h : PE X a (tE D W Φ ma)) : PE X (.BoolOp op [a] pos) (tE D W Φ ma) := pe_one h
theorem d_and (ha : PE X a (tE D W Φ ma)) (hb : PE X (.BoolOp .And (b :: rest) pos) (tE D W Φ mb)) : PE X (.BoolOp .And (a :: b :: rest) pos) (tE D W Φ (.and ma mb)) := PE.imp (pe_and (pA ha) hb) fun σ H Q ⟨γ, ρ, g, R, P⟩ => by
  have P' : Post D W (TR D) γ σ H ((do let x ← evA Φ ma; let k ← boolM x; if k then evR Φ mb else Pure.pure (Rv.va (.bl false)) : M Rv) ρ g) Q := by simpa only [evR] using P
  refine Rg.mono (Post.bind R P') fun v H1 ⟨x, γ1, ρ1, g1, n1, R1, r1, P1⟩ => ?_
  cases x with
  | bl k =>
    simp only [RelA] at r1
    refine ⟨k, r1, ?_⟩
    cases k with
    | true => exact ⟨γ1, ρ1, g1, R1, P1⟩
    | false => exact of_pure P1 R1 (by simp only [RelR, RelA])
  | _ => exact P1.elim
theorem d_or (ha : PE X a (tE D W Φ ma)) (hb : PE X (.BoolOp .Or (b :: rest) pos) (tE D W Φ mb)) : PE X (.BoolOp .Or (a :: b :: rest) pos) (tE D W Φ (.or ma mb)) := PE.imp (pe_or (pA ha) hb) fun σ H Q ⟨γ, ρ, g, R, P⟩ => by
  have P' : Post D W (TR D) γ σ H ((do let x ← evA Φ ma; let k ← boolM x; if k then Pure.pure (Rv.va (.bl true)) else evR Φ mb : M Rv) ρ g) Q := by simpa only [evR] using P
  refine Rg.mono (Post.bind R P') fun v H1 ⟨x, γ1, ρ1, g1, n1, R1, r1, P1⟩ => ?_
  cases x with
  | bl k =>
    simp only [RelA] at r1
    refine ⟨k, r1, ?_⟩
    cases k with
    | true => exact of_pure P1 R1 (by simp only [RelR, RelA])
    | false => exact ⟨γ1, ρ1, g1, R1, P1⟩
  | _ => exact P1.elim
theorem tT_in {m : Ex} {Q : Bool → Hp → Prop} (R : Rel D γ ρ g σ H) (P : Post D W TB γ σ H ((evA Φ m >>= boolM) ρ g) Q) : tTs D W Φ m σ H Q := ⟨γ, ρ, g, R, P⟩
theorem p_one_and (h : PT X a (tTs D W Φ ma)) : PW X (.BoolOp .And [a] pos) (tTs D W Φ ma) := pw_and1 h
theorem p_one_or (h : PT X a (tTs D W Φ ma)) : PW X (.BoolOp .Or [a] pos) (tTs D W Φ ma) := pw_or1 h
theorem p_and (ha : PT X a (tTs D W Φ ma)) (hb : PW X (.BoolOp .And (b :: rest) pos) (tTs D W Φ mb)) : PW X (.BoolOp .And (a :: b :: rest) pos) (tTs D W Φ (.and ma mb)) := PW.imp (pw_and ha hb) fun σ H Q ⟨γ, ρ, g, R, P⟩ => by
  have e : (evA Φ (.and ma mb) >>= boolM) = (evA Φ ma >>= boolM) >>= fun k => if k then (evA Φ mb >>= boolM) else Pure.pure false := by
    funext ρ g
    rw [M.assoc]
    simp only [evA, fzM, evR, bind, M.bind, pure, M.pure]
    cases evR Φ ma ρ g with
    | ok r ρ g =>
      simp only []
      cases boolM (fzR r) ρ g with
      | ok k ρ g =>
        cases k with
        | true => simp only [if_true]; rfl
        | false => simp [fzR, boolM, pure, M.pure]
      | ex e ρ g => rfl
      | bad => rfl
    | ex e ρ g => rfl
    | bad => rfl
  rw [e] at P
  refine Rg.mono (Post.bind R P) fun v H1 ⟨x, γ1, ρ1, g1, n1, R1, r1, P1⟩ => ?_
  cases r1
  cases v with
  | true => exact ⟨γ1, ρ1, g1, R1, P1⟩
  | false => exact of_pure (v := false) P1 R1 rfl
theorem p_or (ha : PT X a (tTs D W Φ ma)) (hb : PW X (.BoolOp .Or (b :: rest) pos) (tTs D W Φ mb)) : PW X (.BoolOp .Or (a :: b :: rest) pos) (tTs D W Φ (.or ma mb)) := PW.imp (pw_or ha hb) fun σ H Q ⟨γ, ρ, g, R, P⟩ => by
  have e : (evA Φ (.or ma mb) >>= boolM) = (evA Φ ma >>= boolM) >>= fun k => if k then Pure.pure true else (evA Φ mb >>= boolM) := by
    funext ρ g
    rw [M.assoc]
    simp only [evA, fzM, evR, bind, M.bind, pure, M.pure]
    cases evR Φ ma ρ g with
    | ok r ρ g =>
      simp only []
      cases boolM (fzR r) ρ g with
      | ok k ρ g =>
        cases k with
        | false => simp; rfl
        | true => simp [fzR, boolM, pure, M.pure]
      | ex e ρ g => rfl
      | bad => rfl
    | ex e ρ g => rfl
    | bad => rfl
  rw [e] at P
  refine Rg.mono (Post.bind R P) fun v H1 ⟨x, γ1, ρ1, g1, n1, R1, r1, P1⟩ => ?_
  cases r1
  cases v with
  | false => exact ⟨γ1, ρ1, g1, R1, P1⟩
  | true => exact of_pure (v := true) P1 R1 rfl
theorem d_ite (hc : PT X c (tTs D W Φ mc)) (ha : PE X a (tE D W Φ ma)) (hb : PE X b (tE D W Φ mb)) : PE X (.IfExp c a b pos) (tE D W Φ (.ite mc ma mb)) := PE.imp (pe_ifExp hc ha hb) fun σ H Q ⟨γ, ρ, g, R, P⟩ => by
  have P' : Post D W (TR D) γ σ H (((evA Φ mc >>= boolM) >>= fun k => if k then evR Φ ma else evR Φ mb) ρ g) Q := by
    rw [M.assoc]
    simpa only [evR] using P
  refine Rg.mono (Post.bind R P') fun v H1 ⟨x, γ1, ρ1, g1, n1, R1, r1, P1⟩ => ?_
  cases r1
  cases v with
  | true => exact ⟨γ1, ρ1, g1, R1, P1⟩
  | false => exact ⟨γ1, ρ1, g1, R1, P1⟩
theorem l_nil : PA X [] (tLs D W Φ []) := PA.imp pa_nil fun σ H Q ⟨γ, ρ, g, R, P⟩ => by
  have P' : Post D W (fun γ _ H a v => RelL D γ H a v) γ σ H ((Pure.pure [] : M (List A)) ρ g) Q := by simpa only [evL] using P
  exact of_pure P' R RelL.nil
theorem l_cons (ha : PE X a (tE D W Φ ma)) (hr : PA X es (tLs D W Φ ms)) (hs : starEach (a :: es) X.env = (false, eval a X.env) :: starEach es X.env) : PA X (a :: es) (tLs D W Φ (ma :: ms)) := PA.imp (pa_cons (pA ha) hr hs) fun σ H Q ⟨γ, ρ, g, R, P⟩ => by
  have P' : Post D W (fun γ _ H a v => RelL D γ H a v) γ σ H ((do let x ← evA Φ ma; let xs ← evL Φ ms; Pure.pure (x :: xs) : M (List A)) ρ g) Q := by simpa only [evL] using P
  refine Rg.mono (Post.bind R P') fun v H1 ⟨x, γ1, ρ1, g1, n1, R1, r1, P1⟩ => ?_
  refine Rg.mono (Post.bind R1 P1) fun vs H2 ⟨xs, γ2, ρ2, g2, n2, R2, r2, P2⟩ => ?_
  exact of_pure P2 R2 (RelL.cons (RelA.mono n2.toMono _ _ r1) r2)
theorem d_lst (h : PA X es (tLs D W Φ ms)) : PE X (.List es pos) (tE D W Φ (.lst ms)) := PE.imp (pe_lst h) fun σ H Q ⟨γ, ρ, g, R, P⟩ => by
  have P' : Post D W (TR D) γ σ H ((do let xs ← evL Φ ms; if lineOk xs.length then Pure.pure (Rv.nw (.lst xs)) else bad : M Rv) ρ g) Q := by simpa only [evR] using P
  refine Rg.mono (Post.bind R P') fun vs H1 ⟨xs, γ1, ρ1, g1, n1, R1, r1, P1⟩ => ?_
  cases hl : lineOk xs.length with
  | false => rw [hl] at P1; exact P1.elim
  | true =>
    rw [hl] at P1
    refine ⟨by rw [← RelL.length r1]; exact of_decide_eq_true hl, fun p hp => ?_⟩
    obtain ⟨R2, n2, r2⟩ := R1.newLst hp r1
    exact P1 _ _ _ n2 R2 r2
theorem d_tup {k : Nat} (h : PA X es (tLs D W Φ ms)) : PE X (.Tuple es k pos) (tE D W Φ (.tup ms)) := PE.imp (pe_tup h) fun σ H Q ⟨γ, ρ, g, R, P⟩ => by
  have P' : Post D W (TR D) γ σ H ((do let xs ← evL Φ ms; if lineOk xs.length then Pure.pure (Rv.va (.tup xs)) else bad : M Rv) ρ g) Q := by simpa only [evR] using P
  refine Rg.mono (Post.bind R P') fun vs H1 ⟨xs, γ1, ρ1, g1, n1, R1, r1, P1⟩ => ?_
  cases hl : lineOk xs.length with
  | false => rw [hl] at P1; exact P1.elim
  | true =>
    rw [hl] at P1
    refine ⟨by rw [← RelL.length r1]; exact of_decide_eq_true hl, fun p hp => ?_⟩
    obtain ⟨γ2, R2, n2, r2⟩ := R1.newTup hp r1
    exact P1 _ _ _ n2 R2 r2
theorem d_brw (h : PE X a (tE D W Φ ma)) (hv : ∀ i, ma = .v i → PE X a (tVar i)) : PE X a (tBs D W Φ ma) := by
  have gen : (∀ i : Nat, ma ≠ .v i) → PE X a (tBs D W Φ ma) := fun (hn : ∀ i : Nat, ma ≠ .v i) => PE.imp (pA h) fun σ H Q ⟨γ, ρ, g, R, P⟩ => by
    refine ⟨γ, ρ, g, R, ?_⟩
    have e : brw ma (evA Φ ma) ρ g = match evA Φ ma ρ g with
        | .ok x ρ g => .ok (.va x) ρ g
        | .ex e ρ g => .ex e ρ g
        | .bad => .bad := by
      unfold brw
      split
      · rename_i i
        exact absurd rfl (hn _)
      · rfl
    rw [e] at P
    cases q : evA Φ ma ρ g with
    | ok x ρ1 g1 => rw [q] at P; exact P
    | ex e ρ1 g1 => rw [q] at P; exact P
    | bad => rw [q] at P; exact P
  by_cases hx : ∃ i, ma = .v i
  · obtain ⟨i, rfl⟩ := hx
    refine PE.imp (hv i rfl) fun σ H Q ⟨γ, ρ, g, R, P⟩ => ?_
    unfold brw at P
    simp only at P
    split at P
    · rename_i x e
      obtain ⟨v, h1, h2⟩ := R.va i x e
      exact ⟨v, h1, P γ H v (Nxt.refl _ _) R h2⟩
    · rename_i bb o e
      obtain ⟨h1, h2, _⟩ := R.ow i bb o e
      exact ⟨_, h1, P γ H _ (Nxt.refl _ _) R ⟨rfl, bb, o, e⟩⟩
    · exact P.elim
  · exact gen fun i e => hx ⟨i, e⟩
theorem SqT_of {p : Addr} {vs : List V} (h : (γ.Om p ∧ H p = some (.tup vs)) ∨ KT D.K p vs) : SqT D.K H p vs := by
  rcases h with ⟨_, h⟩ | h
  · exact SqT.of h
  · rcases h with (h | ⟨o, h⟩) | h
    · cases h
    · cases h
    · exact .inr h
theorem SqL_of {p : Addr} {vs : List V} (h : (γ.Om p ∧ ∃ o, H p = some (.frz o (.lst vs))) ∨ KL D.K p vs) : SqL D.K H p vs := by
  rcases h with ⟨_, o, h⟩ | h
  · exact .inl (.inr ⟨o, h⟩)
  · rcases h with (h | ⟨o, h⟩) | h
    · cases h
    · cases h
    · exact .inr h
def RelC (D : Gd) (γ : Gh) (H : Hp) : Ct → V → Prop
  | .str x, v => v = .str x
  | .seq .tup xs, v => ∃ p vs, v = .ref p ∧ SqT D.K H p vs ∧ RelL D γ H xs vs
  | .seq .kl xs, v => ∃ p vs, v = .ref p ∧ SqL D.K H p vs ∧ RelL D γ H xs vs
  | .seq .lst xs, v => ∃ p vs, v = .ref p ∧ H p = some (.lst vs) ∧ RelL D γ H xs vs
  | .seq .own xs, v => ∃ p vs, v = .ref p ∧ H p = some (.lst vs) ∧ RelL D γ H xs vs
  | .ins C ns xs, v => ∃ p dx fs, v = .ref p ∧ H p = some (.ins (D.ca C) dx fs) ∧ D.cls C = true ∧ RelF D γ H ns xs fs
theorem RelC.seq {k : SK} {xs : List A} {v : V} (h : RelC D γ H (.seq k xs) v) : ∃ p vs, v = .ref p ∧ (SqL D.K H p vs ∨ SqT D.K H p vs) ∧ RelL D γ H xs vs := by
  cases k with
  | tup => obtain ⟨p, vs, e, h, l⟩ := h; exact ⟨p, vs, e, .inr h, l⟩
  | kl => obtain ⟨p, vs, e, h, l⟩ := h; exact ⟨p, vs, e, .inl h, l⟩
  | lst => obtain ⟨p, vs, e, h, l⟩ := h; exact ⟨p, vs, e, .inl (SqL.of h), l⟩
  | own => obtain ⟨p, vs, e, h, l⟩ := h; exact ⟨p, vs, e, .inl (SqL.of h), l⟩
theorem ctA_rel {a : A} {c : Ct} {v : V} (e : ctA a = some c) (r : RelA D γ H a v) : RelC D γ H c v := by
  cases a with
  | str x => cases e; simpa only [RelA, RelC] using r
  | tup xs =>
    cases e
    simp only [RelA] at r
    obtain ⟨p, vs, e, h, l⟩ := r
    exact ⟨p, vs, e, SqT_of h, l⟩
  | lst xs =>
    cases e
    simp only [RelA] at r
    obtain ⟨p, vs, e, _, h, l⟩ := r
    exact ⟨p, vs, e, h, l⟩
  | kl xs =>
    cases e
    simp only [RelA] at r
    obtain ⟨p, vs, e, h, l⟩ := r
    exact ⟨p, vs, e, SqL_of h, l⟩
  | obj C ns xs =>
    cases e
    simp only [RelA] at r
    obtain ⟨p, dx, fs, e, _, _, h, hc, l⟩ := r
    exact ⟨p, dx, fs, e, h, hc, l⟩
  | _ => cases e
theorem ctO_rel {o : LO} {p : Addr} (r : RelO D γ H o p) : RelC D γ H (ctO o) (.ref p) := by
  cases o with
  | lst xs => obtain ⟨vs, h, l⟩ := r; exact ⟨p, vs, rfl, h, l⟩
  | ins C ns xs => obtain ⟨dx, fs, h, hc, _, _, l⟩ := r; exact ⟨p, dx, fs, rfl, h, hc, l⟩
theorem hold_rel {x : Bv} {v : V} {α β : Type} {T : Gh → En → Hp → α → β → Prop} {f : Ct → M α} {Q : β → Hp → Prop} {ρ0 : En} {γ0 : Gh} {H0 : Hp} (R : Rel D γ ρ g σ H) (n : Nxt γ0 H0 γ H) (r : RelB D γ0 ρ0 H0 x v) (P : Post D W T γ σ H ((holdB x >>= f) ρ g) Q) :
    ∃ c, RelC D γ H c v ∧ Post D W T γ σ H (f c ρ g) Q := by
  cases x with
  | va a =>
    obtain ⟨c, e, P1⟩ := Post.bindO (x := ctA a) P
    exact ⟨c, ctA_rel e (RelA.mono n.toMono _ _ r), P1⟩
  | ow i =>
    have e : (holdB (.ow i) >>= f) ρ g = match ρ[i]? with
        | some (some (Sl.ow _ o)) => f (ctO o) ρ g
        | _ => .bad := by
      show M.bind (M.bind (lookOw i) _) f ρ g = _
      unfold M.bind lookOw
      cases ρ[i]? with
      | none => rfl
      | some s =>
        cases s with
        | none => rfl
        | some t => cases t <;> rfl
    rw [e] at P
    split at P
    · rename_i b o q
      obtain ⟨_, h, _⟩ := R.ow i b o q
      refine ⟨_, ?_, P⟩
      rw [r.1, ← n.ow]
      exact ctO_rel h
    · exact P.elim
theorem plainIx_of {b : Expr} (h : ∀ l u p, b ≠ .Slice l u none p) : PlainIx b := fun o i => by
  unfold subscripted
  split
  · exact absurd rfl (h _ _ _)
  · rename_i h1; cases h1
  · rfl
theorem atI_rel {xs : List A} {vs : List V} {i : Int} {y : A} (l : RelL D γ H xs vs) (h : atI xs i = some y) : ∃ v, atI vs i = some v ∧ RelA D γ H y v := by
  unfold atI at h ⊢
  rw [← RelL.length l]
  cases e : ixN xs.length i with
  | none => rw [e] at h; cases h
  | some j =>
    rw [e] at h
    exact RelL.get l h
theorem d_sub (ha : PE X a (tBs D W Φ ma)) (hb : PE X b (tE D W Φ mb)) (hs : PlainIx b) (hK : X.K = D.K) : PE X (.Subscript a b pos) (tE D W Φ (.sub ma mb)) := PE.imp (pe_ix ix_seq ha (pA hb) hs) fun σ H Q ⟨γ, ρ, g, R, P⟩ => by
  have P' : Post D W (TR D) γ σ H ((do let x ← brw ma (evA Φ ma); let k ← evA Φ mb; let c ← holdB x; let y ← ofO (subC c k); Pure.pure (Rv.va y) : M Rv) ρ g) Q := by simpa only [evR] using P
  refine Rg.mono (Post.bind (T := fun γ ρ H a v => RelB D γ ρ H a v) R P') fun v H1 ⟨x, γ1, ρ1, g1, n1, R1, r1, P1⟩ => ?_
  refine Rg.mono (Post.bind (T := TAr D) R1 P1) fun u H2 ⟨k, γ2, ρ2, g2, n2, R2, r2, P2⟩ => ?_
  obtain ⟨c, rc, P3⟩ := hold_rel R2 n2 r1 P2
  obtain ⟨y, e1, P4⟩ := Post.bindO P3
  unfold subC at e1
  split at e1
  · rename_i z i
    simp only [RelA] at r2
    split at e1
    · rename_i hl
      cases ec : atI z.cps.toList i with
      | none => rw [ec] at e1; cases e1
      | some ch =>
        rw [ec] at e1
        cases e1
        exact .inr (.inr ⟨z, i, ch, rc, r2, of_decide_eq_true hl, ec, of_pure P4 R2 (v := .str ⟨#[ch]⟩) (by simp only [RelR, RelA])⟩)
    · cases e1
  · rename_i sk xs i
    simp only [RelA] at r2
    obtain ⟨p, vs, e, h, l⟩ := rc.seq
    obtain ⟨w, e2, rw⟩ := atI_rel l e1
    have q := of_pure P4 R2 (v := w) rw
    rw [hK]
    rcases h with h | h
    · exact .inl ⟨p, vs, i, w, e, r2, h, e2, q⟩
    · exact .inr (.inl ⟨p, vs, i, w, e, r2, h, e2, q⟩)
  · cases e1
end
end Eg
namespace Eg
open PySem PySem.Spec PyProof.Rows L2
section
variable {X : Cx} {D : Gd} {W : WX} {Φ : Tab} {pos : Pos} {a b c : Expr} {ma mb mc : Ex} {γ γ' : Gh} {ρ : En} {g : GS} {σ : L2.St} {H H' : Hp} {es : List Expr} {ms : List Ex} {rest : List Expr}
def CPowW (i j : Int) : Prop := 0 ≤ j ∧ (Builtin.Int.intBits i : Int) * j ≤ 2 ^ 27
theorem op_powW : OpR X (binaryOp .Pow) (rI CPowW fun i j => .int (i ^ j.toNat)) := opI fun _ _ _ _ _ _ _ hc q => pow_int hc.1 hc.2 q
mutual
theorem py_dp : ∀ (x : A) (d : PyData) (v : V), x.py = some d → RelA D γ H x v → Dp D.K H v d
  | .non, d, v, e, r => by simp only [A.py] at e; simp only [RelA] at r; cases e; subst r; exact .non
  | .bl k, d, v, e, r => by simp only [A.py] at e; simp only [RelA] at r; cases e; subst r; exact .bl k
  | .int k, d, v, e, r => by simp only [A.py] at e; simp only [RelA] at r; cases e; subst r; exact .int k
  | .str k, d, v, e, r => by simp only [A.py] at e; simp only [RelA] at r; cases e; subst r; exact .str k
  | .tup xs, d, v, e, r => by
    simp only [A.py] at e
    simp only [RelA] at r
    obtain ⟨p, vs, rfl, h, l⟩ := r
    cases q : pyL xs with
    | none => rw [q] at e; cases e
    | some ds => rw [q] at e; cases e; exact .tup (SqT_of h) (pyL_dp xs ds vs q l)
  | .lst xs, d, v, e, r => by
    simp only [A.py] at e
    simp only [RelA] at r
    obtain ⟨p, vs, rfl, _, h, l⟩ := r
    cases q : pyL xs with
    | none => rw [q] at e; cases e
    | some ds => rw [q] at e; cases e; exact .lst (SqL.of h) (pyL_dp xs ds vs q l)
  | .kl xs, d, v, e, r => by
    simp only [A.py] at e
    simp only [RelA] at r
    obtain ⟨p, vs, rfl, h, l⟩ := r
    cases q : pyL xs with
    | none => rw [q] at e; cases e
    | some ds => rw [q] at e; cases e; exact .lst (SqL_of h) (pyL_dp xs ds vs q l)
  | .obj _ _ _, d, v, e, r => by simp only [A.py] at e; cases e
  | .exc _ _ _, d, v, e, r => by simp only [A.py] at e; cases e
  | .ref _, d, v, e, r => by simp only [A.py] at e; cases e
theorem pyL_dp : ∀ (xs : List A) (ds : List PyData) (vs : List V), pyL xs = some ds → RelL D γ H xs vs → DpAll D.K H vs ds
  | [], ds, vs, e, r => by simp only [pyL] at e; simp only [RelL] at r; cases e; subst r; exact .nil
  | x :: xs, ds, vs, e, r => by
    simp only [pyL] at e
    simp only [RelL] at r
    obtain ⟨v, us, rfl, r1, r2⟩ := r
    split at e
    · rename_i d dr q1 q2
      cases e
      exact .cons (py_dp x d v q1 r1) (pyL_dp xs dr us q2 r2)
    · cases e
end
theorem eqD_rd {x y : A} {k : Bool} {v u : V} {Q : VK} (e : eqD x y = some k) (rx : RelA D γ H x v) (ry : RelA D γ H y u) (q : Q (.bl k) H) : rEqD D.K v u H Q := by
  unfold eqD at e
  split at e
  · rename_i d d' h1 h2
    split at e
    · rename_i hs
      cases e
      obtain ⟨s1, s2⟩ := Bool.and_eq_true_iff.mp hs
      exact ⟨d, d', py_dp _ _ _ h1 rx, py_dp _ _ _ h2 ry, s1, s2, q⟩
    · cases e
  · cases e
theorem eqA_rd {x y : A} {k : Bool} {v u : V} {Q : VK} (e : eqA x y = some k) (rx : RelA D γ H x v) (ry : RelA D γ H y u) (q : Q (.bl k) H) : rEq v u H Q ∨ rEqD D.K v u H Q := by
  unfold eqA at e
  split at e
  · simp only [RelA] at rx ry
    subst rx ry
    cases e
    refine .inl ⟨rfl, ?_⟩
    simpa using q
  · simp only [RelA] at rx ry
    subst rx ry
    cases e
    refine .inl ⟨rfl, ?_⟩
    simpa using q
  · simp only [RelA] at rx ry
    subst rx ry
    cases e
    refine .inl ⟨rfl, ?_⟩
    simpa using q
  · simp only [RelA] at rx ry
    subst rx ry
    cases e
    exact .inl ⟨rfl, by simpa using q⟩
  · simp only [RelA] at rx ry
    subst rx ry
    cases e
    exact .inl ⟨rfl, by simpa using q⟩
  · simp only [RelA] at rx ry
    subst rx ry
    cases e
    exact .inl ⟨rfl, by simpa using q⟩
  · exact .inr (eqD_rd e rx ry q)
theorem eqA_rdN {x y : A} {k : Bool} {v u : V} {Q : VK} (e : eqA x y = some k) (rx : RelA D γ H x v) (ry : RelA D γ H y u) (q : Q (.bl (!k)) H) : rNe v u H Q ∨ rNeD D.K v u H Q := by
  rcases eqA_rd (Q := fun z H => ∃ j, z = .bl j ∧ Q (.bl (!j)) H) e rx ry ⟨k, rfl, q⟩ with ⟨h1, j, h2, q⟩ | ⟨d, d', h1, h2, h3, h4, j, h5, q⟩
  · injection h2 with h2
    exact .inl ⟨h1, by rw [h2]; exact q⟩
  · injection h5 with h5
    exact .inr ⟨d, d', h1, h2, h3, h4, by rw [h5]; exact q⟩
theorem isNon_rel {x : A} {v : V} (r : RelA D γ H x v) : isNon x = decide (v = .non) := by
  cases x with
  | non => simp only [RelA] at r; subst r; rfl
  | bl _ => simp only [RelA] at r; subst r; rfl
  | int _ => simp only [RelA] at r; subst r; rfl
  | str _ => simp only [RelA] at r; subst r; rfl
  | tup _ => simp only [RelA] at r; obtain ⟨p, vs, rfl, _⟩ := r; rfl
  | lst _ => simp only [RelA] at r; obtain ⟨p, vs, rfl, _⟩ := r; rfl
  | kl _ => simp only [RelA] at r; obtain ⟨p, vs, rfl, _⟩ := r; rfl
  | obj _ _ _ => simp only [RelA] at r; obtain ⟨p, vs, _, rfl, _⟩ := r; rfl
  | exc _ _ _ => simp only [RelA] at r
  | ref _ => simp only [RelA] at r; obtain ⟨_, rfl⟩ := r; rfl
def copOf : COp → CmpOp
  | .eq => .Eq | .ne => .NotEq | .lt => .Lt | .le => .LtE | .gt => .Gt | .ge => .GtE | .isN => .Is | .notN => .IsNot | .inn => .In | .notIn => .NotIn
def rCop (K : PySem.W.Frag) : COp → R2
  | .eq => fun x y H Q => rEq x y H Q ∨ rEqD K x y H Q
  | .ne => fun x y H Q => rNe x y H Q ∨ rNeD K x y H Q
  | .lt => rI0 fun i j => .bl (decide (i < j))
  | .le => rI0 fun i j => .bl (decide (i ≤ j))
  | .gt => rI0 fun i j => .bl (decide (j < i))
  | .ge => rI0 fun i j => .bl (decide (j ≤ i))
  | .isN => fun x y H Q => y = .non ∧ Q (.bl (decide (x = .non))) H
  | .notN => fun x y H Q => y = .non ∧ Q (.bl (!decide (x = .non))) H
  | .inn => fun _ _ _ _ => False
  | .notIn => fun _ _ _ _ => False
theorem cop_ok (hu : X.A.units + 64 < cLine) : ∀ o : COp, OpR X (compareOp (copOf o)) (rCop X.K o)
  | .eq => op_eq.or (op_eqD hu)
  | .ne => op_ne.or (op_neD hu)
  | .lt => op_lt
  | .le => op_le
  | .gt => op_gt
  | .ge => op_ge
  | .isN => op_isN
  | .notN => op_notN
  | .inn => fun _ _ _ _ _ _ _ _ _ _ _ _ h => h.elim
  | .notIn => fun _ _ _ _ _ _ _ _ _ _ _ _ h => h.elim
theorem cop_rd (o : COp) : ∀ x y k γ σ H ρ g v u (Q : VK), Rel D γ ρ g σ H → RelA D γ H x v → RelA D γ H y u → cmpA o x y = some k → Q (.bl k) H → rCop D.K o v u H Q := by
  intro x y k γ σ H ρ g v u Q R rx ry e q
  cases o with
  | eq => exact eqA_rd e rx ry q
  | ne =>
    simp only [cmpA] at e
    cases h : eqA x y with
    | none => rw [h] at e; cases e
    | some j => rw [h] at e; cases e; exact eqA_rdN h rx ry q
  | isN =>
    cases y with
    | non =>
      simp only [cmpA] at e
      simp only [RelA] at ry
      cases e
      exact ⟨ry, by rw [← isNon_rel rx]; exact q⟩
    | _ => simp only [cmpA] at e; cases e
  | notN =>
    cases y with
    | non =>
      simp only [cmpA] at e
      simp only [RelA] at ry
      cases e
      exact ⟨ry, by rw [← isNon_rel rx]; exact q⟩
    | _ => simp only [cmpA] at e; cases e
  | lt => cases x <;> cases y <;> simp only [cmpA] at e <;> first | (cases e; done) | (simp only [RelA] at rx ry; cases e; exact ⟨_, _, rx, ry, q⟩)
  | le => cases x <;> cases y <;> simp only [cmpA] at e <;> first | (cases e; done) | (simp only [RelA] at rx ry; cases e; exact ⟨_, _, rx, ry, q⟩)
  | gt => cases x <;> cases y <;> simp only [cmpA] at e <;> first | (cases e; done) | (simp only [RelA] at rx ry; cases e; exact ⟨_, _, rx, ry, q⟩)
  | ge => cases x <;> cases y <;> simp only [cmpA] at e <;> first | (cases e; done) | (simp only [RelA] at rx ry; cases e; exact ⟨_, _, rx, ry, q⟩)
  | inn => cases x <;> cases y <;> simp only [cmpA] at e <;> cases e
  | notIn => cases x <;> cases y <;> simp only [cmpA] at e <;> cases e
theorem d_cmp (o : COp) (hu : X.A.units + 64 < cLine) (hK : X.K = D.K) (ha : PE X a (tE D W Φ ma)) (hb : PE X b (tE D W Φ mb)) (hm : behindInMarks (copOf o) b = false) : PE X (.Compare a [copOf o] [b] pos) (tE D W Φ (.cmp o ma mb)) :=
  d_cmpG (pe_cmpR (cop_ok hu o) (pA ha) (pA hb) hm) (by rw [hK]; exact cop_rd o)
theorem p_cmp (o : COp) (hu : X.A.units + 64 < cLine) (hK : X.K = D.K) (ha : PE X a (tE D W Φ ma)) (hb : PE X b (tE D W Φ mb)) (hm : behindInMarks (copOf o) b = false) : PT X (.Compare a [copOf o] [b] pos) (tTs D W Φ (.cmp o ma mb)) :=
  p_cmpG (pt_cmpR (cop_ok hu o) (pA ha) (pA hb) hm) (by rw [hK]; exact cop_rd o)
theorem cmp2_rd {o o' : COp} {Q : VK} (hK : X.K = D.K) (h : tE D W Φ (.cmp2 o o' ma mb mc) σ H Q) : tChain (rCop X.K o) (rCop X.K o') (tA D W Φ ma) (tA D W Φ mb) (tA D W Φ mc) σ H Q := by
  obtain ⟨γ, ρ, g, R, P⟩ := h
  have P' : Post D W (TR D) γ σ H ((do
    let x ← evA Φ ma
    let y ← evA Φ mb
    let k ← ofO (cmpA o x y)
    if k then do
      let z ← evA Φ mc
      let k2 ← ofO (cmpA o' y z)
      Pure.pure (Rv.va (.bl k2))
    else Pure.pure (Rv.va (.bl false)) : M Rv) ρ g) Q := by simpa only [evR] using P
  refine Rg.mono (Post.bind R P') fun v H1 ⟨x, γ1, ρ1, g1, n1, R1, r1, P1⟩ => ?_
  refine Rg.mono (Post.bind R1 P1) fun u H2 ⟨y, γ2, ρ2, g2, n2, R2, r2, P2⟩ => ?_
  obtain ⟨k, e, P3⟩ := Post.bindO P2
  rw [hK]
  refine cop_rd o x y k γ2 σ H2 ρ2 g2 v u _ R2 (RelA.mono n2.toMono _ _ r1) r2 e ⟨k, rfl, ?_⟩
  cases k with
  | false => exact of_pure P3 R2 (by simp only [RelR, RelA])
  | true =>
    refine Rg.mono (Post.bind (T := TAr D) R2 P3) fun w H3 ⟨z, γ3, ρ3, g3, n3, R3, r3, P4⟩ => ?_
    obtain ⟨k2, e2, P5⟩ := Post.bindO P4
    exact cop_rd o' y z k2 γ3 σ H3 ρ3 g3 u w _ R3 (RelA.mono n3.toMono _ _ r2) r3 e2 (of_pure P5 R3 (by simp only [RelR, RelA]))
theorem d_cmp2 (o o' : COp) (hu : X.A.units + 64 < cLine) (hK : X.K = D.K) (ha : PE X a (tE D W Φ ma)) (hb : PE X b (tE D W Φ mb)) (hc : PE X c (tE D W Φ mc)) (hm : lastMarks [copOf o, copOf o'] [b, c] = false) :
    PE X (.Compare a [copOf o, copOf o'] [b, c] pos) (tE D W Φ (.cmp2 o o' ma mb mc)) := PE.imp (pe_chain (cop_ok hu o) (cop_ok hu o') (pA ha) (pA hb) (pA hc) hm) fun σ H Q h => cmp2_rd hK h
theorem p_cmp2 (o o' : COp) (hu : X.A.units + 64 < cLine) (hK : X.K = D.K) (ha : PE X a (tE D W Φ ma)) (hb : PE X b (tE D W Φ mb)) (hc : PE X c (tE D W Φ mc)) (hm : lastMarks [copOf o, copOf o'] [b, c] = false) :
    PT X (.Compare a [copOf o, copOf o'] [b, c] pos) (tTs D W Φ (.cmp2 o o' ma mb mc)) := PT.imp (pt_chain (cop_ok hu o) (cop_ok hu o') (pA ha) (pA hb) (pA hc) hm) fun σ H Q h => cmp2_rd hK (tA_tE (tT_of h))
def bopOf : BOp → Operator
  | .add => .Add | .sub => .Sub | .mul => .Mult | .fdiv => .FloorDiv | .mod => .Mod | .pow => .Pow
def rStrAdd : R2 := fun x y H Q => ∃ i j, x = .str i ∧ y = .str j ∧ i.length + j.length ≤ sizeLine ∧ Q (.str (i ++ j)) H
def rBop (K : PySem.W.Frag) : BOp → R2
  | .add => fun x y H Q => rI0 (fun i j => .int (i + j)) x y H Q ∨ (rStrAdd x y H Q ∨ (rCat x y H Q ∨ rCatT K x y H Q))
  | .sub => rI0 fun i j => .int (i - j)
  | .mul => fun x y H Q => rI CMulW (fun i j => .int (i * j)) x y H Q ∨ rRep x y H Q
  | .fdiv => rI CDivW fun i j => .int (i / j)
  | .mod => rI (fun _ j => 0 < j) fun i j => .int (i % j)
  | .pow => rI CPowW fun i j => .int (i ^ j.toNat)
theorem bop_ok : ∀ o : BOp, OpR X (binaryOp (bopOf o)) (rBop X.K o)
  | .add => op_add.or ((show OpR X (binaryOp .Add) rStrAdd from op_add_str).or (op_cat.or op_catT))
  | .sub => op_sub
  | .mul => op_mulW.or op_rep
  | .fdiv => op_fdivW
  | .mod => op_mod
  | .pow => op_powW
theorem guardO_some {α : Type} {b : Bool} {x y : α} (h : guardO b x = some y) : b = true ∧ y = x := by
  unfold guardO at h
  split at h
  · rename_i e; cases h; exact ⟨e, rfl⟩
  · cases h
theorem mulOk_iff {i j : Int} (h : mulOk i j = true) : CMulW i j := by
  unfold mulOk at h
  unfold CMulW
  exact of_decide_eq_true h
theorem bop_rd (o : BOp) : ∀ x y r' γ ρ g σ H v u (Q : VK), Rel D γ ρ g σ H → RelA D γ H x v → RelA D γ H y u → binA o x y = some r' → Post D W (TR D) γ σ H ((Pure.pure r' : M Rv) ρ g) Q → rBop D.K o v u H Q := by
  intro x y r' γ ρ g σ H v u Q R rx ry e P
  have int : ∀ i : Int, r' = .va (.int i) → Q (.int i) H := fun i h => by
    subst h
    exact of_pure P R (by simp only [RelR, RelA])
  unfold binA at e
  split at e
  · simp only [RelA] at rx ry; cases e; exact .inl ⟨_, _, rx, ry, int _ rfl⟩
  · simp only [RelA] at rx ry; cases e; exact ⟨_, _, rx, ry, int _ rfl⟩
  · simp only [RelA] at rx ry
    obtain ⟨h, e⟩ := guardO_some e
    exact .inl ⟨_, _, rx, ry, mulOk_iff h, int _ e⟩
  · simp only [RelA] at rx ry
    obtain ⟨h, e⟩ := guardO_some e
    obtain ⟨h1, h2⟩ := Bool.and_eq_true_iff.mp h
    exact ⟨_, _, rx, ry, ⟨of_decide_eq_true h1, of_decide_eq_true h2⟩, int _ e⟩
  · simp only [RelA] at rx ry
    obtain ⟨h, e⟩ := guardO_some e
    exact ⟨_, _, rx, ry, of_decide_eq_true h, int _ e⟩
  · simp only [RelA] at rx ry
    obtain ⟨h, e⟩ := guardO_some e
    obtain ⟨h1, h2⟩ := Bool.and_eq_true_iff.mp h
    exact ⟨_, _, rx, ry, ⟨of_decide_eq_true h1, of_decide_eq_true h2⟩, int _ e⟩
  · simp only [RelA] at rx ry
    obtain ⟨h, e⟩ := guardO_some e
    subst e
    exact .inr (.inl ⟨_, _, rx, ry, of_decide_eq_true h, of_pure P R (by simp only [RelR, RelA])⟩)
  · simp only [RelA] at rx ry
    obtain ⟨p, vs, ep, _, hp, lp⟩ := rx
    obtain ⟨q, us, eq, _, hq, lq⟩ := ry
    obtain ⟨h, e⟩ := guardO_some e
    subst e
    refine .inr (.inr (.inl ⟨p, q, vs, us, ep, eq, hp, hq, ?_, fun n hn => ?_⟩))
    · rw [← RelL.length lp, ← RelL.length lq]; exact of_decide_eq_true h
    · obtain ⟨R2, n2, r2⟩ := R.newLst hn (RelL.append lp lq)
      exact P _ _ _ n2 R2 r2
  · rename_i x0 xs ys
    simp only [RelA] at rx ry
    obtain ⟨p, vs, ep, hp, lp⟩ := rx
    obtain ⟨q, us, eq, hq, lq⟩ := ry
    obtain ⟨h, e⟩ := guardO_some e
    subst e
    refine .inr (.inr (.inr ⟨p, q, vs, us, ep, eq, SqT_of hp, SqT_of hq, ?_, ?_, ?_, ?_⟩))
    · intro z; subst z; simp only [RelL] at lp; obtain ⟨_, _, h, _⟩ := lp; cases h
    · rw [← RelL.length lp, ← RelL.length lq]; exact of_decide_eq_true h
    · intro z
      subst z
      have hy : ys = [] := by
        cases ys with
        | nil => rfl
        | cons y r => simp only [RelL] at lq; obtain ⟨_, _, h, _⟩ := lq; cases h
      subst hy
      rw [List.append_nil] at P
      refine of_pure P R ?_
      simp only [RelR, RelA]
      exact ⟨p, vs, rfl, hp, lp⟩
    · intro _ n hn
      obtain ⟨γ2, R2, n2, r2⟩ := R.newTup hn (RelL.append lp lq)
      exact P _ _ _ n2 R2 r2
  · simp only [RelA] at rx ry
    obtain ⟨p, vs, ep, _, hp, lp⟩ := rx
    obtain ⟨h, e⟩ := guardO_some e
    obtain ⟨h12, h3⟩ := Bool.and_eq_true_iff.mp h
    obtain ⟨h1, h2⟩ := Bool.and_eq_true_iff.mp h12
    subst e
    refine .inr ⟨p, _, vs, ep, ry, hp, of_decide_eq_true h1, of_decide_eq_true h2, ?_, fun n hn => ?_⟩
    · rw [← RelL.length lp]; exact of_decide_eq_true h3
    · obtain ⟨R2, n2, r2⟩ := R.newLst hn (RelL.flatten_rep lp _)
      exact P _ _ _ n2 R2 r2
  · cases e
end
end Eg
namespace Eg
open PySem PySem.Spec PyProof.Rows L2
section
variable {X : Cx} {D : Gd} {W : WX} {Φ : Tab} {pos : Pos} {a b c : Expr} {ma mb mc : Ex} {γ γ' : Gh} {ρ : En} {g : GS} {σ : L2.St} {H H' : Hp} {es : List Expr} {ms : List Ex} {rest : List Expr}
def TPo : Gh → En → Hp → Option Int → Option Int → Prop := fun _ _ _ a b => a = b
abbrev tPo (D : Gd) (W : WX) (Φ : Tab) (m : Ex) : TO := Rg D W TPo (evA Φ m >>= partM m)
theorem o_none : PO X none (tPo D W Φ (.c .non)) := ⟨fun pins s σ H Q I h => po_none.run pins s σ H Q I (by
  obtain ⟨γ, ρ, g, R, P⟩ := h
  have P' : Post D W TPo γ σ H ((Pure.pure none : M (Option Int)) ρ g) Q := P
  exact of_pure (v := none) P' R rfl)⟩
theorem o_some (h : PE X a (tE D W Φ ma)) (hn : isNonC ma = false) : PO X (some a) (tPo D W Φ ma) := by
  refine ⟨fun pins s σ H Q I h' => (po_some (pA h)).run pins s σ H Q I ?_⟩
  obtain ⟨γ, ρ, g, R, P⟩ := h'
  refine Rg.mono (Post.bind (T := TAr D) R P) fun v H1 ⟨x, γ1, ρ1, g1, n1, R1, r1, P1⟩ => ?_
  cases x with
  | int i =>
    simp only [RelA] at r1
    simp only [partM, hn] at P1
    exact ⟨i, r1, of_pure (v := some i) P1 R1 rfl⟩
  | non => simp only [partM, hn] at P1; exact P1.elim
  | _ => exact P1.elim
theorem cutA_rel {xs : List A} {vs : List V} {lo hi : Option Int} (l : RelL D γ H xs vs) : RelL D γ H (cutA xs lo hi) (cutV vs lo hi) := by
  unfold cutA cutV
  rw [RelL.length l]
  exact RelL.take _ (RelL.drop _ l)
theorem d_slc {lo hi : Option Expr} {p2 : Pos} {ml mh : Ex} (ha : PE X a (tBs D W Φ ma)) (hl : PO X lo (tPo D W Φ ml)) (hh : PO X hi (tPo D W Φ mh)) (hK : X.K = D.K) : PE X (.Subscript a (.Slice lo hi none p2) pos) (tE D W Φ (.slc ma ml mh)) :=
  PE.imp (pe_slice (sl_list.or (sl_tup.or sl_str)) ha hl hh) fun σ H Q ⟨γ, ρ, g, R, P⟩ => by
  have P' : Post D W (TR D) γ σ H ((brw ma (evA Φ ma) >>= fun x => (evA Φ ml >>= partM ml) >>= fun l => (evA Φ mh >>= partM mh) >>= fun h => holdB x >>= fun c => ofO (slcC c l h) : M Rv) ρ g) Q := by
    simpa only [evR, M.assoc] using P
  refine Rg.mono (Post.bind (T := fun γ ρ H a v => RelB D γ ρ H a v) R P') fun v H1 ⟨x, γ1, ρ1, g1, n1, R1, r1, P1⟩ => ?_
  refine Rg.mono (Post.bind (T := TPo) R1 P1) fun l H2 ⟨l', γ2, ρ2, g2, n2, R2, r2, P2⟩ => ?_
  refine Rg.mono (Post.bind (T := TPo) R2 P2) fun h H3 ⟨h', γ3, ρ3, g3, n3, R3, r3, P3⟩ => ?_
  cases r2
  cases r3
  obtain ⟨ct, rc, P4⟩ := hold_rel R3 (n2.trans n3) r1 P3
  obtain ⟨y, e1, P5⟩ := Post.ofO P4
  have lst : ∀ xs p vs, v = .ref p → SqL D.K H3 p vs → RelL D γ3 H3 xs vs → y = .nw (.lst (cutA xs l h)) → rSlL X.K v l h H3 Q := fun xs p vs e hs lx ey => by
    subst ey
    rw [hK]
    refine ⟨p, vs, e, hs, fun q hq => ?_⟩
    obtain ⟨R4, n4, r4⟩ := R3.newLst hq (cutA_rel lx)
    exact P5 _ _ _ n4 R4 r4
  unfold slcC at e1
  split at e1
  · rename_i xs
    split at e1
    · cases e1
    · rename_i hne
      cases e1
      obtain ⟨p, vs, e, hs, lx⟩ := rc
      rw [hK]
      refine .inr (.inl ⟨p, vs, e, hs, fun hz => hne ?_, fun q hq => ?_⟩)
      · refine decide_eq_true ?_
        unfold cutA
        rw [RelL.length lx, hz.1, hz.2]
        simp [RelL.length lx]
      · obtain ⟨γ4, R4, n4, r4⟩ := R3.newTup hq (cutA_rel lx)
        exact P5 _ _ _ n4 R4 r4
  · rename_i k xs hk
    cases e1
    cases k with
    | tup => exact absurd rfl hk
    | lst => obtain ⟨p, vs, e, hs, lx⟩ := rc; exact .inl (lst xs p vs e (SqL.of hs) lx rfl)
    | own => obtain ⟨p, vs, e, hs, lx⟩ := rc; exact .inl (lst xs p vs e (SqL.of hs) lx rfl)
    | kl => obtain ⟨p, vs, e, hs, lx⟩ := rc; exact .inl (lst xs p vs e hs lx rfl)
  · rename_i z
    unfold guardN at e1
    split at e1
    · rename_i hz
      cases e1
      exact .inr (.inr ⟨z, rc, of_decide_eq_true hz, of_pure P5 R3 (by simp only [RelR, RelA])⟩)
    · cases e1
  · cases e1
theorem d_rev {k : Nat} {p1 p2 p3 : Pos} (ha : PE X a (tBs D W Φ ma)) (hK : X.K = D.K) : PE X (.Subscript a (.Slice none none (some (.UnaryOp .USub (.Constant (.int 1) k p1) p2)) p3) pos) (tE D W Φ (.rev ma)) :=
  PE.imp (pe_revL ha) fun σ H Q ⟨γ, ρ, g, R, P⟩ => by
  have P' : Post D W (TR D) γ σ H ((brw ma (evA Φ ma) >>= fun x => holdB x >>= fun c => ofO (revC c) : M Rv) ρ g) Q := by simpa only [evR] using P
  refine Rg.mono (Post.bind (T := fun γ ρ H a v => RelB D γ ρ H a v) R P') fun v H1 ⟨x, γ1, ρ1, g1, n1, R1, r1, P1⟩ => ?_
  obtain ⟨ct, rc, P4⟩ := hold_rel R1 (Nxt.refl _ _) r1 P1
  obtain ⟨y, e1, P5⟩ := Post.ofO P4
  have lst : ∀ xs p vs, v = .ref p → SqL D.K H1 p vs → RelL D γ1 H1 xs vs → y = .nw (.lst xs.reverse) → ∃ a xs, v = .ref a ∧ SqL X.K H1 a xs ∧ ∀ p, H1 p = none → Q (.ref p) (upd H1 p (.lst xs.reverse)) := fun xs p vs e hs lx ey => by
    subst ey
    rw [hK]
    refine ⟨p, vs, e, hs, fun q hq => ?_⟩
    obtain ⟨R4, n4, r4⟩ := R1.newLst hq (RelL.reverse lx)
    exact P5 _ _ _ n4 R4 r4
  unfold revC at e1
  split at e1
  · cases e1
  · rename_i k xs hk
    cases e1
    cases k with
    | tup => exact absurd rfl hk
    | lst => obtain ⟨p, vs, e, hs, lx⟩ := rc; exact lst xs p vs e (SqL.of hs) lx rfl
    | own => obtain ⟨p, vs, e, hs, lx⟩ := rc; exact lst xs p vs e (SqL.of hs) lx rfl
    | kl => obtain ⟨p, vs, e, hs, lx⟩ := rc; exact lst xs p vs e hs lx rfl
  · cases e1
theorem d_fld {f : Nat} {x : Str} (ha : PE X a (tBs D W Φ ma)) (hK : X.K = D.K) (hb : attributeBase a x X.env (eval a X.env) = eval a X.env) (hf : f < D.nf) (hx : D.fld f = x) : PE X (.Attribute a x pos) (tE D W Φ (.fld ma f)) :=
  PE.imp (pe_fld ha hb) fun σ H Q ⟨γ, ρ, g, R, P⟩ => by
  have P' : Post D W (TR D) γ σ H ((brw ma (evA Φ ma) >>= fun x => holdB x >>= fun c => ofO (fldC f c) >>= fun y => Pure.pure (Rv.va y) : M Rv) ρ g) Q := by simpa only [evR] using P
  refine Rg.mono (Post.bind (T := fun γ ρ H a v => RelB D γ ρ H a v) R P') fun v H1 ⟨y, γ1, ρ1, g1, n1, R1, r1, P1⟩ => ?_
  obtain ⟨ct, rc, P4⟩ := hold_rel R1 (Nxt.refl _ _) r1 P1
  obtain ⟨w, e1, P5⟩ := Post.bindO P4
  unfold fldC at e1
  split at e1
  · rename_i C ns xs
    obtain ⟨p, dx, fs, e, h, hc, l⟩ := rc
    obtain ⟨u, hu, ru⟩ := RelF.get l hf e1
    rw [hK, ← hx]
    exact ⟨p, D.ca C, dx, fs, u, e, h, D.cOk C hc, D.nAt C f hc hf, hu, of_pure P5 R1 ru⟩
  · cases e1
theorem d_len {p : Pos} {n : Str} (ha : PE X a (tBs D W Φ ma)) (hK : X.K = D.K) (hg : Gl X n) (hn : n = "len") (hm : X.mg n = none) (hs : starEach [a] X.env = (false, eval a X.env) :: starEach [] X.env) :
    PE X (.Call (.Name n p) [a] [] pos) (tE D W Φ (.bi .len [ma])) := by
  subst hn
  refine PE.imp (pe_callB (call_len.or call_len_seq) hg hm boot_len (pa_cons ha pa_nil hs) (by decide) (by decide) hs (by rfl)) fun σ H Q ⟨γ, ρ, g, R, P⟩ => ?_
  have P' : Post D W (TR D) γ σ H ((brw ma (evA Φ ma) >>= fun x => holdB x >>= fun c => ofO (lenC c) >>= fun y => Pure.pure (Rv.va y) : M Rv) ρ g) Q := by simpa only [evR] using P
  refine Rg.mono (Post.bind (T := fun γ ρ H a v => RelB D γ ρ H a v) R P') fun v H1 ⟨y, γ1, ρ1, g1, n1, R1, r1, P1⟩ => ?_
  obtain ⟨ct, rc, P4⟩ := hold_rel R1 (Nxt.refl _ _) r1 P1
  obtain ⟨w, e1, P5⟩ := Post.bindO P4
  unfold lenC at e1
  split at e1
  · rename_i z
    unfold guardN at e1
    split at e1
    · rename_i hz
      cases e1
      cases rc
      exact .inl ⟨_, z.length, rfl, ⟨of_decide_eq_true hz, rfl⟩, of_pure P5 R1 (by simp only [RelR, RelA])⟩
    · cases e1
  · rename_i k xs
    cases e1
    obtain ⟨q, vs, e, hs, lx⟩ := rc.seq
    subst e
    rw [hK]
    exact .inr ⟨q, vs, rfl, hs, of_pure P5 R1 (by simp only [RelR, RelA, RelL.length lx])⟩
  · cases e1
end
end Eg
namespace Eg
open PySem PySem.Spec PyProof.Rows L2
theorem ns_none {K : PySem.W.Frag} {h : Heap} {m : Str → Option Value} {a : Addr} {n : Str} (X : K.In h) (G : h.Ns a m) (e : PySem.W.nsIn K a n = some none) : m n = none := by
  obtain ⟨o, es, ep, ho, hd, _, hf⟩ := G
  unfold PySem.W.nsIn at e
  split at e
  · rename_i c d es' n' sl q
    have q' := X _ _ q
    rw [ho] at q'
    cases q'
    cases hd
    split at e
    · cases e
    · rename_i he
      rw [← hf]
      unfold nsFind findBy
      rw [← Array.find?_toList, he]
      rfl
  · cases e
theorem call_int_big {prog : Program} {w : World} {A : Around} {E : Value → Shared → Prop} {s : Shared} {i : Int} {t : Tok} {Q : Value → Shared → Prop} (hn : s.heap.NoDigits) (hi : i.natAbs < 10 ^ 4300) (h : Q (.str (toString i) s.toks) { s with toks := s.toks + 1 }) :
    wpAny (model prog w) A (PySem.call (.builtin "int.__repr__") [.int i t]) Q E s := by
  refine wpAny_call_entry F.slot_int_repr (typeIs_int s i t) F.entry_int_repr ?_ (F.args_int_repr_1 _)
  unfold Builtin.«int.__repr__»
  show wpAny _ _ (do let r ← Builtin.overDigitLimit? i; _) _ _ s
  refine wpAny_bind (overDigitLimit_any hn (fun hlt => ?_) (fun hge => absurd hi (Nat.not_lt.mpr hge)))
  exact wpAny_bind (wpAny_mkStr (wpAny_pure ⟨_, rfl, h⟩) (int_text_fits10 hlt))
theorem reprK_big {prog : Program} {w : World} {h₀ : Heap} {i : Int} {t : Tok} (hn : h₀.NoDigits) (hi : i.natAbs < 10 ^ 4300) : ReprK prog w [] h₀ 0 (.int i t) (toString i) := fun base hb A g E s Q hg hcl hu hk hQ => by
  have hb' : base ≤ sizeLine := by omega
  rw [pyReprUnder_leaf (v := .int i t) hb' (fun _ e => nomatch e)]
  unfold pyRepr
  exact wpAny_bind (wpAny_pyReprObj_slot (by omega) (typeIs_int s i t) F.slot_int_repr.toG (call_int_big (hn.keeps hk) hi ⟨_, _, rfl, wpAny_pure (hQ s.heap _ fun _ _ e => e)⟩))
theorem reprAll_big {prog : Program} {w : World} {h₀ : Heap} (hn : h₀.NoDigits) : ∀ {is : List Int} {its : List Value}, Vals (is.map V.int) its → (∀ i ∈ is, i.natAbs < 10 ^ 4300) → ReprAllK prog w [] h₀ 0 its (is.map fun i => (toString i : Str))
  | [], its, r, _ => by cases r; exact .nil
  | i :: is, its, r, h => by
    cases r with
    | cons ru rr =>
      obtain ⟨t, rfl⟩ := ru
      exact .cons (reprK_big hn (h i List.mem_cons_self)) (reprAll_big hn rr fun j hj => h j (List.mem_cons_of_mem _ hj))
def rBig (K : PySem.W.Frag) : List V → Hp → VK → Prop := fun xs H Q => ∃ (a : Addr) (is : List Int), xs = [.ref a] ∧ SqT K H a (is.map V.int) ∧ (∀ i ∈ is, i.natAbs < 10 ^ 4300) ∧ (tupleText (is.map fun i => (toString i : Str))).length ≤ sizeLine ∧ Q (.str (tupleText (is.map fun i => (toString i : Str)))) H
theorem call_reprBig {X : Cx} (hg : X.A.guards = some []) (hu : X.A.units + 70 < cLine) (hd : PySem.W.nsIn X.K cStatics "sys.int_max_str_digits" = some none) : CallR X (.builtin "repr") (rBig X.K) := by
  intro pins s σ H xs us Q I r h
  obtain ⟨a, is, rfl, hS, hb, hz, q⟩ := h
  obtain ⟨u, rfl, ru⟩ := vals1 r
  cases ru
  obtain ⟨its, rv, p, _⟩ := I.tuple hS
  have hn : s.heap.NoDigits := by
    obtain ⟨mc, h1, _⟩ := I.nolimit
    exact ⟨mc, h1, ns_none I.kIn h1 hd⟩
  obtain ⟨o, ho, hc, n, hdt⟩ := p
  refine call_repr_slot (by omega) ⟨o, ho, hc⟩ F.slot_tuple_repr ?_
  refine call_tuple_reprK (as := []) (d := 0) ho hc hdt (by simp) (reprAll_big hn (by simpa using rv) hb) hg (fun b _ => Clear.nil b) (by show X.A.units + 1 + (0 + 1) < cLine; omega) (fun b o e => e) (fun h' u' tk hk => ?_) hz
  exact ⟨_, _, rfl, .str _, H, I.kept hk, ⟨_, rfl⟩, q⟩
end Eg
namespace Eg
open PySem PySem.Spec PyProof.Rows L2
def tyN : Ty → String
  | .int => "int" | .bool => "bool" | .str => "str" | .list => "list" | .tuple => "tuple" | .dict => "dict" | .own _ => ""
def tyNs : List String := ["NoneType", "int", "bool", "str", "list", "tuple", "dict"]
structure TabOk (D : Gd) (Φ : Tab) : Prop where
  oc : ∀ C C' b, Φ.oc C C' = some b → PySem.W.kitOne D.K (.ref (D.ca C)) (.ref (D.ca C')) = some b
  ot : ∀ C, Φ.ot C = true → ∀ T ∈ tyNs, PySem.W.kitOne D.K (.type T) (.ref (D.ca C)) = some false
  bc : ∀ C, Φ.bc C = true → ∀ T ∈ tyNs, PySem.W.kitOne D.K (.ref (D.ca C)) (.type T) = some false
def isOwn : Ty → Bool
  | .own _ => true
  | _ => false
theorem kitB_ty : ∀ c t : Ty, isOwn c = false → isOwn t = false → kitB (tyN c) (tyN t) = some (tyB c t) := by
  intro c t hc ht
  cases c <;> cases t <;> first | (cases hc; done) | (cases ht; done) | decide +kernel
theorem kitB_non : ∀ t : Ty, isOwn t = false → kitB "NoneType" (tyN t) = some false := by
  intro t ht
  cases t <;> first | (cases ht; done) | decide +kernel
section
variable {X : Cx} {D : Gd} {W : WX} {Φ : Tab} {pos : Pos} {a b c : Expr} {ma mb mc : Ex} {γ γ' : Gh} {ρ : En} {g : GS} {σ : L2.St} {H H' : Hp} {es : List Expr} {ms : List Ex} {rest : List Expr}
def tyV' (D : Gd) : Ty → Value
  | .own C => .ref (D.ca C)
  | t => .type (tyN t)
theorem kind_rel {x : A} {v : V} {c : Ty} (e : kindA x = some c) (r : RelA D γ H x v) : TyX D.K H v (tyV' D c) := by
  cases x with
  | bl k => simp only [RelA] at r; cases e; subst r; exact .base (.bl k)
  | int k => simp only [RelA] at r; cases e; subst r; exact .base (.int k)
  | str k => simp only [RelA] at r; cases e; subst r; exact .base (.str k)
  | lst xs =>
    simp only [RelA] at r; cases e
    obtain ⟨p, vs, rfl, _, h, _⟩ := r
    exact .base (.lst h)
  | tup xs =>
    simp only [RelA] at r; cases e
    obtain ⟨p, vs, rfl, h, _⟩ := r
    rcases h with ⟨_, h⟩ | h
    · exact .base (.tup h)
    · rcases h with (h | ⟨o, h⟩) | ⟨o, its, n, h1, h2, _⟩
      · cases h
      · cases h
      · exact .kTuple h1 h2
  | obj C ns xs =>
    simp only [RelA] at r; cases e
    obtain ⟨p, dx, fs, rfl, _, _, h, hc, _⟩ := r
    obtain ⟨h1, h2, h3, h4⟩ := D.cX C hc
    exact .base (.ins h (D.cOk C hc) h1 h2 h3 h4)
  | _ => cases e
theorem tyN_mem : ∀ t : Ty, isOwn t = false → tyN t ∈ tyNs := by
  intro t ht
  cases t <;> first | (cases ht; done) | decide
theorem tyIs_rd {x : A} {v : V} {t : Ty} {k : Bool} {cv : V} {Q : VK} (T : TabOk D Φ) (e : tyIs Φ x t = some k) (r : RelA D γ H x v) (hc : ClsV cv (tyV' D t)) (q : Q (.bl k) H) : rIsi D.K [v, cv] H Q := by
  by_cases hn : x = .non
  · subst hn
    simp only [RelA] at r
    subst r
    cases ht : isOwn t with
    | true =>
      cases t with
      | own C =>
        obtain ⟨h1, h2⟩ := guardO_some (show guardO (Φ.ot C) false = some k from e)
        subst h2
        exact ⟨_, _, _, _, _, rfl, hc, .base .non, T.ot C h1 _ (by decide), q⟩
      | _ => cases ht
    | false =>
      have e' : k = false := by
        cases t <;> first | (cases ht; done) | (cases e; rfl)
      subst e'
      have e2 : tyV' D t = .type (tyN t) := by cases t <;> first | (cases ht; done) | rfl
      rw [e2] at hc
      exact ⟨_, _, _, _, _, rfl, hc, .base .non, kit_ty (kitB_non t ht), q⟩
  · have e' : (match kindA x, t with
      | some (.own C), .own C' => Φ.oc C C'
      | some (.own C), _ => guardO (Φ.bc C) false
      | some _, .own C => guardO (Φ.ot C) false
      | some c, t => some (tyB c t)
      | none, _ => none) = some k := by
      cases x <;> first | exact absurd rfl hn | (cases t <;> exact e)
    cases hk : kindA x with
    | none => rw [hk] at e'; cases e'
    | some c =>
      have tx := kind_rel hk r
      rw [hk] at e'
      cases hco : isOwn c with
      | true =>
        cases c with
        | own C =>
          cases ht : isOwn t with
          | true =>
            cases t with
            | own C' => exact ⟨_, _, _, _, _, rfl, hc, tx, T.oc C C' k e', q⟩
            | _ => cases ht
          | false =>
            have e2 : tyV' D t = .type (tyN t) := by cases t <;> first | (cases ht; done) | rfl
            have e3 : guardO (Φ.bc C) false = some k := by
              cases t <;> first | (cases ht; done) | exact e'
            obtain ⟨h1, h2⟩ := guardO_some e3
            subst h2
            rw [e2] at hc
            exact ⟨_, _, _, _, _, rfl, hc, tx, T.bc C h1 _ (tyN_mem t ht), q⟩
        | _ => cases hco
      | false =>
        have e4 : tyV' D c = .type (tyN c) := by cases c <;> first | (cases hco; done) | rfl
        rw [e4] at tx
        cases ht : isOwn t with
        | true =>
          cases t with
          | own C' =>
            have e3 : guardO (Φ.ot C') false = some k := by
              cases c <;> first | (cases hco; done) | exact e'
            obtain ⟨h1, h2⟩ := guardO_some e3
            subst h2
            exact ⟨_, _, _, _, _, rfl, hc, tx, T.ot C' h1 _ (tyN_mem c hco), q⟩
          | _ => cases ht
        | false =>
          have e2 : tyV' D t = .type (tyN t) := by cases t <;> first | (cases ht; done) | rfl
          have e3 : k = tyB c t := by
            cases c <;> first | (cases hco; done) | (cases t <;> first | (cases ht; done) | (cases e'; rfl))
          subst e3
          rw [e2] at hc
          exact ⟨_, _, _, _, _, rfl, hc, tx, kit_ty (kitB_ty c t hco ht), q⟩
theorem d_isi {p : Pos} {t : Ty} {cv : V} (T : TabOk D Φ) (hK : X.K = D.K) (ha : PE X a (tE D W Φ ma)) (hb : PE X b (tC cv)) (hc : ClsV cv (tyV' D t)) (hg : Gl X "isinstance") (hm : X.mg "isinstance" = none)
    (hs : starEach [a, b] X.env = (false, eval a X.env) :: starEach [b] X.env) (hs2 : starEach [b] X.env = (false, eval b X.env) :: starEach [] X.env) :
    PE X (.Call (.Name "isinstance" p) [a, b] [] pos) (tE D W Φ (.isi ma [t])) := by
  refine PE.imp (pe_callB call_isi hg hm (by decide +kernel) (pa_cons (pA ha) (pa_cons hb pa_nil hs2) hs) (by decide) (by decide) hs (by rw [hs2]; rfl)) fun σ H Q ⟨γ, ρ, g, R, P⟩ => ?_
  have P' : Post D W (TR D) γ σ H ((evA Φ ma >>= fun x => ofO (tyIs Φ x t) >>= fun y => Pure.pure (Rv.va (.bl y)) : M Rv) ρ g) Q := by simpa only [evR] using P
  refine Rg.mono (Post.bind (T := TAr D) R P') fun v H1 ⟨x, γ1, ρ1, g1, n1, R1, r1, P1⟩ => ?_
  obtain ⟨k, e1, P5⟩ := Post.bindO P1
  rw [hK]
  exact tyIs_rd T e1 r1 hc (of_pure P5 R1 (by simp only [RelR, RelA]))
theorem call_reprD (hg : X.A.guards = some []) (hu : X.A.units + 70 < cLine) : CallR X (.builtin "repr") (fun xs H Q => ∃ x d, xs = [x] ∧ Dp X.K H x d ∧ d.showable = true ∧ SeqAt.shaped d = true ∧ d.shown.length + 64 ≤ sizeLine ∧ Q (.str d.shown) H) := by
  intro pins s σ H xs us Q I r h
  obtain ⟨x, d, rfl, hd, hs, hsh, hz, q⟩ := h
  obtain ⟨u, rfl, ru⟩ := vals1 r
  have hdep := SeqAt.depth_of_shaped hsh
  have refc : ∀ p, u = .ref p → wpAny (model X.prog X.w) X.A (call (.builtin "repr") [.ref p]) (EP X pins σ Q) X.xe s := fun p e => by
    subst e
    obtain ⟨as, rd⟩ := Dp.reads I d x _ hd ru
    refine repr_of_reads' rd hs (PyData.noDict_hsm (PyData.hasDict_of_canLay d (SeqAt.canLay_of_shaped hsh))) hg (by omega) (fun b o e => e) (fun h' u' tk hk => ?_) (by omega)
    exact ⟨.str d.shown, H, I.kept hk, ⟨_, rfl⟩, q⟩
  cases hd with
  | non => cases ru; exact PySem.P.repr_of_none ⟨.str _, H, I.tok _, ⟨_, rfl⟩, by simpa only [PyData.shown] using q⟩
  | bl k => cases ru; exact PySem.P.repr_of_bool ⟨.str _, H, I.tok _, ⟨_, rfl⟩, by simpa only [PyData.shown] using q⟩
  | int i =>
    obtain ⟨t, rfl⟩ := ru
    exact PySem.P.repr_of_int (by simpa [PyData.showable] using hs) ⟨.str _, H, I.tok _, ⟨_, rfl⟩, by simpa only [PyData.shown] using q⟩
  | str z =>
    obtain ⟨t, rfl⟩ := ru
    simp only [PyData.shown] at hz q
    exact PySem.P.repr_of_str ⟨.str _, H, I.tok _, ⟨_, rfl⟩, q⟩ (by omega)
  | @lst p vs ds h l => cases ru; exact refc p rfl
  | @tup p vs ds h l => cases ru; exact refc p rfl
def rRepr (K : PySem.W.Frag) : List V → Hp → VK → Prop := fun xs H Q => (∃ x d, xs = [x] ∧ Dp K H x d ∧ d.showable = true ∧ SeqAt.shaped d = true ∧ d.shown.length + 64 ≤ sizeLine ∧ Q (.str d.shown) H) ∨ rBig K xs H Q
def biN : Bi → String
  | .abs => "abs" | .min2 => "min" | .max2 => "max" | .int1 => "int" | .repr1 => "repr" | .list1 => "list" | .tuple1 => "tuple" | .all1 => "all" | .any1 => "any" | .sum1 => "sum" | .str1 => "str" | .divmod2 => "divmod" | _ => "?"
def biV : Bi → Value
  | .int1 => .type "int" | .list1 => .type "list" | .tuple1 => .type "tuple" | .str1 => .type "str"
  | b => .builtin (biN b)
def rBi (K : PySem.W.Frag) : Bi → List V → Hp → VK → Prop
  | .abs => fun xs H Q => ∃ i, xs = [.int i] ∧ Q (.int (if i < 0 then -i else i)) H
  | .min2 => fun xs H Q => ∃ i j, xs = [.int i, .int j] ∧ Q (.int (if j < i then j else i)) H
  | .max2 => fun xs H Q => ∃ i j, xs = [.int i, .int j] ∧ Q (.int (if j > i then j else i)) H
  | .int1 => fun xs H Q => (∃ i, xs = [.int i] ∧ Q (.int i) H) ∨ ∃ k, xs = [.bl k] ∧ Q (.int (if k then 1 else 0)) H
  | .repr1 => rRepr K
  | .list1 => fun xs H Q => ∃ p ys, xs = [.ref p] ∧ (SqL K H p ys ∨ SqT K H p ys) ∧ ∀ l, H l = none → Q (.ref l) (upd H l (.lst ys))
  | .tuple1 => fun xs H Q => ∃ a ys, xs = [.ref a] ∧ ((SqL K H a ys ∧ ∀ l, H l = none → Q (.ref l) (upd H l (.tup ys))) ∨ (SqT K H a ys ∧ Q (.ref a) H))
  | .all1 => rAll K
  | .any1 => rAny K
  | .sum1 => rSum K
  | .str1 => fun xs H Q => ∃ i, xs = [.int i] ∧ i.natAbs.log2 < 1920 ∧ Q (.str (toString i)) H
  | _ => fun _ _ _ => False
theorem bi_ok (hc : X.calm = true) (hg : X.A.guards = some []) (hu : X.A.units + 70 < cLine) (hd : PySem.W.nsIn X.K cStatics "sys.int_max_str_digits" = some none) : ∀ b : Bi, CallR X (biV b) (rBi X.K b)
  | .abs => call_abs
  | .min2 => call_min2 hc
  | .max2 => call_max2 hc
  | .int1 => call_int1
  | .repr1 => (call_reprD hg hu).or (call_reprBig hg hu hd)
  | .list1 => call_list_of
  | .tuple1 => call_tuple_of
  | .all1 => cr_all hc
  | .any1 => cr_any hc
  | .sum1 => cr_sum hc
  | .str1 => call_str_int
  | .len => fun _ _ _ _ _ _ _ _ _ h => h.elim
  | .max3 => fun _ _ _ _ _ _ _ _ _ h => h.elim
  | .divmod2 => fun _ _ _ _ _ _ _ _ _ h => h.elim
  | .min1 => fun _ _ _ _ _ _ _ _ _ h => h.elim
  | .max1 => fun _ _ _ _ _ _ _ _ _ h => h.elim
  | .join => fun _ _ _ _ _ _ _ _ _ h => h.elim
  | .listr1 => fun _ _ _ _ _ _ _ _ _ h => h.elim
  | .listr3 => fun _ _ _ _ _ _ _ _ _ h => h.elim
theorem seqA_rel {x : A} {xs : List A} {v : V} (e : seqA x = some xs) (r : RelA D γ H x v) : ∃ p vs, v = .ref p ∧ ((SqL D.K H p vs ∧ ∀ y, x ≠ .tup y) ∨ (SqT D.K H p vs ∧ x = .tup xs ∧ RelA D γ H (.tup xs) (.ref p))) ∧ RelL D γ H xs vs := by
  cases x with
  | lst ys =>
    cases e
    simp only [RelA] at r
    obtain ⟨p, vs, e, _, h, l⟩ := r
    exact ⟨p, vs, e, .inl ⟨SqL.of h, fun y z => by cases z⟩, l⟩
  | kl ys =>
    cases e
    simp only [RelA] at r
    obtain ⟨p, vs, e, h, l⟩ := r
    exact ⟨p, vs, e, .inl ⟨SqL_of h, fun y z => by cases z⟩, l⟩
  | tup ys =>
    cases e
    have r0 := r
    simp only [RelA] at r
    obtain ⟨p, vs, e, h, l⟩ := r
    subst e
    exact ⟨p, vs, rfl, .inr ⟨SqT_of h, rfl, r0⟩, l⟩
  | _ => cases e
theorem lstA_rel {x : A} {xs : List A} {v : V} (e : lstA x = some xs) (r : RelA D γ H x v) : ∃ p vs, v = .ref p ∧ SqL D.K H p vs ∧ RelL D γ H xs vs := by
  cases x with
  | lst ys =>
    cases e
    simp only [RelA] at r
    obtain ⟨p, vs, e, _, h, l⟩ := r
    exact ⟨p, vs, e, SqL.of h, l⟩
  | kl ys =>
    cases e
    simp only [RelA] at r
    obtain ⟨p, vs, e, h, l⟩ := r
    exact ⟨p, vs, e, SqL_of h, l⟩
  | _ => cases e
theorem allBl_rel : ∀ {xs : List A} {bs : List Bool} {vs : List V}, allBl xs = some bs → RelL D γ H xs vs → vs = bs.map V.bl
  | [], bs, vs, e, r => by simp only [RelL] at r; cases e; subst r; rfl
  | x :: xs, bs, vs, e, r => by
    simp only [RelL] at r
    obtain ⟨v, us, rfl, r1, r2⟩ := r
    cases x with
    | bl k =>
      simp only [allBl] at e
      cases h : allBl xs with
      | none => rw [h] at e; cases e
      | some cs =>
        rw [h] at e
        cases e
        simp only [RelA] at r1
        rw [r1, allBl_rel h r2]
        rfl
    | _ => cases e
theorem allInt_rel : ∀ {xs : List A} {bs : List Int} {vs : List V}, allInt xs = some bs → RelL D γ H xs vs → vs = bs.map V.int
  | [], bs, vs, e, r => by simp only [RelL] at r; cases e; subst r; rfl
  | x :: xs, bs, vs, e, r => by
    simp only [RelL] at r
    obtain ⟨v, us, rfl, r1, r2⟩ := r
    cases x with
    | int k =>
      simp only [allInt] at e
      cases h : allInt xs with
      | none => rw [h] at e; cases e
      | some cs =>
        rw [h] at e
        cases e
        simp only [RelA] at r1
        rw [r1, allInt_rel h r2]
        rfl
    | _ => cases e
theorem l1 {x : A} {vs : List V} (h : RelL D γ H [x] vs) : ∃ v, vs = [v] ∧ RelA D γ H x v := by
  simp only [RelL] at h
  obtain ⟨v, r, rfl, h1, rfl⟩ := h
  exact ⟨v, rfl, h1⟩
theorem l2 {x y : A} {vs : List V} (h : RelL D γ H [x, y] vs) : ∃ v u, vs = [v, u] ∧ RelA D γ H x v ∧ RelA D γ H y u := by
  simp only [RelL] at h
  obtain ⟨v, r, rfl, h1, u, r2, rfl, h2, rfl⟩ := h
  exact ⟨v, u, rfl, h1, h2⟩
theorem map_some {α β : Type} {f : α → β} {o : Option α} {y : β} (h : o.map f = some y) : ∃ x, o = some x ∧ y = f x := by
  cases o with
  | none => cases h
  | some x => cases h; exact ⟨x, rfl, rfl⟩
theorem bind_some {α β : Type} {f : α → Option β} {o : Option α} {y : β} (h : o.bind f = some y) : ∃ x, o = some x ∧ f x = some y := by
  cases o with
  | none => cases h
  | some x => exact ⟨x, rfl, h⟩
theorem bi_rd (b : Bi) {xs : List A} {r' : Rv} {vs : List V} {Q : VK} (R : Rel D γ ρ g σ H) (l : RelL D γ H xs vs) (e : biA b xs = some r') (P : Post D W (TR D) γ σ H ((Pure.pure r' : M Rv) ρ g) Q) : rBi D.K b vs H Q := by
  have va : ∀ (a : A) (v : V), r' = .va a → RelA D γ H a v → Q v H := fun a v h r => by
    subst h
    exact of_pure P R r
  unfold biA at e
  split at e
  · obtain ⟨v, rfl, r⟩ := l1 l
    simp only [RelA] at r
    cases e
    exact ⟨_, by rw [r], va _ _ rfl (by simp only [RelA])⟩
  · obtain ⟨v, u, rfl, r, r2⟩ := l2 l
    simp only [RelA] at r r2
    cases e
    exact ⟨_, _, by rw [r, r2], va _ _ rfl (by simp only [RelA])⟩
  · obtain ⟨v, u, rfl, r, r2⟩ := l2 l
    simp only [RelA] at r r2
    cases e
    exact ⟨_, _, by rw [r, r2], va _ _ rfl (by simp only [RelA])⟩
  · obtain ⟨v, rfl, r⟩ := l1 l
    simp only [RelA] at r
    cases e
    exact .inl ⟨_, by rw [r], va _ _ rfl (by simp only [RelA])⟩
  · obtain ⟨v, rfl, r⟩ := l1 l
    simp only [RelA] at r
    cases e
    exact .inr ⟨_, by rw [r], va _ _ rfl (by simp only [RelA])⟩
  · obtain ⟨v, rfl, r⟩ := l1 l
    obtain ⟨s, e1, rfl⟩ := map_some e
    unfold reprA at e1
    split at e1
    · rename_i e2
      cases e1
      unfold reprD at e2
      split at e2
      · rename_i d hd
        obtain ⟨h, rfl⟩ := guardO_some e2
        obtain ⟨h1, h2⟩ := Bool.and_eq_true_iff.mp h
        obtain ⟨h3, h4⟩ := Bool.and_eq_true_iff.mp h1
        exact .inl ⟨v, d, rfl, py_dp _ _ _ hd r, h3, h4, of_decide_eq_true h2, va _ _ rfl (by simp only [RelA])⟩
      · cases e2
    · split at e1
      · rename_i is hb
        obtain ⟨hz, rfl⟩ := guardO_some e1
        unfold bigIs at hb
        split at hb
        · split at hb
          · rename_i ys js hj
            obtain ⟨ha, rfl⟩ := guardO_some hb
            simp only [RelA] at r
            obtain ⟨p, vs, rfl, h, lx⟩ := r
            obtain rfl := allInt_rel hj lx
            exact .inr ⟨p, _, rfl, SqT_of h, fun i hi => of_decide_eq_true (List.all_eq_true.mp ha i hi), of_decide_eq_true hz, va _ _ rfl (by simp only [RelA]; rfl)⟩
          · cases hb
        · cases hb
      · cases e1
  · obtain ⟨v, rfl, r⟩ := l1 l
    obtain ⟨ys, e1, rfl⟩ := map_some e
    obtain ⟨p, us, rfl, hs, lx⟩ := seqA_rel e1 r
    refine ⟨p, us, rfl, hs.imp And.left And.left, fun q hq => ?_⟩
    obtain ⟨R4, n4, r4⟩ := R.newLst hq lx
    exact P _ _ _ n4 R4 r4
  · obtain ⟨v, rfl, r⟩ := l1 l
    obtain ⟨ys, e1, rfl⟩ := map_some e
    obtain ⟨p, us, rfl, hs, lx⟩ := seqA_rel e1 r
    refine ⟨p, us, rfl, ?_⟩
    rcases hs with ⟨hs, _⟩ | ⟨hs, _, h⟩
    · refine .inl ⟨hs, fun q hq => ?_⟩
      obtain ⟨γ4, R4, n4, r4⟩ := R.newTup hq lx
      exact P _ _ _ n4 R4 r4
    · exact .inr ⟨hs, va _ _ rfl h⟩
  · obtain ⟨v, rfl, r⟩ := l1 l
    obtain ⟨ys, e1, e2⟩ := bind_some e
    obtain ⟨bs, e3, rfl⟩ := map_some e2
    obtain ⟨p, us, rfl, hs, lx⟩ := lstA_rel e1 r
    rw [allBl_rel e3 lx] at hs
    exact ⟨p, bs, rfl, hs, va _ _ rfl (by simp only [RelA])⟩
  · obtain ⟨v, rfl, r⟩ := l1 l
    obtain ⟨ys, e1, e2⟩ := bind_some e
    obtain ⟨bs, e3, rfl⟩ := map_some e2
    obtain ⟨p, us, rfl, hs, lx⟩ := lstA_rel e1 r
    rw [allBl_rel e3 lx] at hs
    exact ⟨p, bs, rfl, hs, va _ _ rfl (by simp only [RelA])⟩
  · obtain ⟨v, rfl, r⟩ := l1 l
    obtain ⟨ys, e1, e2⟩ := bind_some e
    obtain ⟨bs, e3, rfl⟩ := map_some e2
    obtain ⟨p, us, rfl, hs, lx⟩ := lstA_rel e1 r
    rw [allInt_rel e3 lx] at hs
    exact ⟨p, bs, rfl, hs, va _ _ rfl (by simp only [RelA])⟩
  · obtain ⟨v, rfl, r⟩ := l1 l
    simp only [RelA] at r
    obtain ⟨h, rfl⟩ := guardO_some e
    exact ⟨_, by rw [r], of_decide_eq_true h, va _ _ rfl (by simp only [RelA])⟩
  · cases e
theorem evR_bi (b : Bi) (ms : List Ex) (h : b ≠ .len) : evR Φ (.bi b ms) = (do let xs ← evL Φ ms; ofO (biA b xs)) := by
  cases b <;> first | exact absurd rfl h | simp only [evR]
theorem d_biG {e : Expr} (b : Bi) (hb : b ≠ .len) (hK : X.K = D.K) (h : PE X e (tCB (rBi X.K b) (tLs D W Φ ms))) : PE X e (tE D W Φ (.bi b ms)) := PE.imp h fun σ H Q ⟨γ, ρ, g, R, P⟩ => by
  rw [evR_bi b ms hb] at P
  refine Rg.mono (Post.bind (T := fun γ _ H a v => RelL D γ H a v) R P) fun vs H1 ⟨xs, γ1, ρ1, g1, n1, R1, r1, P1⟩ => ?_
  obtain ⟨r', e1, P5⟩ := Post.ofO P1
  rw [hK]
  exact bi_rd b R1 r1 e1 P5
end
end Eg
namespace Eg
open PySem PySem.Spec PyProof.Rows L2
section
variable {prog : Program} {w : World} {A : Around} {E : Value → Shared → Prop}
theorem draw_list {it t : Addr} {items : Array Value} (hne : t ≠ it) : ∀ (n i : Nat) (s : Shared) (Q : List Value → Shared → Prop), s.heap.IsListIter it t i → s.heap.IsList t items → i + n ≤ items.size →
    (∀ h', h'.IsListIter it t (i + n) → Heap.SameBut it s.heap h' → Q ((items.toList.drop i).take n) { s with heap := h' }) → wpAny (model prog w) A (draw (.ref it) n) Q E s
  | 0, i, s, Q, hit, _, _, hQ => by
    show wpAny _ _ (pure []) Q E s
    exact wpAny_pure (by simpa using hQ s.heap hit (Heap.SameBut.refl ..))
  | n + 1, i, s, Q, hit, ht, hle, hQ => by
    have hlt : i < items.size := by omega
    show wpAny _ _ (pyNext (.ref it) >>= _) Q E s
    refine wpAny_bind (wpAny_pyNext_list_item hit ht (x := items[i]) (by simp [hlt]) fun h₁ hit₁ hs₁ => ?_)
    refine wpAny_bind (wpAny_holding (draw_list hne n (i + 1) _ _ hit₁ (ht.extBut hs₁.extBut hne) (by omega) fun h₂ hit₂ hs₂ => wpAny_pure ?_))
    have hd : items.toList.drop i = items[i] :: items.toList.drop (i + 1) := by simp [List.drop_eq_getElem_cons, hlt]
    have := hQ h₂ (by rw [show i + (n + 1) = i + 1 + n by omega]; exact hit₂) (hs₁.trans hs₂)
    rwa [hd, List.take_succ_cons] at this
theorem unpack_list {s : Shared} {t : Addr} {items : Array Value} {targets : List (Bool × (Value → Sem Unit))} {Q : Unit → Shared → Prop} (hh : A.handled = none) (ht : s.heap.IsList t items)
    (hn : targets.length = items.size) (hstar : targets.findIdx? (·.1) = none)
    (h : ∀ h', Heap.ExtBut s.heap.objs.size s.heap h' → wpAny (model prog w) A (assignInOrder (targets.map (·.2)) items.toList) Q E { s with heap := h' }) :
    wpAny (model prog w) A (unpack (.ref t) targets) Q E s := by
  have hlt : t ≠ s.heap.objs.size := by obtain ⟨o, ho, _⟩ := ht; exact Nat.ne_of_lt (Heap.lt_size ho)
  have push : ∀ {o : Obj}, Heap.IsList (s.heap.push o) t items := fun {o} => by
    obtain ⟨o', e, r⟩ := ht
    exact ⟨o', Heap.get?_push_of_some _ e, r⟩
  unfold unpack
  rw [hn, hstar]
  refine wpAny_bind (wpAny_holding ?_)
  unfold unpackItems
  refine wpAny_bind ?_
  · unfold notIterableAtAll
    refine wpAny_bind (wpAny_specialOf ht.typeIs slot_list_iter.lookup ?_)
    refine wpAny_pure ?_
    simp only [Bool.false_eq_true, if_false]
    refine wpAny_bind (wpAny_holding (wpAny_pyIter_list ht ?_))
    refine wpAny_bind (wpAny_holding (draw_list hlt items.size 0 _ _ ⟨_, Heap.get?_push_size _ rfl, rfl, rfl⟩ push (by omega) fun h₁ hit₁ hs₁ => ?_))
    have hall : List.take items.size (List.drop 0 items.toList) = items.toList := by
      rw [List.drop_zero]; exact List.take_of_length_le (by simp)
    rw [hall]
    rw [if_neg (by simp)]
    have ht₁ : h₁.IsList t items := Heap.IsList.extBut push hs₁.extBut hlt
    refine wpAny_bind (wpAny_holding (wpAny_pyNext_list_end hh hit₁ ht₁ (by simp) fun h₂ he₂ => ?_))
    simp only [Option.isSome_none, Bool.false_eq_true, if_false]
    exact wpAny_pure (h h₂ fun b o hb e => he₂ b o hb (hs₁.extBut b o hb (Heap.get?_push_of_some _ e)))
end
section
variable {X : Cx} {pos : Pos}
def gTupL (K : PySem.W.Frag) (n : Nat) (t : TGs) : TG := fun v σ H Q => ∃ a xs, v = .ref a ∧ SqL K H a xs ∧ xs.length = n ∧ t xs σ H Q
theorem pg_tupL {es : List Expr} {k : Nat} {t : TGs} {n : Nat} (hc : X.calm = true) (h : PGs X es t)
    (hn : (assignEach es X.env).length = n) (hst : (assignEach es X.env).findIdx? (·.1) = none) : PG X (.Tuple es k pos) (gTupL X.K n t) := by
  refine ⟨fun pins s σ H v u Q I r hw => ?_⟩
  obtain ⟨a, xs, e1, hq, hl, hw⟩ := hw
  subst e1
  cases r
  obtain ⟨its, rv, pl, hz⟩ := I.list hq
  rw [assign_Tuple]
  refine wpAny_bind (wpAny_standAt (unpack_list (I.ok.hd hc) pl.isList (by simp [hn, ← hl, rv.length]) hst fun h' hx => ?_))
  have I1 : Inv X pins σ H { s with heap := h' } := I.kept (t' := s.toks) fun b o e => hx b o (Nat.ne_of_lt (Heap.lt_size e)) e
  exact h.run pins _ σ H xs _ Q I1 (by simpa using rv) hw
theorem PG.or {e : Expr} {t t' : TG} (h : PG X e t) (h' : PG X e t') : PG X e (fun v σ H Q => t v σ H Q ∨ t' v σ H Q) := ⟨fun pins s σ H v u Q I r q => q.elim (h.run pins s σ H v u Q I r) (h'.run pins s σ H v u Q I r)⟩
end
end Eg
namespace Eg
open PySem PySem.Spec PyProof.Rows L2
def ItR (D : Gd) (γ : Gh) (H : Hp) (J : It) (items : List A) : Prop := ∀ γ' H', Mono γ H γ' H' →
  (∀ (i : Nat) (x : A), items[i]? = some x → J.go i H' ∧ ∀ v H'', J.yld i H' v H'' → ∀ ρ g σ, Rel D γ' ρ g σ H' → ∃ γ'', Nxt γ' H' γ'' H'' ∧ Rel D γ'' ρ g σ H'' ∧ RelA D γ'' H'' x v) ∧ J.stop items.length H'
abbrev TI' (D : Gd) : Gh → En → Hp → List A → It → Prop := fun γ _ H xs J => ItR D γ H J xs
abbrev tI (D : Gd) (W : WX) (Φ : Tab) (k : ItK) (ms : List Ex) : TI := Rg D W (TI' D) (evL Φ ms >>= itM k)
section
variable {X : Cx} {D : Gd} {W : WX} {Φ : Tab} {pos : Pos} {a b c tg : Expr} {ma mb mc : Ex} {γ γ' : Gh} {ρ : En} {g : GS} {σ : L2.St} {H H' : Hp} {es : List Expr} {ms : List Ex} {rest : List Expr}
theorem PI.imp {e : Expr} {t t' : TI} (h : PI X tg e t) (i : ∀ σ H Q, t' σ H Q → t σ H Q) : PI X tg e t' := ⟨fun pins s σ H R I q => h.run pins s σ H R I (i σ H R q)⟩
theorem PI.or {e : Expr} {t t' : TI} (h : PI X tg e t) (h' : PI X tg e t') : PI X tg e (fun σ H Q => t σ H Q ∨ t' σ H Q) := ⟨fun pins s σ H R I q => q.elim (h.run pins s σ H R I) (h'.run pins s σ H R I)⟩
theorem ItR.list {p : Addr} {xs : List A} {vs : List V} (hs : ∀ γ' H', Mono γ H γ' H' → SqL D.K H' p vs) (l : RelL D γ H xs vs) : ItR D γ H (Itl D.K p) xs := fun γ' H' m => by
  refine ⟨fun i x e => ?_, vs, hs γ' H' m, by rw [RelL.length l]; exact Nat.le_refl _⟩
  obtain ⟨v, e1, r⟩ := RelL.get l e
  refine ⟨⟨vs, v, hs γ' H' m, e1⟩, fun u H'' y ρ g σ R => ?_⟩
  obtain ⟨rfl, y⟩ := y
  have := y vs (hs γ' _ m)
  rw [e1] at this
  cases this
  exact ⟨γ', Nxt.refl _ _, R, RelA.mono m _ _ r⟩
theorem ItR.tup {p : Addr} {xs : List A} {vs : List V} (hs : ∀ γ' H', Mono γ H γ' H' → SqT D.K H' p vs) (l : RelL D γ H xs vs) : ItR D γ H (Itt D.K p) xs := fun γ' H' m => by
  refine ⟨fun i x e => ?_, vs, hs γ' H' m, by rw [RelL.length l]; exact Nat.le_refl _⟩
  obtain ⟨v, e1, r⟩ := RelL.get l e
  refine ⟨⟨vs, v, hs γ' H' m, e1⟩, fun u H'' y ρ g σ R => ?_⟩
  obtain ⟨rfl, y⟩ := y
  have := y vs (hs γ' _ m)
  rw [e1] at this
  cases this
  exact ⟨γ', Nxt.refl _ _, R, RelA.mono m _ _ r⟩
theorem ItR.rng (lo : Int) (n : Nat) : ItR D γ H (Itr lo n) (rngA lo n) := fun γ' H' m => by
  unfold rngA
  refine ⟨fun i x e => ?_, ?_⟩
  · rw [List.getElem?_map] at e
    obtain ⟨k, e1, rfl⟩ := map_some e
    have hk : i < n ∧ k = i := by
      by_cases h : i < n
      · rw [List.getElem?_range h] at e1
        cases e1
        exact ⟨h, rfl⟩
      · rw [List.getElem?_eq_none (by simpa using h)] at e1
        cases e1
    obtain ⟨h1, rfl⟩ := hk
    refine ⟨h1, fun v H'' y ρ g σ R => ?_⟩
    obtain ⟨rfl, rfl⟩ := y
    exact ⟨γ', Nxt.refl _ _, R, by simp only [RelA]⟩
  · show n ≤ _
    rw [List.length_map, List.length_range]
    exact Nat.le_refl _
theorem ItR.str (z : Str) : ItR D γ H (Its z) (z.cps.toList.map fun c => A.str ⟨#[c]⟩) := fun γ' H' m => by
  refine ⟨fun i x e => ?_, ?_⟩
  · rw [List.getElem?_map] at e
    obtain ⟨c, e1, rfl⟩ := map_some e
    have e2 : z.cps[i]? = some c := by simpa using e1
    refine ⟨(Array.getElem?_eq_some_iff.mp e2).1, fun v H'' y ρ g σ R => ?_⟩
    obtain ⟨rfl, d, e3, rfl⟩ := y
    rw [e2] at e3
    cases e3
    exact ⟨γ', Nxt.refl _ _, R, by simp only [RelA]⟩
  · show z.cps.size ≤ _
    rw [List.length_map, Array.length_toList]
    exact Nat.le_refl _
theorem i_seq (hK : X.K = D.K) (ha : PE X a (tE D W Φ ma)) : PI X tg a (tI D W Φ .seq [ma]) := PI.imp (PI.or (pi_list (pA ha)) (PI.or (pi_tup (pA ha)) (pi_str (pA ha)))) fun σ H Q ⟨γ, ρ, g, R, P⟩ => by
  have P' : Post D W (TI' D) γ σ H ((evA Φ ma >>= fun x => itM .seq [x] : M (List A)) ρ g) Q := by
    have e : (evL Φ [ma] >>= itM .seq) = (evA Φ ma >>= fun x => itM .seq [x]) := by
      funext ρ g
      simp only [evL, bind, M.bind, pure, M.pure, evA]
      generalize fzM (evR Φ ma) ρ g = r
      cases r <;> rfl
    rwa [e] at P
  have B := Post.bind (T := TAr D) R P'
  cases q : evA Φ ma ρ g with
  | bad =>
    obtain ⟨γ0, ρ0, g0, R0, B0⟩ := B
    have e : (evA Φ ma >>= fun x => itM .seq [x]) ρ g = .bad := by
      show M.bind _ _ ρ g = _
      unfold M.bind
      rw [q]
    rw [e] at P'
    exact P'.elim
  | ex x ρ1 g1 =>
    have e : (evA Φ ma >>= fun x => itM .seq [x]) ρ g = .ex x ρ1 g1 := by
      show M.bind _ _ ρ g = _
      unfold M.bind
      rw [q]
    rw [e] at P'
    refine .inl ⟨γ, ρ, g, R, ?_⟩
    rw [q]
    exact P'
  | ok x ρ1 g1 =>
    have e : (evA Φ ma >>= fun x => itM .seq [x]) ρ g = itM .seq [x] ρ1 g1 := by
      show M.bind _ _ ρ g = _
      unfold M.bind
      rw [q]
    rw [e] at P'
    have go : ∀ {Q' : VK}, (∀ γ' H' v, Nxt γ H γ' H' → Rel D γ' ρ1 g1 σ H' → RelA D γ' H' x v → Q' v H') → tA D W Φ ma σ H Q' := fun {Q'} k => by
      refine ⟨γ, ρ, g, R, ?_⟩
      rw [q]
      exact k
    cases x with
    | lst xs =>
      refine .inl (go fun γ' H' v n R' r => ?_)
      simp only [RelA] at r
      obtain ⟨p, vs, e, ho, h, l⟩ := r
      rw [hK]
      exact ⟨p, e, ⟨vs, SqL.of h⟩, P' γ' H' (Itl D.K p) n R' (ItR.list (fun γ2 H2 m => SqL.of ((m.kp p ho).trans h)) l)⟩
    | kl xs =>
      refine .inl (go fun γ' H' v n R' r => ?_)
      simp only [RelA] at r
      obtain ⟨p, vs, e, h, l⟩ := r
      rw [hK]
      refine ⟨p, e, ⟨vs, SqL_of h⟩, P' γ' H' (Itl D.K p) n R' (ItR.list (fun γ2 H2 m => SqL_of (γ := γ2) ?_) l)⟩
      rcases h with ⟨h1, o, h2⟩ | h
      · exact .inl ⟨m.om p h1, o, (m.kp p h1).trans h2⟩
      · exact .inr h
    | tup xs =>
      refine .inr (.inl (go fun γ' H' v n R' r => ?_))
      simp only [RelA] at r
      obtain ⟨p, vs, e, h, l⟩ := r
      rw [hK]
      refine ⟨p, e, ⟨vs, SqT_of h⟩, P' γ' H' (Itt D.K p) n R' (ItR.tup (fun γ2 H2 m => SqT_of (γ := γ2) ?_) l)⟩
      rcases h with ⟨h1, h2⟩ | h
      · exact .inl ⟨m.om p h1, (m.kp p h1).trans h2⟩
      · exact .inr h
    | str z =>
      refine .inr (.inr (go fun γ' H' v n R' r => ?_))
      simp only [RelA] at r
      refine ⟨z, r, ?_⟩
      obtain ⟨ys, e1, P2⟩ := Post.ofO (x := itA .seq [.str z]) P'
      obtain ⟨_, rfl⟩ := guardO_some (show guardO (lineOk z.length) _ = some ys from e1)
      exact P2 γ' H' (Its z) n R' (ItR.str z)
    | _ => exact P'.elim
theorem i_r1 {p : Pos} (hg : Gl X "range") (hm : X.mg "range" = none) (ha : PA X [a] (tLs D W Φ [ma])) (hs : starEach [a] X.env = [(false, eval a X.env)]) : PI X tg (.Call (.Name "range" p) [a] [] pos) (tI D W Φ .r1 [ma]) := PI.imp (pi_range1 hg hm ha hs) fun σ H Q ⟨γ, ρ, g, R, P⟩ => by
  refine Rg.mono (Post.bind (T := fun γ _ H a v => RelL D γ H a v) R P) fun vs H1 ⟨xs, γ1, ρ1, g1, n1, R1, r1, P1⟩ => ?_
  obtain ⟨ys, e1, P2⟩ := Post.ofO (x := itA .r1 xs) P1
  replace e1 : itR1 xs = some ys := e1
  unfold itR1 at e1
  split at e1
  · rename_i n
    obtain ⟨v, rfl, r⟩ := l1 r1
    simp only [RelA] at r
    obtain ⟨hb, rfl⟩ := guardO_some e1
    obtain ⟨h1, h2⟩ := Bool.and_eq_true_iff.mp hb
    exact ⟨n, by rw [r], of_decide_eq_true h2, of_decide_eq_true h1, P2 γ1 H1 _ (Nxt.refl _ _) R1 (ItR.rng 0 _)⟩
  · cases e1
theorem i_r2 {p : Pos} (hg : Gl X "range") (hm : X.mg "range" = none) (ha : PA X [a, b] (tLs D W Φ [ma, mb])) (hs : starEach [a, b] X.env = [(false, eval a X.env), (false, eval b X.env)]) (hs2 : starEach [b] X.env = [(false, eval b X.env)]) :
    PI X tg (.Call (.Name "range" p) [a, b] [] pos) (tI D W Φ .r2 [ma, mb]) := PI.imp (pi_range2 hg hm ha hs hs2) fun σ H Q ⟨γ, ρ, g, R, P⟩ => by
  refine Rg.mono (Post.bind (T := fun γ _ H a v => RelL D γ H a v) R P) fun vs H1 ⟨xs, γ1, ρ1, g1, n1, R1, r1, P1⟩ => ?_
  obtain ⟨ys, e1, P2⟩ := Post.ofO (x := itA .r2 xs) P1
  replace e1 : itR2 xs = some ys := e1
  unfold itR2 at e1
  split at e1
  · rename_i i j
    obtain ⟨v, u, rfl, r, r2⟩ := l2 r1
    simp only [RelA] at r r2
    obtain ⟨hb, rfl⟩ := guardO_some e1
    simp only [Bool.and_eq_true, decide_eq_true_eq] at hb
    exact ⟨i, j, by rw [r, r2], ⟨hb.1.1.2, hb.1.1.1, hb.2, hb.1.2⟩, P2 γ1 H1 _ (Nxt.refl _ _) R1 (ItR.rng i _)⟩
  · cases e1
def gNms : List Nat → TGs
  | [] => gNil
  | i :: is => gCons (gName i) (gNms is)
def gOf (K : PySem.W.Frag) : Tg → TG
  | .n i => gName i
  | .t is => fun v σ H Q => gTup K is.length (gNms is) v σ H Q ∨ gTupL K is.length (gNms is) v σ H Q
theorem wipe_set {σ : L2.St} {i : Nat} {x : Option V} : ∀ {vs : List Nat}, i ∈ vs → wipe (σ.set i x) vs = wipe σ vs
  | [], h => by simp at h
  | v :: vs, h => by
    unfold wipe
    by_cases e : i = v
    · subst e
      by_cases h2 : i ∈ vs
      · rw [wipe_set h2]
      · have : ∀ {vs : List Nat}, i ∉ vs → wipe (σ.set i x) vs = (wipe σ vs).set i x := fun {vs} => by
          induction vs with
          | nil => intro _; rfl
          | cons w ws ih =>
            intro hn
            simp only [List.mem_cons, not_or] at hn
            unfold wipe
            rw [ih hn.2, List.set_comm _ _ hn.1]
        rw [this h2, List.set_set]
    · rcases List.mem_cons.mp h with h | h
      · exact absurd h e
      · rw [wipe_set h]
theorem setSl_va {i : Nat} {a : A} {v : V} {ρ1 : En} {g1 : GS} (R : Rel D γ ρ g σ H) (r : RelA D γ H a v) (e : setSl i (.va a) ρ g = .ok () ρ1 g1) : g1 = g ∧ Rel D γ ρ1 g (σ.set i (some v)) H := by
  unfold setSl at e
  split at e
  · cases e; exact ⟨rfl, R.setVa r⟩
  · cases e
theorem setAll_rd : ∀ (is : List Nat) {as : List A} {vs : List V} {ρ ρ1 : En} {g1 : GS} {σ : L2.St} {Q : L2.St → Hp → Prop}, Rel D γ ρ g σ H → RelL D γ H as vs → setAll is as ρ g = .ok () ρ1 g1 →
    (g1 = g → ∀ σ1, Rel D γ ρ1 g σ1 H → (∀ ws : List Nat, (∀ i ∈ is, i ∈ ws) → wipe σ1 ws = wipe σ ws) → Q σ1 H) → gNms is vs σ H Q := by
  intro is
  induction is with
  | nil =>
    intro as vs ρ ρ1 g1 σ Q R l e k
    cases as with
    | nil =>
      simp only [RelL] at l
      have e' : (Res.ok () ρ g : Res Unit) = .ok () ρ1 g1 := e
      cases e'
      exact ⟨l, k rfl σ R fun _ _ => rfl⟩
    | cons a as => cases (show (Res.bad : Res Unit) = .ok () ρ1 g1 from e)
  | cons i is ih =>
    intro as vs ρ ρ1 g1 σ Q R l e k
    cases as with
    | nil => cases (show (Res.bad : Res Unit) = .ok () ρ1 g1 from e)
    | cons a as =>
      simp only [RelL] at l
      obtain ⟨v, us, rfl, r1, r2⟩ := l
      have e' : M.bind (setSl i (.va a)) (fun _ => setAll is as) ρ g = .ok () ρ1 g1 := e
      unfold M.bind at e'
      cases q : setSl i (.va a) ρ g with
      | ok x ρ2 g2 =>
        rw [q] at e'
        obtain ⟨rfl, R2⟩ := setSl_va R r1 q
        refine ⟨v, us, rfl, ih R2 r2 e' fun eg σ1 R1 hw => k eg σ1 R1 fun ws hs => ?_⟩
        rw [hw ws fun j hj => hs j (List.mem_cons_of_mem _ hj), wipe_set (hs i List.mem_cons_self)]
      | ex x ρ2 g2 => rw [q] at e'; cases e'
      | bad => rw [q] at e'; cases e'
theorem tg_rd {t : Tg} {x : A} {v : V} {ρ1 : En} {g1 : GS} {Q : L2.St → Hp → Prop} (R : Rel D γ ρ g σ H) (r : RelA D γ H x v) (e : tgM t x ρ g = .ok () ρ1 g1)
    (k : g1 = g → ∀ σ1, Rel D γ ρ1 g σ1 H → (∀ ws, (∀ i ∈ t.slots, i ∈ ws) → wipe σ1 ws = wipe σ ws) → Q σ1 H) : gOf D.K t v σ H Q := by
  cases t with
  | n i =>
    obtain ⟨eg, R1⟩ := setSl_va R r e
    exact k eg _ R1 fun ws hs => wipe_set (hs i (by simp [Tg.slots]))
  | t is =>
    have len : ∀ {is : List Nat} {as : List A} {ρ ρ1 : En} {g1 : GS}, setAll is as ρ g = .ok () ρ1 g1 → as.length = is.length := fun {is} => by
      induction is with
      | nil =>
        intro as ρ ρ1 g1 e
        cases as with
        | nil => rfl
        | cons a as => cases (show (Res.bad : Res Unit) = .ok () ρ1 g1 from e)
      | cons i is ih =>
        intro as ρ ρ1 g1 e
        cases as with
        | nil => cases (show (Res.bad : Res Unit) = .ok () ρ1 g1 from e)
        | cons a as =>
          have e' : M.bind (setSl i (.va a)) (fun _ => setAll is as) ρ g = .ok () ρ1 g1 := e
          unfold M.bind at e'
          cases q : setSl i (.va a) ρ g with
          | ok x ρ2 g2 =>
            rw [q] at e'
            have : g2 = g := by
              unfold setSl at q
              split at q
              · cases q; rfl
              · cases q
            rw [this] at e'
            rw [List.length_cons, List.length_cons, ih e']
          | ex x ρ2 g2 => rw [q] at e'; cases e'
          | bad => rw [q] at e'; cases e'
    cases x with
    | tup as =>
      simp only [RelA] at r
      obtain ⟨p, vs, rfl, h, l⟩ := r
      exact .inl ⟨p, vs, rfl, SqT_of h, by rw [← RelL.length l]; exact len e, setAll_rd is R l e k⟩
    | lst as =>
      obtain ⟨p, vs, rfl, h, l⟩ := lstA_rel (xs := as) rfl r
      exact .inr ⟨p, vs, rfl, h, by rw [← RelL.length l]; exact len e, setAll_rd is R l e k⟩
    | kl as =>
      obtain ⟨p, vs, rfl, h, l⟩ := lstA_rel (xs := as) rfl r
      exact .inr ⟨p, vs, rfl, h, by rw [← RelL.length l]; exact len e, setAll_rd is R l e k⟩
    | _ => cases (show (Res.bad : Res Unit) = .ok () ρ1 g1 from e)
end
end Eg
namespace Eg
open PySem PySem.Spec PyProof.Rows L2
theorem wipeE_length (ρ : En) : ∀ vs : List Nat, (wipeE ρ vs).length = ρ.length
  | [] => rfl
  | v :: vs => by unfold wipeE; rw [List.length_set, wipeE_length ρ vs]
theorem wipeE_get {ρ : En} {i : Nat} {s : Sl} : ∀ {vs : List Nat}, (wipeE ρ vs)[i]? = some (some s) → i ∉ vs ∧ ρ[i]? = some (some s)
  | [], h => ⟨by simp, h⟩
  | v :: vs, h => by
    unfold wipeE at h
    rcases set_get h with ⟨_, q, _⟩ | ⟨ne, q⟩
    · cases q
    · obtain ⟨h1, h2⟩ := wipeE_get q
      exact ⟨by simp only [List.mem_cons, not_or]; exact ⟨fun z => ne z.symm, h1⟩, h2⟩
theorem wipeE_keep {ρ : En} {i : Nat} : ∀ {vs : List Nat}, i ∉ vs → (wipeE ρ vs)[i]? = ρ[i]?
  | [], _ => rfl
  | v :: vs, h => by
    simp only [List.mem_cons, not_or] at h
    unfold wipeE
    rw [List.getElem?_set_ne (Ne.symm h.1)]
    exact wipeE_keep h.2
theorem wipe_keep {σ : L2.St} {i : Nat} : ∀ {vs : List Nat}, i ∉ vs → (wipe σ vs)[i]? = σ[i]?
  | [], _ => rfl
  | v :: vs, h => by
    simp only [List.mem_cons, not_or] at h
    unfold wipe
    rw [List.getElem?_set_ne (Ne.symm h.1)]
    exact wipe_keep h.2
theorem restE_length (ρ0 ρ1 : En) : ∀ vs : List Nat, (restE ρ0 ρ1 vs).length = ρ1.length
  | [] => rfl
  | v :: vs => by unfold restE; rw [List.length_set, restE_length ρ0 ρ1 vs]
theorem restE_get {ρ0 ρ1 : En} {i : Nat} {s : Sl} : ∀ {vs : List Nat}, (restE ρ0 ρ1 vs)[i]? = some (some s) → (i ∉ vs ∧ ρ1[i]? = some (some s)) ∨ (i ∈ vs ∧ ∃ a, s = .va a ∧ ρ0[i]? = some (some (Sl.va a)))
  | [], h => .inl ⟨by simp, h⟩
  | v :: vs, h => by
    unfold restE at h
    rcases set_get h with ⟨e, q, _⟩ | ⟨ne, q⟩
    · subst e
      refine .inr ⟨List.mem_cons_self, ?_⟩
      split at q
      · rename_i a e
        cases q
        exact ⟨a, rfl, e⟩
      · cases q
    · rcases restE_get q with ⟨h1, h2⟩ | ⟨h1, h2⟩
      · exact .inl ⟨by simp only [List.mem_cons, not_or]; exact ⟨fun z => ne z.symm, h1⟩, h2⟩
      · exact .inr ⟨List.mem_cons_of_mem _ h1, h2⟩
theorem wipe_wipe {σ : L2.St} (vs : List Nat) : wipe (wipe σ vs) vs = wipe σ vs := by
  have len : ∀ (τ : L2.St), (wipe τ vs).length = τ.length := fun τ => wipe_length τ vs
  apply List.ext_getElem?
  intro i
  by_cases h : i ∈ vs
  · have gone : ∀ (τ : L2.St), (wipe τ vs)[i]? = if i < τ.length then some none else none := fun τ => by
      by_cases hl : i < τ.length
      · rw [if_pos hl]
        cases q : (wipe τ vs)[i]? with
        | none => rw [List.getElem?_eq_none_iff, len] at q; omega
        | some o =>
          cases o with
          | none => rfl
          | some x => exact absurd h (wipe_some q).2
      · rw [if_neg hl, List.getElem?_eq_none]
        rw [len]
        omega
    rw [gone, gone, len]
  · rw [wipe_keep h]
section
variable {X : Cx} {D : Gd} {W : WX} {Φ : Tab} {pos : Pos} {a b c tg : Expr} {ma mb mc : Ex} {γ γ' : Gh} {ρ : En} {g : GS} {σ : L2.St} {H H' : Hp} {es : List Expr} {ms : List Ex}
theorem Rel.wiped (R : Rel D γ ρ g σ H) (vs : List Nat) : Rel D γ (wipeE ρ vs) g (wipe σ vs) H := by
  refine ⟨by rw [wipeE_length, wipe_length]; exact R.len, fun i a e => ?_, fun i b o e => ?_, R.sz, R.ob, R.ainj, fun i j b b' o o' e e' => R.oinj i j b b' o o' (wipeE_get e).2 (wipeE_get e').2,
    fun i b o n e => R.oa i b o n (wipeE_get e).2, R.om, R.fr, R.omN, R.om0, R.keep, fun j o e => R.iok j o (wipeE_get e).2, fun q w e => let ⟨h1, h2, h3, h4, h5⟩ := R.prk q w e; ⟨h1, h2, h3, h4, fun j b o e => h5 j b o (wipeE_get e).2⟩⟩
  · obtain ⟨h1, h2⟩ := wipeE_get e
    rw [wipe_keep h1]
    exact R.va i a h2
  · obtain ⟨h1, h2⟩ := wipeE_get e
    rw [wipe_keep h1]
    exact R.ow i b o h2
theorem Rel.rest {γ1 γ2 : Gh} {ρ1 ρ2 : En} {g1 g2 : GS} {H1 H2 : Hp} {vs : List Nat} (R1 : Rel D γ1 ρ1 g1 σ H1) (n : Nxt γ1 H1 γ2 H2) (R2 : Rel D γ2 (wipeE ρ2 vs) g2 (wipe σ vs) H2) : Rel D γ2 (restE ρ1 ρ2 vs) g2 σ H2 := by
  have ow : ∀ {i : Nat} {b : Bool} {o : LO}, (restE ρ1 ρ2 vs)[i]? = some (some (Sl.ow b o)) → i ∉ vs ∧ (wipeE ρ2 vs)[i]? = some (some (Sl.ow b o)) := fun {i b o} e => by
    rcases restE_get e with ⟨h1, h2⟩ | ⟨_, a, h, _⟩
    · exact ⟨h1, by rw [wipeE_keep h1]; exact h2⟩
    · cases h
  refine ⟨?_, fun i a e => ?_, fun i b o e => ?_, R2.sz, R2.ob, R2.ainj, fun i j b b' o o' e e' => R2.oinj i j b b' o o' (ow e).2 (ow e').2,
    fun i b o n e => R2.oa i b o n (ow e).2, R2.om, R2.fr, R2.omN, R2.om0, R2.keep, fun j o e => R2.iok j o (ow e).2, fun q w e => let ⟨h1, h2, h3, h4, h5⟩ := R2.prk q w e; ⟨h1, h2, h3, h4, fun j b o e => h5 j b o (ow e).2⟩⟩
  · have := R2.len
    rw [wipeE_length, wipe_length] at this
    rw [restE_length, this]
  · rcases restE_get e with ⟨h1, h2⟩ | ⟨_, b, h, h2⟩
    · have e2 : (wipeE ρ2 vs)[i]? = some (some (Sl.va a)) := by rw [wipeE_keep h1]; exact h2
      have := R2.va i a e2
      rwa [wipe_keep h1] at this
    · cases h
      obtain ⟨v, e1, r⟩ := R1.va i a h2
      exact ⟨v, e1, RelA.mono n.toMono _ _ r⟩
  · obtain ⟨h1, h2⟩ := ow e
    have := R2.ow i b o h2
    rwa [wipe_keep h1] at this
def Gh.prot (γ : Gh) (p : Addr) (u : HO) : Gh := { γ with pr := upd γ.pr p u }
theorem Rel.prot (R : Rel D γ ρ g σ H) {p : Addr} {vs : List V} (F : Free γ ρ p) (e : H p = some (.lst vs)) : Rel D (γ.prot p (.lst vs)) ρ g σ H := by
  have m : ∀ {o : LO} {q : Addr}, RelO D γ H o q → RelO D (γ.prot p (.lst vs)) H o q := fun {o q} h => by
    have m0 : Mono γ H (γ.prot p (.lst vs)) H := ⟨fun _ h => h, fun _ _ => rfl, Nat.le_refl _, fun _ _ => rfl⟩
    cases o with
    | lst xs => obtain ⟨vs, q, r⟩ := h; exact ⟨vs, q, RelL.mono m0 _ _ r⟩
    | ins C ns xs => obtain ⟨dx, fs, q, hc, e1, n1, r⟩ := h; exact ⟨dx, fs, q, hc, e1, n1, RelF.mono m0 _ _ _ r⟩
  have m0 : Mono γ H (γ.prot p (.lst vs)) H := ⟨fun _ h => h, fun _ _ => rfl, Nat.le_refl _, fun _ _ => rfl⟩
  refine ⟨R.len, fun i a e => ?_, fun i b o e => ?_, R.sz, fun n o e => ?_, R.ainj, R.oinj, R.oa, R.om, R.fr, R.omN, R.om0, R.keep, R.iok, fun q w z => ?_⟩
  · obtain ⟨v, e1, r⟩ := R.va i a e
    exact ⟨v, e1, RelA.mono m0 _ _ r⟩
  · obtain ⟨e1, e2, e3⟩ := R.ow i b o e
    exact ⟨e1, m e2, e3⟩
  · obtain ⟨e2, e3⟩ := R.ob n o e
    exact ⟨m e2, e3⟩
  · have z' : upd γ.pr p (.lst vs) q = some w := z
    by_cases hq : q = p
    · subst hq
      rw [upd_same] at z'
      cases z'
      exact ⟨e, ⟨_, rfl⟩, F.om, F.al, F.ow⟩
    · rw [upd_ne hq] at z'
      exact R.prk q w z'
def Gh.unprot (γ : Gh) (P : Hp) : Gh := { γ with pr := P }
theorem Rel.unprot (R : Rel D γ ρ g σ H) {P : Hp} (hP : ∀ q w, P q = some w → γ.pr q = some w) : Rel D (γ.unprot P) ρ g σ H := by
  have m0 : Mono γ H (γ.unprot P) H := ⟨fun _ h => h, fun _ _ => rfl, Nat.le_refl _, fun _ _ => rfl⟩
  have m : ∀ {o : LO} {q : Addr}, RelO D γ H o q → RelO D (γ.unprot P) H o q := fun {o q} h => by
    cases o with
    | lst xs => obtain ⟨vs, q, r⟩ := h; exact ⟨vs, q, RelL.mono m0 _ _ r⟩
    | ins C ns xs => obtain ⟨dx, fs, q, hc, e1, n1, r⟩ := h; exact ⟨dx, fs, q, hc, e1, n1, RelF.mono m0 _ _ _ r⟩
  refine ⟨R.len, fun i a e => ?_, fun i b o e => ?_, R.sz, fun n o e => ?_, R.ainj, R.oinj, R.oa, R.om, R.fr, R.omN, R.om0, R.keep, R.iok, fun q w z => R.prk q w (hP q w z)⟩
  · obtain ⟨v, e1, r⟩ := R.va i a e
    exact ⟨v, e1, RelA.mono m0 _ _ r⟩
  · obtain ⟨e1, e2, e3⟩ := R.ow i b o e
    exact ⟨e1, m e2, e3⟩
  · obtain ⟨e2, e3⟩ := R.ob n o e
    exact ⟨m e2, e3⟩
abbrev W0 : WX := fun _ _ _ _ => False
def compF (Φ : Tab) (tg : Tg) (cond elt : Ex) (x : A) : M (Option A) := do
  tgM tg x
  let c ← fzM (evR Φ cond)
  let c' ← boolM c
  if c' then do
    let y ← fzM (evR Φ elt)
    pure (some y)
  else pure none
theorem lc_rd {t : Tg} {k : ItK} {me mc : Ex} {Q : VK} (q : tE D W Φ (.lc me t k ms mc) σ H Q) : tLc (tI D W Φ k ms) (gOf D.K t) (tTs D W0 Φ mc) (tA D W0 Φ me) t.slots σ H Q := by
  obtain ⟨γ, ρ, g, R, P⟩ := q
  have P' : Post D W (TR D) γ σ H (((evL Φ ms >>= itM k) >>= fun items => compR t.slots (compF Φ t mc me) items) ρ g) Q := by
    rw [M.assoc]
    simp only [evR] at P
    exact P
  refine Rg.mono (Post.bind (T := TI' D) R P') fun J H1 ⟨items, γ1, ρ1, g1, n1, R1, hJ, P1⟩ => ?_
  intro Dd hDd
  have FD := R1.fresh hDd
  let Fin : Res (List A) → Prop := fun r => match r with
    | .ok ys ρ2 g2 => ∀ γ' H' v, Nxt γ1 H1 γ' H' → Rel D γ' (restE ρ1 ρ2 t.slots) g2 σ H' → RelR D γ' (restE ρ1 ρ2 t.slots) H' (.nw (.lst ys)) v → Q v H'
    | _ => False
  have fin0 : Fin (compM t.slots (compF Φ t mc me) items [] ρ1 g1) := by
    have e : compR t.slots (compF Φ t mc me) items ρ1 g1 = match compM t.slots (compF Φ t mc me) items [] ρ1 g1 with
      | .ok ys ρ2 g2 => .ok (.nw (.lst ys)) (restE ρ1 ρ2 t.slots) g2
      | _ => .bad := rfl
    rw [e] at P1
    cases q : compM t.slots (compF Φ t mc me) items [] ρ1 g1 with
    | ok ys ρ2 g2 => rw [q] at P1; exact P1
    | ex x ρ2 g2 => rw [q] at P1; exact P1
    | bad => rw [q] at P1; exact P1
  let Inv : Nat → Hp → Prop := fun i Hc => i ≤ items.length ∧ ∃ γc ρc gc acc vacc, Nxt γ1 H1 γc Hc ∧ Rel D γc (wipeE ρc t.slots) gc (wipe σ t.slots) Hc ∧ Free γc (wipeE ρc t.slots) Dd ∧ Hc Dd = some (.lst vacc) ∧ RelL D γc Hc acc vacc ∧
    Fin (compM t.slots (compF Φ t mc me) (items.drop i) acc ρc gc)
  refine ⟨fun i m Hc => m = items.length - i ∧ Inv i Hc, ⟨items.length, by simp, Nat.zero_le _, ?_⟩, ?_⟩
  · obtain ⟨R2, m2⟩ := R1.updt (p := Dd) (u := .lst []) FD.om (.inl FD.h0) FD.al FD.ow (fun q => by rw [hDd]; exact fun y => by cases y) FD.pr (fun q z => by cases z) (fun xs e => by rw [hDd] at e; cases e)
    exact ⟨γ1, ρ1, g1, [], [], m2, R2.wiped _, ⟨FD.om, FD.h0, FD.al, fun i b o e => FD.ow i b o (wipeE_get e).2, FD.pr⟩, upd_same, RelL.nil, fin0⟩
  · rintro i m Hc ⟨rfl, hi, γc, ρc, gc, acc, vacc, nc, Rc, Fc, hDc, lc, fc⟩
    obtain ⟨hgo, hstop⟩ := hJ γc Hc nc.toMono
    by_cases hlt : i < items.length
    · refine .inr ⟨(hgo i items[i] (List.getElem?_eq_getElem hlt)).1, Inv (i + 1), fun H' p' => ⟨items.length - (i + 1), by omega, rfl, p'⟩, fun v H'' hy => ?_⟩
      have Rp := Rc.prot Fc hDc
      have mp : Mono γ1 H1 (γc.prot Dd (.lst vacc)) Hc := ⟨nc.om, nc.kp, nc.sz, nc.al⟩
      obtain ⟨γ2, n2, R2, r2⟩ := ((hJ _ Hc mp).1 i items[i] (List.getElem?_eq_getElem hlt)).2 v H'' hy _ _ _ Rp
      have ed : items.drop i = items[i] :: items.drop (i + 1) := List.drop_eq_getElem_cons hlt
      rw [ed] at fc
      have ec : compM t.slots (compF Φ t mc me) (items[i] :: items.drop (i + 1)) acc ρc gc = match compF Φ t mc me items[i] (wipeE ρc t.slots) gc with
        | .ok (some y) ρ1 g1 => if acc.length < sizeLine then compM t.slots (compF Φ t mc me) (items.drop (i + 1)) (acc ++ [y]) ρ1 g1 else .bad
        | .ok none ρ1 g1 => compM t.slots (compF Φ t mc me) (items.drop (i + 1)) acc ρ1 g1
        | .ex e ρ1 g1 => .ex e ρ1 g1
        | .bad => .bad := rfl
      rw [ec] at fc
      have turn : ∀ {σ1 : L2.St} {γ3 : Gh} {ρ3 : En} {g3 : GS} {H3 : Hp}, wipe σ1 t.slots = wipe σ t.slots → Nxt γ2 H'' γ3 H3 → Rel D γ3 ρ3 g3 σ1 H3 →
          ∃ γ4, Nxt γ1 H1 γ4 H3 ∧ Rel D γ4 (wipeE ρ3 t.slots) g3 (wipe σ t.slots) H3 ∧ Free γ4 (wipeE ρ3 t.slots) Dd ∧ H3 Dd = some (.lst vacc) ∧ RelL D γ4 H3 acc vacc ∧ (∀ a v, RelA D γ3 H3 a v → RelA D γ4 H3 a v) := fun {σ1 γ3 ρ3 g3 H3} hw n3 R3 => by
        have n23 := n2.trans n3
        have epr : γ3.pr = upd γc.pr Dd (.lst vacc) := n23.pr
        have hpr : γ3.pr Dd = some (.lst vacc) := by rw [epr, upd_same]
        obtain ⟨h1, _, h3, h4, h5⟩ := R3.prk Dd _ hpr
        have sub : ∀ q w, γc.pr q = some w → γ3.pr q = some w := fun q w e => by
          rw [epr, upd_ne fun z => ?_]
          · exact e
          · rw [z, Fc.pr] at e; cases e
        have R4 := (R3.unprot sub).wiped t.slots
        rw [hw] at R4
        have m34 : Mono γ3 H3 (γ3.unprot γc.pr) H3 := ⟨fun _ h => h, fun _ _ => rfl, Nat.le_refl _, fun _ _ => rfl⟩
        have mc3 : Mono γc Hc (γ3.unprot γc.pr) H3 := (show Mono γc Hc γ3 H3 from ⟨n23.om, n23.kp, n23.sz, n23.al⟩).trans m34
        refine ⟨γ3.unprot γc.pr, ⟨⟨nc.toMono.trans mc3, n23.h0.trans nc.h0, n23.t.trans nc.t, n23.m0.trans nc.m0, nc.pr, n23.io.trans nc.io, fun p q h => n23.own p q (nc.own p q h), fun p h => n23.keep p (nc.keep p h), fun y p h hp => nc.ownb y p (n23.ownb y p h (nc.keep p hp)) hp, fun p xs h => let ⟨ys, e⟩ := nc.kd p xs h; n23.kd p ys e⟩, n23.ow.trans nc.ow⟩, R4, ⟨h3, ?_, h4, fun j b o e => h5 j b o (wipeE_get e).2, Fc.pr⟩, h1, RelL.mono mc3 _ _ lc, fun a v r => RelA.mono m34 _ _ r⟩
        show γ3.H0 Dd = none
        rw [n23.h0]
        exact Fc.h0
      have eF : compF Φ t mc me items[i] (wipeE ρc t.slots) gc = M.bind (tgM t items[i]) (fun _ => (evA Φ mc >>= boolM) >>= fun c' => if c' then (evA Φ me >>= fun y => M.pure (some y)) else M.pure none) (wipeE ρc t.slots) gc := by
        rw [M.assoc]
        rfl
      rw [eF] at fc
      unfold M.bind at fc
      cases q1 : tgM t items[i] (wipeE ρc t.slots) gc with
      | bad => rw [q1] at fc; exact fc.elim
      | ex x ρx gx => rw [q1] at fc; exact fc.elim
      | ok u ρt gt =>
        rw [q1] at fc
        refine tg_rd R2 r2 q1 fun eg σ1 Rt hw => ?_
        have hw1 : wipe σ1 t.slots = wipe σ t.slots := (hw t.slots fun i h => h).trans (wipe_wipe _)
        refine ⟨hw1, ?_⟩
        subst eg
        refine ⟨γ2, ρt, gt, Rt, ?_⟩
        simp only at fc
        cases q2 : (evA Φ mc >>= boolM) ρt gt with
        | bad =>
          have : ((evA Φ mc >>= boolM) >>= fun c' => if c' = true then (evA Φ me >>= fun y => M.pure (some y)) else M.pure none) ρt gt = .bad := by
            show M.bind _ _ ρt gt = _
            unfold M.bind
            rw [q2]
          rw [this] at fc
          exact fc.elim
        | ex x ρx gx =>
          have : ((evA Φ mc >>= boolM) >>= fun c' => if c' = true then (evA Φ me >>= fun y => M.pure (some y)) else M.pure none) ρt gt = .ex x ρx gx := by
            show M.bind _ _ ρt gt = _
            unfold M.bind
            rw [q2]
          rw [this] at fc
          exact fc.elim
        | ok k ρk gk =>
          have ek : ((evA Φ mc >>= boolM) >>= fun c' => if c' = true then (evA Φ me >>= fun y => M.pure (some y)) else M.pure none) ρt gt = (if k = true then (evA Φ me >>= fun y => M.pure (some y)) else M.pure none) ρk gk := by
            show M.bind _ _ ρt gt = _
            unfold M.bind
            rw [q2]
          rw [ek] at fc
          rintro γ3 H3 k' n3 R3 ek'
          subst ek'
          cases k with
          | false =>
            obtain ⟨γ4, n4, R4, F4, h4, l4, _⟩ := turn hw1 n3 R3
            exact ⟨hlt, γ4, ρk, gk, acc, vacc, n4, R4, F4, h4, l4, fc⟩
          | true =>
            simp only [if_true] at fc ⊢
            refine ⟨γ3, ρk, gk, R3, ?_⟩
            cases q3 : evA Φ me ρk gk with
            | bad =>
              have : (evA Φ me >>= fun y => (M.pure (some y) : M (Option A))) ρk gk = .bad := by
                show M.bind _ _ ρk gk = _
                unfold M.bind
                rw [q3]
              rw [this] at fc
              exact fc.elim
            | ex x ρx gx =>
              have : (evA Φ me >>= fun y => (M.pure (some y) : M (Option A))) ρk gk = .ex x ρx gx := by
                show M.bind _ _ ρk gk = _
                unfold M.bind
                rw [q3]
              rw [this] at fc
              exact fc.elim
            | ok y ρy gy =>
              have : (evA Φ me >>= fun y => (M.pure (some y) : M (Option A))) ρk gk = .ok (some y) ρy gy := by
                show M.bind _ _ ρk gk = _
                unfold M.bind
                rw [q3]
                rfl
              rw [this] at fc
              rintro γ5 H5 vy n5 R5 ry
              obtain ⟨γ4, n4, R4, F4, h4, l4, t4⟩ := turn hw1 (n3.trans n5) R5
              simp only at fc
              split at fc
              · rename_i hz
                have hl : acc.length = vacc.length := RelL.length l4
                refine ⟨vacc, h4, by rw [← hl]; exact hz, ?_⟩
                obtain ⟨R6, m6⟩ := R4.updt (p := Dd) (u := .lst (vacc ++ [vy])) F4.om (.inl F4.h0) F4.al F4.ow (fun q => by rw [h4]; exact fun y => by cases y) F4.pr (fun q z => by cases z) (fun _ _ => ⟨_, rfl⟩)
                exact ⟨hlt, γ4, ρy, gy, acc ++ [y], vacc ++ [vy], n4.trans m6, R6, F4, upd_same, RelL.append (RelL.mono m6.toMono _ _ l4) (RelL.cons (RelA.mono m6.toMono _ _ (t4 _ _ ry)) RelL.nil), fc⟩
              · exact fc.elim
    · have e : i = items.length := by omega
      subst e
      refine .inl ⟨hstop, ?_⟩
      rw [List.drop_length] at fc
      have fc' : ∀ γ' H' v, Nxt γ1 H1 γ' H' → Rel D γ' (restE ρ1 ρc t.slots) gc σ H' → RelR D γ' (restE ρ1 ρc t.slots) H' (.nw (.lst acc)) v → Q v H' := fc
      have R7 := Rel.rest R1 nc Rc
      refine fc' γc Hc _ nc R7 ⟨Dd, rfl, ⟨vacc, hDc, lc⟩, ⟨Fc.om, Fc.h0, Fc.al, fun j b o e => ?_, Fc.pr⟩, fun dx fs C e => ?_⟩
      · rcases restE_get e with ⟨h1, h2⟩ | ⟨_, a, h, _⟩
        · exact Fc.ow j b o (by rw [wipeE_keep h1]; exact h2)
        · cases h
      · rw [hDc] at e; cases e
theorem d_lc {elt iter : Expr} {ifs : List Expr} {scope : Scope} {own : List (Str × Nat)} {t : Tg} {k : ItK} {me mc : Ex} (hc : X.calm = true) (hN : X.N.Nodup) (hi : PI X tg iter (tI D W Φ k ms)) (ok : BlkOk X.N X.env.scope scope own) (hown : own.map (·.2) = t.slots)
    (hg : ∀ (s : Shared) (H : Hp) (C : Addr) (cl : List (Str × Addr)) (fp : List Addr), PG (X.blk s H scope (compEnvC scope cl C X.env) fp) tg (gOf D.K t))
    (ht : ∀ (s : Shared) (H : Hp) (C : Addr) (cl : List (Str × Addr)) (fp : List Addr), PTs (X.blk s H scope (compEnvC scope cl C X.env) fp) ifs (tTs D W0 Φ mc))
    (he : ∀ (s : Shared) (H : Hp) (C : Addr) (cl : List (Str × Addr)) (fp : List Addr), PE (X.blk s H scope (compEnvC scope cl C X.env) fp) elt (tE D W0 Φ me))
    (hs : ∀ x, foldedSetIterable iter X.env x = pure x) : PE X (.ListComp elt [⟨tg, iter, ifs, 0⟩] scope pos) (tE D W Φ (.lc me t k ms mc)) := by
  have h := pe_lc (pos := pos) hc hN hi ok hg ht (fun s H C cl fp => pA (he s H C cl fp)) hs
  rw [hown] at h
  exact PE.imp h fun σ H Q q => lc_rd q
end
end Eg
namespace Eg
open PySem PySem.Spec PyProof.Rows L2
structure GOk (P : Program) (w : World) (K : PySem.W.Frag) (mg : Str → Option Value) (base : Heap) (k : Nat) (f : Addr) (fd : FuncData) (ps : List Str) (sp : Sp) : Prop where
  len : ∀ vs H Q E, sp vs H Q E → vs.length = ps.length
  go : ∀ (A : Around) (outer : List Env) (s : Shared) (H : Hp) (args : Args) (us : List Value) (vs : List V) (Q : VK) (E : XK), Room k A → A.guards = some [] → Env0 P w K mg base A outer s H → BindsTo s fd args (ps.zip us) → Vals vs us →
    sp vs H Q E → codeAny (model P w) A (.call (.ref f) args) (CR (L2.CX P w) outer P w H s Q E) s
def outE : List Ag → List LO → En
  | [], _ => []
  | .va _ :: as, os => none :: outE as os
  | .lo _ :: as, o :: os => some (.ow true o) :: outE as os
  | .lo _ :: as, [] => none :: outE as []
abbrev inE (as : List Ag) : En := as.map fun a => some (slOf a)
def PostF (D : Gd) (γ : Gh) (H : Hp) (vs : List V) (as : List Ag) (Q : VK) (E : XK) : FR → Prop
  | .ok r outs g1 => ∀ γ1 H1 v, Nx0 γ H γ1 H1 → Rel D γ1 (outE as outs) g1 (vs.map some) H1 → RelR D γ1 (outE as outs) H1 r v → Q v H1
  | .ex e outs g1 => ∀ γ1 H1 cls d, Nx0 γ H γ1 H1 → Rel D γ1 (outE as outs) g1 (vs.map some) H1 → RelX D γ1 H1 e cls d → E cls d H1
  | .bad => False
def spF (D : Gd) (F : Fn) : Sp := fun vs H Q E => ∃ (γ : Gh) (as : List Ag) (g : GS), Rel D γ (inE as) g (vs.map some) H ∧ γ.H0 = H ∧ γ.Om0 = γ.Om ∧ γ.pr = (fun _ => none) ∧ γ.io = γ.ow ∧ PostF D γ H vs as Q E (F.run as g)
def Tch (γ : Gh) (H : Hp) (L : List Addr) (p : Addr) : Prop :=
  (∃ n, n < γ.sz ∧ p = γ.al n) ∨ p ∈ L ∨ ∃ q, ((∃ n, n < γ.sz ∧ q = γ.al n) ∨ q ∈ L) ∧ H p = some (.own q)
def adrs (γ : Gh) : List AV → List Addr
  | [] => []
  | .va _ :: r => adrs γ r
  | .io i :: r => γ.ow i :: adrs γ r
def adrAt (γ : Gh) (avs : List AV) (j : Nat) : Addr := match avs[j]? with
  | some (.io i) => γ.ow i
  | _ => 0
def Gh.enter (γ : Gh) (H : Hp) (avs : List AV) : Gh :=
  { al := γ.al, sz := γ.sz, ow := adrAt γ avs, Om := γ.Om, H0 := H, T := Tch γ H (adrs γ avs), Om0 := γ.Om, pr := fun _ => none, io := adrAt γ avs }
def RelV' (D : Gd) (γ : Gh) (H : Hp) : List AV → List V → Prop
  | [], vs => vs = []
  | .va a :: r, vs => ∃ v us, vs = v :: us ∧ RelA D γ H a v ∧ RelV' D γ H r us
  | .io i :: r, vs => ∃ us, vs = .ref (γ.ow i) :: us ∧ RelV' D γ H r us
section
variable {D : Gd} {γ γ' : Gh} {ρ : En} {g : GS} {σ : L2.St} {H H' : Hp} {avs : List AV} {vs : List V} {as : List Ag}
theorem RelV'.mono (n : Nxt γ H γ' H') : ∀ {avs : List AV} {vs : List V}, RelV' D γ H avs vs → RelV' D γ' H' avs vs
  | [], vs, h => h
  | .va a :: r, vs, h => by
    obtain ⟨v, us, e, h1, h2⟩ := h
    exact ⟨v, us, e, RelA.mono n.toMono _ _ h1, RelV'.mono n h2⟩
  | .io i :: r, vs, h => by
    obtain ⟨us, e, h2⟩ := h
    exact ⟨us, by rw [n.ow]; exact e, RelV'.mono n h2⟩
theorem RelV'.length : ∀ {avs : List AV} {vs : List V}, RelV' D γ H avs vs → vs.length = avs.length
  | [], vs, h => by rw [show vs = [] from h]; rfl
  | .va a :: r, vs, h => by
    obtain ⟨v, us, rfl, h1, h2⟩ := h
    rw [List.length_cons, List.length_cons, RelV'.length h2]
  | .io i :: r, vs, h => by
    obtain ⟨us, rfl, h2⟩ := h
    rw [List.length_cons, List.length_cons, RelV'.length h2]
theorem argsOf_length : ∀ {avs : List AV} {as : List Ag}, argsOf avs ρ = some as → as.length = avs.length
  | [], as, e => by cases e; rfl
  | .va a :: r, as, e => by
    obtain ⟨bs, e1, rfl⟩ := map_some (show (argsOf r ρ).map _ = some as from e)
    rw [List.length_cons, List.length_cons, argsOf_length e1]
  | .io i :: r, as, e => by
    simp only [argsOf] at e
    split at e
    · obtain ⟨bs, e1, rfl⟩ := map_some e
      rw [List.length_cons, List.length_cons, argsOf_length e1]
    · cases e
theorem argsOf_get : ∀ {avs : List AV} {as : List Ag} {j : Nat} {a : Ag}, argsOf avs ρ = some as → as[j]? = some a →
    (∃ x, avs[j]? = some (.va x) ∧ a = .va x) ∨ ∃ i b o, avs[j]? = some (.io i) ∧ ρ[i]? = some (some (Sl.ow b o)) ∧ a = .lo o
  | [], as, j, a, e, h => by cases e; simp at h
  | .va x :: r, as, j, a, e, h => by
    obtain ⟨bs, e1, rfl⟩ := map_some (show (argsOf r ρ).map _ = some as from e)
    cases j with
    | zero => simp at h; exact .inl ⟨x, rfl, h.symm⟩
    | succ j => simpa using argsOf_get e1 (by simpa using h)
  | .io i :: r, as, j, a, e, h => by
    simp only [argsOf] at e
    split at e
    · rename_i b o q
      obtain ⟨bs, e1, rfl⟩ := map_some e
      cases j with
      | zero => simp at h; exact .inr ⟨i, b, o, rfl, q, h.symm⟩
      | succ j => simpa using argsOf_get e1 (by simpa using h)
    · cases e
theorem RelV'.get : ∀ {avs : List AV} {vs : List V} {j : Nat}, RelV' D γ H avs vs → (∀ x, avs[j]? = some (.va x) → ∃ v, vs[j]? = some v ∧ RelA D γ H x v) ∧ (∀ i, avs[j]? = some (.io i) → vs[j]? = some (.ref (γ.ow i)))
  | [], vs, j, h => ⟨fun x e => by simp at e, fun i e => by simp at e⟩
  | .va a :: r, vs, j, h => by
    obtain ⟨v, us, rfl, h1, h2⟩ := h
    cases j with
    | zero => exact ⟨fun x e => by simp at e; subst e; exact ⟨v, rfl, h1⟩, fun i e => by simp at e⟩
    | succ j => simpa using RelV'.get (j := j) h2
  | .io i :: r, vs, j, h => by
    obtain ⟨us, rfl, h2⟩ := h
    cases j with
    | zero => exact ⟨fun x e => by simp at e, fun k e => by simp at e; subst e; rfl⟩
    | succ j => simpa using RelV'.get (j := j) h2
theorem mem_adrs : ∀ {avs : List AV} {p : Addr}, p ∈ adrs γ avs → ∃ i, i ∈ ioOf avs ∧ p = γ.ow i
  | [], p, h => by simp [adrs] at h
  | .va _ :: r, p, h => mem_adrs (avs := r) h
  | .io i :: r, p, h => by
    rcases List.mem_cons.mp h with h | h
    · exact ⟨i, List.mem_cons_self, h⟩
    · obtain ⟨k, h1, h2⟩ := mem_adrs h
      exact ⟨k, List.mem_cons_of_mem _ h1, h2⟩
theorem adrs_mem : ∀ {avs : List AV} {i : Nat}, i ∈ ioOf avs → γ.ow i ∈ adrs γ avs
  | [], i, h => by simp [ioOf] at h
  | .va _ :: r, i, h => adrs_mem (avs := r) h
  | .io k :: r, i, h => by
    rcases List.mem_cons.mp h with h | h
    · subst h; exact List.mem_cons_self
    · exact List.mem_cons_of_mem _ (adrs_mem h)
theorem ioOf_get : ∀ {avs : List AV} {j i : Nat}, avs[j]? = some (.io i) → i ∈ ioOf avs
  | [], j, i, h => by simp at h
  | .va _ :: r, j, i, h => by
    cases j with
    | zero => simp at h
    | succ j => exact ioOf_get (avs := r) (by simpa using h)
  | .io k :: r, j, i, h => by
    cases j with
    | zero => simp at h; subst h; exact List.mem_cons_self
    | succ j => exact List.mem_cons_of_mem _ (ioOf_get (avs := r) (by simpa using h))
theorem io_inj : ∀ {avs : List AV} {j k i : Nat}, (ioOf avs).Nodup → avs[j]? = some (.io i) → avs[k]? = some (.io i) → j = k
  | [], j, k, i, _, h, _ => by simp at h
  | .va _ :: r, j, k, i, nd, h, h' => by
    cases j with
    | zero => simp at h
    | succ j =>
      cases k with
      | zero => simp at h'
      | succ k => exact congrArg (· + 1) (io_inj (avs := r) nd (by simpa using h) (by simpa using h'))
  | .io m :: r, j, k, i, nd, h, h' => by
    have nd2 := List.nodup_cons.mp (show (m :: ioOf r).Nodup from nd)
    cases j with
    | zero =>
      simp at h; subst h
      cases k with
      | zero => rfl
      | succ k => exact absurd (ioOf_get (avs := r) (by simpa using h')) nd2.1
    | succ j =>
      cases k with
      | zero => simp at h'; subst h'; exact absurd (ioOf_get (avs := r) (by simpa using h)) nd2.1
      | succ k => exact congrArg (· + 1) (io_inj (avs := r) nd2.2 (by simpa using h) (by simpa using h'))
theorem Rel.enter (R : Rel D γ ρ g σ H) (nd : (ioOf avs).Nodup) (ea : argsOf avs ρ = some as) (l : RelV' D γ H avs vs) : Rel D (γ.enter H avs) (inE as) g (vs.map some) H := by
  have m : Mono γ H (γ.enter H avs) H := ⟨fun _ h => h, fun _ _ => rfl, Nat.le_refl _, fun _ _ => rfl⟩
  have ro : ∀ {o : LO} {q : Addr}, ((∃ n, n < γ.sz ∧ q = γ.al n) ∨ q ∈ adrs γ avs) → RelO D γ H o q → RelO D (γ.enter H avs) H o q := fun {o q} hq h => by
    cases o with
    | lst xs => obtain ⟨us, e, r⟩ := h; exact ⟨us, e, RelL.mono m _ _ r⟩
    | ins C ns xs =>
      obtain ⟨dx, fs, e, hc, e1, n1, r⟩ := h
      exact ⟨dx, fs, e, hc, e1, fun y ey => ⟨(n1 y ey).1, .inr (.inr (.inr ⟨q, hq, ey⟩))⟩, RelF.mono m _ _ _ r⟩
  have sl : ∀ {j : Nat} {s : Sl}, (inE as)[j]? = some (some s) → ∃ a, as[j]? = some a ∧ s = slOf a := fun {j s} e => by
    rw [List.getElem?_map] at e
    obtain ⟨a, e1, e2⟩ := map_some e
    exact ⟨a, e1, Option.some.inj e2⟩
  have own : ∀ {j : Nat} {b : Bool} {o : LO}, (inE as)[j]? = some (some (Sl.ow b o)) → ∃ i c, avs[j]? = some (.io i) ∧ ρ[i]? = some (some (Sl.ow c o)) ∧ b = true ∧ (γ.enter H avs).ow j = γ.ow i := fun {j b o} e => by
    obtain ⟨a, e1, e2⟩ := sl e
    rcases argsOf_get ea e1 with ⟨x, e3, rfl⟩ | ⟨i, c, o', e3, e4, rfl⟩
    · cases e2
    · cases e2
      exact ⟨i, c, e3, e4, rfl, by show adrAt γ avs j = _; unfold adrAt; rw [e3]⟩
  refine ⟨?_, fun j x e => ?_, fun j b o e => ?_, R.sz, fun n o e => ?_, R.ainj, fun j k b b' o o' e e' z => ?_, fun j b o n e hn => ?_, R.om, fun p o e _ => e, fun p z => .inl z, fun p z => z, fun p z => z, fun j o e => rfl, fun p o z => by cases z⟩
  · rw [List.length_map, List.length_map, argsOf_length ea, RelV'.length l]
  · obtain ⟨a, e1, e2⟩ := sl e
    rcases argsOf_get ea e1 with ⟨y, e3, rfl⟩ | ⟨i, c, o', e3, e4, rfl⟩
    · cases e2
      obtain ⟨v, e5, r⟩ := (RelV'.get (j := j) l).1 x e3
      exact ⟨v, by rw [List.getElem?_map, e5]; rfl, RelA.mono m _ _ r⟩
    · cases e2
  · obtain ⟨i, c, e3, e4, rfl, e5⟩ := own e
    obtain ⟨_, h2, h3, _⟩ := R.ow i c o e4
    have hm : γ.ow i ∈ adrs γ avs := adrs_mem (ioOf_get e3)
    rw [e5]
    exact ⟨by rw [List.getElem?_map, (RelV'.get (j := j) l).2 i e3]; rfl, ro (.inr hm) h2, h3, .inr ⟨rfl, .inr (.inl hm)⟩⟩
  · obtain ⟨h1, h2, _⟩ := R.ob n o e
    have ln : n < γ.sz := by rw [R.sz]; exact (List.getElem?_eq_some_iff.mp e).1
    exact ⟨ro (.inl ⟨n, ln, rfl⟩) h1, h2, .inr (.inl ⟨n, ln, rfl⟩)⟩
  · obtain ⟨i, c, e3, e4, _, e5⟩ := own e
    obtain ⟨i', c', e3', e4', _, e5'⟩ := own e'
    rw [e5, e5'] at z
    have := R.oinj i i' c c' o o' e4 e4' z
    subst this
    exact io_inj nd e3 e3'
  · obtain ⟨i, c, e3, e4, _, e5⟩ := own e
    rw [e5]
    exact R.oa i c o n e4 hn
def Gh.back (γ γ1 : Gh) : Gh := { al := γ1.al, sz := γ1.sz, ow := γ.ow, Om := γ1.Om, H0 := γ.H0, T := γ.T, Om0 := γ.Om0, pr := γ.pr, io := γ.io }
theorem backE_length : ∀ {is : List Nat} {os : List LO} {ρ ρ1 : En}, backE is os ρ = some ρ1 → ρ1.length = ρ.length
  | [], [], ρ, ρ1, e => by cases e; rfl
  | [], _ :: _, ρ, ρ1, e => by cases e
  | _ :: _, [], ρ, ρ1, e => by cases e
  | i :: is, o :: os, ρ, ρ1, e => by
    simp only [backE] at e
    split at e
    · rw [backE_length e, List.length_set]
    · cases e
theorem backE_get : ∀ {is : List Nat} {os : List LO} {ρ ρ1 : En} {i : Nat} {s : Sl}, is.Nodup → backE is os ρ = some ρ1 → ρ1[i]? = some (some s) →
    (i ∉ is ∧ ρ[i]? = some (some s)) ∨ ∃ (k : Nat) (b : Bool) (o o' : LO), is[k]? = some i ∧ os[k]? = some o ∧ ρ[i]? = some (some (Sl.ow b o')) ∧ s = .ow b o
  | [], [], ρ, ρ1, i, s, nd, e, h => by cases e; exact .inl ⟨by simp, h⟩
  | [], _ :: _, ρ, ρ1, i, s, nd, e, h => by cases e
  | _ :: _, [], ρ, ρ1, i, s, nd, e, h => by cases e
  | m :: is, o :: os, ρ, ρ1, i, s, nd, e, h => by
    have nd2 := List.nodup_cons.mp nd
    simp only [backE] at e
    split at e
    · rename_i b o' q
      rcases backE_get nd2.2 e h with ⟨h1, h2⟩ | ⟨k, c, u, u', h1, h2, h3, h4⟩
      · rcases set_get h2 with ⟨rfl, h3, _⟩ | ⟨ne, h3⟩
        · cases h3
          exact .inr ⟨0, b, o, o', rfl, rfl, q, rfl⟩
        · exact .inl ⟨by simp only [List.mem_cons, not_or]; exact ⟨fun z => ne z.symm, h1⟩, h3⟩
      · have hi : i ∈ is := List.mem_of_getElem? h1
        have ne : m ≠ i := fun z => nd2.1 (z ▸ hi)
        rw [List.getElem?_set_ne ne] at h3
        exact .inr ⟨k + 1, c, u, u', by simpa using h1, by simpa using h2, h3, h4⟩
    · cases e
theorem outE_at : ∀ {avs : List AV} {as : List Ag} {os : List LO} {k i : Nat} {o : LO}, argsOf avs ρ = some as → (ioOf avs)[k]? = some i → os[k]? = some o →
    ∃ j : Nat, avs[j]? = some (AV.io i) ∧ (outE as os)[j]? = some (some (Sl.ow true o))
  | [], as, os, k, i, o, e, h, h' => by simp [ioOf] at h
  | .va x :: r, as, os, k, i, o, e, h, h' => by
    obtain ⟨bs, e1, rfl⟩ := map_some (show (argsOf r ρ).map _ = some as from e)
    obtain ⟨j, h1, h2⟩ := outE_at e1 h h'
    exact ⟨j + 1, by simpa using h1, by simpa [outE] using h2⟩
  | .io m :: r, as, os, k, i, o, e, h, h' => by
    simp only [argsOf] at e
    split at e
    · obtain ⟨bs, e1, rfl⟩ := map_some e
      cases os with
      | nil => simp at h'
      | cons u us =>
        cases k with
        | zero =>
          simp [ioOf] at h
          simp at h'
          subst h h'
          exact ⟨0, rfl, rfl⟩
        | succ k =>
          obtain ⟨j, h1, h2⟩ := outE_at (os := us) e1 (by simpa [ioOf] using h) (by simpa using h')
          exact ⟨j + 1, by simpa using h1, by simpa [outE] using h2⟩
    · cases e
theorem backE_len2 : ∀ {is : List Nat} {os : List LO} {ρ ρ1 : En}, backE is os ρ = some ρ1 → os.length = is.length
  | [], [], ρ, ρ1, e => rfl
  | [], _ :: _, ρ, ρ1, e => by cases e
  | _ :: _, [], ρ, ρ1, e => by cases e
  | i :: is, o :: os, ρ, ρ1, e => by
    simp only [backE] at e
    split at e
    · rw [List.length_cons, List.length_cons, backE_len2 e]
    · cases e
theorem io_slot {k : Nat} : ∀ {avs : List AV} {as : List Ag}, argsOf avs ρ = some as → k ∈ ioOf avs → ∃ b o, ρ[k]? = some (some (Sl.ow b o))
  | [], as, _, h => by simp [ioOf] at h
  | .va x :: r, as, ea, h => by
    obtain ⟨bs, e1, rfl⟩ := map_some (show (argsOf r ρ).map _ = some as from ea)
    exact io_slot e1 h
  | .io i :: r, as, ea, h => by
    simp only [argsOf] at ea
    split at ea
    · rename_i b o q
      obtain ⟨bs, e1, rfl⟩ := map_some ea
      rcases List.mem_cons.mp h with h | h
      · subst h; exact ⟨b, o, q⟩
      · exact io_slot e1 h
    · cases ea
theorem Rel.back {γ1 : Gh} {ρ1 : En} {g1 : GS} {H1 : Hp} {outs : List LO} (R : Rel D γ ρ g σ H) (ea : argsOf avs ρ = some as) (nd : (ioOf avs).Nodup) (n : Nx0 (γ.enter H avs) H γ1 H1) (R1 : Rel D γ1 (outE as outs) g1 (vs.map some) H1)
    (eb : backE (ioOf avs) outs ρ = some ρ1) : Rel D (γ.back γ1) ρ1 g1 σ H1 ∧ Nxt γ H (γ.back γ1) H1 ∧ ∀ r v, RelR D γ1 (outE as outs) H1 r v → RelR D (γ.back γ1) ρ1 H1 r v := by
  have e0 : γ1.H0 = H := n.h0
  have eT : γ1.T = Tch γ H (adrs γ avs) := n.t
  have eM : γ1.Om0 = γ.Om := n.m0
  have m : Mono γ H γ1 H1 := ⟨n.om, n.kp, n.sz, n.al⟩
  have mb : Mono γ1 H1 (γ.back γ1) H1 := ⟨fun _ h => h, fun _ _ => rfl, Nat.le_refl _, fun _ _ => rfl⟩
  have keepP : ∀ p, H p ≠ none → H1 p ≠ none := n.keep
  have nx : Nxt γ H (γ.back γ1) H1 := ⟨⟨⟨n.om, n.kp, n.sz, n.al⟩, rfl, rfl, rfl, rfl, rfl, n.own, n.keep, n.ownb, n.kd⟩, rfl⟩
  have content : ∀ {o : LO} {q : Addr} {γ2 : Gh} {H2 : Hp}, RelO D γ2 H2 o q → ∀ y, H2 q ≠ some (.own y) := fun {o q γ2 H2} h y z => by
    obtain ⟨u, e, nu⟩ := h.at
    rw [e] at z
    exact nu y (Option.some.inj z)
  have some_at : ∀ {o : LO} {q : Addr} {γ2 : Gh} {H2 : Hp}, RelO D γ2 H2 o q → H2 q ≠ none := fun {o q γ2 H2} h z => by
    obtain ⟨u, e, nu⟩ := h.at
    rw [e] at z
    cases z
  have notOm : ∀ p, H p ≠ none → ¬ γ.Om p → ¬ γ1.Om p := fun p hp hn z => by
    rcases R1.omN p z with h | h
    · rw [eM] at h; exact hn h
    · rw [e0] at h; exact hp h
  have old0 : ∀ p, H p = none → γ.H0 p = none := fun p hp => by
    cases h0 : γ.H0 p with
    | none => rfl
    | some w => exact absurd hp (R.keep p (by rw [h0]; exact fun z => by cases z))
  have obat : ∀ k, k < γ.sz → ∃ o, RelO D γ H o (γ.al k) ∧ ¬ γ.Om (γ.al k) ∧ (γ.H0 (γ.al k) = none ∨ γ.T (γ.al k)) := fun k hk => by
    have hl : k < g.length := by rw [← R.sz]; exact hk
    exact ⟨_, R.ob k _ (List.getElem?_eq_getElem hl)⟩
  have ioat : ∀ p, p ∈ adrs γ avs → ∃ (i : Nat) (b : Bool) (o : LO), i ∈ ioOf avs ∧ p = γ.ow i ∧ ρ[i]? = some (some (Sl.ow b o)) ∧ RelO D γ H o p ∧ ¬ γ.Om p ∧ (γ.H0 p = none ∨ γ.T p) := fun p hp => by
    obtain ⟨i, h1, rfl⟩ := mem_adrs hp
    obtain ⟨b, o, h2⟩ := io_slot ea h1
    obtain ⟨_, h3, h4, h5⟩ := R.ow i b o h2
    exact ⟨i, b, o, h1, rfl, h2, h3, h4, h5.imp id And.right⟩
  have ctnt : ∀ q, ((∃ k, k < γ.sz ∧ q = γ.al k) ∨ q ∈ adrs γ avs) → ∃ o, RelO D γ H o q ∧ (γ.H0 q = none ∨ γ.T q) := fun q hq => by
    rcases hq with ⟨k, hk, rfl⟩ | hq
    · obtain ⟨o, h1, _, h2⟩ := obat k hk; exact ⟨o, h1, h2⟩
    · obtain ⟨i, b, o, _, _, _, h1, _, h2⟩ := ioat q hq; exact ⟨o, h1, h2⟩
  have ctn1 : ∀ q, ((∃ k, k < γ.sz ∧ q = γ.al k) ∨ q ∈ adrs γ avs) → ∃ o, RelO D γ1 H1 o q := fun q hq => by
    rcases hq with ⟨k, hk, rfl⟩ | hq
    · have hk1 : k < γ1.sz := Nat.lt_of_lt_of_le hk n.sz
      have hl : k < g1.length := by rw [← R1.sz]; exact hk1
      have ek : γ1.al k = γ.al k := n.al k hk
      rw [← ek]
      exact ⟨_, (R1.ob k _ (List.getElem?_eq_getElem hl)).1⟩
    · obtain ⟨i, b, o, h1, rfl, h2, _⟩ := ioat q hq
      obtain ⟨k, hk, ek⟩ := List.mem_iff_getElem.mp h1
      have hk2 : k < outs.length := by rw [backE_len2 eb]; exact hk
      obtain ⟨j, h3, h4⟩ := outE_at ea (List.getElem?_eq_some_iff.mpr ⟨hk, ek⟩) (List.getElem?_eq_getElem hk2)
      obtain ⟨_, h5, _⟩ := R1.ow j _ _ h4
      have h6 := R1.iok j _ h4
      have h7 : γ1.io = adrAt γ avs := n.io
      rw [h7, adrAt, h3] at h6
      exact ⟨_, by rw [h6] at h5; exact h5⟩
  have claimed : ∀ {i : Nat} {b : Bool} {o : LO}, ρ[i]? = some (some (Sl.ow b o)) → i ∉ ioOf avs → ¬ ((∃ n, n < γ.sz ∧ γ.ow i = γ.al n) ∨ γ.ow i ∈ adrs γ avs) := fun {i b o} e hi z => by
    rcases z with ⟨k, hk, z⟩ | z
    · exact R.oa i b o k e hk z
    · obtain ⟨k, c, o', h1, h2, h3, _⟩ := ioat _ z
      have := R.oinj i k b c o o' e h3 h2
      subst this
      exact hi h1
  have untouched : ∀ {i : Nat} {b : Bool} {o : LO}, ρ[i]? = some (some (Sl.ow b o)) → i ∉ ioOf avs → ¬ Tch γ H (adrs γ avs) (γ.ow i) := fun {i b o} e hi t => by
    rcases t with t | t | ⟨q, _, t⟩
    · exact claimed e hi (.inl t)
    · exact claimed e hi (.inr t)
    · exact content (R.ow i b o e).2.1 q t
  have conv : ∀ {o : LO} {q : Addr}, RelO D γ1 H1 o q → (H q = none ∨ ((∃ k, k < γ.sz ∧ q = γ.al k) ∨ q ∈ adrs γ avs)) → RelO D (γ.back γ1) H1 o q := fun {o q} h hq => by
    cases o with
    | lst xs => obtain ⟨us, e, r⟩ := h; exact ⟨us, e, RelL.mono mb _ _ r⟩
    | ins C ns xs =>
      obtain ⟨dx, fs, e, hc, e1, n1, r⟩ := h
      refine ⟨dx, fs, e, hc, e1, fun y ey => ⟨(n1 y ey).1, ?_⟩, RelF.mono mb _ _ _ r⟩
      show γ.H0 y = none ∨ γ.T y
      have t := (n1 y ey).2
      rw [e0, eT] at t
      rcases t with t | t
      · exact .inl (old0 y t)
      · rcases hq with hq | hq
        · exfalso
          rcases t with t | t | ⟨q', hq', t⟩
          · obtain ⟨o', h'⟩ := ctn1 y (.inl t); exact content h' _ ey
          · obtain ⟨o', h'⟩ := ctn1 y (.inr t); exact content h' _ ey
          · have t1 := n.own y q' t
            rw [ey] at t1
            injection t1 with t1
            injection t1 with t1
            subst t1
            obtain ⟨o', h', _⟩ := ctnt q hq'
            exact some_at h' hq
        · obtain ⟨o', h', _⟩ := ctnt q hq
          have ey' := n.ownb y q ey (some_at h')
          cases o' with
          | lst xs' =>
            obtain ⟨us, e', _⟩ := h'
            obtain ⟨ys, e''⟩ := n.kd q us e'
            rw [e''] at e
            cases e
          | ins C' ns' xs' =>
            obtain ⟨_, _, _, _, _, n', _⟩ := h'
            exact (n' y ey').2
  have alT : ∀ k, k < γ1.sz → H (γ1.al k) = none ∨ ((∃ j, j < γ.sz ∧ γ1.al k = γ.al j) ∨ γ1.al k ∈ adrs γ avs) := fun k hk => by
    have hl : k < g1.length := by rw [← R1.sz]; exact hk
    obtain ⟨h1, _, h3⟩ := R1.ob k _ (List.getElem?_eq_getElem hl)
    rw [e0, eT] at h3
    rcases h3 with h3 | h3 | h3 | ⟨q, _, h3⟩
    · exact .inl h3
    · exact .inr (.inl h3)
    · exact .inr (.inr h3)
    · exact absurd (n.own _ _ h3) (content h1 _)
  have own1 : ∀ {i : Nat} {b : Bool} {o : LO}, ρ1[i]? = some (some (Sl.ow b o)) → (i ∉ ioOf avs ∧ ρ[i]? = some (some (Sl.ow b o))) ∨ (i ∈ ioOf avs ∧ (∃ o', ρ[i]? = some (some (Sl.ow b o'))) ∧ ∃ j : Nat, (outE as outs)[j]? = some (some (Sl.ow true o)) ∧ γ1.ow j = γ.ow i) := fun {i b o} e => by
    rcases backE_get nd eb e with h | ⟨k, c, u, u', h1, h2, h3, h4⟩
    · exact .inl h
    · cases h4
      obtain ⟨j, h5, h6⟩ := outE_at ea h1 h2
      refine .inr ⟨List.mem_of_getElem? h1, ⟨u', h3⟩, j, h6, ?_⟩
      have h8 := R1.iok j _ h6
      have h7 : γ1.io = adrAt γ avs := n.io
      rw [h7, adrAt, h5] at h8
      exact h8
  have own1' : ∀ {i : Nat} {b : Bool} {o : LO}, ρ1[i]? = some (some (Sl.ow b o)) → ∃ o', ρ[i]? = some (some (Sl.ow b o')) := fun {i b o} e => by
    rcases own1 e with ⟨_, h⟩ | ⟨_, h, _⟩
    · exact ⟨o, h⟩
    · exact h
  refine ⟨⟨by rw [backE_length eb]; exact R.len, fun i a e => ?_, fun i b o e => ?_, R1.sz, fun k o e => ?_, R1.ainj, fun i j b b' o o' e e' z => ?_, fun i b o k e hk => ?_, R1.om, fun p o e t => ?_, fun p z => ?_, fun p z => n.om p (R.om0 p z), fun p z => keepP p (R.keep p z), fun i o e => ?_, fun p o e => ?_⟩, nx, fun r v h => ?_⟩
  · rcases backE_get nd eb e with ⟨_, h⟩ | ⟨k, c, u, u', _, _, _, h4⟩
    · obtain ⟨v, e1, e2⟩ := R.va i a h
      exact ⟨v, e1, RelA.mono (m.trans mb) _ _ e2⟩
    · cases h4
  · rcases own1 e with ⟨hi, h⟩ | ⟨hi, ⟨o', h⟩, j, hj, ej⟩
    · obtain ⟨e1, e2, e3, e4⟩ := R.ow i b o h
      have sa := some_at e2
      refine ⟨e1, ?_, notOm _ sa e3, e4⟩
      have st : ∀ u, H (γ.ow i) = some u → H1 (γ.ow i) = some u := fun u eu => R1.fr _ u (by rw [e0]; exact eu) (by rw [eT]; exact untouched h hi)
      cases o with
      | lst xs => obtain ⟨us, q, r⟩ := e2; exact ⟨us, st _ q, RelL.mono (m.trans mb) _ _ r⟩
      | ins C ns xs =>
        obtain ⟨dx, fs, q, hc, q1, n1, r⟩ := e2
        refine ⟨dx, fs, st _ q, hc, n.own _ _ q1, fun y ey => ?_, RelF.mono (m.trans mb) _ _ _ r⟩
        have ey' := n.ownb y _ ey sa
        exact ⟨notOm y (by rw [ey']; exact fun z => by cases z) (n1 y ey').1, (n1 y ey').2⟩
    · obtain ⟨e1, e2, e3, e4⟩ := R.ow i b o' h
      obtain ⟨_, f2, f3, _⟩ := R1.ow j true o hj
      rw [ej] at f2 f3
      exact ⟨e1, conv f2 (.inr (.inr (adrs_mem hi))), f3, e4⟩
  · obtain ⟨f1, f2, _⟩ := R1.ob k o e
    have hk : k < γ1.sz := by rw [R1.sz]; exact (List.getElem?_eq_some_iff.mp e).1
    refine ⟨conv f1 (alT k hk), f2, ?_⟩
    rcases alT k hk with h | h
    · exact .inl (old0 _ h)
    · obtain ⟨_, _, h2⟩ := ctnt _ h; exact h2
  · obtain ⟨u, h⟩ := own1' e
    obtain ⟨u', h'⟩ := own1' e'
    exact R.oinj i j b b' u u' h h' z
  · rcases own1 e with ⟨hi, h⟩ | ⟨hi, ⟨o', h⟩, j, hj, ej⟩
    · intro z
      rcases alT k hk with h1 | h1
      · rw [← show γ.ow i = γ1.al k from z] at h1
        exact some_at (R.ow i b o h).2.1 h1
      · rw [← show γ.ow i = γ1.al k from z] at h1
        exact claimed h hi h1
    · intro z
      exact R1.oa j true o k hj hk (ej.trans z)
  · have e' := R.fr p o e t
    by_cases tp : Tch γ H (adrs γ avs) p
    · rcases tp with tp | tp | ⟨q, _, tp⟩
      · obtain ⟨_, _, h⟩ := ctnt p (.inl tp)
        rcases h with h | h
        · rw [show γ.H0 p = some o from e] at h; cases h
        · exact absurd h t
      · obtain ⟨_, _, h⟩ := ctnt p (.inr tp)
        rcases h with h | h
        · rw [show γ.H0 p = some o from e] at h; cases h
        · exact absurd h t
      · rw [e'] at tp
        rw [tp]
        exact n.own p q (e'.trans tp)
    · exact R1.fr p o (by rw [e0]; exact e') (by rw [eT]; exact tp)
  · rcases R1.omN p z with h | h
    · rw [eM] at h; exact R.omN p h
    · rw [e0] at h; exact .inr (old0 p h)
  · obtain ⟨u, h⟩ := own1' e
    exact R.iok i u h
  · obtain ⟨h1, ⟨xs, h2⟩, h3, h4, h5⟩ := R.prk p o e
    have nt : ¬ Tch γ H (adrs γ avs) p := fun t => by
      rcases t with ⟨k, hk, t⟩ | t | ⟨q, _, t⟩
      · exact h4 k hk t
      · obtain ⟨i, b, o', _, ep, hi, _⟩ := ioat p t
        exact h5 i b o' hi ep
      · rw [h1, h2] at t; cases t
    have hn : H p ≠ none := by rw [h1]; exact fun z => by cases z
    refine ⟨R1.fr p o (by rw [e0]; exact h1) (by rw [eT]; exact nt), ⟨xs, h2⟩, notOm p hn h3, fun k hk z => ?_, fun i b u e' z => ?_⟩
    · rcases alT k hk with h | h
      · rw [← show p = γ1.al k from z] at h; exact hn h
      · rw [← show p = γ1.al k from z] at h
        exact nt (h.elim .inl fun h => .inr (.inl h))
    · obtain ⟨u', h⟩ := own1' e'
      exact h5 i b u' h z
  · cases r with
    | va a => exact RelA.mono mb _ _ h
    | nw o =>
      obtain ⟨p, rfl, ro, fp, hdx⟩ := h
      have hp : H p = none := by rw [← e0]; exact fp.h0
      refine ⟨p, rfl, conv ro (.inl hp), ⟨fp.om, old0 p hp, fp.al, fun i b u e z => ?_, ?_⟩, fun dx fs C e => old0 dx (by rw [← e0]; exact hdx dx fs C e)⟩
      · obtain ⟨u', h⟩ := own1' e
        rw [show p = γ.ow i from z] at hp
        exact some_at (R.ow i b u' h).2.1 hp
      · show γ.pr p = none
        cases q : γ.pr p with
        | none => rfl
        | some w =>
          have := (R.prk p w q).1
          rw [hp] at this
          cases this
theorem RelX.mono {γ γ' : Gh} {H H' : Hp} (m : Mono γ H γ' H') {e : A} {cls : Value} {d : Option Addr} (h : RelX D γ H e cls d) : RelX D γ' H' e cls d := by
  cases e with
  | exc C ns xs =>
    obtain ⟨h1, h2⟩ := h
    refine ⟨h1, h2.imp id fun ⟨dd, fs, e1, e2, e3, e4⟩ => ⟨dd, fs, e1, m.om _ e2, by rw [m.kp _ e2]; exact e3, RelF.mono m _ _ _ e4⟩⟩
  | _ => exact h.elim
theorem callM_rd {W : WX} {F : Fn} {Q : VK} (R : Rel D γ ρ g σ H) (l : RelV' D γ H avs vs) (P : Post D W (fun γ ρ H r v => RelR D γ ρ H r v) γ σ H (callM F avs ρ g) Q) : spF D F vs H Q (fun cls d H' => W cls d σ H') := by
  unfold callM at P
  split at P
  · exact P.elim
  · rename_i as ea
    split at P
    · rename_i nd
      refine ⟨γ.enter H avs, as, g, R.enter nd ea l, rfl, rfl, rfl, rfl, ?_⟩
      unfold PostF
      cases q : F.run as g with
      | ok r outs g1 =>
        rw [q] at P
        dsimp only at P ⊢
        intro γ1 H1 v n R1 t
        split at P
        · rename_i ρ1 eb
          obtain ⟨R2, n2, c⟩ := R.back ea nd n R1 eb
          exact P _ H1 v n2 R2 (c _ _ t)
        · exact P.elim
      | ex e outs g1 =>
        rw [q] at P
        dsimp only at P ⊢
        intro γ1 H1 cls d n R1 t
        split at P
        · rename_i ρ1 eb
          obtain ⟨R2, n2, c⟩ := R.back ea nd n R1 eb
          have mb : Mono γ1 H1 (γ.back γ1) H1 := ⟨fun _ h => h, fun _ _ => rfl, Nat.le_refl _, fun _ _ => rfl⟩
          exact P _ H1 cls d n2 R2 (RelX.mono mb t)
        · exact P.elim
      | bad =>
        rw [q] at P
        exact P.elim
    · exact P.elim
end
end Eg
namespace Eg
open PySem PySem.Spec PyProof.Rows L2
abbrev tAV (D : Gd) (W : WX) (Φ : Tab) (es : List Ex) (io : List Bool) : TA := Rg D W (fun γ _ H avs vs => RelV' D γ H avs vs) (evAV Φ es io)
section
variable {X : Cx} {D : Gd} {W : WX} {Φ : Tab} {pos p : Pos} {a b c : Expr} {es : List Expr} {ms : List Ex} {bs : List Bool} {ma mb mc : Ex} {γ γ' : Gh} {ρ : En} {g : GS} {σ : L2.St} {H H' : Hp}
theorem lookOw_post {β α' : Type} {T : Gh → En → Hp → α' → β → Prop} {f : LO → M α'} {i : Nat} {Q : β → Hp → Prop} (P : Post D W T γ σ H ((lookOw i >>= f) ρ g) Q) : ∃ b o, ρ[i]? = some (some (Sl.ow b o)) ∧ Post D W T γ σ H (f o ρ g) Q := by
  have e : (lookOw i >>= f) ρ g = M.bind (lookOw i) f ρ g := rfl
  rw [e] at P
  unfold M.bind lookOw at P
  cases q : ρ[i]? with
  | none => rw [q] at P; exact P.elim
  | some s =>
    rw [q] at P
    cases s with
    | none => exact P.elim
    | some s =>
      cases s with
      | va a => exact P.elim
      | ow b o => exact ⟨b, o, rfl, P⟩
theorem av_nil : PA X [] (tAV D W Φ [] []) := PA.imp pa_nil fun σ H Q ⟨γ, ρ, g, R, P⟩ => by
  have P' : Post D W (fun γ _ H avs vs => RelV' D γ H avs vs) γ σ H ((Pure.pure [] : M (List AV)) ρ g) Q := by simpa only [evAV] using P
  exact of_pure P' R rfl
theorem av_va (ha : PE X a (tE D W Φ ma)) (hs : PA X es (tAV D W Φ ms bs)) (hst : starEach (a :: es) X.env = (false, eval a X.env) :: starEach es X.env) : PA X (a :: es) (tAV D W Φ (ma :: ms) (false :: bs)) := PA.imp (pa_cons (pA ha) hs hst) fun σ H Q ⟨γ, ρ, g, R, P⟩ => by
  have P' : Post D W (fun γ _ H avs vs => RelV' D γ H avs vs) γ σ H ((do let x ← evA Φ ma; let r ← evAV Φ ms bs; Pure.pure (AV.va x :: r) : M (List AV)) ρ g) Q := by simpa [evAV] using P
  refine Rg.mono (Post.bind R P') fun v H1 ⟨x, γ1, ρ1, g1, n1, R1, r1, P1⟩ => ?_
  refine Rg.mono (Post.bind R1 P1) fun u H2 ⟨y, γ2, ρ2, g2, n2, R2, r2, P2⟩ => ?_
  exact of_pure P2 R2 ⟨v, u, rfl, RelA.mono n2.toMono _ _ r1, r2⟩
theorem av_io {i : Nat} (ha : PE X a (tVar i)) (hs : PA X es (tAV D W Φ ms bs)) (hst : starEach (a :: es) X.env = (false, eval a X.env) :: starEach es X.env) : PA X (a :: es) (tAV D W Φ (.v i :: ms) (true :: bs)) := PA.imp (pa_cons ha hs hst) fun σ H Q ⟨γ, ρ, g, R, P⟩ => by
  have P' : Post D W (fun γ _ H avs vs => RelV' D γ H avs vs) γ σ H ((lookOw i >>= fun o => (do let r ← evAV Φ ms bs; Pure.pure (AV.io i :: r) : M (List AV))) ρ g) Q := by simpa [evAV, isV] using P
  obtain ⟨b, o, e, P1⟩ := lookOw_post P'
  refine ⟨_, (R.ow i b o e).1, ?_⟩
  refine Rg.mono (Post.bind R P1) fun u H2 ⟨y, γ2, ρ2, g2, n2, R2, r2, P2⟩ => ?_
  exact of_pure P2 R2 ⟨u, by rw [n2.ow], r2⟩
theorem g_run {k : Nat} {f : Addr} {fd : FuncData} {ps : List Str} {sp : Sp} {pins : List (Addr × Obj)} {s : Shared} {Q : VK} {us : List Value} {vs : List V} (F : GOk X.prog X.w X.K X.mg X.base k f fd ps sp) (hr : Room k X.A) (hg : X.A.guards = some []) (hb : Binds X.K fd ps []) (tk : Takes X W)
    (I : Inv X pins σ H s) (r : Vals vs us) (h : sp vs H Q (fun cls d H' => W cls d σ H')) : wpAny (model X.prog X.w) X.A (PySem.call (.ref f) us) (EP X pins σ Q) X.xe s := by
  have hl : us.length = ps.length := by rw [← r.length]; exact F.len _ _ _ _ h
  have b := hb s us I.kIn (by rw [List.append_nil]; exact hl)
  rw [List.append_nil] at b
  refine wpAny_call (codeAny_mono (F.go X.A X.stack s H ⟨us, []⟩ us vs Q _ hr hg I.env0 b r h) fun r s' hq => ?_)
  cases r with
  | error e => exact passAt tk σ pins H s e s' I hq
  | ok fl =>
    cases fl with
    | ret u => exact I.after hq
    | next => exact False.elim hq
    | brk => exact False.elim hq
    | cont => exact False.elim hq
def tG (sp : Sp) (W : WX) (t : TA) : TE := fun σ H Q => t σ H fun vs H1 => sp vs H1 Q (fun cls d H' => W cls d σ H')
theorem pe_g {x : Str} {k : Nat} {f : Addr} {fd : FuncData} {ps : List Str} {sp : Sp} {t : TA} (F : GOk X.prog X.w X.K X.mg X.base k f fd ps sp) (hr : Room k X.A) (hgu : X.A.guards = some []) (hg : Gl X x) (hm : X.mg x = some (.ref f)) (hk : PySem.W.keepIn X.K (.ref f) = true) (hb : Binds X.K fd ps []) (tk : Takes X W)
    (ha : PA X (a :: es) t) (hdb : (x == ("__debug__" : Str)) = false) (he : starEach (a :: es) X.env = (false, eval a X.env) :: starEach es X.env) (hpl : (backTo pos (starEach es X.env)).any (·.1) = false) :
    PE X (.Call (.Name x p) (a :: es) [] pos) (tG sp W t) := by
  refine ⟨fun pins s σ H Q I h => ?_⟩
  refine wpAny_Call_Name_kw (ld_glob I hg hm ?_ hdb)
  refine PySem.W.callWith_K (h₀ := X.base) I.ok.mod.kin hk (thn (ha.run pos pins s σ H _ I h) fun us s1 ⟨vs, H1, I1, r, q⟩ => ⟨I1.kIn, ?_⟩) he hpl
  exact g_run F hr hgu hb tk I1 r q
theorem pe_g0 {x : Str} {k : Nat} {f : Addr} {fd : FuncData} {ps : List Str} {sp : Sp} (F : GOk X.prog X.w X.K X.mg X.base k f fd ps sp) (hr : Room k X.A) (hgu : X.A.guards = some []) (hg : Gl X x) (hm : X.mg x = some (.ref f)) (hk : PySem.W.keepIn X.K (.ref f) = true) (hb : Binds X.K fd ps []) (tk : Takes X W)
    (hdb : (x == ("__debug__" : Str)) = false) : PE X (.Call (.Name x p) [] [] pos) (tG sp W tNil) := by
  refine ⟨fun pins s σ H Q I h => ?_⟩
  refine wpAny_Call_Name_kw (ld_glob I hg hm ?_ hdb)
  exact PySem.W.callWith_K0 I.kIn hk (g_run (us := []) F hr hgu hb tk I .nil h)
theorem d_call {f : Nat} {F : Fn} {e : Expr} (hF : Φ.fn f = some F) (h : PE X e (tG (spF D F) W (tAV D W Φ ms F.io))) : PE X e (tE D W Φ (.call f ms)) := PE.imp h fun σ H Q ⟨γ, ρ, g, R, P⟩ => by
  have P' : Post D W (fun γ ρ H r v => RelR D γ ρ H r v) γ σ H ((do let F ← ofO (Φ.fn f); let avs ← evAV Φ ms F.io; callM F avs : M Rv) ρ g) Q := by simpa only [evR] using P
  obtain ⟨F', q, P1⟩ := Post.bindO P'
  rw [hF] at q
  cases q
  refine Rg.mono (Post.bind R P1) fun vs H1 ⟨avs, γ1, ρ1, g1, n1, R1, l1, P2⟩ => ?_
  exact callM_rd R1 l1 P2
end
end Eg
namespace Eg
open PySem PySem.Spec PyProof.Rows L2
def PostS (D : Gd) (W : WX) (γ : Gh) (H : Hp) (o : Out) (De : Ends) : Prop := match o with
  | .nx ρ g => ∀ γ' H' σ', Nx0 γ H γ' H' → Rel D γ' ρ g σ' H' → De.nx σ' H'
  | .bk ρ g => ∀ γ' H' σ', Nx0 γ H γ' H' → Rel D γ' ρ g σ' H' → De.bk σ' H'
  | .ct ρ g => ∀ γ' H' σ', Nx0 γ H γ' H' → Rel D γ' ρ g σ' H' → De.ct σ' H'
  | .rt r ρ g => ∀ γ' H' σ' v, Nx0 γ H γ' H' → Rel D γ' ρ g σ' H' → RelR D γ' ρ H' r v → De.rt v H'
  | .ex e ρ g => ∀ γ' H' σ' cls d, Nx0 γ H γ' H' → Rel D γ' ρ g σ' H' → RelX D γ' H' e cls d → W cls d σ' H'
  | .bad => False
def tO (D : Gd) (W : WX) (m : En → GS → Out) : TS := fun De σ H => ∃ γ ρ g, Rel D γ ρ g σ H ∧ PostS D W γ H (m ρ g) De
abbrev tS (D : Gd) (W : WX) (Φ : Tab) (s : St) : TS := tO D W (exS Φ s)
abbrev tSs (D : Gd) (W : WX) (Φ : Tab) (s : List St) : TS := tO D W (exL Φ s)
section
variable {X : Cx} {D : Gd} {W : WX} {Φ : Tab} {pos pos' p : Pos} {a b c tg : Expr} {es : List Expr} {ms : List Ex} {ma mb mc : Ex} {γ γ' : Gh} {ρ : En} {g : GS} {σ : L2.St} {H H' : Hp} {De : Ends} {st : Stmt} {rest sa sb : List Stmt} {s : St} {ss la lb : List St}
theorem PostS.nxt {o : Out} (h : PostS D W γ H o De) (m : Nx0 γ H γ' H') : PostS D W γ' H' o De := by
  cases o with
  | nx ρ g => exact fun γ2 H2 σ2 n R => h γ2 H2 σ2 (m.trans n) R
  | bk ρ g => exact fun γ2 H2 σ2 n R => h γ2 H2 σ2 (m.trans n) R
  | ct ρ g => exact fun γ2 H2 σ2 n R => h γ2 H2 σ2 (m.trans n) R
  | rt r ρ g => exact fun γ2 H2 σ2 v n R t => h γ2 H2 σ2 v (m.trans n) R t
  | ex e ρ g => exact fun γ2 H2 σ2 c d n R t => h γ2 H2 σ2 c d (m.trans n) R t
  | bad => exact h
theorem toOut_rd {α β : Type} {T : Gh → En → Hp → α → β → Prop} {m : M α} {f : α → En → GS → Out} (R : Rel D γ ρ g σ H) (P : PostS D W γ H (toOut m f ρ g) De) :
    Rg D W T m σ H fun v H1 => ∃ x γ1 ρ1 g1, Nxt γ H γ1 H1 ∧ Rel D γ1 ρ1 g1 σ H1 ∧ T γ1 ρ1 H1 x v ∧ PostS D W γ1 H1 (f x ρ1 g1) De := by
  refine ⟨γ, ρ, g, R, ?_⟩
  unfold toOut at P
  cases q : m ρ g with
  | ok x ρ1 g1 =>
    rw [q] at P
    exact fun γ' H' v n R' t => ⟨x, γ', ρ1, g1, n, R', t, PostS.nxt P n.toNx0⟩
  | ex e ρ1 g1 =>
    rw [q] at P
    exact fun γ' H' cls d n R' t => P γ' H' σ cls d n.toNx0 R' t
  | bad =>
    rw [q] at P
    exact P.elim
theorem toOut_ok {α : Type} {m : M α} {f : α → En → GS → Out} (h : PostS D W γ H (toOut m f ρ g) De) (hx : ∀ e ρ1 g1, m ρ g ≠ .ex e ρ1 g1) : ∃ x ρ1 g1, m ρ g = .ok x ρ1 g1 ∧ PostS D W γ H (f x ρ1 g1) De := by
  unfold toOut at h
  cases q : m ρ g with
  | ok x ρ1 g1 => rw [q] at h; exact ⟨x, ρ1, g1, rfl, h⟩
  | ex e ρ1 g1 => exact absurd q (hx e ρ1 g1)
  | bad => rw [q] at h; exact h.elim
theorem toOut_bind {α β : Type} (m : M α) (k : α → M β) (f : β → En → GS → Out) : toOut (m >>= k) f = toOut m fun x => toOut (k x) f := by
  funext ρ g
  show toOut (M.bind m k) f ρ g = _
  unfold toOut M.bind
  cases m ρ g <;> rfl
theorem PSs_imp {e : List Stmt} {t t' : TS} (h : PSs X e t) (i : ∀ De σ H, t' De σ H → t De σ H) : PSs X e t' := ⟨fun pins s σ H D I q => h.run pins s σ H D I (i D σ H q)⟩
theorem s_nil : PSs X [] (tSs D W Φ []) := PSs.imp pss_nil fun De σ H ⟨γ, ρ, g, R, P⟩ => by
  have P' : PostS D W γ H (.nx ρ g) De := by simpa only [exL] using P
  exact P' γ H σ (Nx0.refl _ _) R
theorem s_cons (h1 : PS X st (tS D W Φ s)) (h2 : PSs X rest (tSs D W Φ ss)) : PSs X (st :: rest) (tSs D W Φ (s :: ss)) := PSs.imp (pss_cons h1 h2) fun De σ H ⟨γ, ρ, g, R, P⟩ => by
  have P' : PostS D W γ H ((exS Φ s ρ g).then (exL Φ ss)) De := by simpa only [exL] using P
  refine ⟨γ, ρ, g, R, ?_⟩
  cases q : exS Φ s ρ g with
  | nx ρ1 g1 =>
    rw [q] at P'
    exact fun γ' H' σ' n R' => ⟨γ', ρ1, g1, R', PostS.nxt P' n⟩
  | bk ρ1 g1 => rw [q] at P'; exact P'
  | ct ρ1 g1 => rw [q] at P'; exact P'
  | rt r ρ1 g1 => rw [q] at P'; exact P'
  | ex e ρ1 g1 => rw [q] at P'; exact P'
  | bad => rw [q] at P'; exact P'
theorem s_pass : PS X (.Pass pos) (tS D W Φ .pass) := PS.imp ps_pass fun De σ H ⟨γ, ρ, g, R, P⟩ => by
  have P' : PostS D W γ H (.nx ρ g) De := by simpa only [exS] using P
  exact P' γ H σ (Nx0.refl _ _) R
theorem s_brk : PS X (.Break pos) (tS D W Φ .brk) := PS.imp ps_break fun De σ H ⟨γ, ρ, g, R, P⟩ => by
  have P' : PostS D W γ H (.bk ρ g) De := by simpa only [exS] using P
  exact P' γ H σ (Nx0.refl _ _) R
theorem s_cnt : PS X (.Continue pos) (tS D W Φ .cnt) := PS.imp ps_continue fun De σ H ⟨γ, ρ, g, R, P⟩ => by
  have P' : PostS D W γ H (.ct ρ g) De := by simpa only [exS] using P
  exact P' γ H σ (Nx0.refl _ _) R
theorem s_retN : PS X (.Return none pos) (tS D W Φ .retN) := PS.imp ps_retN fun De σ H ⟨γ, ρ, g, R, P⟩ => by
  have P' : PostS D W γ H (.rt (.va .non) ρ g) De := by simpa only [exS] using P
  exact P' γ H σ .non (Nx0.refl _ _) R (by simp only [RelR, RelA])
theorem s_rai {C : Nat} : PS X st (tS D W Φ (.rai C ms)) := PS.imp ps_never fun De σ H ⟨γ, ρ, g, R, P⟩ => by
  have P' : PostS D W γ H .bad De := by simpa only [exS] using P
  exact P'.elim
theorem s_ex (h : PE X a (tE D W Φ ma)) (hs : swapsWith a none pos.line X.env = pure false) : PS X (.Expr a pos) (tS D W Φ (.ex ma)) := PS.imp (ps_expr h hs) fun De σ H ⟨γ, ρ, g, R, P⟩ => by
  have P' : PostS D W γ H (toOut (evR Φ ma) (fun _ ρ g => .nx ρ g) ρ g) De := by simpa only [exS] using P
  refine Rg.mono (toOut_rd (T := TR D) R P') fun v H1 ⟨x, γ1, ρ1, g1, n1, R1, _, P1⟩ => ?_
  have P2 : PostS D W γ1 H1 (.nx ρ1 g1) De := P1
  exact P2 γ1 H1 σ (Nx0.refl _ _) R1
theorem s_if (hc : PT X c (tTs D W Φ mc)) (ha : PSs X sa (tSs D W Φ la)) (hb : PSs X sb (tSs D W Φ lb)) : PS X (.If c sa sb pos) (tS D W Φ (.ifs mc la lb)) := PS.imp (ps_if hc ha hb) fun De σ H ⟨γ, ρ, g, R, P⟩ => by
  have P' : PostS D W γ H (toOut (evA Φ mc >>= boolM) (fun k ρ g => if k then exL Φ la ρ g else exL Φ lb ρ g) ρ g) De := by simpa only [exS] using P
  refine Rg.mono (toOut_rd (T := TB) R P') fun v H1 ⟨x, γ1, ρ1, g1, n1, R1, e, P1⟩ => ?_
  have e : x = v := e
  subst e
  cases x with
  | true => exact ⟨γ1, ρ1, g1, R1, P1⟩
  | false => exact ⟨γ1, ρ1, g1, R1, P1⟩
theorem s_ret (h : PE X a (tE D W Φ ma)) (hv : ∀ i, ma = .v i → PE X a (tVar i)) : PS X (.Return (some a) pos) (tS D W Φ (.ret ma)) := by
  have gen : (∀ i, ma ≠ .v i) → PS X (.Return (some a) pos) (tS D W Φ (.ret ma)) := fun hn => PS.imp (ps_ret h) fun De σ H ⟨γ, ρ, g, R, P⟩ => by
    have e : retR ma (evR Φ ma) = evR Φ ma := by
      funext ρ g
      unfold retR
      split
      · exact absurd rfl (hn _)
      · rfl
    have P' : PostS D W γ H (toOut (evR Φ ma) (fun r ρ g => .rt r ρ g) ρ g) De := by
      have P1 : PostS D W γ H (toOut (retR ma (evR Φ ma)) (fun r ρ g => .rt r ρ g) ρ g) De := by simpa only [exS] using P
      rwa [e] at P1
    refine Rg.mono (toOut_rd (T := TR D) R P') fun v H1 ⟨x, γ1, ρ1, g1, n1, R1, t, P1⟩ => ?_
    have P2 : PostS D W γ1 H1 (.rt x ρ1 g1) De := P1
    exact P2 γ1 H1 σ v (Nx0.refl _ _) R1 t
  cases ma with
  | v i =>
    refine PS.imp (ps_ret (hv i rfl)) fun De σ H ⟨γ, ρ, g, R, P⟩ => ?_
    have P' : PostS D W γ H (toOut (retR (.v i) (evR Φ (.v i))) (fun r ρ g => .rt r ρ g) ρ g) De := by simpa only [exS] using P
    unfold toOut retR at P'
    dsimp only at P'
    split at P'
    · rename_i x ρ1 g1 q
      split at q
      · rename_i y e
        cases q
        obtain ⟨v, h1, h2⟩ := R.va i y e
        exact ⟨v, h1, (show PostS D W γ H (.rt (.va y) ρ g) De from P') γ H σ v (Nx0.refl _ _) R h2⟩
      · rename_i xs e
        cases q
        obtain ⟨e1, e2, e3, e4⟩ := R.ow i false _ e
        refine ⟨_, e1, (show PostS D W γ H (.rt (.nw (.lst xs)) (ρ.set i none) g) De from P') γ H σ _ (Nx0.refl _ _) (R.drop i) ⟨_, rfl, e2, R.freed e, fun dx fs C z => ?_⟩⟩
        obtain ⟨vs, q, _⟩ := e2
        rw [q] at z
        cases z
      · cases q
    · rename_i x ρ1 g1 q
      split at q <;> cases q
    · exact P'.elim
  | _ => exact gen fun i z => by cases z
end
end Eg
namespace Eg
open PySem PySem.Spec PyProof.Rows L2
section
variable {X : Cx} {D : Gd} {W : WX} {Φ : Tab} {pos pos' p : Pos} {a b c tg : Expr} {es : List Expr} {ms : List Ex} {ma mb mc mo mi : Ex} {γ γ' : Gh} {ρ : En} {g : GS} {σ : L2.St} {H H' : Hp} {De : Ends} {st : Stmt} {rest sa sb : List Stmt} {s : St} {ss la lb : List St}
theorem Rel.store (R : Rel D γ ρ g σ H) (i : Nat) (v : V) : Rel D γ (ρ.set i none) g (σ.set i (some v)) H := by
  have f : ∀ {j : Nat} {s : Sl}, (ρ.set i none)[j]? = some (some s) → i ≠ j ∧ ρ[j]? = some (some s) := fun {j s} h => by
    rcases set_get h with ⟨_, e, _⟩ | ⟨ne, e⟩
    · cases e
    · exact ⟨ne, e⟩
  refine ⟨by rw [List.length_set, List.length_set]; exact R.len, fun j a e => ?_, fun j b o e => ?_, R.sz, R.ob, R.ainj,
    fun j k b b' o o' e e' => R.oinj j k b b' o o' (f e).2 (f e').2, fun j b o n e => R.oa j b o n (f e).2, R.om, R.fr, R.omN, R.om0, R.keep, fun j o e => R.iok j o (f e).2, fun q w e => let ⟨h1, h2, h3, h4, h5⟩ := R.prk q w e; ⟨h1, h2, h3, h4, fun j b o e => h5 j b o (f e).2⟩⟩
  · obtain ⟨v, h1, h2⟩ := R.va j a (f e).2
    exact ⟨v, by rw [List.getElem?_set_ne (f e).1]; exact h1, h2⟩
  · obtain ⟨h1, h2⟩ := R.ow j b o (f e).2
    exact ⟨by rw [List.getElem?_set_ne (f e).1]; exact h1, h2⟩
theorem setSl_noex {i : Nat} {s : Sl} {e : A} {ρ1 : En} {g1 : GS} : setSl i s ρ g ≠ .ex e ρ1 g1 := fun h => by
  unfold setSl at h
  split at h <;> cases h
theorem setAll_noex : ∀ {is : List Nat} {as : List A} {ρ : En} {e : A} {ρ1 : En} {g1 : GS}, setAll is as ρ g ≠ .ex e ρ1 g1
  | [], [], ρ, e, ρ1, g1, h => by cases (show (Res.ok () ρ g : Res Unit) = .ex e ρ1 g1 from h)
  | [], _ :: _, ρ, e, ρ1, g1, h => by cases (show (Res.bad : Res Unit) = .ex e ρ1 g1 from h)
  | _ :: _, [], ρ, e, ρ1, g1, h => by cases (show (Res.bad : Res Unit) = .ex e ρ1 g1 from h)
  | i :: is, a :: as, ρ, e, ρ1, g1, h => by
    have h' : M.bind (setSl i (.va a)) (fun _ => setAll is as) ρ g = .ex e ρ1 g1 := h
    unfold M.bind at h'
    cases q : setSl i (.va a) ρ g with
    | ok x ρ2 g2 =>
      rw [q] at h'
      have : g2 = g := by
        unfold setSl at q
        split at q
        · cases q; rfl
        · cases q
      rw [this] at h'
      exact setAll_noex h'
    | ex x ρ2 g2 => exact setSl_noex q
    | bad => rw [q] at h'; cases h'
theorem tgM_noex {t : Tg} {x e : A} {ρ1 : En} {g1 : GS} : tgM t x ρ g ≠ .ex e ρ1 g1 := fun h => by
  cases t with
  | n i => exact setSl_noex h
  | t is =>
    cases x with
    | tup as => exact setAll_noex h
    | lst as => exact setAll_noex h
    | kl as => exact setAll_noex h
    | _ => cases (show (Res.bad : Res Unit) = .ex e ρ1 g1 from h)
theorem asgM_noex {t : Tg} {own : Bool} {r : Rv} {e : A} {ρ1 : En} {g1 : GS} : asgM t own r ρ g ≠ .ex e ρ1 g1 := fun h => by
  unfold asgM at h
  split at h
  · exact setSl_noex h
  · exact tgM_noex h
theorem asg_rd {t : Tg} {own : Bool} {r : Rv} {v : V} {ρ1 : En} {g1 : GS} {Q : L2.St → Hp → Prop} (R : Rel D γ ρ g σ H) (t' : RelR D γ ρ H r v) (e : asgM t own r ρ g = .ok () ρ1 g1)
    (k : ∀ γ' σ1, Nx0 γ H γ' H → Rel D γ' ρ1 g1 σ1 H → Q σ1 H) : gOf D.K t v σ H Q := by
  have go : ∀ {r : Rv}, RelR D γ ρ H r v → tgM t (fzR r) ρ g = .ok () ρ1 g1 → gOf D.K t v σ H Q := fun {r} t' e => by
    cases r with
    | va a => exact tg_rd R t' e fun eg σ1 R1 _ => k γ σ1 (Nx0.refl _ _) (by rw [eg]; exact R1)
    | nw o =>
      obtain ⟨γ', n, R', r'⟩ := R.freeze t'
      exact tg_rd R' r' e fun eg σ1 R1 _ => k γ' σ1 n.toNx0 (by rw [eg]; exact R1)
  unfold asgM at e
  split at e
  · rename_i i xs
    obtain ⟨p, rfl, ro, F, _⟩ := t'
    unfold setSl at e
    split at e
    · rename_i hi
      have R1 := R.store i (.ref p)
      have fw : ∀ (j : Nat) b o, (ρ.set i none)[j]? = some (some (Sl.ow b o)) → p ≠ γ.ow j := fun j b o h => by
        rcases set_get h with ⟨_, q, _⟩ | ⟨ne, q⟩
        · cases q
        · exact F.ow j b o q
      have R2 := R1.own (i := i) (p := p) (b := false) (o := .lst xs) (List.getElem?_set_self hi) (List.getElem?_set_self (by rw [← R.len]; exact hi)) ro F.om (.inl F.h0) F.al fw F.pr (fun h => by cases h)
      rw [List.set_set] at R2
      cases e
      exact k _ _ (owned_nxt γ i p H) R2
    · cases e
  · exact go t' e
theorem s_asg {t : Tg} {own : Bool} {te : TE} (h : PS X st (tAsg te (gOf D.K t))) (ht : ∀ σ H Q, tE D W Φ ma σ H Q → te σ H Q) : PS X st (tS D W Φ (.asg t ma own)) := PS.imp h fun De σ H ⟨γ, ρ, g, R, P⟩ => by
  have P' : PostS D W γ H (toOut (evR Φ ma >>= asgM t own) (fun _ ρ g => .nx ρ g) ρ g) De := by simpa only [exS, endN] using P
  rw [toOut_bind] at P'
  refine ht σ H _ (Rg.mono (toOut_rd (T := TR D) R P') fun v H1 ⟨x, γ1, ρ1, g1, n1, R1, r1, P1⟩ => ?_)
  obtain ⟨_, ρ2, g2, e, P2⟩ := toOut_ok P1 fun e ρ1 g1 => asgM_noex
  have P3 : PostS D W γ1 H1 (.nx ρ2 g2) De := P2
  exact asg_rd R1 r1 e fun γ' σ1 n R2 => P3 γ' H1 σ1 n R2
theorem par_rd {is : List Nat} {u : TA} {g' : TGs} (h : PS X st (fun De σ H => u σ H fun vs H1 => gNms is vs σ H1 De.nx)) (hu : ∀ σ H Q, tLs D W Φ ms σ H Q → u σ H Q) : PS X st (tS D W Φ (.par is ms)) := PS.imp h fun De σ H ⟨γ, ρ, g, R, P⟩ => by
  have P' : PostS D W γ H (toOut (evL Φ ms >>= setAll is) (fun _ ρ g => .nx ρ g) ρ g) De := by simpa only [exS, endN] using P
  rw [toOut_bind] at P'
  refine hu σ H _ (Rg.mono (toOut_rd (T := fun γ _ H a v => RelL D γ H a v) R P') fun vs H1 ⟨xs, γ1, ρ1, g1, n1, R1, r1, P1⟩ => ?_)
  obtain ⟨_, ρ2, g2, e, P2⟩ := toOut_ok P1 fun e ρ1 g1 => setAll_noex
  have P3 : PostS D W γ1 H1 (.nx ρ2 g2) De := P2
  exact setAll_rd is R1 r1 e fun eg σ1 R2 _ => P3 γ1 H1 σ1 (Nx0.refl _ _) (by rw [eg]; exact R2)
theorem s_par2 {i j : Nat} (h : PS X st (tPar i j (tLs D W Φ ms))) : PS X st (tS D W Φ (.par [i, j] ms)) :=
  par_rd (g' := fun _ _ _ _ => True) (u := tLs D W Φ ms) (PS.imp h fun De σ H q => Rg.mono q fun vs H1 z => by
    obtain ⟨v, r, e, v', r', e', e'', z⟩ := z
    exact ⟨v, v', by rw [e, e', e''], z⟩) fun _ _ _ q => q
theorem s_par3 {i j l : Nat} (h : PS X st (tPar3 i j l (tLs D W Φ ms))) : PS X st (tS D W Φ (.par [i, j, l] ms)) :=
  par_rd (g' := fun _ _ _ _ => True) (u := tLs D W Φ ms) (PS.imp h fun De σ H q => Rg.mono q fun vs H1 z => by
    obtain ⟨v, r, e, v', r', e', v3, r3, e3, e'', z⟩ := z
    exact ⟨v, v', v3, by rw [e, e', e3, e''], z⟩) fun _ _ _ q => q
theorem setOw_rd {i : Nat} {o : LO} {ρ1 : En} {g1 : GS} {u : Unit} (e : setOw i o ρ g = .ok u ρ1 g1) : ∃ b o', ρ[i]? = some (some (Sl.ow b o')) ∧ ρ1 = ρ.set i (some (.ow b o)) ∧ g1 = g := by
  unfold setOw at e
  split at e
  · rename_i b o' q
    cases e
    exact ⟨b, o', q, rfl, rfl⟩
  · cases e
theorem setB_eq (i : Nat) (z : Int) (y : A) : setB (.ow i) (.int z) y ρ g = match ρ[i]? with
    | some (some (Sl.ow b (.lst xs))) => (match ixN xs.length z with
      | some j => .ok () (ρ.set i (some (.ow b (.lst (xs.set j y))))) g
      | none => .bad)
    | _ => .bad := by
  have e : setB (.ow i) (.int z) y = M.bind (lookOw i) (fun o => match o with
        | .lst xs => (ofO (ixN xs.length z) >>= fun j => setOw i (.lst (xs.set j y)) : M Unit)
        | _ => bad) := rfl
  rw [e]
  unfold M.bind lookOw
  cases q : ρ[i]? with
  | none => rfl
  | some s =>
    cases s with
    | none => rfl
    | some s =>
      cases s with
      | va a => rfl
      | ow b o =>
        cases o with
        | lst xs =>
          dsimp only
          cases hj : ixN xs.length z with
          | none => rfl
          | some j =>
            show setOw i (.lst (xs.set j y)) ρ g = _
            unfold setOw
            rw [q]
        | ins C ns xs => rfl
theorem setB_rd {x : Bv} {k y : A} {xv kv yv : V} {ρ0 : En} {γ0 : Gh} {H0 : Hp} (R : Rel D γ ρ g σ H) (n : Nxt γ0 H0 γ H) (rx : RelB D γ0 ρ0 H0 x xv) (rk : RelA D γ H k kv) (ry : RelA D γ H y yv)
    (P : PostS D W γ H (toOut (setB x k y) (fun _ ρ g => .nx ρ g) ρ g) De) : rSetL xv kv yv H (fun H1 => De.nx σ H1) := by
  have bad1 : ∀ {m : M Unit}, m = bad → PostS D W γ H (toOut m (fun _ ρ g => .nx ρ g) ρ g) De → False := fun h P => by
    rw [h] at P
    exact P
  cases x with
  | va a => exact (bad1 rfl P).elim
  | ow i =>
    cases k with
    | int z =>
      unfold toOut at P
      rw [setB_eq] at P
      split at P
      · rename_i u ρ1 g1 q
        split at q
        · rename_i b xs eo
          split at q
          · rename_i j hj
            cases q
            obtain ⟨e1, e2, _⟩ := R.ow i b _ eo
            obtain ⟨vs, hp, l⟩ := e2
            have rx' : xv = .ref (γ0.ow i) := rx.1
            rw [← n.ow] at rx'
            simp only [RelA] at rk
            refine ⟨γ.ow i, vs, z, j, rx', rk, hp, by rw [← RelL.length l]; exact hj, ?_⟩
            obtain ⟨R2, m⟩ := R.setOw (u := .lst (vs.set j yv)) (o' := .lst (xs.set j y)) eo (fun q z => by cases z) (fun _ _ => ⟨_, rfl⟩) fun m => ⟨_, upd_same, RelL.set j (RelL.mono m.toMono _ _ l) (RelA.mono m.toMono _ _ ry)⟩
            exact (show PostS D W γ H (.nx (ρ.set i (some (.ow b (.lst (xs.set j y))))) g) De from P) γ _ σ m.toNx0 R2
          · cases q
        · cases q
      · rename_i q
        split at q
        · split at q <;> cases q
        · cases q
      · exact P.elim
    | _ => exact (bad1 rfl P).elim
theorem RelB.to {x : Bv} {v : V} {ρ0 : En} (n : Nxt γ H γ' H') (r : RelB D γ ρ0 H x v) : RelB D γ' ρ0 H' x v := by
  cases x with
  | va a => exact RelA.mono n.toMono _ _ r
  | ow i => exact ⟨by rw [n.ow]; exact r.1, r.2⟩
theorem s_setI (h : PS X st (tAsg (tA D W Φ ma) (gSub (tBs D W Φ mo) (tA D W Φ mi) rSetL))) : PS X st (tS D W Φ (.setI mo mi ma)) := PS.imp h fun De σ H ⟨γ, ρ, g, R, P⟩ => by
  have P' : PostS D W γ H (toOut (evA Φ ma >>= fun a => brw mo (evA Φ mo) >>= fun b => evA Φ mi >>= fun k => setB b k a) (fun _ ρ g => .nx ρ g) ρ g) De := by simpa only [exS, endN] using P
  rw [toOut_bind] at P'
  refine Rg.mono (toOut_rd (T := TAr D) R P') fun yv H1 ⟨y, γ1, ρ1, g1, n1, R1, r1, P1⟩ => ?_
  rw [toOut_bind] at P1
  refine Rg.mono (toOut_rd (T := fun γ ρ H a v => RelB D γ ρ H a v) R1 P1) fun xv H2 ⟨x, γ2, ρ2, g2, n2, R2, r2, P2⟩ => ?_
  rw [toOut_bind] at P2
  refine Rg.mono (toOut_rd (T := TAr D) R2 P2) fun kv H3 ⟨k, γ3, ρ3, g3, n3, R3, r3, P3⟩ => ?_
  exact setB_rd R3 n3 r2 r3 (RelA.mono (n2.trans n3).toMono _ _ r1) P3
end
end Eg
namespace Eg
open PySem PySem.Spec PyProof.Rows L2
section
variable {X : Cx} {D : Gd} {W : WX} {Φ : Tab} {pos pos' p : Pos} {a b c tg : Expr} {es : List Expr} {ms : List Ex} {ma mb mc mo mi : Ex} {γ γ' : Gh} {ρ : En} {g : GS} {σ : L2.St} {H H' : Hp} {De : Ends} {st : Stmt} {rest sa sb : List Stmt} {s : St} {ss la lb : List St}
theorem get_list : PGet X (rIxL X.K) := by
  intro pins s σ H x y v u Q I rx ry h
  obtain ⟨p, xs, i, z, rfl, rfl, hq, he, q⟩ := h
  cases rx
  obtain ⟨t, rfl⟩ := ry
  obtain ⟨its, r, pl, hz⟩ := I.list hq
  obtain ⟨j, h1, h2, h3, h4, h5⟩ := atI_get he
  obtain ⟨w, ew, rw'⟩ := r.get h2
  have hl := r.length
  have hn := line63
  have fin : EP X pins σ Q w s := ⟨z, H, I, rw', q⟩
  by_cases h0 : 0 ≤ i
  · have hj : i.toNat = j := by
      rw [seqIndex_of h0 h5] at h1
      exact Option.some.inj h1
    exact wpAny_getItem_list pl.isList h0 (by omega) (by rw [hj]; simpa using ew) fin
  · have hj : (i + (its.toArray.size : Int)).toNat = j := by
      rw [seqIndex_neg (by omega) h4] at h1
      rw [List.size_toArray, ← hl]
      exact Option.some.inj h1
    exact wpAny_getItem_list_neg pl.isList (by omega) (by rw [List.size_toArray] <;> omega) (by omega) (by rw [hj]; simpa using ew) fin
def ipOf : BOp → TIp
  | .add => ipI fun i j => i + j
  | .sub => ipI fun i j => i - j
  | _ => fun _ _ _ _ => False
theorem ip_of (o : BOp) (op : Operator) (h : op = (match o with | .add => .Add | .sub => .Sub | _ => .Mult)) : PIp X op (ipOf o) := by
  subst h
  cases o with
  | add => exact ip_add
  | sub => exact ip_sub
  | _ => exact fun _ _ _ _ _ _ _ _ _ _ _ _ h => h.elim
theorem ip_rd {o : BOp} {x y : A} {z : Int} {v u : V} {Q : VK} (ho : o = .add ∨ o = .sub) (e : binA o x y = some (.va (.int z))) (r1 : RelA D γ H x v) (r2 : RelA D γ H y u) (q : Q (.int z) H) : ipOf o v u H Q := by
  rcases ho with rfl | rfl
  · cases x with
    | int i =>
      cases y with
      | int j =>
        simp only [RelA] at r1 r2
        have e' : i + j = z := by
          have := Option.some.inj e
          injection this with this
          injection this
        exact ⟨i, j, r1, r2, by show Q (.int (_)) H; first | (show Q (.int (i + j)) H; rw [e']; exact q) | (show Q (.int (i - j)) H; rw [e']; exact q)⟩
      | _ => simp [binA] at e
    | str i =>
      cases y with
      | str j =>
        have e' : guardO (lineOk (i.length + j.length)) (Rv.va (.str (i ++ j))) = some (.va (.int z)) := e
        unfold guardO at e'
        split at e' <;> cases e'
      | _ => simp [binA] at e
    | lst xs =>
      cases y with
      | lst ys =>
        have e' : guardO (lineOk (xs.length + ys.length)) (Rv.nw (.lst (xs ++ ys))) = some (.va (.int z)) := e
        unfold guardO at e'
        split at e' <;> cases e'
      | _ => simp [binA] at e
    | tup xs =>
      cases xs with
      | nil => simp [binA] at e
      | cons x xs =>
        cases y with
        | tup ys =>
          have e' : guardO (lineOk (xs.length + 1 + ys.length)) (Rv.va (.tup (x :: xs ++ ys))) = some (.va (.int z)) := e
          unfold guardO at e'
          split at e' <;> cases e'
        | _ => simp [binA] at e
    | _ => simp [binA] at e
  · cases x with
    | int i =>
      cases y with
      | int j =>
        simp only [RelA] at r1 r2
        have e' : i - j = z := by
          have := Option.some.inj e
          injection this with this
          injection this
        exact ⟨i, j, r1, r2, by show Q (.int (_)) H; first | (show Q (.int (i + j)) H; rw [e']; exact q) | (show Q (.int (i - j)) H; rw [e']; exact q)⟩
      | _ => simp [binA] at e
    | _ => simp [binA] at e
def intR : Rv → M Int
  | .va (.int z) => pure z
  | _ => bad
theorem intR_rd {r : Rv} {f : Int → En → GS → Out} (P : PostS D W γ H (toOut (intR r) f ρ g) De) : ∃ z, r = .va (.int z) ∧ PostS D W γ H (f z ρ g) De := by
  cases r with
  | va a =>
    cases a with
    | int z => exact ⟨z, rfl, P⟩
    | _ => exact P.elim
  | nw o => exact P.elim
theorem ofO_rd {α : Type} {x : Option α} {f : α → En → GS → Out} (P : PostS D W γ H (toOut (ofO x) f ρ g) De) : ∃ y, x = some y ∧ PostS D W γ H (f y ρ g) De := by
  cases x with
  | none => exact P.elim
  | some y => exact ⟨y, rfl, P⟩
theorem getOwB_eq (i : Nat) (z : Int) : getOwB (.ow i) (.int z) ρ g = match ρ[i]? with
    | some (some (Sl.ow b (.lst xs))) => (match atI xs z with
      | some y => .ok y ρ g
      | none => .bad)
    | _ => .bad := by
  have e : getOwB (.ow i) (.int z) = M.bind (lookOw i) (fun o => match o with
        | .lst xs => (ofO (atI xs z) : M A)
        | _ => bad) := rfl
  rw [e]
  unfold M.bind lookOw
  cases q : ρ[i]? with
  | none => rfl
  | some s =>
    cases s with
    | none => rfl
    | some s =>
      cases s with
      | va a => rfl
      | ow b o =>
        cases o with
        | lst xs =>
          dsimp only
          cases hj : atI xs z <;> rfl
        | ins C ns xs => rfl
theorem getOw_rdS {x : Bv} {k : A} {xv kv : V} {f : A → En → GS → Out} {ρ0 : En} {γ0 : Gh} {H0 : Hp} {Q : VK} (R : Rel D γ ρ g σ H) (n : Nxt γ0 H0 γ H) (rx : RelB D γ0 ρ0 H0 x xv) (rk : RelA D γ H k kv) (P : PostS D W γ H (toOut (getOwB x k) f ρ g) De)
    (q : ∀ y v, RelA D γ H y v → PostS D W γ H (f y ρ g) De → Q v H) : rIxL D.K xv kv H Q := by
  have bad1 : ∀ {m : M A}, m = bad → PostS D W γ H (toOut m f ρ g) De → False := fun h P => by
    rw [h] at P
    exact P
  cases x with
  | va a => exact (bad1 rfl P).elim
  | ow i =>
    cases k with
    | int z =>
      unfold toOut at P
      rw [getOwB_eq] at P
      split at P
      · rename_i u ρ1 g1 q0
        split at q0
        · rename_i b xs eo
          split at q0
          · rename_i y hj
            cases q0
            obtain ⟨e1, e2, _⟩ := R.ow i b _ eo
            obtain ⟨vs, hp, l⟩ := e2
            have rx' : xv = .ref (γ0.ow i) := rx.1
            rw [← n.ow] at rx'
            simp only [RelA] at rk
            obtain ⟨v, hv, rv⟩ := atI_rel l hj
            exact ⟨γ.ow i, vs, z, v, rx', rk, .inl (Rd.of hp), hv, q _ v rv P⟩
          · cases q0
        · cases q0
      · rename_i q0
        split at q0
        · split at q0 <;> cases q0
        · cases q0
      · exact P.elim
    | _ => exact (bad1 rfl P).elim
theorem s_augN {i : Nat} {o : BOp} (ho : o = .add ∨ o = .sub) (h : PS X st (tAug i (tA D W Φ ma) (ipOf o))) : PS X st (tS D W Φ (.augN i o ma)) := PS.imp h fun De σ H ⟨γ, ρ, g, R, P⟩ => by
  have eq : exS Φ (.augN i o ma) = toOut (rdV i >>= fun x => evA Φ ma >>= fun y => ofO (binA o x y) >>= fun r => intR r >>= fun z => setSl i (.va (.int z))) fun _ ρ g => .nx ρ g := by
    simp only [exS, endN]
    congr 1
    funext ρ g
    simp only [bind, M.bind]
    cases rdV i ρ g with
    | ok x ρ1 g1 =>
      dsimp only
      cases evA Φ ma ρ1 g1 with
      | ok y ρ2 g2 =>
        dsimp only
        cases hb : binA o x y with
        | none => rfl
        | some r =>
          cases r with
          | va a => cases a <;> rfl
          | nw o => rfl
      | ex e ρ2 g2 => rfl
      | bad => rfl
    | ex e ρ1 g1 => rfl
    | bad => rfl
  rw [eq, toOut_bind] at P
  have P0 := P
  unfold toOut at P0
  have key : ∃ v, σ[i]? = some (some v) ∧ ∃ γ1 ρ1 x, Nxt γ H γ1 H ∧ Rel D γ1 ρ1 g σ H ∧ RelA D γ1 H x v ∧ PostS D W γ1 H (toOut (evA Φ ma >>= fun y => ofO (binA o x y) >>= fun r => intR r >>= fun z => setSl i (.va (.int z))) (fun _ ρ g => .nx ρ g) ρ1 g) De := by
    cases q : rdV i ρ g with
    | ok x ρ1 g1 =>
      rw [q] at P0
      unfold rdV at q
      split at q
      · rename_i y e
        cases q
        obtain ⟨v, h1, h2⟩ := R.va i _ e
        exact ⟨v, h1, γ, ρ, _, Nxt.refl _ _, R, h2, P0⟩
      · rename_i xs e
        cases q
        obtain ⟨γ', v, n, e1, R1, r⟩ := R.freezeAt e fun dx fs C z => by
          obtain ⟨_, ⟨vs, q, _⟩, _⟩ := R.ow i false _ e
          rw [q] at z
          cases z
        exact ⟨v, e1, γ', _, _, n, R1, r, PostS.nxt P0 n.toNx0⟩
      · cases q
    | ex e ρ1 g1 =>
      unfold rdV at q
      split at q <;> cases q
    | bad => rw [q] at P0; exact P0.elim
  obtain ⟨v, ev, γ1, ρ1, x, n1, R1, r1, P1⟩ := key
  refine ⟨v, ev, ?_⟩
  rw [toOut_bind] at P1
  refine Rg.mono (toOut_rd (T := TAr D) R1 P1) fun u H2 ⟨y, γ2, ρ2, g2, n2, R2, r2, P2⟩ => ?_
  rw [toOut_bind] at P2
  obtain ⟨r, er, P3⟩ := ofO_rd P2
  rw [toOut_bind] at P3
  obtain ⟨z, rfl, P4⟩ := intR_rd P3
  obtain ⟨_, ρ3, g3, e3, P5⟩ := toOut_ok P4 fun e ρ1 g1 => setSl_noex
  refine ip_rd ho er (RelA.mono n2.toMono _ _ r1) r2 ?_
  obtain ⟨eg, R3⟩ := setSl_va R2 (v := .int z) (by simp only [RelA]) e3
  exact (show PostS D W γ2 H2 (.nx ρ3 g3) De from P5) γ2 H2 _ (Nx0.refl _ _) (by rw [eg]; exact R3)
theorem s_augI {o : BOp} (ho : o = .add ∨ o = .sub) (h : PS X st (tAugS (tBs D W Φ mo) (tA D W Φ mi) (tA D W Φ ma) (rIxL D.K) (ipOf o) rSetL)) : PS X st (tS D W Φ (.augI mo mi o ma)) := PS.imp h fun De σ H ⟨γ, ρ, g, R, P⟩ => by
  have eq : exS Φ (.augI mo mi o ma) = toOut (brw mo (evA Φ mo) >>= fun b => evA Φ mi >>= fun k => getOwB b k >>= fun x => evA Φ ma >>= fun y => ofO (binA o x y) >>= fun r => intR r >>= fun z => setB b k (.int z)) fun _ ρ g => .nx ρ g := by
    simp only [exS, endN]
    congr 1
    funext ρ g
    simp only [bind, M.bind]
    cases brw mo (evA Φ mo) ρ g with
    | ok b ρ1 g1 =>
      dsimp only
      cases evA Φ mi ρ1 g1 with
      | ok k ρ2 g2 =>
        dsimp only
        cases getOwB b k ρ2 g2 with
        | ok x ρ3 g3 =>
          dsimp only
          cases evA Φ ma ρ3 g3 with
          | ok y ρ4 g4 =>
            dsimp only
            cases hb : binA o x y with
            | none => rfl
            | some r =>
              cases r with
              | va a => cases a <;> rfl
              | nw o => rfl
          | ex e ρ4 g4 => rfl
          | bad => rfl
        | ex e ρ3 g3 => rfl
        | bad => rfl
      | ex e ρ2 g2 => rfl
      | bad => rfl
    | ex e ρ1 g1 => rfl
    | bad => rfl
  rw [eq, toOut_bind] at P
  refine Rg.mono (toOut_rd (T := fun γ ρ H a v => RelB D γ ρ H a v) R P) fun xv H1 ⟨x, γ1, ρ1, g1, n1, R1, r1, P1⟩ => ?_
  rw [toOut_bind] at P1
  refine Rg.mono (toOut_rd (T := TAr D) R1 P1) fun kv H2 ⟨k, γ2, ρ2, g2, n2, R2, r2, P2⟩ => ?_
  rw [toOut_bind] at P2
  refine getOw_rdS R2 n2 r1 r2 P2 fun y yv ry P3 => ?_
  rw [toOut_bind] at P3
  refine Rg.mono (toOut_rd (T := TAr D) R2 P3) fun u H3 ⟨z, γ3, ρ3, g3, n3, R3, r3, P4⟩ => ?_
  rw [toOut_bind] at P4
  obtain ⟨r, er, P5⟩ := ofO_rd P4
  rw [toOut_bind] at P5
  obtain ⟨w, rfl, P6⟩ := intR_rd P5
  refine ip_rd ho er (RelA.mono n3.toMono _ _ ry) r3 ?_
  exact setB_rd R3 (n2.trans n3) r1 (RelA.mono n3.toMono _ _ r2) (by simp only [RelA]) P6
theorem s_whl (hp : PassesOwn (model X.prog X.w) X.A X.env X.xe) (hc : PT X c (tTs D W Φ mc)) (hb : PSs X sa (tSs D W Φ la)) : PS X (.While c sa [] pos) (tS D W Φ (.whl mc la)) := PS.imp (ps_while hp hc hb) fun De σ H ⟨γ, ρ, g, R, P⟩ => by
  have P' : PostS D W γ H (whlN (evA Φ mc >>= boolM) (exL Φ la) fuel ρ g) De := by simpa only [exS] using P
  refine ⟨fun m σ' H' => ∃ γ' ρ' g', Rel D γ' ρ' g' σ' H' ∧ PostS D W γ' H' (whlN (evA Φ mc >>= boolM) (exL Φ la) m ρ' g') De, ⟨fuel, γ, ρ, g, R, P'⟩, ?_⟩
  rintro m σ1 H1 ⟨γ1, ρ1, g1, R1, P1⟩
  cases m with
  | zero => exact (show False from P1).elim
  | succ m =>
    have P2 : PostS D W γ1 H1 (toOut (evA Φ mc >>= boolM) (fun k ρ g => if k then match exL Φ la ρ g with
      | .nx ρ g => whlN (evA Φ mc >>= boolM) (exL Φ la) m ρ g
      | .ct ρ g => whlN (evA Φ mc >>= boolM) (exL Φ la) m ρ g
      | .bk ρ g => .nx ρ g
      | o => o
    else .nx ρ g) ρ1 g1) De := P1
    refine Rg.mono (toOut_rd (T := TB) R1 P2) fun v H2 ⟨x, γ2, ρ2, g2, n2, R2, e, P3⟩ => ?_
    have e : x = v := e
    subst e
    cases x with
    | false => exact (show PostS D W γ2 H2 (.nx ρ2 g2) De from P3) γ2 H2 σ1 (Nx0.refl _ _) R2
    | true =>
      rw [if_pos rfl] at P3
      rw [if_pos rfl]
      refine ⟨fun σ' H' => ∃ γ' ρ' g', Rel D γ' ρ' g' σ' H' ∧ PostS D W γ' H' (whlN (evA Φ mc >>= boolM) (exL Φ la) m ρ' g') De, fun σ' H' h => ⟨m, Nat.lt_succ_self m, h⟩, γ2, ρ2, g2, R2, ?_⟩
      cases q : exL Φ la ρ2 g2 with
      | nx ρ3 g3 => rw [q] at P3; exact fun γ' H' σ' n R' => ⟨γ', ρ3, g3, R', PostS.nxt P3 n⟩
      | ct ρ3 g3 => rw [q] at P3; exact fun γ' H' σ' n R' => ⟨γ', ρ3, g3, R', PostS.nxt P3 n⟩
      | bk ρ3 g3 => rw [q] at P3; exact P3
      | rt r ρ3 g3 => rw [q] at P3; exact P3
      | ex e ρ3 g3 => rw [q] at P3; exact P3
      | bad => rw [q] at P3; exact P3
theorem s_for {t : Tg} {k : ItK} {iter : Expr} (hp : PassesOwn (model X.prog X.w) X.A X.env X.xe) (hc : X.calm = true) (hi : PI X tg iter (tI D W Φ k ms)) (hg : PG X tg (gOf D.K t)) (hb : PSs X sa (tSs D W Φ la)) (hs : ∀ x, foldedSetIterable iter X.env x = pure x) :
    PS X (.For tg iter sa [] pos) (tS D W Φ (.for_ t k ms la)) := PS.imp (ps_for hp hc hi hg hb hs) fun De σ H ⟨γ, ρ, g, R, P⟩ => by
  have P' : PostS D W γ H (toOut (evL Φ ms >>= itM k) (fun items ρ g => forN (tgM t) (exL Φ la) items ρ g) ρ g) De := by simpa only [exS] using P
  refine Rg.mono (toOut_rd (T := TI' D) R P') fun J H1 ⟨items, γ1, ρ1, g1, n1, R1, hJ, P1⟩ => ?_
  refine ⟨fun i m σc Hc => m = items.length - i ∧ i ≤ items.length ∧ ∃ γc ρc gc, Nx0 γ1 H1 γc Hc ∧ Rel D γc ρc gc σc Hc ∧ PostS D W γc Hc (forN (tgM t) (exL Φ la) (items.drop i) ρc gc) De, ⟨items.length, by simp, Nat.zero_le _, γ1, ρ1, g1, Nx0.refl _ _, R1, P1⟩, ?_⟩
  rintro i m σc Hc ⟨rfl, hi, γc, ρc, gc, nc, Rc, Pc⟩
  obtain ⟨hgo, hstop⟩ := hJ γc Hc nc.toMono
  by_cases hlt : i < items.length
  · have ed : items.drop i = items[i] :: items.drop (i + 1) := List.drop_eq_getElem_cons hlt
    rw [ed] at Pc
    refine .inr ⟨(hgo i items[i] (List.getElem?_eq_getElem hlt)).1, fun σ' H' => i + 1 ≤ items.length ∧ ∃ γ' ρ' g', Nx0 γ1 H1 γ' H' ∧ Rel D γ' ρ' g' σ' H' ∧ PostS D W γ' H' (forN (tgM t) (exL Φ la) (items.drop (i + 1)) ρ' g') De,
      fun σ' H' p' => ⟨items.length - (i + 1), by omega, rfl, p'⟩, fun v H'' hy => ?_⟩
    obtain ⟨γ2, n2, R2, r2⟩ := (hgo i items[i] (List.getElem?_eq_getElem hlt)).2 v H'' hy _ _ _ Rc
    have Pc2 : PostS D W γc Hc (toOut (tgM t items[i]) (fun _ ρ g => match exL Φ la ρ g with
      | .nx ρ g => forN (tgM t) (exL Φ la) (items.drop (i + 1)) ρ g
      | .ct ρ g => forN (tgM t) (exL Φ la) (items.drop (i + 1)) ρ g
      | .bk ρ g => .nx ρ g
      | o => o) ρc gc) De := Pc
    obtain ⟨_, ρ3, g3, e3, P3⟩ := toOut_ok (PostS.nxt Pc2 n2.toNx0) fun e ρ1 g1 => tgM_noex
    refine tg_rd R2 r2 e3 fun eg σ1 R3 _ => ?_
    refine ⟨γ2, ρ3, g3, by rw [eg]; exact R3, ?_⟩
    cases q : exL Φ la ρ3 g3 with
    | nx ρ4 g4 => rw [q] at P3; exact fun γ' H' σ' n R' => ⟨hlt, γ', ρ4, g4, (nc.trans n2.toNx0).trans n, R', PostS.nxt P3 n⟩
    | ct ρ4 g4 => rw [q] at P3; exact fun γ' H' σ' n R' => ⟨hlt, γ', ρ4, g4, (nc.trans n2.toNx0).trans n, R', PostS.nxt P3 n⟩
    | bk ρ4 g4 => rw [q] at P3; exact P3
    | rt r ρ4 g4 => rw [q] at P3; exact P3
    | ex e ρ4 g4 => rw [q] at P3; exact P3
    | bad => rw [q] at P3; exact P3
  · have e : i = items.length := by omega
    subst e
    rw [List.drop_length] at Pc
    exact .inl ⟨hstop, (show PostS D W γc Hc (.nx ρc gc) De from Pc) γc Hc σc (Nx0.refl _ _) Rc⟩
end
end Eg
namespace Eg
open PySem PySem.Spec PyProof.Rows L2
theorem g_of {P : Program} {w : World} {K : PySem.W.Frag} {mg : Str → Option Value} {base : Heap} {k : Nat} {f : Addr} {name qual : Str} {params : Arguments} {body : List Stmt} {scope : Scope} {dV kV doc pm cdv ct oc : Value} {an od : Option Addr}
    {osl : Array (Option Value)} {N ps : List Str} {sp : Sp} (lk : K.lookup f = some ⟨oc, od, .func (PySem.W.fnOf name qual params body scope dV kV doc pm an cdv ct), osl⟩) (hcd : PySem.W.codeIn K cdv qual = true) (S : FnScope N ps scope)
    (len : ∀ vs H Q E, sp vs H Q E → vs.length = ps.length)
    (hbody : ∀ (A : Around) (outer : List Env) (s : Shared) (H : Hp) (vs : List V) (Q : VK) (E : XK), Room k (A.deeper (envOfC qual scope s.heap.objs.size f cdv)) → (A.deeper (envOfC qual scope s.heap.objs.size f cdv)).guards = some [] → sp vs H Q E →
      ∃ t, PSs (cxOf (L2.CX P w) P w K mg base N qual scope f cdv A outer s H E) body t ∧ t { nx := fun _ H' => Q .non H', rt := Q } (start N vs) H) :
    GOk P w K mg base (k + 1) f (PySem.W.fnOf name qual params body scope dV kV doc pm an cdv ct) ps sp := by
  refine ⟨len, fun A outer s H args us vs Q E hr hgu e0 hb r hsp => ?_⟩
  have hl := len _ _ _ _ hsp
  have KX : K.In s.heap := e0.mod.kin.keeps fun b o e => (e0.bs b o e).1
  have lim : s.heap.NoLimit := e0.mod.nolimit.keeps fun b o e => (e0.bs b o e).1
  have hkind : ∀ y ∈ ps.zip us, scope.names.lookup y.1 = some .local ∨ (scope.names.lookup y.1 = some .cell ∧ ((cellsFrom (s.heap.objs.size + 1) scope.names []).lookup y.1).isSome = true) := fun ⟨n, v⟩ hy => by
    rcases S.par n (List.of_mem_zip hy).1 with q | q
    · exact .inl q
    · exact .inr ⟨q, PySem.W.cellsFrom_some _ _ _ (.inl q)⟩
  refine codeAny_call_function hr.depth (KX _ _ lk) rfl S.co S.gen rfl (PySem.W.codeRec_of KX hcd) (hb _ _ _ _ ?_)
  refine wpAny_newFunctionEnv_cells S.kind hkind fun env he s1 x => ?_
  subst he
  refine ⟨lim.keeps x.toInCall.keep, codeAny_func ?_⟩
  obtain ⟨t, ht, hq⟩ := hbody A outer s H vs Q E (hr.deeper _) hgu hsp
  have I : Inv (cxOf (L2.CX P w) P w K mg base N qual scope f cdv A outer s H E) [] (start N vs) H s1 := inv_start S hr.hd e0 hl r x
  refine wpAny_mono (ht.run [] s1 (start N vs) H _ I hq) (fun fl s' hs => ?_) fun e s' hs => hs
  have fin : ∀ {σ' : L2.St} {H' : Hp} {v : V} {u : Value}, Inv (cxOf (L2.CX P w) P w K mg base N qual scope f cdv A outer s H E) [] σ' H' s' → RelV v u → Q v H' → CE outer P w H s Q u s' :=
    fun {σ' H' v u} J rv q => ⟨v, H', J.os, J.bare, J.base, J.hok, rv, q⟩
  cases fl with
  | ret u =>
    obtain ⟨v, σ', H', J, rv, q⟩ := hs
    exact fin J rv q
  | next =>
    obtain ⟨σ', H', J, q⟩ := hs
    exact fin (v := V.non) (u := Value.none) J rfl q
  | brk =>
    obtain ⟨_, _, _, q⟩ := hs
    exact False.elim q
  | cont =>
    obtain ⟨_, _, _, q⟩ := hs
    exact False.elim q
section
variable {D : Gd} {Φ : Tab} {γ γ' : Gh} {ρ : En} {g : GS} {σ : L2.St} {H H' : Hp} {vs : List V} {as : List Ag}
theorem app_get {α : Type} {l : List (Option α)} {n i : Nat} {x : α} (h : (l ++ List.replicate n none)[i]? = some (some x)) : l[i]? = some (some x) := by
  by_cases hi : i < l.length
  · rwa [List.getElem?_append_left hi] at h
  · rw [List.getElem?_append_right (by omega), List.getElem?_replicate] at h
    split at h <;> cases h
theorem app_get' {α : Type} {l k : List α} {i : Nat} {x : α} (h : l[i]? = some x) : (l ++ k)[i]? = some x := by
  rw [List.getElem?_append_left (List.getElem?_eq_some_iff.mp h).1]
  exact h
theorem Rel.pad (R : Rel D γ ρ g σ H) (n : Nat) : Rel D γ (ρ ++ List.replicate n none) g (σ ++ List.replicate n none) H := by
  refine ⟨by rw [List.length_append, List.length_append, R.len, List.length_replicate, List.length_replicate], fun i a e => ?_, fun i b o e => ?_, R.sz, R.ob, R.ainj,
    fun i j b b' o o' e e' => R.oinj i j b b' o o' (app_get e) (app_get e'), fun i b o k e => R.oa i b o k (app_get e), R.om, R.fr, R.omN, R.om0, R.keep, fun i o e => R.iok i o (app_get e),
    fun q w e => let ⟨h1, h2, h3, h4, h5⟩ := R.prk q w e; ⟨h1, h2, h3, h4, fun j b o e => h5 j b o (app_get e)⟩⟩
  · obtain ⟨v, h1, h2⟩ := R.va i a (app_get e)
    exact ⟨v, app_get' h1, h2⟩
  · obtain ⟨h1, h2⟩ := R.ow i b o (app_get e)
    exact ⟨app_get' h1, h2⟩
theorem outE_length : ∀ {as : List Ag} {os : List LO}, (outE as os).length = as.length
  | [], os => by cases os <;> rfl
  | .va _ :: as, os => by cases os <;> simp [outE, outE_length (as := as)]
  | .lo _ :: as, o :: os => by simp [outE, outE_length (as := as)]
  | .lo _ :: as, [] => by simp [outE, outE_length (as := as)]
theorem outs_get : ∀ {io : List Bool} {as : List Ag} {os : List LO} {i j : Nat} {s : Sl}, agOk io as = true → outsOf io i ρ = some os → (outE as os)[j]? = some (some s) →
    ∃ o, s = .ow true o ∧ ρ[i + j]? = some (some (Sl.ow true o)) ∧ ∃ o', as[j]? = some (.lo o')
  | [], [], os, i, j, s, h, e, z => by
    have : outE [] os = [] := by cases os <;> rfl
    rw [this] at z; simp at z
  | [], _ :: _, os, i, j, s, h, e, z => by cases h
  | true :: bs, [], os, i, j, s, h, e, z => by cases h
  | false :: bs, [], os, i, j, s, h, e, z => by cases h
  | true :: bs, .va _ :: as, os, i, j, s, h, e, z => by cases h
  | false :: bs, .lo _ :: as, os, i, j, s, h, e, z => by cases h
  | true :: bs, .lo o' :: as, os, i, j, s, h, e, z => by
    simp only [outsOf] at e
    split at e
    · rename_i o q
      obtain ⟨os', e1, rfl⟩ := map_some e
      cases j with
      | zero =>
        simp [outE] at z
        subst z
        exact ⟨o, rfl, q, o', rfl⟩
      | succ j =>
        obtain ⟨u, h1, h2, u', h3⟩ := outs_get (as := as) (i := i + 1) (j := j) (show agOk bs as = true from h) e1 (by simpa [outE] using z)
        exact ⟨u, h1, by rw [show i + (j + 1) = i + 1 + j by omega]; exact h2, u', by simpa using h3⟩
    · cases e
  | false :: bs, .va a :: as, os, i, j, s, h, e, z => by
    cases j with
    | zero => cases os <;> simp [outE] at z
    | succ j =>
      obtain ⟨u, h1, h2, u', h3⟩ := outs_get (as := as) (os := os) (i := i + 1) (j := j) (show agOk bs as = true from h) e (by cases os <;> simpa [outE] using z)
      exact ⟨u, h1, by rw [show i + (j + 1) = i + 1 + j by omega]; exact h2, u', by simpa using h3⟩
theorem agOk_length : ∀ {io : List Bool} {as : List Ag}, agOk io as = true → as.length = io.length
  | [], [], _ => rfl
  | [], _ :: _, h => by cases h
  | true :: bs, [], h => by cases h
  | false :: bs, [], h => by cases h
  | true :: bs, .va _ :: as, h => by cases h
  | false :: bs, .lo _ :: as, h => by cases h
  | true :: bs, .lo _ :: as, h => by rw [List.length_cons, List.length_cons, agOk_length (show agOk bs as = true from h)]
  | false :: bs, .va _ :: as, h => by rw [List.length_cons, List.length_cons, agOk_length (show agOk bs as = true from h)]
def Gh.leave (γ γ0 : Gh) : Gh := { γ with ow := γ0.ow }
theorem Rel.leave {γ0 : Gh} {io : List Bool} {os : List LO} {g0 : GS} {H0 : Hp} (R0 : Rel D γ0 (inE as) g0 (vs.map some) H0) (hp : γ0.pr = fun _ => none) (hio : γ0.io = γ0.ow) (n : Nx0 γ0 H0 γ H) (R : Rel D γ ρ g σ H) (ha : agOk io as = true) (e : outsOf io 0 ρ = some os) :
    Nx0 γ0 H0 (γ.leave γ0) H ∧ Rel D (γ.leave γ0) (outE as os) g (vs.map some) H ∧ ∀ r v, RelR D γ ρ H r v → RelR D (γ.leave γ0) (outE as os) H r v := by
  have m : Nx0 γ H (γ.leave γ0) H := ⟨⟨fun _ h => h, fun _ _ => rfl, Nat.le_refl _, fun _ _ => rfl⟩, rfl, rfl, rfl, rfl, rfl, fun _ _ h => h, fun _ h => h, fun _ _ h _ => h, fun _ xs h => ⟨xs, h⟩⟩
  have ro : ∀ {o : LO} {q : Addr}, RelO D γ H o q → RelO D (γ.leave γ0) H o q := fun h => h.to m (fun _ e => e) fun _ e => ⟨e, fun z => z⟩
  have f : ∀ {j : Nat} {s : Sl}, (outE as os)[j]? = some (some s) → ∃ o, s = .ow true o ∧ ρ[j]? = some (some (Sl.ow true o)) ∧ γ.ow j = γ0.ow j ∧ (vs.map some)[j]? = some (some (.ref (γ0.ow j))) := fun {j s} h => by
    obtain ⟨o, h1, h2, o', h3⟩ := outs_get ha e h
    rw [Nat.zero_add] at h2
    have e1 : γ.ow j = γ.io j := R.iok j o h2
    have e2 : γ.io = γ0.io := n.io
    refine ⟨o, h1, h2, by rw [e1, e2, hio], ?_⟩
    exact (R0.ow j true o' (by rw [List.getElem?_map, h3]; rfl)).1
  refine ⟨n.trans m, ⟨by rw [outE_length, ← R0.len, List.length_map], fun i a q => ?_, fun i b o q => ?_, R.sz, fun k o q => ?_, R.ainj, fun i j b b' o o' q q' z => ?_, fun i b o k q hk z => ?_, R.om, R.fr, R.omN, R.om0, R.keep, fun i o q => ?_, fun p w q => ?_⟩, fun r v h => ?_⟩
  · obtain ⟨o, h, _⟩ := f q; cases h
  · obtain ⟨o', h1, h2, h3, h4⟩ := f q
    cases h1
    obtain ⟨_, h5, h6, h7⟩ := R.ow i true o h2
    rw [h3] at h5 h6 h7
    exact ⟨h4, ro h5, h6, h7⟩
  · obtain ⟨h1, h2⟩ := R.ob k o q
    exact ⟨ro h1, h2⟩
  · obtain ⟨o1, h1, h2, h3, _⟩ := f q
    obtain ⟨o1', h1', h2', h3', _⟩ := f q'
    exact R.oinj i j true true _ _ h2 h2' (by rw [h3, h3']; exact z)
  · obtain ⟨o1, h1, h2, h3, _⟩ := f q
    exact R.oa i true _ k h2 hk (by rw [h3]; exact z)
  · obtain ⟨o1, h1, h2, h3, _⟩ := f q
    show γ0.ow i = γ.io i
    rw [show γ.io = γ0.io from n.io, hio]
  · have : γ.pr p = some w := q
    rw [show γ.pr = γ0.pr from n.pr, hp] at this
    cases this
  · cases r with
    | va a => exact RelA.mono m.toMono _ _ h
    | nw o =>
      obtain ⟨p, rfl, ro', F, hdx⟩ := h
      refine ⟨p, rfl, ro ro', ⟨F.om, F.h0, F.al, fun i b o' q z => ?_, F.pr⟩, hdx⟩
      obtain ⟨o1, h1, h2, h3, _⟩ := f q
      exact F.ow i true _ h2 (by rw [h3]; exact z)
theorem spF_len {io : List Bool} {n : Nat} {body : List St} {Q : VK} {E : XK} (h : spF D (mkFn Φ io n body) vs H Q E) : vs.length = io.length ∧ n - vs.length = n - io.length := by
  obtain ⟨γ, as, g, R, _, _, _, _, P⟩ := h
  have e : (mkFn Φ io n body).run as g = runF Φ io n body as g := rfl
  rw [e] at P
  unfold runF at P
  split at P
  · rename_i ha
    have l := agOk_length ha
    have := R.len
    rw [List.length_map, List.length_map] at this
    omega
  · exact P.elim
theorem body_rd {io : List Bool} {N : List Str} {body : List St} {Q : VK} {E : XK} (h : spF D (mkFn Φ io N.length body) vs H Q E) :
    tSs D (fun cls d _ H => E cls d H) Φ body { nx := fun _ H' => Q .non H', rt := Q } (start N vs) H := by
  obtain ⟨γ, as, g, R, _, _, hp, hio, P⟩ := h
  have e : (mkFn Φ io N.length body).run as g = runF Φ io N.length body as g := rfl
  rw [e] at P
  unfold runF at P
  split at P
  · rename_i ha
    have l : as.length = vs.length := by
      have := R.len
      rwa [List.length_map, List.length_map] at this
    rw [l] at P
    refine ⟨γ, as.map (fun a => some (slOf a)) ++ List.replicate (N.length - vs.length) none, g, R.pad _, ?_⟩
    cases q : exL Φ body (as.map (fun a => some (slOf a)) ++ List.replicate (N.length - vs.length) none) g with
    | nx ρ1 g1 =>
      rw [q] at P
      intro γ' H' σ' n R'
      dsimp only at P
      cases ho : outsOf io 0 ρ1 with
      | none => rw [ho] at P; exact P.elim
      | some os =>
        rw [ho] at P
        obtain ⟨n2, R2, c⟩ := Rel.leave R hp hio n R' ha ho
        exact P _ H' .non n2 R2 (by simp only [RelR, RelA])
    | rt r ρ1 g1 =>
      rw [q] at P
      intro γ' H' σ' v n R' t
      dsimp only at P
      cases ho : outsOf io 0 ρ1 with
      | none => rw [ho] at P; exact P.elim
      | some os =>
        rw [ho] at P
        obtain ⟨n2, R2, c⟩ := Rel.leave R hp hio n R' ha ho
        exact P _ H' v n2 R2 (c _ _ t)
    | ex x ρ1 g1 =>
      rw [q] at P
      intro γ' H' σ' cls d n R' t
      dsimp only at P
      cases ho : outsOf io 0 ρ1 with
      | none => rw [ho] at P; exact P.elim
      | some os =>
        rw [ho] at P
        obtain ⟨n2, R2, c⟩ := Rel.leave R hp hio n R' ha ho
        have mb : Mono γ' H' (γ'.leave γ) H' := ⟨fun _ h => h, fun _ _ => rfl, Nat.le_refl _, fun _ _ => rfl⟩
        exact P _ H' cls d n2 R2 (RelX.mono mb t)
    | bk ρ1 g1 => rw [q] at P; exact P.elim
    | ct ρ1 g1 => rw [q] at P; exact P.elim
    | bad => rw [q] at P; exact P.elim
  · exact P.elim
end
end Eg
namespace Eg
open PySem PySem.Spec PyProof.Rows L2
structure Gc where
  fns : List (Str × (Nat × List Bool))
  gls : List (Str × Nat)
  cls : List (Str × Nat)
  fls : List (Str × Nat)
structure Cc where
  N : List Str
  sc : Scope
def ixOf (x : Str) : List Str → Nat → Option Nat
  | [], _ => none
  | y :: r, i => if y = x then some i else ixOf x r (i + 1)
def kd (Γ : Cc) (x : Str) : Option NameKind := Γ.sc.names.lookup x
def isGl (Γ : Cc) (x : Str) : Bool := match kd Γ x with
  | some .globalImplicit => true
  | _ => false
def isVi (Γ : Cc) (x : Str) : Bool := match kd Γ x with
  | some .local => true
  | some .cell => true
  | some .free => true
  | _ => false
def isSt (Γ : Cc) (x : Str) : Bool := match kd Γ x with
  | some .local => true
  | some .cell => true
  | _ => false
def trN (g : Gc) (Γ : Cc) (x : Str) : Option Ex :=
  if isVi Γ x then (ixOf x Γ.N 0).map .v else if isGl Γ x then (g.gls.lookup x).map .gl else none
def trK : Const → Option Ex
  | .none => some (.c .non)
  | .bool b => some (.c (.bl b))
  | .int i => some (.c (.int i))
  | .str x => some (.c (.str x))
  | _ => none
def trB : Operator → Option BOp
  | .Add => some .add | .Sub => some .sub | .Mult => some .mul | .FloorDiv => some .fdiv | .Mod => some .mod | .Pow => some .pow
  | _ => none
def trC : CmpOp → Option COp
  | .Eq => some .eq | .NotEq => some .ne | .Lt => some .lt | .LtE => some .le | .Gt => some .gt | .GtE => some .ge | .Is => some .isN | .IsNot => some .notN
  | _ => none
def trL (r : Expr → Option Ex) : List Expr → Option (List Ex)
  | [] => some []
  | e :: es => match r e, trL r es with
    | some m, some ms => some (m :: ms)
    | _, _ => none
def isIte : Expr → Bool
  | .IfExp .. => true
  | _ => false
def trT (r : Expr → Option Ex) (e : Expr) : Option Ex := if isIte e then none else r e
def trBool (r : Expr → Option Ex) (op : PySem.BoolOp) (pos : Pos) : List Expr → Option Ex
  | [] => none
  | [a] => trT r a
  | a :: b :: rest => match trT r a, trBool r op pos (b :: rest) with
    | some x, some y => some (match op with | .And => .and x y | .Or => .or x y)
    | _, _ => none
def trCmp (r : Expr → Option Ex) (a : Expr) (ops : List CmpOp) (bs : List Expr) : Option Ex :=
  if lastMarks ops bs then none else match ops, bs with
  | [op], [b] => match trC op, r a, r b with
    | some o, some x, some y => some (.cmp o x y)
    | _, _, _ => none
  | [op, op'], [b, c] => match trC op, trC op', r a, r b, r c with
    | some o, some o', some x, some y, some z => some (.cmp2 o o' x y z)
    | _, _, _, _, _ => none
  | _, _ => none
def trP (r : Expr → Option Ex) : Option Expr → Option Ex
  | none => some (.c .non)
  | some e => match r e with
    | some m => if isNonC m then none else some m
    | none => none
def isOne : Expr → Bool
  | .UnaryOp .USub (.Constant (.int k) _ _) _ => decide (k = 1)
  | _ => false
def trSub (r : Expr → Option Ex) (a : Expr) : Expr → Option Ex
  | .Slice lo hi st _ => match r a with
    | none => none
    | some x => match st with
      | none => match trP r lo, trP r hi with
        | some l, some h => some (.slc x l h)
        | _, _ => none
      | some s => match lo, hi with
        | none, none => if isOne s then some (.rev x) else none
        | _, _ => none
  | i => match r a, r i with
    | some x, some k => some (.sub x k)
    | _, _ => none
def isCall0 : Expr → Bool
  | .Call _ [] [] _ => true
  | _ => false
def bis : List (Str × (Nat × Bi)) := [("abs", 1, .abs), ("min", 2, .min2), ("max", 2, .max2), ("int", 1, .int1), ("repr", 1, .repr1), ("list", 1, .list1), ("tuple", 1, .tuple1), ("all", 1, .all1), ("any", 1, .any1), ("sum", 1, .sum1), ("str", 1, .str1)]
def tys : List (Str × Ty) := [("int", .int), ("bool", .bool), ("str", .str), ("list", .list), ("tuple", .tuple), ("dict", .dict)]
def blN : List Str := ["abs", "min", "max", "int", "repr", "list", "tuple", "all", "any", "sum", "str", "bool", "dict", "len", "isinstance", "range"]
def trTy (g : Gc) (Γ : Cc) : Expr → Option Ty
  | .Name x _ => if isGl Γ x then match g.cls.lookup x with
      | some C => some (.own C)
      | none => tys.lookup x
    else none
  | _ => none
def trAV (r : Expr → Option Ex) : List Expr → List Bool → Option (List Ex)
  | [], [] => some []
  | e :: es, b :: bs => match r e, trAV r es bs with
    | some m, some ms => if b then (match m with | .v i => some (.v i :: ms) | _ => none) else some (m :: ms)
    | _, _ => none
  | _, _ => none
def trCall (g : Gc) (Γ : Cc) (r : Expr → Option Ex) (f : Str) (es : List Expr) : Option Ex :=
  if isGl Γ f then match g.fns.lookup f with
    | some (k, io) => (trAV r es io).map (.call k)
    | none => match es with
      | [a] => if f = "len" then (r a).map fun x => .bi .len [x] else match bis.lookup f with
        | some (n, b) => if n = 1 then (r a).map fun x => .bi b [x] else none
        | none => none
      | [a, b] => if f = "isinstance" then (match r a, trTy g Γ b with
          | some x, some t => some (.isi x [t])
          | _, _ => none) else match bis.lookup f with
        | some (n, k) => if n = 2 then (match r a, r b with
          | some x, some y => some (.bi k [x, y])
          | _, _ => none) else none
        | none => none
      | _ => none
  else none
def trIc (Γ : Cc) (r : Expr → Option Ex) (f : Str) : List Expr → Option (ItK × List Ex)
  | [a] => if f = "range" then (r a).map fun x => (.r1, [x]) else none
  | [a, b] => if f = "range" then (match r a, r b with
    | some x, some y => some (.r2, [x, y])
    | _, _ => none) else none
  | _ => none
def trI0 (Γ : Cc) (r : Expr → Option Ex) : Expr → Option (ItK × List Ex)
  | .Call (.Name f _) es [] _ => if isGl Γ f then trIc Γ r f es else none
  | _ => none
def trI (Γ : Cc) (r : Expr → Option Ex) (e : Expr) : Option (ItK × List Ex) := match trI0 Γ r e with
  | some q => some q
  | none => (r e).map fun x => (.seq, [x])
def trNm (Γ : Cc) : Expr → Option Nat
  | .Name x _ => if isSt Γ x then ixOf x Γ.N 0 else none
  | _ => none
def trNms (Γ : Cc) : List Expr → Option (List Nat)
  | [] => some []
  | e :: es => match trNm Γ e, trNms Γ es with
    | some i, some is => some (i :: is)
    | _, _ => none
def trTg (Γ : Cc) : Expr → Option Tg
  | .Tuple es _ _ => (trNms Γ es).map .t
  | e => (trNm Γ e).map .n
def ownOf (N : List Str) (is : List Nat) : List (Str × Nat) := is.map fun i => ((N[i]?).getD "", i)
def trIf (r : Expr → Option Ex) : List Expr → Option Ex
  | [] => some (.c (.bl true))
  | [c] => trT r c
  | _ => none
def trLc (Γ : Cc) (r : Cc → Expr → Option Ex) (elt : Expr) (gs : List Comprehension) (scope : Scope) : Option Ex := match gs with
  | [⟨tg, it, ifs, as⟩] =>
    if as = 0 then
      let Γ' : Cc := ⟨Γ.N, scope⟩
      match trTg Γ' tg, trI Γ (r Γ) it, trIf (r Γ') ifs, r Γ' elt with
      | some t, some (k, ms), some c, some e => if blkC Γ.N Γ.sc scope (ownOf Γ.N t.slots) then some (.lc e t k ms c) else none
      | _, _, _, _ => none
    else none
  | _ => none
def trE (g : Gc) : Nat → Cc → Expr → Option Ex
  | 0, _, _ => none
  | n + 1, Γ, e => match e with
    | .Constant c _ _ => trK c
    | .Name x _ => trN g Γ x
    | .BinOp a op b _ => match trB op, trE g n Γ a, trE g n Γ b with
      | some o, some x, some y => some (.bin o x y)
      | _, _, _ => none
    | .UnaryOp op a _ => match op with
      | .USub => (trE g n Γ a).map .neg
      | .Not => (trT (trE g n Γ) a).map .not
      | _ => none
    | .BoolOp op es pos => trBool (trE g n Γ) op pos es
    | .Compare a ops bs _ => trCmp (trE g n Γ) a ops bs
    | .IfExp c a b _ => match trT (trE g n Γ) c, trE g n Γ a, trE g n Γ b with
      | some z, some x, some y => some (.ite z x y)
      | _, _, _ => none
    | .List es _ => (trL (trE g n Γ) es).map .lst
    | .Tuple es _ _ => (trL (trE g n Γ) es).map .tup
    | .Subscript a i _ => trSub (trE g n Γ) a i
    | .Attribute a x _ => if isCall0 a then none else match trE g n Γ a, g.fls.lookup x with
      | some m, some f => some (.fld m f)
      | _, _ => none
    | .ListComp elt gs scope _ => trLc Γ (trE g n) elt gs scope
    | .Call f es ks _ => match f, ks with
      | .Name x _, [] => trCall g Γ (trE g n Γ) x es
      | _, _ => none
    | _ => none
end Eg
namespace Eg
open PySem PySem.Spec PyProof.Rows L2
def Vv (x : Option NameKind) : Prop := x = some .local ∨ x = some .cell ∨ x = some .free
structure Gok (g : Gc) (D : Gd) (Φ : Tab) (P : Program) (w : World) (K : PySem.W.Frag) (mg : Str → Option Value) (base : Heap) (A : Around) : Prop where
  fns : ∀ x k io, g.fns.lookup x = some (k, io) → ∃ F lv f fd ps, Φ.fn k = some F ∧ F.io = io ∧ mg x = some (.ref f) ∧ PySem.W.keepIn K (.ref f) = true ∧ Binds K fd ps [] ∧ GOk P w K mg base lv f fd ps (spF D F) ∧ Room lv A ∧ (x == ("__debug__" : Str)) = false
  gls : ∀ x k, g.gls.lookup x = some k → ∃ a u v, Φ.gl k = some a ∧ mg x = some u ∧ RelV v u ∧ (∀ γ H, RelA D γ H a v) ∧ (x == ("__debug__" : Str)) = false
  cls : ∀ x C, g.cls.lookup x = some C → mg x = some (.ref (D.ca C)) ∧ (x == ("__debug__" : Str)) = false
  fls : ∀ x f, g.fls.lookup x = some f → f < D.nf ∧ D.fld f = x
  blt : ∀ x ∈ blN, mg x = none
  tab : TabOk D Φ
structure Cok (g : Gc) (Γ : Cc) (D : Gd) (Φ : Tab) (X : Cx) (W : WX) : Prop where
  K : X.K = D.K
  N : X.N = Γ.N
  nd : Γ.N.Nodup
  calm : X.calm = true
  gu : X.A.guards = some []
  un : X.A.units + 70 < cLine
  tk : Takes X W
  vis : ∀ x, isVi Γ x = true → Vis X.env.scope x
  sto : ∀ x, isSt Γ x = true → Loc X.env.scope x ∧ (X.fn x = true ∨ X.env.scope.names.lookup x = some .local)
  loc : ∀ x, kd Γ x = some .local → X.env.scope.names.lookup x = some .local
  glo : ∀ x, isGl Γ x = true → Gl X x
  cf : ∀ x, kd Γ x = some .cell ∨ kd Γ x = some .free → X.env.scope.names.lookup x = some .cell ∨ X.env.scope.names.lookup x = some .free
  G : Gok g D Φ X.prog X.w X.K X.mg X.base X.A
  nm : ∀ x ∈ Γ.N, (x == ("__debug__" : Str)) = false ∧ (x == ("__classdict__" : Str)) = false
structure Snd (X : Cx) (D : Gd) (W : WX) (Φ : Tab) (e : Expr) (m : Ex) : Prop where
  pe : PE X e (tE D W Φ m)
  pv : ∀ i, m = .v i → PE X e (tVar i)
  pt : isIte e = false → PT X e (tTs D W Φ m)
  st : ∀ es, starEach (e :: es) X.env = (false, eval e X.env) :: starEach es X.env
abbrev RS (X : Cx) (D : Gd) (W : WX) (Φ : Tab) (r : Expr → Option Ex) : Prop := ∀ e m, r e = some m → Snd X D W Φ e m
theorem ixOf_get {x : Str} : ∀ {l : List Str} {i j : Nat}, ixOf x l i = some j → i ≤ j ∧ l[j - i]? = some x
  | [], i, j, h => by cases h
  | y :: r, i, j, h => by
    unfold ixOf at h
    split at h
    · cases h
      rename_i e
      exact ⟨Nat.le_refl _, by rw [Nat.sub_self, e]; rfl⟩
    · obtain ⟨h1, h2⟩ := ixOf_get h
      refine ⟨by omega, ?_⟩
      rw [show j - i = (j - (i + 1)) + 1 by omega]
      simpa using h2
theorem ixOf_get0 {x : Str} {l : List Str} {j : Nat} (h : ixOf x l 0 = some j) : l[j]? = some x := (ixOf_get h).2
section
variable {g : Gc} {Γ : Cc} {D : Gd} {Φ : Tab} {X : Cx} {W : WX} {r : Expr → Option Ex} {e a b c : Expr} {es : List Expr} {m : Ex} {ms : List Ex} {pos : Pos}
theorem Snd.of (h : PE X e (tE D W Φ m)) (hv : ∀ i, m ≠ .v i) (he : ∀ whole, isTrue e X.env whole = (do let v ← whole; standAt e.pos; holding [v] (truthy v))) (st : ∀ es, starEach (e :: es) X.env = (false, eval e X.env) :: starEach es X.env) : Snd X D W Φ e m :=
  ⟨h, fun i z => absurd z (hv i), fun _ => p_val h he, st⟩
theorem d_neg (h : PE X a (tE D W Φ m)) : PE X (.UnaryOp .USub a pos) (tE D W Φ (.neg m)) := PE.imp (pe_un un_neg (pA h)) fun σ H Q ⟨γ, ρ, g, R, P⟩ => by
  have P' : Post D W (TR D) γ σ H ((evA Φ m >>= fun x => intM x >>= fun i => Pure.pure (Rv.va (.int (-i))) : M Rv) ρ g) Q := by simpa only [evR] using P
  refine Rg.mono (Post.bind (T := TAr D) R P') fun v H1 ⟨x, γ1, ρ1, g1, n1, R1, r1, P1⟩ => ?_
  cases x with
  | int i =>
    simp only [RelA] at r1
    exact ⟨i, r1, of_pure P1 R1 (by simp only [RelR, RelA])⟩
  | _ => exact P1.elim
theorem snd_not (h : trT r a = some m) (rs : RS X D W Φ r) : Snd X D W Φ (.UnaryOp .Not a pos) (.not m) := by
  unfold trT at h
  split at h
  · cases h
  · rename_i hi
    have s := rs a m h
    have pt := s.pt (by simpa using hi)
    exact ⟨d_not pt s.pe, fun i z => (by cases z), fun _ => p_not pt, fun _ => rfl⟩
theorem snd_one (h : trT r a = some m) (rs : RS X D W Φ r) : PE X a (tE D W Φ m) ∧ PT X a (tTs D W Φ m) ∧ ∀ i, m = .v i → PE X a (tVar i) := by
  unfold trT at h
  split at h
  · cases h
  · rename_i hi
    have s := rs a m h
    exact ⟨s.pe, s.pt (by simpa using hi), s.pv⟩
theorem snd_bool (rs : RS X D W Φ r) {op : PySem.BoolOp} : ∀ {es : List Expr} {m : Ex}, trBool r op pos es = some m → PE X (.BoolOp op es pos) (tE D W Φ m) ∧ PW X (.BoolOp op es pos) (tTs D W Φ m) ∧ ∀ i, m = .v i → PE X (.BoolOp op es pos) (tVar i)
  | [], m, h => by cases h
  | [a], m, h => by
    obtain ⟨h1, h2, h3⟩ := snd_one (show trT r a = some m from h) rs
    refine ⟨d_one h1, ?_, fun i z => pe_one (h3 i z)⟩
    cases op
    · exact p_one_and h2
    · exact p_one_or h2
  | a :: b :: rest, m, h => by
    unfold trBool at h
    split at h
    · rename_i x y q1 q2
      obtain ⟨h1, h2, _⟩ := snd_one q1 rs
      obtain ⟨h4, h5, _⟩ := snd_bool rs q2
      cases op
      · cases h
        exact ⟨d_and h1 h4, p_and h2 h5, fun i z => by cases z⟩
      · cases h
        exact ⟨d_or h1 h4, p_or h2 h5, fun i z => by cases z⟩
    · cases h
theorem trC_of {op : CmpOp} {o : COp} (h : trC op = some o) : op = copOf o := by
  cases op <;> first | (cases h; rfl) | cases h
theorem trB_of {op : Operator} {o : BOp} (h : trB op = some o) : op = bopOf o := by
  cases op <;> first | (cases h; rfl) | cases h
theorem snd_cmp (C : Cok g Γ D Φ X W) (rs : RS X D W Φ r) {ops : List CmpOp} {bs : List Expr} (h : trCmp r a ops bs = some m) : Snd X D W Φ (.Compare a ops bs pos) m := by
  have hu : X.A.units + 64 < cLine := by have := C.un; omega
  unfold trCmp at h
  split at h
  · cases h
  · rename_i hm
    have hm : lastMarks ops bs = false := by simpa using hm
    split at h
    · rename_i op b
      split at h
      · rename_i o x y q1 q2 q3
        cases h
        obtain rfl := trC_of q1
        exact ⟨d_cmp o hu C.K (rs _ _ q2).pe (rs _ _ q3).pe hm, fun i z => (by cases z), fun _ => p_cmp o hu C.K (rs _ _ q2).pe (rs _ _ q3).pe hm, fun _ => rfl⟩
      · cases h
    · rename_i op op' b c
      split at h
      · rename_i o o' x y z q0 q1 q2 q3 q4
        cases h
        obtain rfl := trC_of q0
        obtain rfl := trC_of q1
        exact ⟨d_cmp2 o o' hu C.K (rs _ _ q2).pe (rs _ _ q3).pe (rs _ _ q4).pe hm, fun i z => (by cases z), fun _ => p_cmp2 o o' hu C.K (rs _ _ q2).pe (rs _ _ q3).pe (rs _ _ q4).pe hm, fun _ => rfl⟩
      · cases h
    · cases h
theorem snd_name (C : Cok g Γ D Φ X W) {x : Str} (h : trN g Γ x = some m) : Snd X D W Φ (.Name x pos) m := by
  unfold trN at h
  split at h
  · rename_i hv
    obtain ⟨i, q, rfl⟩ := map_some h
    have q1 := ixOf_get0 q
    have hn := C.nm x (List.mem_of_getElem? q1)
    have pv : PE X (.Name x pos) (tVar i) := pe_var (by rw [C.N]; exact q1) (C.vis x hv) hn.1 hn.2
    exact ⟨d_v pv, fun j z => (by cases z; exact pv), fun _ => p_val (d_v pv) fun _ => rfl, fun _ => rfl⟩
  · split at h
    · rename_i hg
      obtain ⟨k, q, rfl⟩ := map_some h
      obtain ⟨a, u, v, h1, h2, h3, h4, h5⟩ := C.G.gls x k q
      exact Snd.of (d_gl (pe_glob (C.glo x hg) h2 h3 h5) h1 h4) (fun i z => by cases z) (fun _ => rfl) fun _ => rfl
    · cases h
theorem snd_const {c : Const} {k : Nat} (h : trK c = some m) : Snd X D W Φ (.Constant c k pos) m := by
  have go : ∀ {v : V} {x : A}, PE X (.Constant c k pos) (tC v) → (∀ γ H, RelA D γ H x v) → m = .c x → Snd X D W Φ (.Constant c k pos) m := fun h1 h2 h3 => by
    subst h3
    exact Snd.of (d_c h1 h2) (fun i z => by cases z) (fun _ => rfl) fun _ => rfl
  cases c with
  | none => cases h; exact go pe_non (fun _ _ => by simp only [RelA]) rfl
  | bool b => cases h; exact go pe_bl (fun _ _ => by simp only [RelA]) rfl
  | int i => cases h; exact go pe_int (fun _ _ => by simp only [RelA]) rfl
  | str x => cases h; exact go pe_str (fun _ _ => by simp only [RelA]) rfl
  | _ => cases h
theorem snd_list (rs : RS X D W Φ r) : ∀ {es : List Expr} {ms : List Ex}, trL r es = some ms → PA X es (tLs D W Φ ms)
  | [], ms, h => by cases h; exact l_nil
  | e :: es, ms, h => by
    unfold trL at h
    split at h
    · rename_i x xs q1 q2
      cases h
      exact l_cons (rs _ _ q1).pe (snd_list rs q2) ((rs _ _ q1).st _)
    · cases h
theorem Snd.brw (h : Snd X D W Φ e m) : PE X e (tBs D W Φ m) := d_brw h.pe h.pv
theorem snd_part (rs : RS X D W Φ r) {lo : Option Expr} (h : trP r lo = some m) : PO X lo (tPo D W Φ m) := by
  cases lo with
  | none => cases h; exact o_none
  | some e =>
    unfold trP at h
    dsimp only at h
    split at h
    · rename_i x q
      split at h
      · cases h
      · rename_i hn
        cases h
        exact o_some (rs _ _ q).pe (by simpa using hn)
    · cases h
theorem snd_sub (C : Cok g Γ D Φ X W) (rs : RS X D W Φ r) (hs : ∀ l u s p, r (.Slice l u s p) = none) {i : Expr} (h : trSub r a i = some m) : Snd X D W Φ (.Subscript a i pos) m := by
  have plain : (∀ l u s p, i ≠ .Slice l u s p) → (match r a, r i with
    | some x, some k => some (Ex.sub x k)
    | _, _ => none) = some m → Snd X D W Φ (.Subscript a i pos) m := fun hn h => by
    split at h
    · rename_i x k q1 q2
      cases h
      exact Snd.of (d_sub (rs _ _ q1).brw (rs _ _ q2).pe (plainIx_of fun l u p => hn l u none p) C.K) (fun i z => by cases z) (fun _ => rfl) fun _ => rfl
    · cases h
  cases i with
  | Slice lo hi st p2 =>
    unfold trSub at h
    dsimp only at h
    split at h
    · cases h
    · rename_i x q
      split at h
      · split at h
        · rename_i l u q1 q2
          cases h
          exact Snd.of (d_slc (rs _ _ q).brw (snd_part rs q1) (snd_part rs q2) C.K) (fun i z => by cases z) (fun _ => rfl) fun _ => rfl
        · cases h
      · rename_i s
        split at h
        · split at h
          · rename_i ho
            cases h
            unfold isOne at ho
            split at ho
            · rename_i k j p1 p3
              have : k = 1 := by simpa using ho
              subst this
              exact Snd.of (d_rev (rs _ _ q).brw C.K) (fun i z => by cases z) (fun _ => rfl) fun _ => rfl
            · cases ho
          · cases h
        · cases h
  | _ => exact plain (fun l u s p z => by cases z) h
theorem snd_fld (C : Cok g Γ D Φ X W) (rs : RS X D W Φ r) {x : Str} (hc : isCall0 a = false) {f : Nat} (h : r a = some m) (hf : g.fls.lookup x = some f) : Snd X D W Φ (.Attribute a x pos) (.fld m f) := by
  obtain ⟨h1, h2⟩ := C.G.fls x f hf
  refine Snd.of (d_fld (rs _ _ h).brw C.K ?_ h1 h2) (fun i z => by cases z) (fun _ => rfl) fun _ => rfl
  unfold attributeBase
  split
  · cases hc
  · rfl
end
end Eg
namespace Eg
open PySem PySem.Spec PyProof.Rows L2
def isTyB : Bi → Bool
  | .int1 | .list1 | .tuple1 | .str1 => true
  | _ => false
theorem bis_ok : ∀ p ∈ bis, p.1 ∈ blN ∧ bootBuiltins p.1 = some (biV p.2.2) ∧ p.1 ≠ "__name__" ∧ (p.1 == ("__debug__" : Str)) = false ∧ p.2.2 ≠ .len := by decide +kernel
theorem tys_ok : ∀ p ∈ tys, p.1 ∈ blN ∧ bootBuiltins p.1 = some (.type (tyN p.2)) ∧ p.1 ≠ "__name__" ∧ (p.1 == ("__debug__" : Str)) = false ∧ isOwn p.2 = false := by decide +kernel
theorem mem_lookup {α : Type} {x : Str} {v : α} : ∀ {l : List (Str × α)}, l.lookup x = some v → (x, v) ∈ l := fun h => PySem.mem_of_lookup h
section
variable {g : Gc} {Γ : Cc} {D : Gd} {Φ : Tab} {X : Cx} {W : WX} {r : Expr → Option Ex} {e a b c : Expr} {es : List Expr} {m : Ex} {ms : List Ex} {pos p : Pos} {f : Str}
theorem st_any (h : ∀ e ∈ es, ∀ rest, starEach (e :: rest) X.env = (false, eval e X.env) :: starEach rest X.env) : (backTo pos (starEach es X.env)).any (·.1) = false := by
  induction es with
  | nil => rfl
  | cons a es ih =>
    rw [h a List.mem_cons_self es]
    show (false || (backTo pos (starEach es X.env)).any (·.1)) = false
    rw [Bool.false_or]
    exact ih fun e he => h e (List.mem_cons_of_mem _ he)
theorem snd_av (rs : RS X D W Φ r) : ∀ {es : List Expr} {bs : List Bool} {ms : List Ex}, trAV r es bs = some ms → PA X es (tAV D W Φ ms bs) ∧ ∀ e ∈ es, ∀ rest, starEach (e :: rest) X.env = (false, eval e X.env) :: starEach rest X.env
  | [], [], ms, h => by cases h; exact ⟨av_nil, fun e he => by cases he⟩
  | [], _ :: _, ms, h => by cases h
  | _ :: _, [], ms, h => by cases h
  | e :: es, b :: bs, ms, h => by
    unfold trAV at h
    split at h
    · rename_i x xs q1 q2
      obtain ⟨h1, h2⟩ := snd_av rs q2
      have s := rs _ _ q1
      refine ⟨?_, fun e' he' => by
        rcases List.mem_cons.mp he' with z | z
        · rw [z]; exact s.st
        · exact h2 e' z⟩
      cases b with
      | true =>
        rw [if_pos rfl] at h
        split at h
        · rename_i i
          cases h
          exact av_io (s.pv i rfl) h1 (s.st es)
        · cases h
      | false =>
        rw [if_neg (by decide)] at h
        cases h
        exact av_va s.pe h1 (s.st es)
    · cases h
theorem snd_ty (C : Cok g Γ D Φ X W) {t : Ty} (h : trTy g Γ a = some t) : ∃ cv, PE X a (tC cv) ∧ ClsV cv (tyV' D t) ∧ ∀ es, starEach (a :: es) X.env = (false, eval a X.env) :: starEach es X.env := by
  unfold trTy at h
  split at h
  · rename_i x p
    split at h
    · rename_i hg
      split at h
      · rename_i Cn q
        cases h
        obtain ⟨h1, h2⟩ := C.G.cls x Cn q
        exact ⟨.ref (D.ca Cn), pe_glob (C.glo x hg) h1 rfl h2, .own _, fun _ => rfl⟩
      · obtain ⟨h1, h2, h3, h4, h5⟩ := tys_ok _ (mem_lookup h)
        have e : tyV' D t = .type (tyN t) := by cases t <;> first | rfl | cases h5
        refine ⟨.ty (tyN t), pe_bltn (C.glo x hg) (C.G.blt x h1) h2 rfl h3 h4, ?_, fun _ => rfl⟩
        rw [e]
        exact .ty _
    · cases h
  · cases h
theorem snd_call (C : Cok g Γ D Φ X W) (rs : RS X D W Φ r) (h : trCall g Γ r f es = some m) : Snd X D W Φ (.Call (.Name f p) es [] pos) m := by
  unfold trCall at h
  split at h
  · rename_i hgl
    have hg := C.glo f hgl
    have blt : ∀ {b : Bi} {n : Nat} {a : Expr} {es : List Expr} {ms : List Ex}, bis.lookup f = some (n, b) → PA X (a :: es) (tLs D W Φ ms) → (∀ e ∈ a :: es, ∀ rest, starEach (e :: rest) X.env = (false, eval e X.env) :: starEach rest X.env) → Snd X D W Φ (.Call (.Name f p) (a :: es) [] pos) (.bi b ms) := fun {b n a es ms} q ha hs => by
      obtain ⟨h1, h2, h3, h4, h5⟩ := bis_ok _ (mem_lookup q)
      have hm := C.G.blt f h1
      have hp : (backTo pos (starEach es X.env)).any (·.1) = false := st_any fun e he => hs e (List.mem_cons_of_mem _ he)
      refine Snd.of (d_biG b h5 C.K ?_) (fun i z => by cases z) (fun _ => rfl) fun _ => rfl
      have ok := bi_ok C.calm C.gu C.un (by rw [C.K]; exact D.dig) b
      by_cases hb : isTyB b = true
      · have : ∃ T, biV b = .type T := by cases b <;> first | exact ⟨_, rfl⟩ | cases hb
        obtain ⟨T, e⟩ := this
        rw [e] at ok h2
        exact pe_callTy ok hg hm h2 ha h3 h4 (hs a List.mem_cons_self es) hp
      · have : ∃ T, biV b = .builtin T := by cases b <;> first | exact ⟨_, rfl⟩ | (exact absurd rfl hb)
        obtain ⟨T, e⟩ := this
        rw [e] at ok h2
        exact pe_callB ok hg hm h2 ha h3 h4 (hs a List.mem_cons_self es) hp
    split at h
    · rename_i k io q
      obtain ⟨xs, q1, rfl⟩ := map_some h
      obtain ⟨F, lv, fa, fd, ps, h1, rfl, h3, h4, h5, h6, h7, h8⟩ := C.G.fns f k io q
      obtain ⟨ha, hs⟩ := snd_av rs q1
      refine Snd.of (d_call h1 ?_) (fun i z => by cases z) (fun _ => rfl) fun _ => rfl
      cases es with
      | nil =>
        refine PE.imp (pe_g0 h6 h7 C.gu hg h3 h4 h5 C.tk h8) fun σ H Q q => ?_
        have e2 : xs = [] ∧ F.io = [] := by
          cases hio : F.io with
          | nil => rw [hio] at q1; cases q1; exact ⟨rfl, rfl⟩
          | cons b bs => rw [hio] at q1; cases q1
        obtain ⟨rfl, e3⟩ := e2
        rw [e3] at q
        obtain ⟨γ, ρ, g, R, P⟩ := q
        have P' : Post D W (fun γ _ H avs vs => RelV' D γ H avs vs) γ σ H ((Pure.pure [] : M (List AV)) ρ g) (fun vs H1 => spF D F vs H1 Q (fun cls d H' => W cls d σ H')) := by simpa only [evAV] using P
        exact of_pure P' R rfl
      | cons a es =>
        exact pe_g h6 h7 C.gu hg h3 h4 h5 C.tk ha h8 (hs a List.mem_cons_self es) (st_any fun e he => hs e (List.mem_cons_of_mem _ he))
    · split at h
      · rename_i a
        split at h
        · rename_i hl
          obtain ⟨x, q1, rfl⟩ := map_some h
          have s := rs _ _ q1
          exact Snd.of (d_len s.brw C.K hg hl (C.G.blt f (by rw [hl]; decide)) (s.st [])) (fun i z => by cases z) (fun _ => rfl) fun _ => rfl
        · split at h
          · rename_i n b q
            split at h
            · obtain ⟨x, q1, rfl⟩ := map_some h
              have s := rs _ _ q1
              exact blt q (l_cons s.pe l_nil (s.st [])) fun e he rest => by
                rcases List.mem_cons.mp he with z | z
                · rw [z]; exact s.st rest
                · cases z
            · cases h
          · cases h
      · rename_i a b
        split at h
        · rename_i hl
          split at h
          · rename_i x t q1 q2
            cases h
            have s := rs _ _ q1
            obtain ⟨cv, h1, h2, h3⟩ := snd_ty C q2
            subst hl
            exact Snd.of (d_isi C.G.tab C.K s.pe h1 h2 hg (C.G.blt _ (by decide)) (s.st [b]) (h3 [])) (fun i z => by cases z) (fun _ => rfl) fun _ => rfl
          · cases h
        · split at h
          · rename_i n k q
            split at h
            · split at h
              · rename_i x y q1 q2
                cases h
                have s1 := rs _ _ q1
                have s2 := rs _ _ q2
                exact blt q (l_cons s1.pe (l_cons s2.pe l_nil (s2.st [])) (s1.st [b])) fun e he rest => by
                  rcases List.mem_cons.mp he with z | z
                  · rw [z]; exact s1.st rest
                  · rcases List.mem_cons.mp z with z | z
                    · rw [z]; exact s2.st rest
                    · cases z
              · cases h
            · cases h
          · cases h
      · cases h
  · cases h
theorem snd_it (C : Cok g Γ D Φ X W) (rs : RS X D W Φ r) (hset : ∀ es k p, r (.Set es k p) = none) {tg : Expr} {k : ItK} (h : trI Γ r e = some (k, ms)) : PI X tg e (tI D W Φ k ms) ∧ ∀ env x, foldedSetIterable e env x = pure x := by
  have plain : (r e).map (fun x => (ItK.seq, [x])) = some (k, ms) → PI X tg e (tI D W Φ k ms) ∧ ∀ env x, foldedSetIterable e env x = pure x := fun h => by
    obtain ⟨x, q, e1⟩ := map_some h
    cases e1
    refine ⟨i_seq C.K (rs _ _ q).pe, fun env x => ?_⟩
    cases e with
    | Set es k p => rw [hset] at q; cases q
    | _ => rfl
  unfold trI at h
  split at h
  · rename_i q0 q
    cases h
    unfold trI0 at q
    split at q
    · rename_i f p es pos
      split at q
      · rename_i hgl
        have hg := C.glo f hgl
        unfold trIc at q
        split at q
        · rename_i a
          split at q
          · rename_i hf
            obtain ⟨x, q1, e1⟩ := map_some q
            cases e1
            have s := rs _ _ q1
            subst hf
            exact ⟨i_r1 hg (C.G.blt _ (by decide)) (l_cons s.pe l_nil (s.st [])) (s.st []), fun _ _ => rfl⟩
          · cases q
        · rename_i a b
          split at q
          · rename_i hf
            split at q
            · rename_i x y q1 q2
              cases q
              have s1 := rs _ _ q1
              have s2 := rs _ _ q2
              subst hf
              exact ⟨i_r2 hg (C.G.blt _ (by decide)) (l_cons s1.pe (l_cons s2.pe l_nil (s2.st [])) (s1.st [b])) (by rw [s1.st, s2.st]; rfl) (s2.st []), fun _ _ => rfl⟩
            · cases q
          · cases q
        · cases q
      · cases q
    · cases q
  · exact plain h
theorem snd_nm (hN : X.N = Γ.N) (nd : Γ.N.Nodup) (sto : ∀ x, isSt Γ x = true → Loc X.env.scope x ∧ (X.fn x = true ∨ X.env.scope.names.lookup x = some .local)) {i : Nat} (h : trNm Γ e = some i) : PG X e (gName i) ∧ ∃ x p, e = .Name x p := by
  unfold trNm at h
  split at h
  · rename_i x p
    split at h
    · rename_i hs
      obtain ⟨h1, h2⟩ := sto x hs
      exact ⟨pg_name (by rw [hN]; exact nd) (by rw [hN]; exact ixOf_get0 h) h1 h2, x, p, rfl⟩
    · cases h
  · cases h
theorem snd_nms (hN : X.N = Γ.N) (nd : Γ.N.Nodup) (sto : ∀ x, isSt Γ x = true → Loc X.env.scope x ∧ (X.fn x = true ∨ X.env.scope.names.lookup x = some .local)) : ∀ {es : List Expr} {is : List Nat}, trNms Γ es = some is → PGs X es (gNms is) ∧ (assignEach es X.env).length = is.length ∧ (assignEach es X.env).findIdx? (·.1) = none
  | [], is, h => by cases h; exact ⟨pgs_nil, rfl, rfl⟩
  | e :: es, is, h => by
    unfold trNms at h
    split at h
    · rename_i i js q1 q2
      cases h
      obtain ⟨h1, x, p, rfl⟩ := snd_nm hN nd sto q1
      obtain ⟨h2, h3, h4⟩ := snd_nms hN nd sto q2
      refine ⟨pgs_cons h1 h2 rfl, ?_, ?_⟩
      · show (assignEach es X.env).length + 1 = js.length + 1
        rw [h3]
      · show ((false, assign (.Name x p) X.env) :: assignEach es X.env).findIdx? (·.1) = none
        rw [List.findIdx?_cons]
        simp [h4]
    · cases h
theorem snd_tg (hN : X.N = Γ.N) (nd : Γ.N.Nodup) (sto : ∀ x, isSt Γ x = true → Loc X.env.scope x ∧ (X.fn x = true ∨ X.env.scope.names.lookup x = some .local)) (hc : X.calm = true) (hK : X.K = D.K) {t : Tg} (h : trTg Γ e = some t) : PG X e (gOf D.K t) := by
  unfold trTg at h
  split at h
  · rename_i es k p
    obtain ⟨is, q, rfl⟩ := map_some h
    obtain ⟨h1, h2, h3⟩ := snd_nms hN nd sto q
    rw [← hK]
    exact PG.or (pg_tup hc h1 h2 h3) (pg_tupL hc h1 h2 h3)
  · obtain ⟨i, q, rfl⟩ := map_some h
    exact (snd_nm hN nd sto q).1
end
end Eg
namespace Eg
open PySem PySem.Spec PyProof.Rows L2
theorem lookup_relS_free {sc : Scope} : ∀ {names : List (Str × NameKind)} {x : Str}, names.lookup x = some .free →
    (names.map fun (n, k) => if (k == NameKind.free && sc.kind == .function && sc.names.lookup n == some .cell) then (n, NameKind.cell) else (n, k)).lookup x = some .free ∨
    (names.map fun (n, k) => if (k == NameKind.free && sc.kind == .function && sc.names.lookup n == some .cell) then (n, NameKind.cell) else (n, k)).lookup x = some .cell
  | [], _, h => by simp at h
  | (n, k₀) :: r, x, h => by
    have ih := @lookup_relS_free sc r x
    cases hx : x == n with
    | true =>
      simp only [List.lookup_cons, hx] at h
      cases h
      simp only [List.map_cons]
      by_cases hc : (NameKind.free == NameKind.free && sc.kind == .function && sc.names.lookup n == some .cell) = true
      · right; rw [if_pos hc]; simp only [List.lookup_cons, hx]
      · left; rw [if_neg hc]; simp only [List.lookup_cons, hx]
    | false =>
      simp only [List.lookup_cons, hx] at h
      simp only [List.map_cons]
      by_cases hc : (k₀ == NameKind.free && sc.kind == .function && sc.names.lookup n == some .cell) = true
      · rw [if_pos hc]; simp only [List.lookup_cons, hx]; exact ih h
      · rw [if_neg hc]; simp only [List.lookup_cons, hx]; exact ih h
section
variable {g : Gc} {Γ : Cc} {D : Gd} {Φ : Tab} {X : Cx} {W : WX} {r : Expr → Option Ex} {e a b c : Expr} {es : List Expr} {m : Ex} {ms : List Ex} {pos p : Pos} {f : Str}
theorem isVi_of {x : Str} (h : isVi Γ x = true) : Vv (kd Γ x) := by
  unfold isVi at h
  split at h <;> first | (rename_i q; rw [q]; first | exact .inl rfl | exact .inr (.inl rfl) | exact .inr (.inr rfl)) | cases h
theorem isSt_of {x : Str} (h : isSt Γ x = true) : kd Γ x = some .local ∨ kd Γ x = some .cell := by
  unfold isSt at h
  split at h <;> first | (rename_i q; rw [q]; first | exact .inl rfl | exact .inr rfl) | cases h
theorem isGl_of {x : Str} (h : isGl Γ x = true) : kd Γ x = some .globalImplicit := by
  unfold isGl at h
  split at h <;> first | assumption | cases h
theorem Cok.blk (C : Cok g Γ D Φ X W) (scope : Scope) (s : Shared) (H : Hp) (Ca : Addr) (cl : List (Str × Addr)) (fp : List Addr) : Cok g ⟨Γ.N, scope⟩ D Φ (X.blk s H scope (compEnvC scope cl Ca X.env) fp) W0 := by
  have keep : ∀ {x : Str} {k : NameKind}, k ≠ .free → scope.names.lookup x = some k → (relabel scope X.env).names.lookup x = some k := fun hk h => lookup_relS_keep (sc := X.env.scope) hk h
  refine ⟨C.K, C.N, C.nd, C.calm, C.gu, C.un, fun u s' ⟨_, _, _, _, _, _, _, _, _, _, _, _, _, _, _, _, w⟩ => w.elim, fun x h => ?_, fun x h => ?_, fun x h => keep (by decide) h, fun x h => keep (by decide) (isGl_of h), fun x h => ?_, C.G, C.nm⟩
  · rcases isVi_of h with h | h | h
    · exact .inl (keep (by decide) h)
    · exact .inr (.inl (keep (by decide) h))
    · rcases lookup_relS_free (sc := X.env.scope) h with z | z
      · exact .inr (.inr z)
      · exact .inr (.inl z)
  · rcases isSt_of h with h | h
    · exact ⟨.inl (keep (by decide) h), .inr (keep (by decide) h)⟩
    · refine ⟨.inr (keep (by decide) h), .inl ?_⟩
      show (scope.names.lookup x == some NameKind.cell) = true
      rw [show scope.names.lookup x = some .cell from h]
      rfl
  · rcases h with h | h
    · exact .inl (keep (by decide) h)
    · exact (lookup_relS_free (sc := X.env.scope) h).symm
theorem PTs.imp {X : Cx} {e : List Expr} {t t' : TT} (h : PTs X e t) (i : ∀ σ H Q, t' σ H Q → t σ H Q) : PTs X e t' := ⟨fun pins s σ H Q I q => h.run pins s σ H Q I (i σ H Q q)⟩
theorem snd_if (rs : RS X D W Φ r) {ifs : List Expr} (h : trIf r ifs = some m) : PTs X ifs (tTs D W Φ m) := by
  cases ifs with
  | nil =>
    cases h
    refine PTs.imp pts_nil fun σ H Q ⟨γ, ρ, g, R, P⟩ => ?_
    have P' : Post D W TB γ σ H ((Pure.pure true : M Bool) ρ g) Q := P
    exact of_pure P' R rfl
  | cons c cs =>
    cases cs with
    | nil => exact pts_one (snd_one (show trT r c = some m from h) rs).2.1
    | cons d ds => cases h
theorem ownOf_snd {N : List Str} {is : List Nat} : (ownOf N is).map (·.2) = is := by
  unfold ownOf
  rw [List.map_map]
  induction is with
  | nil => rfl
  | cons i is ih => rw [List.map_cons, ih]; rfl
structure LcP (g : Gc) (Γ : Cc) (D : Gd) (Φ : Tab) (X : Cx) (W : WX) (elt : Expr) (gs : List Comprehension) (scope : Scope) (m : Ex) : Prop where
  ex : ∃ tg it ifs t k ms c e, gs = [⟨tg, it, ifs, 0⟩] ∧ m = .lc e t k ms c ∧ PI X tg it (tI D W Φ k ms) ∧ (∀ x, foldedSetIterable it X.env x = pure x) ∧ BlkOk X.N X.env.scope scope (ownOf Γ.N t.slots) ∧
    (∀ (s : Shared) (H : Hp) (C : Addr) (cl : List (Str × Addr)) (fp : List Addr), PG (X.blk s H scope (compEnvC scope cl C X.env) fp) tg (gOf D.K t)) ∧
    (∀ (s : Shared) (H : Hp) (C : Addr) (cl : List (Str × Addr)) (fp : List Addr), PTs (X.blk s H scope (compEnvC scope cl C X.env) fp) ifs (tTs D W0 Φ c)) ∧
    (∀ (s : Shared) (H : Hp) (C : Addr) (cl : List (Str × Addr)) (fp : List Addr), PE (X.blk s H scope (compEnvC scope cl C X.env) fp) elt (tE D W0 Φ e))
theorem lc_parts {rr : Cc → Expr → Option Ex} (C : Cok g Γ D Φ X W) (rs : ∀ Γ X W, Cok g Γ D Φ X W → RS X D W Φ (rr Γ)) (hset : ∀ Γ es k p, rr Γ (.Set es k p) = none) {elt : Expr} {gs : List Comprehension} {scope : Scope} (h : trLc Γ rr elt gs scope = some m) : LcP g Γ D Φ X W elt gs scope m := by
  unfold trLc at h
  split at h
  · rename_i tg it ifs as
    split at h
    · rename_i has
      subst has
      dsimp only at h
      split at h
      · rename_i t k ms' c' e' q1 q2 q3 q4
        split at h
        · rename_i hb
          cases h
          obtain ⟨h1, h2⟩ := snd_it C (rs _ _ _ C) (hset Γ) (tg := tg) q2
          have bo := blkOk_by hb
          refine ⟨tg, it, ifs, t, k, ms', c', e', rfl, rfl, h1, h2 _, ?_, fun s H Ca cl fp => ?_, fun s H Ca cl fp => ?_, fun s H Ca cl fp => ?_⟩
          · rw [C.N]
            exact ⟨bo.kind, bo.uniq, bo.ix, fun y hy e => C.cf _ (bo.free y hy e), bo.own⟩
          · have B := C.blk scope s H Ca cl fp
            exact snd_tg (Γ := ⟨Γ.N, scope⟩) B.N B.nd B.sto B.calm B.K q1
          · exact snd_if (rs _ _ _ (C.blk scope s H Ca cl fp)) q3
          · exact (rs _ _ _ (C.blk scope s H Ca cl fp) _ _ q4).pe
        · cases h
      · cases h
    · cases h
  · cases h
theorem snd_lc {rr : Cc → Expr → Option Ex} (C : Cok g Γ D Φ X W) (rs : ∀ Γ X W, Cok g Γ D Φ X W → RS X D W Φ (rr Γ)) (hset : ∀ Γ es k p, rr Γ (.Set es k p) = none) {elt : Expr} {gs : List Comprehension} {scope : Scope} (h : trLc Γ rr elt gs scope = some m) : Snd X D W Φ (.ListComp elt gs scope pos) m := by
  obtain ⟨tg, it, ifs, t, k, ms', c', e', rfl, rfl, h1, h2, h3, h4, h5, h6⟩ := (lc_parts C rs hset h).ex
  exact Snd.of (d_lc C.calm (by rw [C.N]; exact C.nd) h1 h3 ownOf_snd h4 h5 h6 h2) (fun i z => by cases z) (fun _ => rfl) fun _ => rfl
end
theorem trE_set {g : Gc} {n : Nat} {Γ : Cc} {es : List Expr} {k : Nat} {p : Pos} : trE g n Γ (.Set es k p) = none := by cases n <;> rfl
theorem trE_slice {g : Gc} {n : Nat} {Γ : Cc} {l u s : Option Expr} {p : Pos} : trE g n Γ (.Slice l u s p) = none := by cases n <;> rfl
theorem sndE {g : Gc} {D : Gd} {Φ : Tab} : ∀ (n : Nat) (Γ : Cc) (X : Cx) (W : WX), Cok g Γ D Φ X W → RS X D W Φ (trE g n Γ)
  | 0, Γ, X, W, C, e, m, h => by cases h
  | n + 1, Γ, X, W, C, e, m, h => by
    have rs := sndE (g := g) (D := D) (Φ := Φ) n
    have rs1 := rs Γ X W C
    cases e with
    | Constant c k p => exact snd_const (show trK c = some m from h)
    | Name x p => exact snd_name C (show trN g Γ x = some m from h)
    | BinOp a op b p =>
      simp only [trE] at h
      split at h
      · rename_i o x y q1 q2 q3
        cases h
        obtain rfl := trB_of q1
        exact Snd.of (d_bin (bop_ok o) (rs1 _ _ q2).pe (rs1 _ _ q3).pe (by rw [C.K]; exact bop_rd o)) (fun i z => by cases z) (fun _ => rfl) fun _ => rfl
      · cases h
    | UnaryOp op a p =>
      simp only [trE] at h
      split at h
      · obtain ⟨x, q, rfl⟩ := map_some h
        exact Snd.of (d_neg (rs1 _ _ q).pe) (fun i z => by cases z) (fun _ => rfl) fun _ => rfl
      · obtain ⟨x, q, rfl⟩ := map_some h
        exact snd_not q rs1
      · cases h
    | BoolOp op es p =>
      obtain ⟨h1, h2, h3⟩ := snd_bool rs1 (show trBool (trE g n Γ) op p es = some m from h)
      exact ⟨h1, h3, fun _ => h2.pt, fun _ => rfl⟩
    | Compare a ops bs p => exact snd_cmp C rs1 (show trCmp (trE g n Γ) a ops bs = some m from h)
    | IfExp c a b p =>
      simp only [trE] at h
      split at h
      · rename_i z x y q1 q2 q3
        cases h
        refine ⟨d_ite (snd_one q1 rs1).2.1 (rs1 _ _ q2).pe (rs1 _ _ q3).pe, fun i z => (by cases z), fun hi => (by cases hi), fun _ => rfl⟩
      · cases h
    | List es p =>
      obtain ⟨xs, q, rfl⟩ := map_some (show (trL (trE g n Γ) es).map .lst = some m from h)
      exact Snd.of (d_lst (snd_list rs1 q)) (fun i z => by cases z) (fun _ => rfl) fun _ => rfl
    | Tuple es k p =>
      obtain ⟨xs, q, rfl⟩ := map_some (show (trL (trE g n Γ) es).map .tup = some m from h)
      exact Snd.of (d_tup (snd_list rs1 q)) (fun i z => by cases z) (fun _ => rfl) fun _ => rfl
    | Subscript a i p => exact snd_sub C rs1 (fun l u s p => trE_slice) (show trSub (trE g n Γ) a i = some m from h)
    | Attribute a x p =>
      simp only [trE] at h
      split at h
      · cases h
      · rename_i hc
        split at h
        · rename_i x' f q1 q2
          cases h
          exact snd_fld C rs1 (by simpa using hc) q1 q2
        · cases h
    | ListComp elt gs scope p => exact snd_lc C rs (fun Γ es k p => trE_set) (show trLc Γ (trE g n) elt gs scope = some m from h)
    | Call f es ks p =>
      simp only [trE] at h
      split at h
      · exact snd_call C rs1 h
      · cases h
    | _ => cases h
end Eg
namespace Eg
open PySem PySem.Spec PyProof.Rows L2
def swS (kd : Str → Option NameKind) (ts vs : List Expr) : Option (Option (List Str)) :=
  if (!(ts.length == 2 || ts.length == 3) || vs.length != ts.length) = true then some none else
  if (vs.any fun | .Starred .. => true | _ => false) = true then some none else
  let line := (ts.head?.map (·.pos.line)).getD 0
  let names := ts.filterMap fun
    | .Name id pos => if kd id == some .local && pos.line == line then some id else none
    | _ => none
  if (names.length != ts.length || names.eraseDups.length != names.length) = true then some none else
  if vs.all (foldedForSure 8) = true then some none else
  if vs.all (constantsAlone 8) = true then none else
  some (some names)
theorem swS_ok {kd : Str → Option NameKind} {env : Env} (hb : env.blockKind = .function) (hk : ∀ x, env.kindOf x = kd x) {ts vs : List Expr} {k k2 : Nat} {p p2 : Pos} {r : Option (List Str)} (h : swS kd ts vs = some r) :
    swappedStores [.Tuple ts k p] (.Tuple vs k2 p2) env = pure r := by
  have hk' : env.kindOf = kd := funext hk
  unfold swS at h
  unfold swappedStores
  rw [hb, hk']
  have e0 : (ScopeKind.function != ScopeKind.function) = false := rfl
  dsimp only
  rw [e0, Bool.or_false]
  split at h
  · rename_i c; cases h; exact (if_pos c).trans rfl
  · rename_i c
    refine (if_neg c).trans ?_
    split at h
    · rename_i c; cases h; exact (if_pos c).trans rfl
    · rename_i c
      refine (if_neg c).trans ?_
      dsimp only at h ⊢
      split at h
      · rename_i c; cases h; exact (if_pos c).trans rfl
      · rename_i c
        refine (if_neg c).trans ?_
        split at h
        · rename_i c; cases h; exact (if_pos c).trans rfl
        · rename_i c
          refine (if_neg c).trans ?_
          split at h
          · cases h
          · rename_i c
            cases h
            exact (if_neg c).trans rfl
def isLc : Expr → Bool
  | .ListComp .. => true
  | .SetComp .. => true
  | .DictComp .. => true
  | _ => false
def isTup : Expr → Bool
  | .Tuple .. => true
  | _ => false
def lcSw (Γ : Cc) (x : Str) (p : Pos) : Expr → Bool
  | .ListComp _ _ scope pos => (match kd Γ x with | some .local => true | _ => false) && (p.line == pos.line) && !(scope.names.any fun (n, k) => n == x && (k == .local || k == .cell))
  | _ => false
def lcNo (Γ : Cc) (x : Str) : Expr → Bool
  | .ListComp .. => (match kd Γ x with | some .cell => true | _ => false)
  | .SetComp .. => false
  | .DictComp .. => false
  | _ => true
def isLo (Γ : Cc) (x : Str) : Bool := match kd Γ x with
  | some .local => true
  | _ => false
def trPar (Γ : Cc) (r : Expr → Option Ex) (names : List Str) : List Expr → List Expr → Option Eg.St
  | [.Name x _, .Name y _], [a, b] => match ixOf x Γ.N 0, ixOf y Γ.N 0, r a, r b with
    | some i, some j, some ma, some mb => if names = [x, y] ∧ isLo Γ x = true ∧ isLo Γ y = true ∧ i ≠ j then some (.par [i, j] [ma, mb]) else none
    | _, _, _, _ => none
  | [.Name x _, .Name y _, .Name z _], [a, b, c] => match ixOf x Γ.N 0, ixOf y Γ.N 0, ixOf z Γ.N 0, r a, r b, r c with
    | some i, some j, some l, some ma, some mb, some mc => if names = [x, y, z] ∧ isLo Γ x = true ∧ isLo Γ y = true ∧ isLo Γ z = true ∧ i ≠ j ∧ i ≠ l ∧ j ≠ l then some (.par [i, j, l] [ma, mb, mc]) else none
    | _, _, _, _, _, _ => none
  | _, _ => none
def trAsgTup (Γ : Cc) (r : Expr → Option Ex) (ts : List Expr) (k : Nat) (p : Pos) (v : Expr) : Option Eg.St :=
  let gen : Option Eg.St := match trTg Γ (.Tuple ts k p), r v with
    | some t, some m => some (.asg t m true)
    | _, _ => none
  match v with
  | .Tuple vs _ _ => match swS (kd Γ) ts vs with
    | some none => gen
    | some (some names) => trPar Γ r names ts vs
    | none => none
  | _ => gen
def trAsg (Γ : Cc) (r : Expr → Option Ex) (t v : Expr) : Option Eg.St := match t with
  | .Name x p => if (lcSw Γ x p v || lcNo Γ x v) && isSt Γ x then match ixOf x Γ.N 0, r v with
      | some i, some m => some (.asg (.n i) m true)
      | _, _ => none
    else none
  | .Tuple ts k p => trAsgTup Γ r ts k p v
  | .Subscript o i _ => match r o, r i, r v with
    | some mo, some mi, some m => some (.setI mo mi m)
    | _, _, _ => none
  | _ => none
def trAug (Γ : Cc) (r : Expr → Option Ex) (t : Expr) (op : Operator) (v : Expr) : Option Eg.St :=
  match (match op with | .Add => some BOp.add | .Sub => some BOp.sub | _ => none) with
  | none => none
  | some o => match t with
    | .Name x _ => if isSt Γ x then match ixOf x Γ.N 0, r v with
        | some i, some m => some (.augN i o m)
        | _, _ => none
      else none
    | .Subscript b i _ => match r b, r i, r v with
      | some mo, some mi, some m => some (.augI mo mi o m)
      | _, _, _ => none
    | _ => none
def isDoc : Expr → Bool
  | .Constant (.str _) _ _ => true
  | _ => false
def trSL (r : Stmt → Option Eg.St) : List Stmt → Option (List Eg.St)
  | [] => some []
  | s :: ss => match r s, trSL r ss with
    | some m, some ms => some (m :: ms)
    | _, _ => none
def trS (g : Gc) (fe : Nat) : Nat → Cc → Stmt → Option Eg.St
  | 0, _, _ => none
  | n + 1, Γ, s => match s with
    | .Return v _ => match v with
      | none => some .retN
      | some e => (trE g fe Γ e).map .ret
    | .Assign ts v _ => match ts with
      | [t] => trAsg Γ (trE g fe Γ) t v
      | _ => none
    | .AugAssign t op v _ => trAug Γ (trE g fe Γ) t op v
    | .For tg it body els _ => match els with
      | [] => match trTg Γ tg, trI Γ (trE g fe Γ) it, trSL (trS g fe n Γ) body with
        | some t, some (k, ms), some b => some (.for_ t k ms b)
        | _, _, _ => none
      | _ => none
    | .While c body els _ => match els with
      | [] => match trT (trE g fe Γ) c, trSL (trS g fe n Γ) body with
        | some m, some b => some (.whl m b)
        | _, _ => none
      | _ => none
    | .If c a b _ => match trT (trE g fe Γ) c, trSL (trS g fe n Γ) a, trSL (trS g fe n Γ) b with
      | some m, some x, some y => some (.ifs m x y)
      | _, _, _ => none
    | .Expr e _ => if isDoc e then some .pass else if isLc e then none else (trE g fe Γ e).map .ex
    | .Raise .. => some (.rai 0 [])
    | .Pass _ => some .pass
    | .Break _ => some .brk
    | .Continue _ => some .cnt
    | _ => none
structure Sok (g : Gc) (Γ : Cc) (D : Gd) (Φ : Tab) (X : Cx) (W : WX) : Prop extends Cok g Γ D Φ X W where
  sc : X.env.scope = Γ.sc
  kind : Γ.sc.kind = .function
  po : PassesOwn (model X.prog X.w) X.A X.env X.xe
section
variable {g : Gc} {Γ : Cc} {D : Gd} {Φ : Tab} {X : Cx} {W : WX} {r : Expr → Option Ex} {e a b c t v : Expr} {es : List Expr} {m : Ex} {ms : List Ex} {pos p : Pos} {f : Str} {s : Stmt} {ss : List Stmt} {q : Eg.St} {qs : List Eg.St}
theorem Sok.bk (S : Sok g Γ D Φ X W) : X.env.blockKind = .function := by
  unfold Env.blockKind
  rw [S.sc, S.kind]
  rfl
theorem isLo_of {x : Str} (h : isLo Γ x = true) : kd Γ x = some .local := by
  unfold isLo at h
  split at h <;> first | assumption | cases h
theorem snd_set (S : Sok g Γ D Φ X W) {n : Nat} {x : Str} {p2 : Pos} (h : trAsg Γ (trE g n Γ) (.Name x p2) v = some q) : PS X (.Assign [.Name x p2] v pos) (tS D W Φ q) := by
  have C := S.toCok
  have rs := sndE (g := g) (D := D) (Φ := Φ) n Γ X W C
  simp only [trAsg] at h
  split at h
  · rename_i hc
    simp only [Bool.and_eq_true, Bool.or_eq_true] at hc
    obtain ⟨hc, hst⟩ := hc
    split at h
    · rename_i i m qi qm
      cases h
      have hN := C.nd
      rw [← C.N] at hN
      have hi : X.N[i]? = some x := by rw [C.N]; exact ixOf_get0 qi
      obtain ⟨s1, s2⟩ := C.sto x hst
      have gen : swapsWith v (some (.Name x p2)) pos.line X.env = pure false → PS X (.Assign [.Name x p2] v pos) (tS D W Φ (.asg (.n i) m true)) := fun hs =>
        s_asg (t := .n i) (ps_set hN hi s1 (rs _ _ qm).pe hs s2) fun _ _ _ q => q
      rcases hc with hc | hc
      · cases v with
        | ListComp elt gs scope lp =>
          simp only [lcSw, Bool.and_eq_true] at hc
          obtain ⟨⟨h1, h2⟩, h3⟩ := hc
          have hk : X.env.scope.names.lookup x = some .local := by
            rw [S.sc]
            show kd Γ x = _
            split at h1 <;> first | assumption | cases h1
          cases n with
          | zero => cases qm
          | succ n =>
            obtain ⟨tg, it, ifs, t, k, ms', c', e', rfl, rfl, z1, z2, z3, z4, z5, z6⟩ := (lc_parts (rr := trE g n) C (fun Γ X W => sndE n Γ X W) (fun Γ es k p => trE_set) (show trLc Γ (trE g n) elt gs scope = some m from qm)).ex
            have h := ps_setLc (py := p2) (pos := lp) (spos := pos) C.calm hN hi hk (sw_true (l := pos.line) (by rw [S.sc]; exact S.kind) hk h2 (by simpa using h3)) z1 z3 z4 z5 (fun s H C cl fp => pA (z6 s H C cl fp)) z2
            rw [ownOf_snd] at h
            exact s_asg (t := .n i) h fun _ _ _ q => lc_rd q
        | _ => cases hc
      · cases v with
        | ListComp elt gs scope lp =>
          refine gen ?_
          have hk : X.env.kindOf x = some .cell := by
            show X.env.scope.names.lookup x = _
            rw [S.sc]
            show kd Γ x = _
            simp only [lcNo] at hc
            split at hc <;> first | assumption | cases hc
          unfold swapsWith
          dsimp only
          rw [hk]
          have : (some NameKind.cell == some NameKind.local) = false := rfl
          rw [this, Bool.and_false, Bool.false_and, Bool.false_and]
        | SetComp => cases hc
        | DictComp => cases hc
        | _ => exact gen rfl
    · cases h
  · cases h
theorem s_doc {x : Str} {j : Nat} {p p2 : Pos} : PS X (.Expr (.Constant (.str x) j p) p2) (tS D W Φ .pass) := PS.imp ps_doc fun De σ H ⟨γ, ρ, g, R, P⟩ => by
  have P' : PostS D W γ H (.nx ρ g) De := by simpa only [exS] using P
  exact P' γ H σ (Nx0.refl _ _) R
theorem trE_lc (h : isLc v = false) : ∀ (o : Option Expr) (l : Nat) (env : Env), swapsWith v o l env = pure false := fun o l env => by
  cases v <;> first | rfl | cases h
theorem sw_no {t : Expr} (h : ∀ x p, t ≠ .Name x p) (l : Nat) (env : Env) : swapsWith v (some t) l env = pure false := by
  cases t <;> first | exact absurd rfl (h _ _) | (cases v <;> rfl)
theorem snd_par (S : Sok g Γ D Φ X W) (rs : RS X D W Φ r) {names : List Str} {ts vs : List Expr} {k k2 : Nat} {p p2 : Pos} (hw : swappedStores [.Tuple ts k p] (.Tuple vs k2 p2) X.env = pure (some names)) (h : trPar Γ r names ts vs = some q) :
    PS X (.Assign [.Tuple ts k p] (.Tuple vs k2 p2) pos) (tS D W Φ q) := by
  have C := S.toCok
  have hN := C.nd
  rw [← C.N] at hN
  unfold trPar at h
  split at h
  · rename_i x px y py a b
    split at h
    · rename_i i j ma mb q1 q2 q3 q4
      split at h
      · rename_i hc
        obtain ⟨rfl, h1, h2, h3⟩ := hc
        cases h
        have sa := rs _ _ q3
        have sb := rs _ _ q4
        exact s_par2 (ps_par C.calm hN (by rw [C.N]; exact ixOf_get0 q1) (by rw [C.N]; exact ixOf_get0 q2) h3 (C.loc x (isLo_of h1)) (C.loc y (isLo_of h2)) (l_cons sa.pe (l_cons sb.pe l_nil (sb.st [])) (sa.st [b])) hw)
      · cases h
    · cases h
  · rename_i x px y py z pz a b c
    split at h
    · rename_i i j l ma mb mc q1 q2 q3 q4 q5 q6
      split at h
      · rename_i hc
        obtain ⟨rfl, h1, h2, h3, h4, h5, h6⟩ := hc
        cases h
        have sa := rs _ _ q4
        have sb := rs _ _ q5
        have sc := rs _ _ q6
        exact s_par3 (ps_par3 C.calm hN (by rw [C.N]; exact ixOf_get0 q1) (by rw [C.N]; exact ixOf_get0 q2) (by rw [C.N]; exact ixOf_get0 q3) h4 h5 h6 (C.loc x (isLo_of h1)) (C.loc y (isLo_of h2)) (C.loc z (isLo_of h3))
          (l_cons sa.pe (l_cons sb.pe (l_cons sc.pe l_nil (sc.st [])) (sb.st [c])) (sa.st [b, c])) hw)
      · cases h
    · cases h
  · cases h
theorem snd_asg (S : Sok g Γ D Φ X W) {n : Nat} (h : trAsg Γ (trE g n Γ) t v = some q) : PS X (.Assign [t] v pos) (tS D W Φ q) := by
  have C := S.toCok
  have rs := sndE (g := g) (D := D) (Φ := Φ) n Γ X W C
  cases t with
  | Name x p2 => exact snd_set S h
  | Tuple ts k p =>
    have h : trAsgTup Γ (trE g n Γ) ts k p v = some q := h
    have gen : swappedStores [.Tuple ts k p] v X.env = pure none → (match trTg Γ (.Tuple ts k p), trE g n Γ v with
      | some t, some m => some (Eg.St.asg t m true)
      | _, _ => none) = some q → PS X (.Assign [.Tuple ts k p] v pos) (tS D W Φ q) := fun hw h => by
      split at h
      · rename_i t m q1 q2
        cases h
        exact s_asg (ps_asg (rs _ _ q2).pe (snd_tg C.N C.nd C.sto C.calm C.K q1) (show swapsWithSole [.Tuple ts k p] v pos.line X.env = pure false from sw_no (t := .Tuple ts k p) (fun x p z => by cases z) pos.line X.env) hw) fun _ _ _ q => q
      · cases h
    unfold trAsgTup at h
    cases v with
    | Tuple vs k2 p2 =>
      dsimp only at h
      have hk : ∀ x, X.env.kindOf x = kd Γ x := fun x => by
        show X.env.scope.names.lookup x = _
        rw [S.sc]
        rfl
      split at h
      · rename_i q0
        exact gen (swS_ok S.bk hk q0) h
      · rename_i names q0
        exact snd_par S rs (swS_ok S.bk hk q0) h
      · cases h
    | _ => exact gen rfl h
  | Subscript o i p =>
    simp only [trAsg] at h
    split at h
    · rename_i mo mi m q1 q2 q3
      cases h
      refine s_setI (ps_asg (pA (rs _ _ q3).pe) (pg_sub (rs _ _ q1).brw (pA (rs _ _ q2).pe) set_list ?_) (show swapsWithSole [.Subscript o i p] v pos.line X.env = pure false from sw_no (t := .Subscript o i p) (fun x p z => by cases z) pos.line X.env) ?_)
      · intro u
        cases i with
        | Slice l u s p => rw [trE_slice] at q2; cases q2
        | _ => rfl
      · rfl
    · cases h
  | _ => cases h
theorem snd_aug (S : Sok g Γ D Φ X W) (rs : RS X D W Φ r) {op : Operator} (hsl : ∀ l u s p, r (.Slice l u s p) = none) (h : trAug Γ r t op v = some q) : PS X (.AugAssign t op v pos) (tS D W Φ q) := by
  have C := S.toCok
  have hN := C.nd
  rw [← C.N] at hN
  unfold trAug at h
  split at h
  · cases h
  · rename_i o qo
    have ho : o = .add ∨ o = .sub := by
      split at qo
      · cases qo; exact .inl rfl
      · cases qo; exact .inr rfl
      · cases qo
    have hip : PIp X op (ipOf o) := by
      split at qo
      · cases qo; exact ip_add
      · cases qo; exact ip_sub
      · cases qo
    cases t with
    | Name x p =>
      dsimp only at h
      split at h
      · rename_i hst
        split at h
        · rename_i i m q1 q2
          cases h
          obtain ⟨s1, s2⟩ := C.sto x hst
          exact s_augN ho (ps_aug hN (by rw [C.N]; exact ixOf_get0 q1) s1 (pA (rs _ _ q2).pe) hip s2)
        · cases h
      · cases h
    | Subscript bb i p =>
      dsimp only at h
      split at h
      · rename_i mo mi m q1 q2 q3
        cases h
        refine s_augI ho (ps_augS (rs _ _ q1).brw (pA (rs _ _ q2).pe) ?_ (pA (rs _ _ q3).pe) hip set_list ?_)
        · rw [← C.K]; exact get_list
        · intro ov iv new
          cases i with
          | Slice l u s p => rw [hsl] at q2; cases q2
          | _ => rfl
      · cases h
    | _ => cases h
theorem snd_ss {r : Stmt → Option Eg.St} (rs : ∀ s q, r s = some q → PS X s (tS D W Φ q)) : ∀ {ss : List Stmt} {qs : List Eg.St}, trSL r ss = some qs → PSs X ss (tSs D W Φ qs)
  | [], qs, h => by cases h; exact s_nil
  | s :: ss, qs, h => by
    unfold trSL at h
    split at h
    · rename_i m ms q1 q2
      cases h
      exact s_cons (rs _ _ q1) (snd_ss rs q2)
    · cases h
end
theorem sndS {g : Gc} {D : Gd} {Φ : Tab} {fe : Nat} : ∀ (n : Nat) (Γ : Cc) (X : Cx) (W : WX), Sok g Γ D Φ X W → ∀ s q, trS g fe n Γ s = some q → PS X s (tS D W Φ q)
  | 0, Γ, X, W, S, s, q, h => by cases h
  | n + 1, Γ, X, W, S, s, q, h => by
    have C := S.toCok
    have re := sndE (g := g) (D := D) (Φ := Φ) fe Γ X W C
    have rs := sndS (g := g) (D := D) (Φ := Φ) (fe := fe) n Γ X W S
    cases s with
    | Return v p =>
      cases v with
      | none => cases h; exact s_retN
      | some e =>
        obtain ⟨m, q1, rfl⟩ := map_some (show (trE g fe Γ e).map .ret = some q from h)
        exact s_ret (re _ _ q1).pe (re _ _ q1).pv
    | Assign ts v p =>
      simp only [trS] at h
      split at h
      · exact snd_asg S h
      · cases h
    | AugAssign t op v p => exact snd_aug S re (fun l u s p => trE_slice) (show trAug Γ (trE g fe Γ) t op v = some q from h)
    | For tg it body els p =>
      simp only [trS] at h
      split at h
      · split at h
        · rename_i t k ms b q1 q2 q3
          cases h
          obtain ⟨h1, h2⟩ := snd_it C re (fun es k p => trE_set) (tg := tg) q2
          exact s_for S.po C.calm h1 (snd_tg C.N C.nd C.sto C.calm C.K q1) (snd_ss rs q3) (h2 _)
        · cases h
      · cases h
    | While c body els p =>
      simp only [trS] at h
      split at h
      · split at h
        · rename_i m b q1 q2
          cases h
          exact s_whl S.po (snd_one q1 re).2.1 (snd_ss rs q2)
        · cases h
      · cases h
    | If c a b p =>
      simp only [trS] at h
      split at h
      · rename_i m x y q1 q2 q3
        cases h
        exact s_if (snd_one q1 re).2.1 (snd_ss rs q2) (snd_ss rs q3)
      · cases h
    | Expr e p =>
      simp only [trS] at h
      split at h
      · rename_i hd
        cases h
        cases e with
        | Constant c k p2 =>
          cases c with
          | str x => exact s_doc
          | _ => cases hd
        | _ => cases hd
      · split at h
        · cases h
        · rename_i hlc
          obtain ⟨m, q1, rfl⟩ := map_some h
          exact s_ex (re _ _ q1).pe (trE_lc (by simpa using hlc) _ _ _)
    | Raise e c p => cases h; exact s_rai
    | Pass p => cases h; exact s_pass
    | Break p => cases h; exact s_brk
    | Continue p => cases h; exact s_cnt
    | _ => cases h
end Eg
namespace Eg
open PySem PySem.Spec PyProof.Rows L2
theorem GOk.mono {P : Program} {w : World} {K : PySem.W.Frag} {mg : Str → Option Value} {base : Heap} {j k : Nat} {f : Addr} {fd : FuncData} {ps : List Str} {sp : Sp} (F : GOk P w K mg base j f fd ps sp) (h : j ≤ k) : GOk P w K mg base k f fd ps sp :=
  ⟨F.len, fun A outer s H args us vs Q E hr => F.go A outer s H args us vs Q E (hr.mono h)⟩
structure Gok0 (g : Gc) (D : Gd) (Φ : Tab) (P : Program) (w : World) (K : PySem.W.Frag) (mg : Str → Option Value) (base : Heap) (k : Nat) : Prop where
  fns : ∀ x i io, g.fns.lookup x = some (i, io) → ∃ F f fd ps, Φ.fn i = some F ∧ F.io = io ∧ mg x = some (.ref f) ∧ PySem.W.keepIn K (.ref f) = true ∧ Binds K fd ps [] ∧ GOk P w K mg base k f fd ps (spF D F) ∧ (x == ("__debug__" : Str)) = false
  gls : ∀ x i, g.gls.lookup x = some i → ∃ a u v, Φ.gl i = some a ∧ mg x = some u ∧ RelV v u ∧ (∀ γ H, RelA D γ H a v) ∧ (x == ("__debug__" : Str)) = false
  cls : ∀ x C, g.cls.lookup x = some C → mg x = some (.ref (D.ca C)) ∧ (x == ("__debug__" : Str)) = false
  fls : ∀ x f, g.fls.lookup x = some f → f < D.nf ∧ D.fld f = x
  blt : ∀ x ∈ blN, mg x = none
  tab : TabOk D Φ
def Gc.add (g : Gc) (x : Str) (i : Nat) (io : List Bool) : Gc := { g with fns := (x, (i, io)) :: g.fns }
def Tab.add (Φ : Tab) (i : Nat) (F : Fn) : Tab := { Φ with fn := fun k => if k = i then some F else Φ.fn k }
section
variable {P : Program} {w : World} {K : PySem.W.Frag} {mg : Str → Option Value} {base : Heap} {g : Gc} {D : Gd} {Φ : Tab} {k : Nat} {f : Addr} {fd : FuncData} {ps N : List Str} {x qual : Str} {params : Arguments} {body : List Stmt} {scope : Scope}
theorem Gok0.at (G : Gok0 g D Φ P w K mg base k) {A : Around} (r : Room k A) : Gok g D Φ P w K mg base A :=
  ⟨fun x i io h => let ⟨F, f, fd, ps, h1, h2, h3, h4, h5, h6, h7⟩ := G.fns x i io h; ⟨F, k, f, fd, ps, h1, h2, h3, h4, h5, h6, r, h7⟩, G.gls, G.cls, G.fls, G.blt, G.tab⟩
theorem Gok0.snoc (G : Gok0 g D Φ P w K mg base k) {i : Nat} {F : Fn} (hi : Φ.fn i = none) (hm : mg x = some (.ref f)) (hk : PySem.W.keepIn K (.ref f) = true) (hb : Binds K fd ps []) (ok : GOk P w K mg base (k + 1) f fd ps (spF D F)) (hd : (x == ("__debug__" : Str)) = false) :
    Gok0 (g.add x i F.io) D (Φ.add i F) P w K mg base (k + 1) := by
  refine ⟨fun y j io h => ?_, G.gls, G.cls, G.fls, G.blt, ⟨G.tab.oc, G.tab.ot, G.tab.bc⟩⟩
  have h' : List.lookup y ((x, (i, F.io)) :: g.fns) = some (j, io) := h
  rw [List.lookup_cons] at h'
  cases e : y == x with
  | true =>
    rw [e] at h'
    cases h'
    obtain rfl : y = x := by simpa using e
    exact ⟨F, f, fd, ps, if_pos rfl, rfl, hm, hk, hb, ok, hd⟩
  | false =>
    rw [e] at h'
    obtain ⟨F', f', fd', ps', h1, h2, h3, h4, h5, h6, h7⟩ := G.fns y j io h'
    have ne : j ≠ i := fun z => by rw [z, hi] at h1; cases h1
    exact ⟨F', f', fd', ps', by show (if j = i then some F else Φ.fn j) = _; rw [if_neg ne]; exact h1, h2, h3, h4, h5, h6.mono (Nat.le_succ k), h7⟩
theorem g_fn {dvs : List V} {kws : List (Str × V)} {fe fs : Nat} {io : List Bool} {qs : List Eg.St} (G : Gok0 g D Φ P w K mg base k) (F : FunD K x qual params body scope dvs kws f fd) (hK : D.K = K) (S : FnScope N ps scope)
    (ht : trSL (trS g fe fs ⟨N, scope⟩) body = some qs) (hio : io.length = ps.length) (hnm : ∀ x ∈ N, (x == ("__debug__" : Str)) = false ∧ (x == ("__classdict__" : Str)) = false) : GOk P w K mg base (k + 1) f fd ps (spF D (mkFn Φ io N.length qs)) := by
  obtain ⟨oc, od, dV, kV, doc, pm, an, cdv, ct, osl, rfl, lk, hcd, _, _⟩ := F.ex
  refine g_of lk hcd S (fun vs H Q E h => by rw [(spF_len h).1, hio]) fun A outer s H vs Q E hr hgu hsp => ⟨_, ?_, body_rd hsp⟩
  have C : Cok g ⟨N, scope⟩ D Φ (cxOf (L2.CX P w) P w K mg base N qual scope f cdv A outer s H E) (fun cls d _ H => E cls d H) := by
    refine ⟨hK.symm, rfl, S.nd, rfl, hgu, by have := hr.un; show (A.deeper _).units + 70 < cLine; omega, takes_of rfl rfl rfl rfl, fun x h => isVi_of h, fun x h => ⟨isSt_of h, .inl rfl⟩, fun x h => h, fun x h => isGl_of h, fun x h => h, G.at hr, hnm⟩
  have So : Sok g ⟨N, scope⟩ D Φ (cxOf (L2.CX P w) P w K mg base N qual scope f cdv A outer s H E) (fun cls d _ H => E cls d H) := ⟨C, rfl, S.kind, passes_of rfl⟩
  exact snd_ss (fun s q => sndS fs ⟨N, scope⟩ _ _ So s q) ht
end
theorem g_law {P : Program} {w : World} {K : PySem.W.Frag} {mg mb : Str → Option Value} {k : Nat} {fa a : Addr} {fd : FuncData} {x : Str} {sp : Sp} {s₁ : Shared} {vs : List Value} {ns : List Int}
    (KX : K.In s₁.heap) (hns : s₁.heap.Ns mainGlobals mg) (hb : s₁.heap.Ns builtinsNs mb) (hbb : ∀ x : Str, x ≠ "__name__" → mb x = bootBuiltins x) (hlim : s₁.heap.NoLimit) (hg : s₁.gens = #[])
    (ha : s₁.heap.get? a = some { cls := .type "list", data := .seq vs.toArray }) (hi : IntsAre vs ns) (hl : ns.length ≤ sizeLine) (hr : Room k callerA)
    (F : ∀ base : Heap, K.In base → base.Ns mainGlobals mg → GOk P w K mg base k fa fd [x] sp) (hbind : ∀ (s : Shared) (u : Value), BindsTo s fd ⟨[u], []⟩ [(x, u)])
    (hsp : ∀ H : Hp, Only H → SqL K H a (ns.map V.int) → sp [.ref a] H (fun v _ => v = .bl true) fun _ _ _ => False) :
    codeAny (model P w) callerA (.call (.ref fa) ⟨[.ref a], []⟩) (fun r s' => r = .ok (.ret (.bool true)) ∧ OldK s₁.heap s'.heap ∧ s'.os = s₁.os ∧ AllBare s'.gens) s₁ := by
  have rv := vals_ints hi
  have lenV := hi.length
  have core : ∀ H : Hp, Only H → SqL K H a (ns.map V.int) → HOk P w H s₁.heap → (∀ b, H b ≠ none → b = a) → (H a ≠ none → K.lookup a = none) →
      codeAny (model P w) callerA (.call (.ref fa) ⟨[.ref a], []⟩) (fun r s' => r = .ok (.ret (.bool true)) ∧ OldK s₁.heap s'.heap ∧ s'.os = s₁.os ∧ AllBare s'.gens) s₁ := by
    intro H hO hS hok hA hK
    have one : ∀ {b : Addr} {u : HO}, H b = some u → b = a := fun {b u} z => hA b (by rw [z]; exact fun y => by cases y)
    have dn : ∀ {b : Addr} {o : Obj} {es : Array DictEntry} {ep : Nat}, s₁.heap.get? b = some o → o.data = .dict es ep → H b = none := fun {b o es ep} e d => by
      cases q : H b with
      | none => rfl
      | some u =>
        obtain rfl := one q
        rw [ha] at e; cases e
        cases (show Data.seq vs.toArray _ = Data.dict es ep from d)
    have nsK : ∀ {b : Addr} {m : Str → Option Value}, s₁.heap.Ns b m → (hidT s₁.heap H).Ns b m := fun {b m} ⟨o, es, ep, e, d, r⟩ => ⟨o, es, ep, hidT_get e (dn e d), d, r⟩
    have hKb : K.In (hidT s₁.heap H) := fun b o e => hidT_get (KX b o e) (by
      cases q : H b with
      | none => rfl
      | some u =>
        obtain rfl := one q
        rw [hK (by rw [q]; exact fun y => by cases y)] at e; cases e)
    obtain ⟨mc, l1, l2⟩ := hlim
    have hM : Mod K mg (hidT s₁.heap H) := ⟨hKb, nsK hns, ⟨mb, nsK hb, hbb⟩, ⟨mc, nsK l1, l2⟩⟩
    have e0 : Env0 P w K mg (hidT s₁.heap H) callerA [] s₁ H := ⟨rfl, hM, fun b o e => of_hidT e, Nat.le_of_eq (hidT_size _ _), trivial, fun b hb => (nomatch hb), hok, .of_eq hg⟩
    refine codeAny_mono ((F _ hKb (nsK hns)).go callerA [] s₁ H ⟨[.ref a], []⟩ [.ref a] [.ref a] _ _ hr rfl e0 (hbind s₁ (.ref a)) (.cons rfl .nil) (hsp H hO hS)) fun r s' h => ?_
    match r, h with
    | .error e, h =>
      obtain ⟨_, _, _, _, _, _, _, _, _, _, _, _, z⟩ := h
      exact z.elim
    | .ok .next, h => exact False.elim h
    | .ok .brk, h => exact False.elim h
    | .ok .cont, h => exact False.elim h
    | .ok (.ret u), h =>
      obtain ⟨v, H', os, bare, un, hok', r', q⟩ := h
      obtain rfl : v = .bl true := q
      obtain rfl : u = Value.bool true := r'
      refine ⟨rfl, OldK.of_keep fun b o e => ?_, os, bare⟩
      rcases hO b with z | ⟨ob, xs, z⟩
      · exact un.keep b o e z (fun y => (nomatch y)) (by simp)
      · have z2 := un.frzs b ob _ z
        obtain ⟨e1, _⟩ := hok b _ z
        obtain ⟨e2, _⟩ := hok' b _ z2
        rw [e] at e1; cases e1
        exact e2
  cases hk : K.lookup a with
  | some o =>
    have e := KX a o hk
    rw [ha] at e
    cases e
    exact core (fun _ => none) (fun _ => .inl rfl) (.inr ⟨_, vs.toArray, _, hk, rfl, rfl, rfl, by rw [List.size_toArray, lenV]; exact hl, by simpa using rv⟩) (fun b u z => (nomatch z)) (fun b z => absurd rfl z) fun z => absurd rfl z
  | none =>
    have at1 : ∀ b, b = a ∨ (if b = a then some (HO.frz { cls := .type "list", data := .seq vs.toArray } (.lst (ns.map V.int))) else none) = none := fun b => by
      by_cases hb : b = a
      · exact .inl hb
      · exact .inr (if_neg hb)
    refine core (fun b => if b = a then some (.frz { cls := .type "list", data := .seq vs.toArray } (.lst (ns.map V.int))) else none) (fun b => ?_) (.inl (.inr ⟨{ cls := .type "list", data := .seq vs.toArray }, if_pos rfl⟩)) (fun b u z => ?_) (fun b z => (at1 b).resolve_right z) fun _ => hk
    · rcases at1 b with hb | hb
      · exact .inr ⟨_, _, if_pos hb⟩
      · exact .inl hb
    · rcases at1 b with hb | hb
      · subst hb
        have z' := (if_pos rfl).symm.trans z
        cases z'
        exact ⟨ha, by rw [List.length_map]; exact hl, vs, _, rv, ha⟩
      · have z' := hb.symm.trans z
        cases z'
theorem g_walk {l : PySem.W.OpenLaw} {n k : Nat} {q : Program} {loose : List Str} {XP : (Str → Option Value) → Heap → Prop} {YP : World → Heap → Prop} {d : DefRec} {x : Str}
    (hn : l.most = some n) (hn2 : n ≤ sizeLine) (hdf : d.params.defaults = []) (hr : Room k callerA)
    (F : ∀ (w : World) (mg : Str → Option Value) (fa : Addr) (h : Heap), YP w h → h.Ns mainGlobals mg → mg d.name = some (.ref fa) →
      ∃ (K : PySem.W.Frag) (fd : FuncData) (sp : Sp), K.In h ∧ (∀ (s : Shared) (u : Value), BindsTo s fd ⟨[u], []⟩ [(x, u)]) ∧
        (∀ (H : Hp) (a : Addr) (ns : List Int), ns.length ≤ n → Only H → SqL K H a (ns.map V.int) → sp [.ref a] H (fun v _ => v = .bl true) fun _ _ _ => False) ∧
        ∀ base : Heap, K.In base → base.Ns mainGlobals mg → GOk l.prog w K mg base k fa fd [x] sp) :
    PySem.W.WalkO q loose XP YP l.row.toRowW d [] (fun f vs => PySem.call f vs) := by
  refine Att.attach_call hn hdf fun w s₀ s₁ mg mb fa o pm cd doc a vs ns G Y ho hd hcd hmg hobj hints hlen hg => ?_
  obtain ⟨K, fd, sp, KX, hb, hsp, hF⟩ := F w mg fa _ Y G.T.g hmg
  exact g_law KX G.T.g G.T.b G.T.builtins G.T.nolimit hg hobj hints (Nat.le_trans hlen hn2) hr hF hb (fun H hO hS => hsp H a ns hlen hO hS)
end Eg
namespace Eg
open PySem PySem.Spec PyProof.Rows L2
def obsM (n : Nat) (fa : List He.Fa) (fn : List He.DefD) (ex : PySem.W.Frag → Bool) (g : Addr → Option Obj) : He.AlD × Bool := (He.obsD fa fn (He.frG g (cStatics :: He.asD g n)), ex (He.frG g (cStatics :: He.asD g n)))
def hookM (n : Nat) (fa : List He.Fa) (fn : List He.DefD) (ex : PySem.W.Frag → Bool) : PySem.W.Hook where
  α := He.AlD × Bool
  obs := fun s => obsM n fa fn ex s.heap.get?
  val := fun _ => (He.valD fn, true)
  says := fun _ h => ∃ K : PySem.W.Frag, K.In h ∧ He.SaysD fa fn K ∧ ex K = true
  of := fun _ _ e => ⟨_, He.frG_in, congrArg (fun z : He.AlD × Bool => z.1) e, congrArg (fun z : He.AlD × Bool => z.2) e⟩
  keeps := fun _ _ _ ⟨K, hK, c⟩ k => ⟨K, PySem.W.Frag.In.keeps hK k, c⟩
theorem obsM_eq {n : Nat} {fa : List He.Fa} {fn : List He.DefD} {ex : PySem.W.Frag → Bool} {g : Addr → Option Obj} {s : Shared} (h : ∀ a, g a = s.heap.get? a) : obsM n fa fn ex g = (hookM n fa fn ex).obs s := by
  have e : g = s.heap.get? := funext h
  rw [e] <;> rfl
section
variable {P : Program} {w : World} {K : PySem.W.Frag} {mg : Str → Option Value} {base : Heap} {g : Gc} {D : Gd} {Φ : Tab} {k : Nat} {f : Addr} {fd : FuncData} {ps N : List Str} {x name qual : Str} {params : Arguments} {body : List Stmt} {scope : Scope}
theorem Gok0.def_ (G : Gok0 g D Φ P w K mg base k) {i : Nat} {fe fs : Nat} {io : List Bool} {qs : List Eg.St} (F : FunD K name qual params body scope [] [] f fd) (hK : D.K = K) (S : FnScope N ps scope)
    (ht : trSL (trS g fe fs ⟨N, scope⟩) body = some qs) (hio : io.length = ps.length) (hnm : ∀ x ∈ N, (x == ("__debug__" : Str)) = false ∧ (x == ("__classdict__" : Str)) = false)
    (hb : Binds K fd ps []) (hm : mg x = some (.ref f)) (hi : Φ.fn i = none) (hd : (x == ("__debug__" : Str)) = false) : Gok0 (g.add x i io) D (Φ.add i (mkFn Φ io N.length qs)) P w K mg base (k + 1) :=
  Gok0.snoc G (F := mkFn Φ io N.length qs) hi hm F.kp hb (g_fn G F hK S ht hio hnm) hd
end
def tabG (gl : Nat → Option A) : Tab := ⟨fun _ => none, gl, fun _ _ => none, fun _ _ => none, fun _ => false, fun _ => false⟩
theorem tabG_ok (D : Gd) (gl : Nat → Option A) : TabOk D (tabG gl) := ⟨fun _ _ _ h => (by cases h), fun _ h => (by cases h), fun _ h => (by cases h)⟩
def mkD0 (K : PySem.W.Frag) (hd : PySem.W.nsIn K cStatics "sys.int_max_str_digits" = some none) : Gd := ⟨K, fun _ => 0, 0, fun _ => "", fun _ _ h => absurd h (Nat.not_lt_zero _), fun _ => false, fun _ h => (by cases h), fun _ _ h => (by cases h), fun _ h => (by cases h), hd⟩
theorem relL_ints {D : Gd} {γ : Gh} {H : Hp} : ∀ ns : List Int, RelL D γ H (ns.map A.int) (ns.map V.int)
  | [] => RelL.nil
  | n :: ns => RelL.cons (by simp only [RelA]) (relL_ints ns)
theorem g_start {D : Gd} {F : Fn} {H : Hp} {a : Addr} {ns : List Int} (hO : Only H) (hS : SqL D.K H a (ns.map V.int)) {outs : List LO} {g1 : GS} (h : F.run [.va (.kl (ns.map A.int))] [] = .ok (.va (.bl true)) outs g1) :
    spF D F [.ref a] H (fun v _ => v = .bl true) (fun _ _ _ => False) := by
  refine ⟨{ al := fun _ => 0, sz := 0, ow := fun _ => 0, Om := fun b => H b ≠ none, H0 := H, T := fun _ => False, Om0 := fun b => H b ≠ none, pr := fun _ => none, io := fun _ => 0 }, [.va (.kl (ns.map A.int))], [], ?_, rfl, rfl, rfl, rfl, ?_⟩
  · refine ⟨rfl, fun i b e => ?_, fun i b o e => ?_, rfl, fun n o e => by simp at e, fun n m h => absurd h (Nat.not_lt_zero _), fun i j b b' o o' e => ?_, fun i b o n e h => absurd h (Nat.not_lt_zero _), fun p h => h, fun p o e _ => e, fun p h => .inl h, fun p h => h, fun p h => h, fun i o e => ?_, fun p o e => by cases e⟩
    · match i, e with
      | 0, e =>
        cases e
        refine ⟨.ref a, rfl, ?_⟩
        simp only [RelA]
        rcases hS with hS | hS
        · rcases hS with hS | ⟨o, hS⟩
          · rcases hO a with z | ⟨o, xs, z⟩ <;> rw [hS] at z <;> cases z
          · exact ⟨a, _, rfl, .inl ⟨(by rw [hS]; exact fun y => by cases y), o, hS⟩, relL_ints ns⟩
        · exact ⟨a, _, rfl, .inr (.inr hS), relL_ints ns⟩
      | i + 1, e => simp at e
    · match i, e with
      | 0, e => cases e
      | i + 1, e => simp at e
    · match i, e with
      | 0, e => cases e
      | i + 1, e => simp at e
    · match i, e with
      | 0, e => cases e
      | i + 1, e => simp at e
  · rw [h]
    intro γ1 H1 v n R r
    simpa only [RelR, RelA] using r
end Eg
namespace Eg
open PySem PySem.Spec PyProof.Rows L2
section
variable {α β : Type}
@[simp] theorem ev_bind (m : M α) (f : α → M β) (ρ : En) (g : GS) : (m >>= f) ρ g = (match m ρ g with | .ok x ρ g => f x ρ g | .ex e ρ g => .ex e ρ g | .bad => .bad) := rfl
@[simp] theorem ev_pure (x : α) (ρ : En) (g : GS) : (pure x : M α) ρ g = .ok x ρ g := rfl
@[simp] theorem ev_bad (ρ : En) (g : GS) : (bad : M α) ρ g = .bad := rfl
@[simp] theorem ev_ofO (x : α) (ρ : En) (g : GS) : (ofO (some x) : M α) ρ g = .ok x ρ g := rfl
@[simp] theorem ev_ofN (ρ : En) (g : GS) : (ofO none : M α) ρ g = .bad := rfl
@[simp] theorem ev_fz (m : M Rv) (ρ : En) (g : GS) : fzM m ρ g = (match m ρ g with | .ok r ρ g => .ok (fzR r) ρ g | .ex e ρ g => .ex e ρ g | .bad => .bad) := by
  show M.bind m (fun r => M.pure (fzR r)) ρ g = _
  unfold M.bind
  cases m ρ g <;> rfl
@[simp] theorem ev_toOut (m : M α) (f : α → En → GS → Out) (ρ : En) (g : GS) : toOut m f ρ g = (match m ρ g with | .ok x ρ g => f x ρ g | .ex e ρ g => .ex e ρ g | .bad => .bad) := rfl
@[simp] theorem fzR_va (a : A) : fzR (.va a) = a := rfl
@[simp] theorem fzR_nw (xs : List A) : fzR (.nw (.lst xs)) = .lst xs := rfl
@[simp] theorem then_nx (ρ : En) (g : GS) (f : En → GS → Out) : (Out.nx ρ g).then f = f ρ g := rfl
@[simp] theorem then_rt (r : Rv) (ρ : En) (g : GS) (f : En → GS → Out) : (Out.rt r ρ g).then f = .rt r ρ g := rfl
@[simp] theorem then_bk (ρ : En) (g : GS) (f : En → GS → Out) : (Out.bk ρ g).then f = .bk ρ g := rfl
@[simp] theorem then_ct (ρ : En) (g : GS) (f : En → GS → Out) : (Out.ct ρ g).then f = .ct ρ g := rfl
@[simp] theorem then_ex (e : A) (ρ : En) (g : GS) (f : En → GS → Out) : (Out.ex e ρ g).then f = .ex e ρ g := rfl
@[simp] theorem then_bad (f : En → GS → Out) : Out.bad.then f = .bad := rfl
@[simp] theorem boolM_bl (b : Bool) : boolM (.bl b) = pure b := rfl
@[simp] theorem intM_int (i : Int) : intM (.int i) = pure i := rfl
theorem ite_M (c : Bool) (a b : M α) (ρ : En) (g : GS) : (if c = true then a else b) ρ g = if c = true then a ρ g else b ρ g := by cases c <;> rfl
theorem run_mk (Φ : Tab) (io : List Bool) (n : Nat) (body : List St) (as : List Ag) (g : GS) : (mkFn Φ io n body).run as g = runF Φ io n body as g := rfl
@[simp] theorem io_mk (Φ : Tab) (io : List Bool) (n : Nat) (body : List St) : (mkFn Φ io n body).io = io := rfl
end
theorem run_rt {Φ : Tab} {io : List Bool} {n : Nat} {body : List St} {as : List Ag} {g g1 : GS} {r : Rv} {ρ : En} {os : List LO} (ha : agOk io as = true) (e : exL Φ body (as.map (fun a => some (slOf a)) ++ List.replicate (n - as.length) none) g = .rt r ρ g1) (o : outsOf io 0 ρ = some os) :
    (mkFn Φ io n body).run as g = .ok r os g1 := by
  show runF Φ io n body as g = _
  unfold runF
  rw [if_pos ha, e]
  dsimp only
  rw [o]
section
variable (i j : Int)
@[simp] theorem cmp_lt : cmpA .lt (.int i) (.int j) = some (decide (i < j)) := rfl
@[simp] theorem cmp_le : cmpA .le (.int i) (.int j) = some (decide (i ≤ j)) := rfl
@[simp] theorem cmp_gt : cmpA .gt (.int i) (.int j) = some (decide (j < i)) := rfl
@[simp] theorem cmp_ge : cmpA .ge (.int i) (.int j) = some (decide (j ≤ i)) := rfl
@[simp] theorem cmp_eqI : cmpA .eq (.int i) (.int j) = some (decide (i = j)) := rfl
@[simp] theorem cmp_neI : cmpA .ne (.int i) (.int j) = some (!decide (i = j)) := rfl
@[simp] theorem cmp_is (x : A) : cmpA .isN x .non = some (isNon x) := by cases x <;> rfl
@[simp] theorem cmp_nis (x : A) : cmpA .notN x .non = some (!isNon x) := by cases x <;> rfl
@[simp] theorem bin_add : binA .add (.int i) (.int j) = some (.va (.int (i + j))) := rfl
@[simp] theorem bin_sub : binA .sub (.int i) (.int j) = some (.va (.int (i - j))) := rfl
@[simp] theorem bin_mul (h : mulOk i j = true) : binA .mul (.int i) (.int j) = some (.va (.int (i * j))) := by simp [binA, guardO, h]
@[simp] theorem bin_fdiv (h : divOk j = true) : binA .fdiv (.int i) (.int j) = some (.va (.int (i / j))) := by simp [binA, guardO, h]
@[simp] theorem bin_mod (h : 0 < j) : binA .mod (.int i) (.int j) = some (.va (.int (i % j))) := by simp [binA, guardO, h]
@[simp] theorem bin_pow (h : powOk i j = true) : binA .pow (.int i) (.int j) = some (.va (.int (i ^ j.toNat))) := by simp [binA, guardO, h]
@[simp] theorem isNon_non : isNon .non = true := rfl
@[simp] theorem isNon_int (i : Int) : isNon (.int i) = false := rfl
@[simp] theorem isNon_tup (xs : List A) : isNon (.tup xs) = false := rfl
end
theorem log2_lt {n k : Nat} (h : n < 2 ^ k) (hk : 0 < k) : n.log2 < k := by
  by_cases h0 : n = 0
  · subst h0; simpa using hk
  · exact (Nat.log2_lt h0).mpr h
theorem mulOk_of {i j : Int} (a b : Nat) (h1 : i.natAbs < 2 ^ a) (h2 : j.natAbs < 2 ^ b) (ha : 0 < a) (hb : 0 < b) (h : a + b < 1000000) : mulOk i j = true := by
  have := log2_lt h1 ha
  have := log2_lt h2 hb
  unfold mulOk
  rw [decide_eq_true_eq]
  omega
theorem divOk_of {j : Int} (h0 : 0 < j) (h : j.natAbs < 2 ^ 8999) : divOk j = true := by
  have := log2_lt h (by decide)
  unfold divOk
  rw [Bool.and_eq_true, decide_eq_true_eq, decide_eq_true_eq]
  exact ⟨h0, by omega⟩
theorem forN_inv {t : A → M Unit} {b : En → GS → Out} (I : En → GS → Prop) (Pr : A → Prop) (h : ∀ x ρ g, Pr x → I ρ g → ∃ ρ1 g1, t x ρ g = .ok () ρ1 g1 ∧ ∃ ρ2 g2, (b ρ1 g1 = .nx ρ2 g2 ∨ b ρ1 g1 = .ct ρ2 g2) ∧ I ρ2 g2) :
    ∀ (items : List A), (∀ x ∈ items, Pr x) → ∀ ρ g, I ρ g → ∃ ρ' g', forN t b items ρ g = .nx ρ' g' ∧ I ρ' g'
  | [], _, ρ, g, i => ⟨ρ, g, rfl, i⟩
  | x :: xs, hp, ρ, g, i => by
    obtain ⟨ρ1, g1, e1, ρ2, g2, e2, i2⟩ := h x ρ g (hp x List.mem_cons_self) i
    obtain ⟨ρ3, g3, e3, i3⟩ := forN_inv I Pr h xs (fun y hy => hp y (List.mem_cons_of_mem _ hy)) ρ2 g2 i2
    refine ⟨ρ3, g3, ?_, i3⟩
    show toOut (t x) _ ρ g = _
    unfold toOut
    rw [e1]
    dsimp only
    rcases e2 with e2 | e2 <;> rw [e2] <;> exact e3
theorem compM_cons {vs : List Nat} {f : A → M (Option A)} {x : A} {xs acc : List A} {ρ ρ1 : En} {g g1 : GS} {y : A} (h : f x (wipeE ρ vs) g = .ok (some y) ρ1 g1) (hl : acc.length < sizeLine) : compM vs f (x :: xs) acc ρ g = compM vs f xs (acc ++ [y]) ρ1 g1 := by
  show (match f x (wipeE ρ vs) g with
    | .ok (some y) ρ1 g1 => if acc.length < sizeLine then compM vs f xs (acc ++ [y]) ρ1 g1 else .bad
    | .ok none ρ1 g1 => compM vs f xs acc ρ1 g1
    | .ex e ρ1 g1 => .ex e ρ1 g1
    | .bad => .bad) = _
  rw [h]
  dsimp only
  rw [if_pos hl]
theorem compM_skip {vs : List Nat} {f : A → M (Option A)} {x : A} {xs acc : List A} {ρ ρ1 : En} {g g1 : GS} (h : f x (wipeE ρ vs) g = .ok none ρ1 g1) : compM vs f (x :: xs) acc ρ g = compM vs f xs acc ρ1 g1 := by
  show (match f x (wipeE ρ vs) g with
    | .ok (some y) ρ1 g1 => if acc.length < sizeLine then compM vs f xs (acc ++ [y]) ρ1 g1 else .bad
    | .ok none ρ1 g1 => compM vs f xs acc ρ1 g1
    | .ex e ρ1 g1 => .ex e ρ1 g1
    | .bad => .bad) = _
  rw [h]
end Eg
namespace Eg
open PySem PySem.Spec PyProof.Rows L2
structure Bag where
  a : Int
  b : Int
  c : Int
  cells : List Int
  ha : 0 ≤ a
  hb : 0 ≤ b
  hb' : b < 2147483647
  hc : 0 ≤ c
  hs : ∀ x ∈ cells, 0 ≤ x
  hl : cells.length ≤ 63
def Bag.lo (B : Bag) : LO := .lst [.int B.a, .int B.b, .int B.c, .lst (B.cells.map A.int)]
def takeQ : List Eg.St := [St.ifs
   (Ex.cmp (COp.eq) (Ex.sub (Ex.v 0) (Ex.c (A.int 0))) (Ex.c (A.int 0)))
   [St.asg (Tg.n 2) (Ex.c (A.int 0)) true,
    St.ifs
      (Ex.cmp
        (COp.lt)
        (Ex.sub (Ex.v 0) (Ex.c (A.int 2)))
        (Ex.bi (Bi.len) [Ex.sub (Ex.v 0) (Ex.c (A.int 3))]))
      [St.asg
         (Tg.n 2)
         (Ex.sub (Ex.sub (Ex.v 0) (Ex.c (A.int 3))) (Ex.sub (Ex.v 0) (Ex.c (A.int 2))))
         true]
      [],
    St.augI (Ex.v 0) (Ex.c (A.int 2)) (BOp.add) (Ex.c (A.int 1)),
    St.ifs
      (Ex.cmp (COp.ge) (Ex.v 2) (Ex.c (A.int 1000000000000000000)))
      [St.setI (Ex.v 0) (Ex.c (A.int 0)) (Ex.v 2)]
      [],
    St.setI
      (Ex.v 0)
      (Ex.c (A.int 1))
      (Ex.bin
        (BOp.mod)
        (Ex.bin
          (BOp.add)
          (Ex.bin
            (BOp.add)
            (Ex.bin (BOp.mul) (Ex.sub (Ex.v 0) (Ex.c (A.int 1))) (Ex.c (A.int 48271)))
            (Ex.bin (BOp.mod) (Ex.v 2) (Ex.c (A.int 2147483647))))
          (Ex.bin (BOp.mul) (Ex.c (A.int 7919)) (Ex.sub (Ex.v 0) (Ex.c (A.int 2)))))
        (Ex.c (A.int 2147483647)))]
   [],
 St.ifs
   (Ex.cmp (COp.gt) (Ex.sub (Ex.v 0) (Ex.c (A.int 0))) (Ex.c (A.int 0)))
   [St.asg (Tg.n 3) (Ex.bin (BOp.mod) (Ex.sub (Ex.v 0) (Ex.c (A.int 0))) (Ex.v 1)) true,
    St.setI
      (Ex.v 0)
      (Ex.c (A.int 0))
      (Ex.bin (BOp.fdiv) (Ex.sub (Ex.v 0) (Ex.c (A.int 0))) (Ex.v 1)),
    St.ret (Ex.v 3)]
   [],
 St.asg
   (Tg.n 4)
   (Ex.bin
     (BOp.mod)
     (Ex.bin
       (BOp.mul)
       (Ex.bin (BOp.add) (Ex.sub (Ex.v 0) (Ex.c (A.int 1))) (Ex.c (A.int 1)))
       (Ex.c (A.int 39373)))
     (Ex.c (A.int 1000000007)))
   true,
 St.asg
   (Tg.n 5)
   (Ex.bin
     (BOp.mod)
     (Ex.bin
       (BOp.mul)
       (Ex.bin (BOp.mod) (Ex.bin (BOp.mul) (Ex.v 4) (Ex.v 4)) (Ex.c (A.int 998244353)))
       (Ex.c (A.int 30011)))
     (Ex.c (A.int 998244353)))
   true,
 St.ifs
   (Ex.cmp (COp.gt) (Ex.v 1) (Ex.c (A.int 1000000)))
   [St.ret
      (Ex.bin
        (BOp.mod)
        (Ex.bin (BOp.add) (Ex.bin (BOp.mul) (Ex.v 5) (Ex.c (A.int 1000000007))) (Ex.v 4))
        (Ex.v 1))]
   [],
 St.ret (Ex.bin (BOp.mod) (Ex.bin (BOp.fdiv) (Ex.v 5) (Ex.c (A.int 7))) (Ex.v 1))]
theorem atI_map {cells : List Int} {c : Int} (h0 : 0 ≤ c) (h : c < cells.length) : ∃ x ∈ cells, atI (cells.map A.int) c = some (.int x) := by
  have hl : c.toNat < cells.length := by omega
  refine ⟨cells[c.toNat], List.getElem_mem hl, ?_⟩
  have e := atI_nat (xs := cells.map A.int) (j := c.toNat) (v := .int cells[c.toNat]) (by simp [hl])
  rwa [Int.toNat_of_nonneg h0] at e
theorem ix40 : ixN 4 0 = some 0 := rfl
theorem ix41 : ixN 4 1 = some 1 := rfl
theorem ix42 : ixN 4 2 = some 2 := rfl
theorem at0 (a b c d : A) : atI [a, b, c, d] 0 = some a := rfl
theorem at1 (a b c d : A) : atI [a, b, c, d] 1 = some b := rfl
theorem at2 (a b c d : A) : atI [a, b, c, d] 2 = some c := rfl
theorem at3 (a b c d : A) : atI [a, b, c, d] 3 = some d := rfl
theorem nat_lt {i : Int} {k : Nat} (h0 : 0 ≤ i) (h : i < ((2 ^ k : Nat) : Int)) : i.natAbs < 2 ^ k := by omega
theorem mulS {i j : Int} (h0 : 0 ≤ i) (h1 : 0 ≤ j) (h : i < 1267650600228229401496703205376) (h' : j < 1267650600228229401496703205376) : mulOk i j = true :=
  mulOk_of 100 100 (by omega) (by omega) (by decide) (by decide) (by decide)
theorem take1 (Φ : Tab) (B : Bag) (m : Int) (hc : B.c ≤ 1000000) (s : St) (hs : takeQ[0]? = some s) : ∃ (B' : Bag) (x : Option Sl), B'.c ≤ B.c + 1 ∧ ∀ g : GS, exS Φ s [some (.ow true B.lo), some (.va (.int m)), none, none, none, none] g = .nx [some (.ow true B'.lo), some (.va (.int m)), x, none, none, none] g := by
  cases hs
  have h0 := B.hb
  have h1 := B.hb'
  have h2 := B.hc
  by_cases ha : B.a = 0
  · have m1 : mulOk B.b 48271 = true := mulS h0 (by decide) (by omega) (by decide)
    have m2 : mulOk 7919 (B.c + 1) = true := mulS (by decide) (by omega) (by decide) (by omega)
    have fin : ∀ x : Int, 0 ≤ x → ∀ a' : Int, 0 ≤ a' → ∃ B' : Bag, B'.c = B.c + 1 ∧ B'.lo = .lst [.int a', .int ((B.b * 48271 + x % 2147483647 + 7919 * (B.c + 1)) % 2147483647), .int (B.c + 1), .lst (B.cells.map A.int)] := fun x hx a' ha' =>
      ⟨⟨a', (B.b * 48271 + x % 2147483647 + 7919 * (B.c + 1)) % 2147483647, B.c + 1, B.cells, ha', Int.emod_nonneg _ (by decide), Int.emod_lt_of_pos _ (by decide), by omega, B.hs, B.hl⟩, rfl, rfl⟩
    by_cases hlt : B.c < B.cells.length
    · obtain ⟨x, hx, e⟩ := atI_map h2 hlt
      have hx0 := B.hs x hx
      by_cases hb : 1000000000000000000 ≤ x
      · obtain ⟨B', c1, c2⟩ := fin x hx0 x hx0
        refine ⟨B', some (.va (.int x)), by omega, ?_⟩
        intro g
        rw [c2]
        simp [run_mk, runF, agOk, exL, exS, evR, evL, evAV, retR, slOf, rdV, tyIs, kindA, tyB, outsOf, callM, argsOf, ioOf, backE, ite_M, asgM, tgM, setSl, setAll, endN, brw, holdB, lookOw, ctA, ctO, subC, lenC, biA, isV, setB, setOw, getOwB, lineOk, guardO, guardN, itM, itA, itSq, Bag.lo, ha, at0, at1, at2, at3, hlt, e, hb, m1, m2, ix40, ix41, ix42]
      · obtain ⟨B', c1, c2⟩ := fin x hx0 0 (Int.le_refl _)
        refine ⟨B', some (.va (.int x)), by omega, ?_⟩
        intro g
        rw [c2]
        simp [run_mk, runF, agOk, exL, exS, evR, evL, evAV, retR, slOf, rdV, tyIs, kindA, tyB, outsOf, callM, argsOf, ioOf, backE, ite_M, asgM, tgM, setSl, setAll, endN, brw, holdB, lookOw, ctA, ctO, subC, lenC, biA, isV, setB, setOw, getOwB, lineOk, guardO, guardN, itM, itA, itSq, Bag.lo, ha, at0, at1, at2, at3, hlt, e, hb, m1, m2, ix40, ix41, ix42]
    · obtain ⟨B', c1, c2⟩ := fin 0 (Int.le_refl _) 0 (Int.le_refl _)
      refine ⟨B', some (.va (.int 0)), by omega, ?_⟩
      intro g
      rw [c2]
      simp [run_mk, runF, agOk, exL, exS, evR, evL, evAV, retR, slOf, rdV, tyIs, kindA, tyB, outsOf, callM, argsOf, ioOf, backE, ite_M, asgM, tgM, setSl, setAll, endN, brw, holdB, lookOw, ctA, ctO, subC, lenC, biA, isV, setB, setOw, getOwB, lineOk, guardO, guardN, itM, itA, itSq, Bag.lo, ha, at0, at1, at2, at3, hlt, m1, m2, ix40, ix41, ix42]
  · refine ⟨B, none, by omega, fun g => ?_⟩
    simp [run_mk, runF, agOk, exL, exS, evR, evL, evAV, retR, slOf, rdV, tyIs, kindA, tyB, outsOf, callM, argsOf, ioOf, backE, ite_M, asgM, tgM, setSl, setAll, endN, brw, holdB, lookOw, ctA, ctO, subC, lenC, biA, isV, setB, setOw, getOwB, lineOk, guardO, guardN, itM, itA, itSq, Bag.lo, ha, at0]
theorem take_ex (Φ : Tab) (B : Bag) (m : Int) (hc : B.c ≤ 1000000) (h1 : 1 ≤ m) (h2 : m < 1267650600228229401496703205376) : ∃ (v : Int) (B' : Bag), 0 ≤ v ∧ v < m ∧ B'.c ≤ B.c + 1 ∧ ∀ g : GS, (mkFn Φ [true, false] 6 takeQ).run [.lo B.lo, .va (.int m)] g = .ok (.va (.int v)) [B'.lo] g := by
  have hq : takeQ = takeQ[0] :: takeQ.drop 1 := rfl
  have rest : ∀ (B : Bag) (x : Option Sl), ∃ (v : Int) (B' : Bag), 0 ≤ v ∧ v < m ∧ B'.c ≤ B.c ∧ ∀ g,
      ∃ ρ', exL Φ (takeQ.drop 1) [some (.ow true B.lo), some (.va (.int m)), x, none, none, none] g = .rt (.va (.int v)) (some (.ow true B'.lo) :: ρ') g := fun B x => by
    have h0 := B.hb
    have h3 := B.hb'
    have m0 : (0 : Int) < m := by omega
    have dm : divOk m = true := divOk_of m0 (Nat.lt_of_lt_of_le (show m.natAbs < 2 ^ 100 by omega) (Nat.pow_le_pow_right (by decide) (by decide)))
    by_cases ha : 0 < B.a
    · refine ⟨B.a % m, ⟨B.a / m, B.b, B.c, B.cells, Int.ediv_nonneg B.ha (by omega), B.hb, B.hb', B.hc, B.hs, B.hl⟩, Int.emod_nonneg _ (by omega), Int.emod_lt_of_pos _ m0, Int.le_refl _, fun g => ?_⟩
      refine ⟨[some (.va (.int m)), x, some (.va (.int (B.a % m))), none, none], ?_⟩
      simp [takeQ, run_mk, runF, agOk, exL, exS, evR, evL, evAV, retR, slOf, rdV, tyIs, kindA, tyB, outsOf, callM, argsOf, ioOf, backE, ite_M, asgM, tgM, setSl, setAll, endN, brw, holdB, lookOw, ctA, ctO, subC, lenC, biA, isV, setB, setOw, getOwB, lineOk, guardO, guardN, itM, itA, itSq, Bag.lo, ha, at0, m0, dm, ix40]
    · have p1 : mulOk (B.b + 1) 39373 = true := mulS (by omega) (by decide) (by omega) (by decide)
      generalize hf : (B.b + 1) * 39373 % 1000000007 = f1
      have f0 : 0 ≤ f1 := by rw [← hf]; exact Int.emod_nonneg _ (by decide)
      have f2 : f1 < 1000000007 := by rw [← hf]; exact Int.emod_lt_of_pos _ (by decide)
      have p2 : mulOk f1 f1 = true := mulS f0 f0 (by omega) (by omega)
      generalize hk : f1 * f1 % 998244353 = k1
      have k0 : 0 ≤ k1 := by rw [← hk]; exact Int.emod_nonneg _ (by decide)
      have k2 : k1 < 998244353 := by rw [← hk]; exact Int.emod_lt_of_pos _ (by decide)
      have p3 : mulOk k1 30011 = true := mulS k0 (by decide) (by omega) (by decide)
      generalize hs : k1 * 30011 % 998244353 = s1
      have s0 : 0 ≤ s1 := by rw [← hs]; exact Int.emod_nonneg _ (by decide)
      have s2 : s1 < 998244353 := by rw [← hs]; exact Int.emod_lt_of_pos _ (by decide)
      have p4 : mulOk s1 1000000007 = true := mulS s0 (by decide) (by omega) (by decide)
      have d7 : divOk 7 = true := divOk_of (by decide) (by decide)
      by_cases hm : 1000000 < m
      · refine ⟨(s1 * 1000000007 + f1) % m, B, Int.emod_nonneg _ (by omega), Int.emod_lt_of_pos _ m0, Int.le_refl _, fun g => ?_⟩
        refine ⟨[some (.va (.int m)), x, none, some (.va (.int f1)), some (.va (.int s1))], ?_⟩
        simp [takeQ, run_mk, runF, agOk, exL, exS, evR, evL, evAV, retR, slOf, rdV, tyIs, kindA, tyB, outsOf, callM, argsOf, ioOf, backE, ite_M, asgM, tgM, setSl, setAll, endN, brw, holdB, lookOw, ctA, ctO, subC, lenC, biA, isV, setB, setOw, getOwB, lineOk, guardO, guardN, itM, itA, itSq, Bag.lo, ha, at0, at1, m0, dm, p1, hf, p2, hk, p3, hs, p4, hm]
      · refine ⟨s1 / 7 % m, B, Int.emod_nonneg _ (by omega), Int.emod_lt_of_pos _ m0, Int.le_refl _, fun g => ?_⟩
        refine ⟨[some (.va (.int m)), x, none, some (.va (.int f1)), some (.va (.int s1))], ?_⟩
        simp [takeQ, run_mk, runF, agOk, exL, exS, evR, evL, evAV, retR, slOf, rdV, tyIs, kindA, tyB, outsOf, callM, argsOf, ioOf, backE, ite_M, asgM, tgM, setSl, setAll, endN, brw, holdB, lookOw, ctA, ctO, subC, lenC, biA, isV, setB, setOw, getOwB, lineOk, guardO, guardN, itM, itA, itSq, Bag.lo, ha, at0, at1, m0, dm, p1, hf, p2, hk, p3, hs, p4, hm, d7]
  obtain ⟨B1, x, c1, e1⟩ : ∃ (B' : Bag) (x : Option Sl), B'.c ≤ B.c + 1 ∧ ∀ g, exS Φ takeQ[0] [some (.ow true B.lo), some (.va (.int m)), none, none, none, none] g = .nx [some (.ow true B'.lo), some (.va (.int m)), x, none, none, none] g := by
    exact take1 Φ B m hc _ rfl
  obtain ⟨v, B2, v0, v1, c2, e2⟩ := rest B1 x
  refine ⟨v, B2, v0, v1, by omega, fun g => ?_⟩
  obtain ⟨ρ', e3⟩ := e2 g
  have e4 : exL Φ (takeQ[0] :: takeQ.drop 1) [some (.ow true B.lo), some (.va (.int m)), none, none, none, none] g = .rt (.va (.int v)) (some (.ow true B2.lo) :: ρ') g := by
    simp only [exL]
    rw [e1]
    exact e3
  exact run_rt rfl e4 rfl
end Eg
namespace Eg
open PySem PySem.Spec PyProof.Rows L2
theorem comp_go {v : Nat} {f : A → M (Option A)} {p : A → Bool} {h : A → A} {ρ0 : En} {g : GS} : ∀ (items acc : List A) (ρ : En), ρ.set v none = ρ0.set v none → acc.length + items.length ≤ sizeLine →
    (∀ x ∈ items, ∃ ρ'', f x (ρ0.set v none) g = .ok (if p x then some (h x) else none) ρ'' g ∧ ρ''.set v none = ρ0.set v none) →
    ∃ ρ', compM [v] f items acc ρ g = .ok (acc ++ (items.filter p).map h) ρ' g ∧ ρ'.set v none = ρ0.set v none
  | [], acc, ρ, e, _, _ => ⟨ρ, by simp [compM, M.pure, pure], e⟩
  | x :: xs, acc, ρ, e, hl, hf => by
    obtain ⟨ρ1, e1, e2⟩ := hf x List.mem_cons_self
    have hw : wipeE ρ [v] = ρ0.set v none := e
    cases hp : p x with
    | true =>
      rw [hp] at e1
      have e1' : f x (wipeE ρ [v]) g = .ok (some (h x)) ρ1 g := by rw [hw]; exact e1
      rw [List.length_cons] at hl
      obtain ⟨ρ2, e3, e4⟩ := comp_go xs (acc ++ [h x]) ρ1 e2 (by rw [List.length_append, List.length_singleton]; omega) fun y hy => hf y (List.mem_cons_of_mem _ hy)
      refine ⟨ρ2, ?_, e4⟩
      rw [compM_cons e1' (by omega), e3]
      simp [List.filter_cons, hp]
    | false =>
      rw [hp] at e1
      have e1' : f x (wipeE ρ [v]) g = .ok none ρ1 g := by rw [hw]; exact e1
      rw [List.length_cons] at hl
      obtain ⟨ρ2, e3, e4⟩ := comp_go xs acc ρ1 e2 (by omega) fun y hy => hf y (List.mem_cons_of_mem _ hy)
      refine ⟨ρ2, ?_, e4⟩
      rw [compM_skip e1', e3]
      simp [List.filter_cons, hp]
theorem comp1 {v : Nat} {f : A → M (Option A)} {p : A → Bool} {h : A → A} {ρ : En} {g : GS} {items : List A} (hl : items.length ≤ sizeLine) (hv : ρ[v]? = some none)
    (hf : ∀ x ∈ items, ∃ ρ'', f x (ρ.set v none) g = .ok (if p x then some (h x) else none) ρ'' g ∧ ρ''.set v none = ρ.set v none) :
    compR [v] f items ρ g = .ok (.nw (.lst ((items.filter p).map h))) ρ g := by
  obtain ⟨ρ', e1, e2⟩ := comp_go (p := p) (h := h) items [] ρ rfl (by simpa using hl) hf
  have hs : ρ.set v none = ρ := by
    apply List.ext_getElem?
    intro j
    by_cases hj : v = j
    · subst hj
      rw [List.getElem?_set_self (List.getElem?_eq_some_iff.mp hv).1, hv]
    · rw [List.getElem?_set_ne hj]
  unfold compR
  rw [e1]
  have e3 : restE ρ ρ' [v] = ρ := by
    show (ρ').set v (match ρ[v]? with
      | some (some (Sl.va a)) => some (.va a)
      | _ => none) = ρ
    rw [hv]
    dsimp only
    rw [e2, hs]
  show Res.ok (Rv.nw (.lst ([] ++ (items.filter p).map h))) (restE ρ ρ' [v]) g = _
  rw [e3, List.nil_append]
def absI (i : Int) : Int := if i < 0 then -i else i
theorem absI_nonneg (i : Int) : 0 ≤ absI i := by unfold absI; split <;> omega
def bag0 (ns : List Int) (h : ns.length ≤ 63) : Bag := ⟨0, 1234567891, 0, ns.map absI, by decide, by decide, by decide, by decide, fun x hx => by
  obtain ⟨y, _, rfl⟩ := List.mem_map.mp hx
  exact absI_nonneg y, by rw [List.length_map]; exact h⟩
end Eg
namespace Lw
open PySem PySem.Spec PyProof.Rows L2 Eg
def top (i : Nat) : Stmt := PySem.Challenge.pw_wanehold_k29_joined_and_passed.main.body.getD i (.Pass ⟨0, 0, 0, 0⟩)
abbrev R : PySem.W.OpenRow := PySem.W.OpenLaw.row PySem.Challenge.rw_wanehold_k29_joined_and_passed
def gl : Nat → Option A := fun k => if k = 0 then some (.int (1000000000)) else if k = 1 then some (.int (10000000000000000000000000000000000000000000000000000000000000000000000000000000000000000000000000000000000000000000000000000000000000000000000000000000000000000000000000000000000000000000000000000000000000000000000000000000000000000000000000000000000000000000000000000000000000000000000000000000000000000000000000000000000000000000000000000000000000000000000000000000000000000000000000000000000000000)) else none
def g0 : Gc := ⟨[], [("MOST_STRENGTH", 0), ("GREAT", 1)], [], []⟩
def T0 : Tab := tabG gl
def N0 : List Str := ["thing"]
def P0 : List Str := ["thing"]
open Eg.Ex Eg.St Eg.A in
def q0 : List Eg.St := [Eg.St.ret (Eg.Ex.and (Eg.Ex.isi (Eg.Ex.v 0) [Eg.Ty.int]) (Eg.Ex.not (Eg.Ex.isi (Eg.Ex.v 0) [Eg.Ty.bool])))]
def F0 : Fn := mkFn T0 [false] 1 q0
def g1 : Gc := g0.add "is_whole" 0 [false]
def T1 : Tab := T0.add 0 F0
def d0 : He.DefD := ⟨("is_whole", none), "is_whole", "is_whole", defArgs (top 5), defBody (top 5), defScope (top 5), [], []⟩
theorem t0 : trSL (trS g0 40 20 ⟨N0, defScope (top 5)⟩) (defBody (top 5)) = some q0 := by kernel_rfl
theorem s0 : FnScope N0 P0 (defScope (top 5)) := ⟨by kernel_rfl, by kernel_rfl, by kernel_rfl, by decide +kernel, by kernel_rfl, by decide +kernel, by decide +kernel⟩
theorem n0 : ∀ x ∈ N0, (x == ("__debug__" : Str)) = false ∧ (x == ("__classdict__" : Str)) = false := by decide +kernel
def N1 : List Str := ["thing", "least", "most"]
def P1 : List Str := ["thing", "least", "most"]
open Eg.Ex Eg.St Eg.A in
def q1 : List Eg.St := [Eg.St.ret
   (Eg.Ex.and (Eg.Ex.call 0 [Eg.Ex.v 0]) (Eg.Ex.cmp2 (Eg.COp.le) (Eg.COp.le) (Eg.Ex.v 1) (Eg.Ex.v 0) (Eg.Ex.v 2)))]
def F1 : Fn := mkFn T1 [false, false, false] 3 q1
def g2 : Gc := g1.add "is_within" 1 [false, false, false]
def T2 : Tab := T1.add 1 F1
def d1 : He.DefD := ⟨("is_within", none), "is_within", "is_within", defArgs (top 6), defBody (top 6), defScope (top 6), [], []⟩
theorem t1 : trSL (trS g1 40 20 ⟨N1, defScope (top 6)⟩) (defBody (top 6)) = some q1 := by kernel_rfl
theorem s1 : FnScope N1 P1 (defScope (top 6)) := ⟨by kernel_rfl, by kernel_rfl, by kernel_rfl, by decide +kernel, by kernel_rfl, by decide +kernel, by decide +kernel⟩
theorem n1 : ∀ x ∈ N1, (x == ("__debug__" : Str)) = false ∧ (x == ("__classdict__" : Str)) = false := by decide +kernel
def N2 : List Str := ["thing"]
def P2 : List Str := ["thing"]
open Eg.Ex Eg.St Eg.A in
def q2 : List Eg.St := [Eg.St.ret (Eg.Ex.call 1 [Eg.Ex.v 0, Eg.Ex.c (Eg.A.int 1), Eg.Ex.gl 0])]
def F2 : Fn := mkFn T2 [false] 1 q2
def g3 : Gc := g2.add "is_strength" 2 [false]
def T3 : Tab := T2.add 2 F2
def d2 : He.DefD := ⟨("is_strength", none), "is_strength", "is_strength", defArgs (top 7), defBody (top 7), defScope (top 7), [], []⟩
theorem t2 : trSL (trS g2 40 20 ⟨N2, defScope (top 7)⟩) (defBody (top 7)) = some q2 := by kernel_rfl
theorem s2 : FnScope N2 P2 (defScope (top 7)) := ⟨by kernel_rfl, by kernel_rfl, by kernel_rfl, by decide +kernel, by kernel_rfl, by decide +kernel, by decide +kernel⟩
theorem n2 : ∀ x ∈ N2, (x == ("__debug__" : Str)) = false ∧ (x == ("__classdict__" : Str)) = false := by decide +kernel
def N3 : List Str := ["thing", "number"]
def P3 : List Str := ["thing"]
open Eg.Ex Eg.St Eg.A in
def q3 : List Eg.St := [Eg.St.ifs
   (Eg.Ex.or
     (Eg.Ex.not (Eg.Ex.isi (Eg.Ex.v 0) [Eg.Ty.tuple]))
     (Eg.Ex.cmp (Eg.COp.ne) (Eg.Ex.bi (Eg.Bi.len) [Eg.Ex.v 0]) (Eg.Ex.c (Eg.A.int 4))))
   [Eg.St.ret (Eg.Ex.c (Eg.A.bl false))]
   [],
 Eg.St.for_
   (Eg.Tg.n 1)
   (Eg.ItK.seq)
   [Eg.Ex.v 0]
   [Eg.St.ifs
      (Eg.Ex.or
        (Eg.Ex.not (Eg.Ex.call 0 [Eg.Ex.v 1]))
        (Eg.Ex.not (Eg.Ex.cmp2 (Eg.COp.lt) (Eg.COp.lt) (Eg.Ex.neg (Eg.Ex.gl 1)) (Eg.Ex.v 1) (Eg.Ex.gl 1))))
      [Eg.St.ret (Eg.Ex.c (Eg.A.bl false))]
      []],
 Eg.St.ret
   (Eg.Ex.and
     (Eg.Ex.cmp (Eg.COp.ge) (Eg.Ex.sub (Eg.Ex.v 0) (Eg.Ex.c (Eg.A.int 0))) (Eg.Ex.c (Eg.A.int 1)))
     (Eg.Ex.and
       (Eg.Ex.cmp (Eg.COp.ge) (Eg.Ex.sub (Eg.Ex.v 0) (Eg.Ex.c (Eg.A.int 2))) (Eg.Ex.c (Eg.A.int 1)))
       (Eg.Ex.cmp (Eg.COp.ge) (Eg.Ex.sub (Eg.Ex.v 0) (Eg.Ex.c (Eg.A.int 3))) (Eg.Ex.c (Eg.A.int 1)))))]
def F3 : Fn := mkFn T3 [false] 2 q3
def g4 : Gc := g3.add "is_effect" 3 [false]
def T4 : Tab := T3.add 3 F3
def d3 : He.DefD := ⟨("is_effect", none), "is_effect", "is_effect", defArgs (top 10), defBody (top 10), defScope (top 10), [], []⟩
theorem t3 : trSL (trS g3 40 20 ⟨N3, defScope (top 10)⟩) (defBody (top 10)) = some q3 := by kernel_rfl
theorem s3 : FnScope N3 P3 (defScope (top 10)) := ⟨by kernel_rfl, by kernel_rfl, by kernel_rfl, by decide +kernel, by kernel_rfl, by decide +kernel, by decide +kernel⟩
theorem n3 : ∀ x ∈ N3, (x == ("__debug__" : Str)) = false ∧ (x == ("__classdict__" : Str)) = false := by decide +kernel
def N4 : List Str := ["one", "other", "least", "add", "by", "top", "least_then", "add_then", "by_then", "top_then"]
def P4 : List Str := ["one", "other"]
open Eg.Ex Eg.St Eg.A in
def q4 : List Eg.St := [Eg.St.asg (Eg.Tg.t [2, 3, 4, 5]) (Eg.Ex.v 0) true,
 Eg.St.asg (Eg.Tg.t [6, 7, 8, 9]) (Eg.Ex.v 1) true,
 Eg.St.ifs (Eg.Ex.cmp (Eg.COp.lt) (Eg.Ex.v 5) (Eg.Ex.v 6)) [Eg.St.ret (Eg.Ex.c (Eg.A.non))] [],
 Eg.St.asg
   (Eg.Tg.n 2)
   (Eg.Ex.bi
     (Eg.Bi.max2)
     [Eg.Ex.v 2, Eg.Ex.bin (Eg.BOp.sub) (Eg.Ex.bin (Eg.BOp.mul) (Eg.Ex.v 6) (Eg.Ex.v 4)) (Eg.Ex.v 3)])
   true,
 Eg.St.ret
   (Eg.Ex.tup
     [Eg.Ex.v 2,
      Eg.Ex.bin (Eg.BOp.add) (Eg.Ex.v 3) (Eg.Ex.bin (Eg.BOp.mul) (Eg.Ex.v 7) (Eg.Ex.v 4)),
      Eg.Ex.bin (Eg.BOp.mul) (Eg.Ex.v 4) (Eg.Ex.v 8),
      Eg.Ex.bi
        (Eg.Bi.min2)
        [Eg.Ex.v 9, Eg.Ex.bin (Eg.BOp.fdiv) (Eg.Ex.bin (Eg.BOp.add) (Eg.Ex.v 5) (Eg.Ex.v 7)) (Eg.Ex.v 8)]])]
def F4 : Fn := mkFn T4 [false, false] 10 q4
def g5 : Gc := g4.add "join_two" 4 [false, false]
def T5 : Tab := T4.add 4 F4
def d4 : He.DefD := ⟨("join_two", none), "join_two", "join_two", defArgs (top 11), defBody (top 11), defScope (top 11), [], []⟩
theorem t4 : trSL (trS g4 40 20 ⟨N4, defScope (top 11)⟩) (defBody (top 11)) = some q4 := by kernel_rfl
theorem s4 : FnScope N4 P4 (defScope (top 11)) := ⟨by kernel_rfl, by kernel_rfl, by kernel_rfl, by decide +kernel, by kernel_rfl, by decide +kernel, by decide +kernel⟩
theorem n4 : ∀ x ∈ N4, (x == ("__debug__" : Str)) = false ∧ (x == ("__classdict__" : Str)) = false := by decide +kernel
def N5 : List Str := ["effect", "strength", "least", "add", "by", "top"]
def P5 : List Str := ["effect", "strength"]
open Eg.Ex Eg.St Eg.A in
def q5 : List Eg.St := [Eg.St.ifs
   (Eg.Ex.or
     (Eg.Ex.cmp (Eg.COp.isN) (Eg.Ex.v 0) (Eg.Ex.c (Eg.A.non)))
     (Eg.Ex.cmp (Eg.COp.lt) (Eg.Ex.v 1) (Eg.Ex.sub (Eg.Ex.v 0) (Eg.Ex.c (Eg.A.int 0)))))
   [Eg.St.ret (Eg.Ex.c (Eg.A.int 0))]
   [],
 Eg.St.asg (Eg.Tg.t [2, 3, 4, 5]) (Eg.Ex.v 0) true,
 Eg.St.ret
   (Eg.Ex.bi
     (Eg.Bi.min2)
     [Eg.Ex.v 5, Eg.Ex.bin (Eg.BOp.fdiv) (Eg.Ex.bin (Eg.BOp.add) (Eg.Ex.v 1) (Eg.Ex.v 3)) (Eg.Ex.v 4)])]
def F5 : Fn := mkFn T5 [false, false] 6 q5
def g6 : Gc := g5.add "through" 5 [false, false]
def T6 : Tab := T5.add 5 F5
def d5 : He.DefD := ⟨("through", none), "through", "through", defArgs (top 12), defBody (top 12), defScope (top 12), [], []⟩
theorem t5 : trSL (trS g5 40 20 ⟨N5, defScope (top 12)⟩) (defBody (top 12)) = some q5 := by kernel_rfl
theorem s5 : FnScope N5 P5 (defScope (top 12)) := ⟨by kernel_rfl, by kernel_rfl, by kernel_rfl, by decide +kernel, by kernel_rfl, by decide +kernel, by decide +kernel⟩
theorem n5 : ∀ x ∈ N5, (x == ("__debug__" : Str)) = false ∧ (x == ("__classdict__" : Str)) = false := by decide +kernel
def N6 : List Str := ["one", "other"]
def P6 : List Str := ["one", "other"]
open Eg.Ex Eg.St Eg.A in
def q6 : List Eg.St := [Eg.St.ifs (Eg.Ex.not (Eg.Ex.call 3 [Eg.Ex.v 0])) [Eg.St.rai 0 []] [],
 Eg.St.ifs (Eg.Ex.not (Eg.Ex.call 3 [Eg.Ex.v 1])) [Eg.St.rai 0 []] [],
 Eg.St.ret (Eg.Ex.call 4 [Eg.Ex.v 0, Eg.Ex.v 1])]
def F6 : Fn := mkFn T6 [false, false] 2 q6
def g7 : Gc := g6.add "joined" 6 [false, false]
def T7 : Tab := T6.add 6 F6
def d6 : He.DefD := ⟨("joined", none), "joined", "joined", defArgs (top 13), defBody (top 13), defScope (top 13), [], []⟩
theorem t6 : trSL (trS g6 40 20 ⟨N6, defScope (top 13)⟩) (defBody (top 13)) = some q6 := by kernel_rfl
theorem s6 : FnScope N6 P6 (defScope (top 13)) := ⟨by kernel_rfl, by kernel_rfl, by kernel_rfl, by decide +kernel, by kernel_rfl, by decide +kernel, by decide +kernel⟩
theorem n6 : ∀ x ∈ N6, (x == ("__debug__" : Str)) = false ∧ (x == ("__classdict__" : Str)) = false := by decide +kernel
def N7 : List Str := ["effect", "strength"]
def P7 : List Str := ["effect", "strength"]
open Eg.Ex Eg.St Eg.A in
def q7 : List Eg.St := [Eg.St.ifs
   (Eg.Ex.and (Eg.Ex.cmp (Eg.COp.notN) (Eg.Ex.v 0) (Eg.Ex.c (Eg.A.non))) (Eg.Ex.not (Eg.Ex.call 3 [Eg.Ex.v 0])))
   [Eg.St.rai 0 []]
   [],
 Eg.St.ifs
   (Eg.Ex.and
     (Eg.Ex.not (Eg.Ex.call 2 [Eg.Ex.v 1]))
     (Eg.Ex.not (Eg.Ex.and (Eg.Ex.call 0 [Eg.Ex.v 1]) (Eg.Ex.cmp (Eg.COp.eq) (Eg.Ex.v 1) (Eg.Ex.c (Eg.A.int 0))))))
   [Eg.St.rai 0 []]
   [],
 Eg.St.ifs (Eg.Ex.cmp (Eg.COp.eq) (Eg.Ex.v 1) (Eg.Ex.c (Eg.A.int 0))) [Eg.St.ret (Eg.Ex.c (Eg.A.int 0))] [],
 Eg.St.ret (Eg.Ex.call 5 [Eg.Ex.v 0, Eg.Ex.v 1])]
def F7 : Fn := mkFn T7 [false, false] 2 q7
def g8 : Gc := g7.add "passed" 7 [false, false]
def T8 : Tab := T7.add 7 F7
def d7 : He.DefD := ⟨("passed", none), "passed", "passed", defArgs (top 14), defBody (top 14), defScope (top 14), [], []⟩
theorem t7 : trSL (trS g7 40 20 ⟨N7, defScope (top 14)⟩) (defBody (top 14)) = some q7 := by kernel_rfl
theorem s7 : FnScope N7 P7 (defScope (top 14)) := ⟨by kernel_rfl, by kernel_rfl, by kernel_rfl, by decide +kernel, by kernel_rfl, by decide +kernel, by decide +kernel⟩
theorem n7 : ∀ x ∈ N7, (x == ("__debug__" : Str)) = false ∧ (x == ("__classdict__" : Str)) = false := by decide +kernel
def N8 : List Str := ["_law_script", "_law_cell"]
def P8 : List Str := ["_law_script"]
open Eg.Ex Eg.St Eg.A in
def q8 : List Eg.St := [Eg.St.ret
   (Eg.Ex.lst
     [Eg.Ex.c (Eg.A.int 0),
      Eg.Ex.c (Eg.A.int 1234567891),
      Eg.Ex.c (Eg.A.int 0),
      Eg.Ex.lc
        (Eg.Ex.bi (Eg.Bi.abs) [Eg.Ex.v 1])
        (Eg.Tg.n 1)
        (Eg.ItK.seq)
        [Eg.Ex.slc (Eg.Ex.v 0) (Eg.Ex.c (Eg.A.non)) (Eg.Ex.c (Eg.A.int 63))]
        (Eg.Ex.c (Eg.A.bl true))])]
def F8 : Fn := mkFn T8 [false] 2 q8
def g9 : Gc := g8.add "_law_bag" 8 [false]
def T9 : Tab := T8.add 8 F8
def d8 : He.DefD := ⟨("_law_bag", none), "_law_bag", "_law_bag", defArgs (top 16), defBody (top 16), defScope (top 16), [], []⟩
theorem t8 : trSL (trS g8 40 20 ⟨N8, defScope (top 16)⟩) (defBody (top 16)) = some q8 := by kernel_rfl
theorem s8 : FnScope N8 P8 (defScope (top 16)) := ⟨by kernel_rfl, by kernel_rfl, by kernel_rfl, by decide +kernel, by kernel_rfl, by decide +kernel, by decide +kernel⟩
theorem n8 : ∀ x ∈ N8, (x == ("__debug__" : Str)) = false ∧ (x == ("__classdict__" : Str)) = false := by decide +kernel
def N9 : List Str := ["_law_bag_here", "_law_many", "_law_cell", "_law_value", "_law_first", "_law_second"]
def P9 : List Str := ["_law_bag_here", "_law_many"]
open Eg.Ex Eg.St Eg.A in
def q9 : List Eg.St := [Eg.St.ifs
   (Eg.Ex.cmp (Eg.COp.eq) (Eg.Ex.sub (Eg.Ex.v 0) (Eg.Ex.c (Eg.A.int 0))) (Eg.Ex.c (Eg.A.int 0)))
   [Eg.St.asg (Eg.Tg.n 2) (Eg.Ex.c (Eg.A.int 0)) true,
    Eg.St.ifs
      (Eg.Ex.cmp
        (Eg.COp.lt)
        (Eg.Ex.sub (Eg.Ex.v 0) (Eg.Ex.c (Eg.A.int 2)))
        (Eg.Ex.bi (Eg.Bi.len) [Eg.Ex.sub (Eg.Ex.v 0) (Eg.Ex.c (Eg.A.int 3))]))
      [Eg.St.asg
         (Eg.Tg.n 2)
         (Eg.Ex.sub (Eg.Ex.sub (Eg.Ex.v 0) (Eg.Ex.c (Eg.A.int 3))) (Eg.Ex.sub (Eg.Ex.v 0) (Eg.Ex.c (Eg.A.int 2))))
         true]
      [],
    Eg.St.augI (Eg.Ex.v 0) (Eg.Ex.c (Eg.A.int 2)) (Eg.BOp.add) (Eg.Ex.c (Eg.A.int 1)),
    Eg.St.ifs
      (Eg.Ex.cmp (Eg.COp.ge) (Eg.Ex.v 2) (Eg.Ex.c (Eg.A.int 1000000000000000000)))
      [Eg.St.setI (Eg.Ex.v 0) (Eg.Ex.c (Eg.A.int 0)) (Eg.Ex.v 2)]
      [],
    Eg.St.setI
      (Eg.Ex.v 0)
      (Eg.Ex.c (Eg.A.int 1))
      (Eg.Ex.bin
        (Eg.BOp.mod)
        (Eg.Ex.bin
          (Eg.BOp.add)
          (Eg.Ex.bin
            (Eg.BOp.add)
            (Eg.Ex.bin (Eg.BOp.mul) (Eg.Ex.sub (Eg.Ex.v 0) (Eg.Ex.c (Eg.A.int 1))) (Eg.Ex.c (Eg.A.int 48271)))
            (Eg.Ex.bin (Eg.BOp.mod) (Eg.Ex.v 2) (Eg.Ex.c (Eg.A.int 2147483647))))
          (Eg.Ex.bin (Eg.BOp.mul) (Eg.Ex.c (Eg.A.int 7919)) (Eg.Ex.sub (Eg.Ex.v 0) (Eg.Ex.c (Eg.A.int 2)))))
        (Eg.Ex.c (Eg.A.int 2147483647)))]
   [],
 Eg.St.ifs
   (Eg.Ex.cmp (Eg.COp.gt) (Eg.Ex.sub (Eg.Ex.v 0) (Eg.Ex.c (Eg.A.int 0))) (Eg.Ex.c (Eg.A.int 0)))
   [Eg.St.asg (Eg.Tg.n 3) (Eg.Ex.bin (Eg.BOp.mod) (Eg.Ex.sub (Eg.Ex.v 0) (Eg.Ex.c (Eg.A.int 0))) (Eg.Ex.v 1)) true,
    Eg.St.setI
      (Eg.Ex.v 0)
      (Eg.Ex.c (Eg.A.int 0))
      (Eg.Ex.bin (Eg.BOp.fdiv) (Eg.Ex.sub (Eg.Ex.v 0) (Eg.Ex.c (Eg.A.int 0))) (Eg.Ex.v 1)),
    Eg.St.ret (Eg.Ex.v 3)]
   [],
 Eg.St.asg
   (Eg.Tg.n 4)
   (Eg.Ex.bin
     (Eg.BOp.mod)
     (Eg.Ex.bin
       (Eg.BOp.mul)
       (Eg.Ex.bin (Eg.BOp.add) (Eg.Ex.sub (Eg.Ex.v 0) (Eg.Ex.c (Eg.A.int 1))) (Eg.Ex.c (Eg.A.int 1)))
       (Eg.Ex.c (Eg.A.int 39373)))
     (Eg.Ex.c (Eg.A.int 1000000007)))
   true,
 Eg.St.asg
   (Eg.Tg.n 5)
   (Eg.Ex.bin
     (Eg.BOp.mod)
     (Eg.Ex.bin
       (Eg.BOp.mul)
       (Eg.Ex.bin (Eg.BOp.mod) (Eg.Ex.bin (Eg.BOp.mul) (Eg.Ex.v 4) (Eg.Ex.v 4)) (Eg.Ex.c (Eg.A.int 998244353)))
       (Eg.Ex.c (Eg.A.int 30011)))
     (Eg.Ex.c (Eg.A.int 998244353)))
   true,
 Eg.St.ifs
   (Eg.Ex.cmp (Eg.COp.gt) (Eg.Ex.v 1) (Eg.Ex.c (Eg.A.int 1000000)))
   [Eg.St.ret
      (Eg.Ex.bin
        (Eg.BOp.mod)
        (Eg.Ex.bin (Eg.BOp.add) (Eg.Ex.bin (Eg.BOp.mul) (Eg.Ex.v 5) (Eg.Ex.c (Eg.A.int 1000000007))) (Eg.Ex.v 4))
        (Eg.Ex.v 1))]
   [],
 Eg.St.ret (Eg.Ex.bin (Eg.BOp.mod) (Eg.Ex.bin (Eg.BOp.fdiv) (Eg.Ex.v 5) (Eg.Ex.c (Eg.A.int 7))) (Eg.Ex.v 1))]
def F9 : Fn := mkFn T9 [true, false] 6 q9
def g10 : Gc := g9.add "_law_take" 9 [true, false]
def T10 : Tab := T9.add 9 F9
def d9 : He.DefD := ⟨("_law_take", none), "_law_take", "_law_take", defArgs (top 17), defBody (top 17), defScope (top 17), [], []⟩
theorem t9 : trSL (trS g9 40 20 ⟨N9, defScope (top 17)⟩) (defBody (top 17)) = some q9 := by kernel_rfl
theorem s9 : FnScope N9 P9 (defScope (top 17)) := ⟨by kernel_rfl, by kernel_rfl, by kernel_rfl, by decide +kernel, by kernel_rfl, by decide +kernel, by decide +kernel⟩
theorem n9 : ∀ x ∈ N9, (x == ("__debug__" : Str)) = false ∧ (x == ("__classdict__" : Str)) = false := by decide +kernel
def N10 : List Str := ["_law_found", "_law_due"]
def P10 : List Str := ["_law_found", "_law_due"]
open Eg.Ex Eg.St Eg.A in
def q10 : List Eg.St := [Eg.St.ret
   (Eg.Ex.and
     (Eg.Ex.cmp (Eg.COp.eq) (Eg.Ex.v 0) (Eg.Ex.v 1))
     (Eg.Ex.cmp (Eg.COp.eq) (Eg.Ex.bi (Eg.Bi.repr1) [Eg.Ex.v 0]) (Eg.Ex.bi (Eg.Bi.repr1) [Eg.Ex.v 1])))]
def F10 : Fn := mkFn T10 [false, false] 2 q10
def g11 : Gc := g10.add "_law_alike" 10 [false, false]
def T11 : Tab := T10.add 10 F10
def d10 : He.DefD := ⟨("_law_alike", none), "_law_alike", "_law_alike", defArgs (top 18), defBody (top 18), defScope (top 18), [], []⟩
theorem t10 : trSL (trS g10 40 20 ⟨N10, defScope (top 18)⟩) (defBody (top 18)) = some q10 := by kernel_rfl
theorem s10 : FnScope N10 P10 (defScope (top 18)) := ⟨by kernel_rfl, by kernel_rfl, by kernel_rfl, by decide +kernel, by kernel_rfl, by decide +kernel, by decide +kernel⟩
theorem n10 : ∀ x ∈ N10, (x == ("__debug__" : Str)) = false ∧ (x == ("__classdict__" : Str)) = false := by decide +kernel
def N11 : List Str := ["_law_bag_here", "_law_least", "_law_some"]
def P11 : List Str := ["_law_bag_here", "_law_least"]
open Eg.Ex Eg.St Eg.A in
def q11 : List Eg.St := [Eg.St.asg
   (Eg.Tg.n 2)
   (Eg.Ex.lst
     [Eg.Ex.v 1,
      Eg.Ex.bin (Eg.BOp.add) (Eg.Ex.v 1) (Eg.Ex.c (Eg.A.int 1)),
      Eg.Ex.call 9 [Eg.Ex.v 0, Eg.Ex.c (Eg.A.int 12)],
      Eg.Ex.call 9 [Eg.Ex.v 0, Eg.Ex.bin (Eg.BOp.pow) (Eg.Ex.c (Eg.A.int 10)) (Eg.Ex.c (Eg.A.int 9))],
      Eg.Ex.bin
        (Eg.BOp.pow)
        (Eg.Ex.call 9 [Eg.Ex.v 0, Eg.Ex.bin (Eg.BOp.pow) (Eg.Ex.c (Eg.A.int 10)) (Eg.Ex.c (Eg.A.int 20))])
        (Eg.Ex.c (Eg.A.int 10))])
   true,
 Eg.St.ret (Eg.Ex.bi (Eg.Bi.max2) [Eg.Ex.v 1, Eg.Ex.sub (Eg.Ex.v 2) (Eg.Ex.call 9 [Eg.Ex.v 0, Eg.Ex.c (Eg.A.int 5)])])]
def F11 : Fn := mkFn T11 [true, false] 3 q11
def g12 : Gc := g11.add "_law_number" 11 [true, false]
def T12 : Tab := T11.add 11 F11
def d11 : He.DefD := ⟨("_law_number", none), "_law_number", "_law_number", defArgs (top 19), defBody (top 19), defScope (top 19), [], []⟩
theorem t11 : trSL (trS g11 40 20 ⟨N11, defScope (top 19)⟩) (defBody (top 19)) = some q11 := by kernel_rfl
theorem s11 : FnScope N11 P11 (defScope (top 19)) := ⟨by kernel_rfl, by kernel_rfl, by kernel_rfl, by decide +kernel, by kernel_rfl, by decide +kernel, by decide +kernel⟩
theorem n11 : ∀ x ∈ N11, (x == ("__debug__" : Str)) = false ∧ (x == ("__classdict__" : Str)) = false := by decide +kernel
def N12 : List Str := ["_law_bag_here", "_law_near", "_law_least", "_law_add", "_law_by"]
def P12 : List Str := ["_law_bag_here", "_law_near"]
open Eg.Ex Eg.St Eg.A in
def q12 : List Eg.St := [Eg.St.asg (Eg.Tg.n 2) (Eg.Ex.call 11 [Eg.Ex.v 0, Eg.Ex.c (Eg.A.int 1)]) true,
 Eg.St.ifs
   (Eg.Ex.cmp (Eg.COp.eq) (Eg.Ex.call 9 [Eg.Ex.v 0, Eg.Ex.c (Eg.A.int 2)]) (Eg.Ex.c (Eg.A.int 0)))
   [Eg.St.asg
      (Eg.Tg.n 2)
      (Eg.Ex.bi
        (Eg.Bi.max2)
        [Eg.Ex.c (Eg.A.int 1),
         Eg.Ex.bin
           (Eg.BOp.sub)
           (Eg.Ex.bin (Eg.BOp.add) (Eg.Ex.v 1) (Eg.Ex.call 9 [Eg.Ex.v 0, Eg.Ex.c (Eg.A.int 5)]))
           (Eg.Ex.c (Eg.A.int 3))])
      true]
   [],
 Eg.St.asg
   (Eg.Tg.n 3)
   (Eg.Ex.bin
     (Eg.BOp.mul)
     (Eg.Ex.call 11 [Eg.Ex.v 0, Eg.Ex.c (Eg.A.int 0)])
     (Eg.Ex.sub
       (Eg.Ex.lst [Eg.Ex.c (Eg.A.int 1), Eg.Ex.neg (Eg.Ex.c (Eg.A.int 1))])
       (Eg.Ex.call 9 [Eg.Ex.v 0, Eg.Ex.c (Eg.A.int 2)])))
   true,
 Eg.St.asg
   (Eg.Tg.n 4)
   (Eg.Ex.sub
     (Eg.Ex.lst
       [Eg.Ex.c (Eg.A.int 1),
        Eg.Ex.c (Eg.A.int 1),
        Eg.Ex.bin (Eg.BOp.add) (Eg.Ex.c (Eg.A.int 2)) (Eg.Ex.call 9 [Eg.Ex.v 0, Eg.Ex.c (Eg.A.int 8)]),
        Eg.Ex.call 11 [Eg.Ex.v 0, Eg.Ex.c (Eg.A.int 1)]])
     (Eg.Ex.call 9 [Eg.Ex.v 0, Eg.Ex.c (Eg.A.int 4)]))
   true,
 Eg.St.ret (Eg.Ex.tup [Eg.Ex.v 2, Eg.Ex.v 3, Eg.Ex.v 4, Eg.Ex.call 11 [Eg.Ex.v 0, Eg.Ex.c (Eg.A.int 1)]])]
def F12 : Fn := mkFn T12 [true, false] 5 q12
def g13 : Gc := g12.add "_law_effect" 12 [true, false]
def T13 : Tab := T12.add 12 F12
def d12 : He.DefD := ⟨("_law_effect", none), "_law_effect", "_law_effect", defArgs (top 20), defBody (top 20), defScope (top 20), [], []⟩
theorem t12 : trSL (trS g12 40 20 ⟨N12, defScope (top 20)⟩) (defBody (top 20)) = some q12 := by kernel_rfl
theorem s12 : FnScope N12 P12 (defScope (top 20)) := ⟨by kernel_rfl, by kernel_rfl, by kernel_rfl, by decide +kernel, by kernel_rfl, by decide +kernel, by decide +kernel⟩
theorem n12 : ∀ x ∈ N12, (x == ("__debug__" : Str)) = false ∧ (x == ("__classdict__" : Str)) = false := by decide +kernel
def N13 : List Str := ["_law_one", "_law_other", "_law_least", "_law_top"]
def P13 : List Str := ["_law_one", "_law_other"]
open Eg.Ex Eg.St Eg.A in
def q13 : List Eg.St := [Eg.St.ifs
   (Eg.Ex.cmp (Eg.COp.lt) (Eg.Ex.sub (Eg.Ex.v 0) (Eg.Ex.c (Eg.A.int 3))) (Eg.Ex.sub (Eg.Ex.v 1) (Eg.Ex.c (Eg.A.int 0))))
   [Eg.St.ret (Eg.Ex.c (Eg.A.non))]
   [],
 Eg.St.asg
   (Eg.Tg.n 2)
   (Eg.Ex.bi
     (Eg.Bi.max2)
     [Eg.Ex.sub (Eg.Ex.v 0) (Eg.Ex.c (Eg.A.int 0)),
      Eg.Ex.bin
        (Eg.BOp.sub)
        (Eg.Ex.bin
          (Eg.BOp.mul)
          (Eg.Ex.sub (Eg.Ex.v 1) (Eg.Ex.c (Eg.A.int 0)))
          (Eg.Ex.sub (Eg.Ex.v 0) (Eg.Ex.c (Eg.A.int 2))))
        (Eg.Ex.sub (Eg.Ex.v 0) (Eg.Ex.c (Eg.A.int 1)))])
   true,
 Eg.St.asg
   (Eg.Tg.n 3)
   (Eg.Ex.bi
     (Eg.Bi.min2)
     [Eg.Ex.sub (Eg.Ex.v 1) (Eg.Ex.c (Eg.A.int 3)),
      Eg.Ex.bin
        (Eg.BOp.fdiv)
        (Eg.Ex.bin
          (Eg.BOp.add)
          (Eg.Ex.sub (Eg.Ex.v 0) (Eg.Ex.c (Eg.A.int 3)))
          (Eg.Ex.sub (Eg.Ex.v 1) (Eg.Ex.c (Eg.A.int 1))))
        (Eg.Ex.sub (Eg.Ex.v 1) (Eg.Ex.c (Eg.A.int 2)))])
   true,
 Eg.St.ret
   (Eg.Ex.tup
     [Eg.Ex.v 2,
      Eg.Ex.bin
        (Eg.BOp.add)
        (Eg.Ex.sub (Eg.Ex.v 0) (Eg.Ex.c (Eg.A.int 1)))
        (Eg.Ex.bin
          (Eg.BOp.mul)
          (Eg.Ex.sub (Eg.Ex.v 1) (Eg.Ex.c (Eg.A.int 1)))
          (Eg.Ex.sub (Eg.Ex.v 0) (Eg.Ex.c (Eg.A.int 2)))),
      Eg.Ex.bin
        (Eg.BOp.mul)
        (Eg.Ex.sub (Eg.Ex.v 0) (Eg.Ex.c (Eg.A.int 2)))
        (Eg.Ex.sub (Eg.Ex.v 1) (Eg.Ex.c (Eg.A.int 2))),
      Eg.Ex.v 3])]
def F13 : Fn := mkFn T13 [false, false] 4 q13
def g14 : Gc := g13.add "_law_joined" 13 [false, false]
def T14 : Tab := T13.add 13 F13
def d13 : He.DefD := ⟨("_law_joined", none), "_law_joined", "_law_joined", defArgs (top 21), defBody (top 21), defScope (top 21), [], []⟩
theorem t13 : trSL (trS g13 40 20 ⟨N13, defScope (top 21)⟩) (defBody (top 21)) = some q13 := by kernel_rfl
theorem s13 : FnScope N13 P13 (defScope (top 21)) := ⟨by kernel_rfl, by kernel_rfl, by kernel_rfl, by decide +kernel, by kernel_rfl, by decide +kernel, by decide +kernel⟩
theorem n13 : ∀ x ∈ N13, (x == ("__debug__" : Str)) = false ∧ (x == ("__classdict__" : Str)) = false := by decide +kernel
def N14 : List Str := ["_law_effect_here", "_law_strength"]
def P14 : List Str := ["_law_effect_here", "_law_strength"]
open Eg.Ex Eg.St Eg.A in
def q14 : List Eg.St := [Eg.St.ifs
   (Eg.Ex.or
     (Eg.Ex.cmp (Eg.COp.isN) (Eg.Ex.v 0) (Eg.Ex.c (Eg.A.non)))
     (Eg.Ex.cmp (Eg.COp.lt) (Eg.Ex.v 1) (Eg.Ex.sub (Eg.Ex.v 0) (Eg.Ex.c (Eg.A.int 0)))))
   [Eg.St.ret (Eg.Ex.c (Eg.A.int 0))]
   [],
 Eg.St.ret
   (Eg.Ex.bi
     (Eg.Bi.min2)
     [Eg.Ex.sub (Eg.Ex.v 0) (Eg.Ex.c (Eg.A.int 3)),
      Eg.Ex.bin
        (Eg.BOp.fdiv)
        (Eg.Ex.bin (Eg.BOp.add) (Eg.Ex.v 1) (Eg.Ex.sub (Eg.Ex.v 0) (Eg.Ex.c (Eg.A.int 1))))
        (Eg.Ex.sub (Eg.Ex.v 0) (Eg.Ex.c (Eg.A.int 2)))])]
def F14 : Fn := mkFn T14 [false, false] 2 q14
def g15 : Gc := g14.add "_law_passed" 14 [false, false]
def T15 : Tab := T14.add 14 F14
def d14 : He.DefD := ⟨("_law_passed", none), "_law_passed", "_law_passed", defArgs (top 22), defBody (top 22), defScope (top 22), [], []⟩
theorem t14 : trSL (trS g14 40 20 ⟨N14, defScope (top 22)⟩) (defBody (top 22)) = some q14 := by kernel_rfl
theorem s14 : FnScope N14 P14 (defScope (top 22)) := ⟨by kernel_rfl, by kernel_rfl, by kernel_rfl, by decide +kernel, by kernel_rfl, by decide +kernel, by decide +kernel⟩
theorem n14 : ∀ x ∈ N14, (x == ("__debug__" : Str)) = false ∧ (x == ("__classdict__" : Str)) = false := by decide +kernel
def N15 : List Str := ["_law_bag_here", "_law_one", "_law_other", "_law_both", "_law_some", "_law_strength", "_law_number_here"]
def P15 : List Str := ["_law_bag_here", "_law_one", "_law_other"]
open Eg.Ex Eg.St Eg.A in
def q15 : List Eg.St := [Eg.St.asg (Eg.Tg.n 3) (Eg.Ex.call 6 [Eg.Ex.v 1, Eg.Ex.v 2]) true,
 Eg.St.ifs
   (Eg.Ex.not (Eg.Ex.call 10 [Eg.Ex.v 3, Eg.Ex.call 13 [Eg.Ex.v 1, Eg.Ex.v 2]]))
   [Eg.St.ret (Eg.Ex.c (Eg.A.bl false))]
   [],
 Eg.St.asg
   (Eg.Tg.n 4)
   (Eg.Ex.lst
     [Eg.Ex.c (Eg.A.int 0),
      Eg.Ex.c (Eg.A.int 1),
      Eg.Ex.bin
        (Eg.BOp.add)
        (Eg.Ex.call 9 [Eg.Ex.v 0, Eg.Ex.bin (Eg.BOp.pow) (Eg.Ex.c (Eg.A.int 10)) (Eg.Ex.c (Eg.A.int 9))])
        (Eg.Ex.c (Eg.A.int 1)),
      Eg.Ex.bin (Eg.BOp.pow) (Eg.Ex.c (Eg.A.int 10)) (Eg.Ex.c (Eg.A.int 9))])
   true,
 Eg.St.ifs
   (Eg.Ex.cmp (Eg.COp.notN) (Eg.Ex.v 3) (Eg.Ex.c (Eg.A.non)))
   [Eg.St.asg
      (Eg.Tg.n 4)
      (Eg.Ex.bin
        (Eg.BOp.add)
        (Eg.Ex.v 4)
        (Eg.Ex.lst
          [Eg.Ex.bin (Eg.BOp.sub) (Eg.Ex.sub (Eg.Ex.v 3) (Eg.Ex.c (Eg.A.int 0))) (Eg.Ex.c (Eg.A.int 1)),
           Eg.Ex.sub (Eg.Ex.v 3) (Eg.Ex.c (Eg.A.int 0)),
           Eg.Ex.bin (Eg.BOp.add) (Eg.Ex.sub (Eg.Ex.v 3) (Eg.Ex.c (Eg.A.int 0))) (Eg.Ex.c (Eg.A.int 1))]))
      true]
   [],
 Eg.St.for_
   (Eg.Tg.n 5)
   (Eg.ItK.seq)
   [Eg.Ex.lc
      (Eg.Ex.v 6)
      (Eg.Tg.n 6)
      (Eg.ItK.seq)
      [Eg.Ex.v 4]
      (Eg.Ex.cmp2
        (Eg.COp.le)
        (Eg.COp.le)
        (Eg.Ex.c (Eg.A.int 0))
        (Eg.Ex.v 6)
        (Eg.Ex.bin (Eg.BOp.pow) (Eg.Ex.c (Eg.A.int 10)) (Eg.Ex.c (Eg.A.int 9))))]
   [Eg.St.ifs
      (Eg.Ex.not
        (Eg.Ex.call
          10
          [Eg.Ex.call 7 [Eg.Ex.v 1, Eg.Ex.v 5],
           Eg.Ex.bin
             (Eg.BOp.mul)
             (Eg.Ex.call 14 [Eg.Ex.v 1, Eg.Ex.v 5])
             (Eg.Ex.bi (Eg.Bi.int1) [Eg.Ex.cmp (Eg.COp.gt) (Eg.Ex.v 5) (Eg.Ex.c (Eg.A.int 0))])]))
      [Eg.St.ret (Eg.Ex.c (Eg.A.bl false))]
      [],
    Eg.St.ifs
      (Eg.Ex.and
        (Eg.Ex.cmp (Eg.COp.notN) (Eg.Ex.v 3) (Eg.Ex.c (Eg.A.non)))
        (Eg.Ex.cmp (Eg.COp.lt) (Eg.Ex.sub (Eg.Ex.v 3) (Eg.Ex.c (Eg.A.int 3))) (Eg.Ex.c (Eg.A.int 1))))
      [Eg.St.cnt]
      [],
    Eg.St.ifs
      (Eg.Ex.not
        (Eg.Ex.call
          10
          [Eg.Ex.call 7 [Eg.Ex.v 3, Eg.Ex.v 5],
           Eg.Ex.bin
             (Eg.BOp.mul)
             (Eg.Ex.call 14 [Eg.Ex.v 3, Eg.Ex.v 5])
             (Eg.Ex.bi (Eg.Bi.int1) [Eg.Ex.cmp (Eg.COp.gt) (Eg.Ex.v 5) (Eg.Ex.c (Eg.A.int 0))])]))
      [Eg.St.ret (Eg.Ex.c (Eg.A.bl false))]
      [],
    Eg.St.ifs
      (Eg.Ex.cmp (Eg.COp.ne) (Eg.Ex.call 7 [Eg.Ex.c (Eg.A.non), Eg.Ex.v 5]) (Eg.Ex.c (Eg.A.int 0)))
      [Eg.St.ret (Eg.Ex.c (Eg.A.bl false))]
      []],
 Eg.St.ret (Eg.Ex.c (Eg.A.bl true))]
def F15 : Fn := mkFn T15 [true, false, false] 7 q15
def g16 : Gc := g15.add "_law_two_right" 15 [true, false, false]
def T16 : Tab := T15.add 15 F15
def d15 : He.DefD := ⟨("_law_two_right", none), "_law_two_right", "_law_two_right", defArgs (top 23), defBody (top 23), defScope (top 23), [], []⟩
theorem t15 : trSL (trS g15 40 20 ⟨N15, defScope (top 23)⟩) (defBody (top 23)) = some q15 := by kernel_rfl
theorem s15 : FnScope N15 P15 (defScope (top 23)) := ⟨by kernel_rfl, by kernel_rfl, by kernel_rfl, by decide +kernel, by kernel_rfl, by decide +kernel, by decide +kernel⟩
theorem n15 : ∀ x ∈ N15, (x == ("__debug__" : Str)) = false ∧ (x == ("__classdict__" : Str)) = false := by decide +kernel
def N16 : List Str := ["_law_bag_here", "_law_top", "_law_by", "_law_add"]
def P16 : List Str := ["_law_bag_here"]
open Eg.Ex Eg.St Eg.A in
def q16 : List Eg.St := [Eg.St.asg
   (Eg.Tg.n 1)
   (Eg.Ex.bin (Eg.BOp.add) (Eg.Ex.c (Eg.A.int 1)) (Eg.Ex.call 9 [Eg.Ex.v 0, Eg.Ex.c (Eg.A.int 60)]))
   true,
 Eg.St.asg
   (Eg.Tg.n 2)
   (Eg.Ex.bin (Eg.BOp.add) (Eg.Ex.c (Eg.A.int 1)) (Eg.Ex.call 9 [Eg.Ex.v 0, Eg.Ex.c (Eg.A.int 3)]))
   true,
 Eg.St.asg
   (Eg.Tg.n 3)
   (Eg.Ex.bin (Eg.BOp.sub) (Eg.Ex.call 9 [Eg.Ex.v 0, Eg.Ex.c (Eg.A.int 30)]) (Eg.Ex.c (Eg.A.int 15)))
   true,
 Eg.St.ret
   (Eg.Ex.tup
     [Eg.Ex.bi (Eg.Bi.max2) [Eg.Ex.c (Eg.A.int 1), Eg.Ex.bin (Eg.BOp.sub) (Eg.Ex.v 2) (Eg.Ex.v 3)],
      Eg.Ex.v 3,
      Eg.Ex.v 2,
      Eg.Ex.bi
        (Eg.Bi.min2)
        [Eg.Ex.v 1,
         Eg.Ex.bi
           (Eg.Bi.max2)
           [Eg.Ex.c (Eg.A.int 1),
            Eg.Ex.bin (Eg.BOp.fdiv) (Eg.Ex.bin (Eg.BOp.add) (Eg.Ex.c (Eg.A.int 60)) (Eg.Ex.v 3)) (Eg.Ex.v 2)]]])]
def F16 : Fn := mkFn T16 [true] 4 q16
def g17 : Gc := g16.add "_law_plain" 16 [true]
def T17 : Tab := T16.add 16 F16
def d16 : He.DefD := ⟨("_law_plain", none), "_law_plain", "_law_plain", defArgs (top 24), defBody (top 24), defScope (top 24), [], []⟩
theorem t16 : trSL (trS g16 40 20 ⟨N16, defScope (top 24)⟩) (defBody (top 24)) = some q16 := by kernel_rfl
theorem s16 : FnScope N16 P16 (defScope (top 24)) := ⟨by kernel_rfl, by kernel_rfl, by kernel_rfl, by decide +kernel, by kernel_rfl, by decide +kernel, by decide +kernel⟩
theorem n16 : ∀ x ∈ N16, (x == ("__debug__" : Str)) = false ∧ (x == ("__classdict__" : Str)) = false := by decide +kernel
def N17 : List Str := ["_law_bag_here", "_law_one", "_law_two", "_law_three", "_law_k", "_law_both", "_law_rest", "_law_strength"]
def P17 : List Str := ["_law_bag_here"]
open Eg.Ex Eg.St Eg.A in
def q17 : List Eg.St := [Eg.St.asg
   (Eg.Tg.t [1, 2, 3])
   (Eg.Ex.lc (Eg.Ex.call 16 [Eg.Ex.v 0]) (Eg.Tg.n 4) (Eg.ItK.r1) [Eg.Ex.c (Eg.A.int 3)] (Eg.Ex.c (Eg.A.bl true)))
   true,
 Eg.St.asg (Eg.Tg.n 5) (Eg.Ex.call 6 [Eg.Ex.v 1, Eg.Ex.v 2]) true,
 Eg.St.asg (Eg.Tg.n 6) (Eg.Ex.call 6 [Eg.Ex.v 2, Eg.Ex.v 3]) true,
 Eg.St.for_
   (Eg.Tg.n 7)
   (Eg.ItK.r1)
   [Eg.Ex.c (Eg.A.int 61)]
   [Eg.St.ifs
      (Eg.Ex.cmp
        (Eg.COp.ne)
        (Eg.Ex.call 7 [Eg.Ex.v 2, Eg.Ex.call 7 [Eg.Ex.v 1, Eg.Ex.v 7]])
        (Eg.Ex.call 7 [Eg.Ex.v 5, Eg.Ex.v 7]))
      [Eg.St.ret (Eg.Ex.c (Eg.A.bl false))]
      []],
 Eg.St.ifs
   (Eg.Ex.or
     (Eg.Ex.cmp (Eg.COp.isN) (Eg.Ex.v 5) (Eg.Ex.c (Eg.A.non)))
     (Eg.Ex.cmp (Eg.COp.isN) (Eg.Ex.v 6) (Eg.Ex.c (Eg.A.non))))
   [Eg.St.ret
      (Eg.Ex.or
        (Eg.Ex.cmp (Eg.COp.notN) (Eg.Ex.v 5) (Eg.Ex.c (Eg.A.non)))
        (Eg.Ex.or
          (Eg.Ex.cmp (Eg.COp.notN) (Eg.Ex.v 6) (Eg.Ex.c (Eg.A.non)))
          (Eg.Ex.cmp
            (Eg.COp.eq)
            (Eg.Ex.call 7 [Eg.Ex.v 3, Eg.Ex.call 7 [Eg.Ex.v 2, Eg.Ex.call 7 [Eg.Ex.v 1, Eg.Ex.c (Eg.A.int 60)]]])
            (Eg.Ex.c (Eg.A.int 0)))))]
   [],
 Eg.St.ret (Eg.Ex.call 10 [Eg.Ex.call 6 [Eg.Ex.v 5, Eg.Ex.v 3], Eg.Ex.call 6 [Eg.Ex.v 1, Eg.Ex.v 6]])]
def F17 : Fn := mkFn T17 [true] 8 q17
def g18 : Gc := g17.add "_law_chain_right" 17 [true]
def T18 : Tab := T17.add 17 F17
def d17 : He.DefD := ⟨("_law_chain_right", none), "_law_chain_right", "_law_chain_right", defArgs (top 25), defBody (top 25), defScope (top 25), [], []⟩
theorem t17 : trSL (trS g17 40 20 ⟨N17, defScope (top 25)⟩) (defBody (top 25)) = some q17 := by kernel_rfl
theorem s17 : FnScope N17 P17 (defScope (top 25)) := ⟨by kernel_rfl, by kernel_rfl, by kernel_rfl, by decide +kernel, by kernel_rfl, by decide +kernel, by decide +kernel⟩
theorem n17 : ∀ x ∈ N17, (x == ("__debug__" : Str)) = false ∧ (x == ("__classdict__" : Str)) = false := by decide +kernel
def N18 : List Str := ["_law_bag_here", "_law_some", "_law_k", "_law_one", "_law_other", "_law_strength"]
def P18 : List Str := ["_law_bag_here"]
open Eg.Ex Eg.St Eg.A in
def q18 : List Eg.St := [Eg.St.asg
   (Eg.Tg.n 1)
   (Eg.Ex.lc
     (Eg.Ex.bin
       (Eg.BOp.add)
       (Eg.Ex.c (Eg.A.int 1))
       (Eg.Ex.bin
         (Eg.BOp.pow)
         (Eg.Ex.call 9 [Eg.Ex.v 0, Eg.Ex.bin (Eg.BOp.pow) (Eg.Ex.c (Eg.A.int 10)) (Eg.Ex.c (Eg.A.int 20))])
         (Eg.Ex.c (Eg.A.int 20))))
     (Eg.Tg.n 2)
     (Eg.ItK.r1)
     [Eg.Ex.c (Eg.A.int 6)]
     (Eg.Ex.c (Eg.A.bl true)))
   true,
 Eg.St.par
   [3, 4]
   [Eg.Ex.tup
      [Eg.Ex.c (Eg.A.int 1),
       Eg.Ex.sub (Eg.Ex.v 1) (Eg.Ex.c (Eg.A.int 0)),
       Eg.Ex.sub (Eg.Ex.v 1) (Eg.Ex.c (Eg.A.int 1)),
       Eg.Ex.sub (Eg.Ex.v 1) (Eg.Ex.c (Eg.A.int 2))],
    Eg.Ex.tup
      [Eg.Ex.c (Eg.A.int 1),
       Eg.Ex.bin (Eg.BOp.sub) (Eg.Ex.c (Eg.A.int 0)) (Eg.Ex.sub (Eg.Ex.v 1) (Eg.Ex.c (Eg.A.int 3))),
       Eg.Ex.sub (Eg.Ex.v 1) (Eg.Ex.c (Eg.A.int 4)),
       Eg.Ex.sub (Eg.Ex.v 1) (Eg.Ex.c (Eg.A.int 5))]],
 Eg.St.ifs
   (Eg.Ex.not (Eg.Ex.call 10 [Eg.Ex.call 6 [Eg.Ex.v 3, Eg.Ex.v 4], Eg.Ex.call 13 [Eg.Ex.v 3, Eg.Ex.v 4]]))
   [Eg.St.ret (Eg.Ex.c (Eg.A.bl false))]
   [],
 Eg.St.asg
   (Eg.Tg.n 5)
   (Eg.Ex.bin
     (Eg.BOp.add)
     (Eg.Ex.c (Eg.A.int 1))
     (Eg.Ex.call 9 [Eg.Ex.v 0, Eg.Ex.bin (Eg.BOp.pow) (Eg.Ex.c (Eg.A.int 10)) (Eg.Ex.c (Eg.A.int 9))]))
   true,
 Eg.St.ret (Eg.Ex.call 10 [Eg.Ex.call 7 [Eg.Ex.v 3, Eg.Ex.v 5], Eg.Ex.call 14 [Eg.Ex.v 3, Eg.Ex.v 5]])]
def F18 : Fn := mkFn T18 [true] 6 q18
def g19 : Gc := g18.add "_law_great_right" 18 [true]
def T19 : Tab := T18.add 18 F18
def d18 : He.DefD := ⟨("_law_great_right", none), "_law_great_right", "_law_great_right", defArgs (top 26), defBody (top 26), defScope (top 26), [], []⟩
theorem t18 : trSL (trS g18 40 20 ⟨N18, defScope (top 26)⟩) (defBody (top 26)) = some q18 := by kernel_rfl
theorem s18 : FnScope N18 P18 (defScope (top 26)) := ⟨by kernel_rfl, by kernel_rfl, by kernel_rfl, by decide +kernel, by kernel_rfl, by decide +kernel, by decide +kernel⟩
theorem n18 : ∀ x ∈ N18, (x == ("__debug__" : Str)) = false ∧ (x == ("__classdict__" : Str)) = false := by decide +kernel
def N19 : List Str := ["_law_script", "_law_bag_here", "_law_turn", "_law_one", "_law_other"]
def P19 : List Str := ["_law_script"]
open Eg.Ex Eg.St Eg.A in
def q19 : List Eg.St := [Eg.St.asg (Eg.Tg.n 1) (Eg.Ex.call 8 [Eg.Ex.v 0]) true,
 Eg.St.for_
   (Eg.Tg.n 2)
   (Eg.ItK.r1)
   [Eg.Ex.c (Eg.A.int 8)]
   [Eg.St.asg (Eg.Tg.n 3) (Eg.Ex.call 12 [Eg.Ex.v 1, Eg.Ex.c (Eg.A.int 1)]) true,
    Eg.St.asg (Eg.Tg.n 4) (Eg.Ex.call 12 [Eg.Ex.v 1, Eg.Ex.sub (Eg.Ex.v 3) (Eg.Ex.c (Eg.A.int 3))]) true,
    Eg.St.ifs
      (Eg.Ex.or (Eg.Ex.not (Eg.Ex.call 15 [Eg.Ex.v 1, Eg.Ex.v 3, Eg.Ex.v 4])) (Eg.Ex.not (Eg.Ex.call 17 [Eg.Ex.v 1])))
      [Eg.St.ret (Eg.Ex.c (Eg.A.bl false))]
      []],
 Eg.St.ret (Eg.Ex.call 18 [Eg.Ex.v 1])]
def F19 : Fn := mkFn T19 [false] 5 q19
def g20 : Gc := g19.add "law" 19 [false]
def T20 : Tab := T19.add 19 F19
def d19 : He.DefD := ⟨("law", none), "law", "law", defArgs (top 27), defBody (top 27), defScope (top 27), [], []⟩
theorem t19 : trSL (trS g19 40 20 ⟨N19, defScope (top 27)⟩) (defBody (top 27)) = some q19 := by kernel_rfl
theorem s19 : FnScope N19 P19 (defScope (top 27)) := ⟨by kernel_rfl, by kernel_rfl, by kernel_rfl, by decide +kernel, by kernel_rfl, by decide +kernel, by decide +kernel⟩
theorem n19 : ∀ x ∈ N19, (x == ("__debug__" : Str)) = false ∧ (x == ("__classdict__" : Str)) = false := by decide +kernel
def fn : List He.DefD := [d0, d1, d2, d3, d4, d5, d6, d7, d8, d9, d10, d11, d12, d13, d14, d15, d16, d17, d18, d19]
def fa : List He.Fa := [.glo "is_whole", .glo "is_within", .glo "is_strength", .glo "is_effect", .glo "join_two", .glo "through", .glo "joined", .glo "passed", .glo "_law_bag", .glo "_law_take", .glo "_law_alike", .glo "_law_number", .glo "_law_effect", .glo "_law_joined", .glo "_law_passed", .glo "_law_two_right", .glo "_law_plain", .glo "_law_chain_right", .glo "_law_great_right", .glo "law", .free "abs", .free "min", .free "max", .free "int", .free "repr", .free "list", .free "tuple", .free "all", .free "any", .free "sum", .free "str", .free "bool", .free "dict", .free "len", .free "isinstance", .free "range", .int "MOST_STRENGTH" (1000000000), .int "GREAT" (10000000000000000000000000000000000000000000000000000000000000000000000000000000000000000000000000000000000000000000000000000000000000000000000000000000000000000000000000000000000000000000000000000000000000000000000000000000000000000000000000000000000000000000000000000000000000000000000000000000000000000000000000000000000000000000000000000000000000000000000000000000000000000000000000000000000000000)]
def ex (K : PySem.W.Frag) : Bool := decide (PySem.W.nsIn K cStatics "sys.int_max_str_digits" = some none)
abbrev hk : PySem.W.Hook := hookM 4 fa fn ex
def ob (s : PySem.W.SharedT) : He.AlD × Bool := obsM 4 fa fn ex (HandSHeadRun.getT s)
theorem ob_eq (s : PySem.W.SharedT) : ob s = hk.obs s.abs := obsM_eq (HandSHeadRun.getT_eq s)
def loose : List Str := ["WaneError", "Wrong", "is_whole", "is_within", "is_strength", "is_effect", "join_two", "through", "joined", "passed", "_law_bag", "_law_take", "_law_alike", "_law_number", "_law_effect", "_law_joined", "_law_passed", "_law_two_right", "_law_plain", "_law_chain_right", "_law_great_right", "MOST_STRENGTH", "GREAT"]
theorem run (w : World) : HandSHeadRun.RunEq R (PySem.W.view R.prog [27]) hk ob 6000 loose w := by
  intro os
  kernel_rfl
theorem facts {P : Program} {w : World} {K : PySem.W.Frag} {h : Heap} {mg : Str → Option Value} {f : Addr} (X : K.In h) (G : h.Ns mainGlobals mg) (hfa : mg ("law" : Str) = some (.ref f)) (c : He.SaysD fa fn K) (hd : PySem.W.nsIn K cStatics "sys.int_max_str_digits" = some none) :
    ∃ fd : FuncData, (∀ (s : Shared) (v : Value), BindsTo s fd ⟨[v], []⟩ [("_law_script", v)]) ∧ ∀ base : Heap, K.In base → base.Ns mainGlobals mg → GOk P w K mg base 20 f fd P19 (spF (mkD0 K hd) F19) := by
  obtain ⟨fd0, E0⟩ := c.def_ 0 (d := d0) rfl
  have m0 := He.glo_ok X G (c.fact 0 (f := .glo "is_whole") rfl)
  obtain ⟨fd1, E1⟩ := c.def_ 1 (d := d1) rfl
  have m1 := He.glo_ok X G (c.fact 1 (f := .glo "is_within") rfl)
  obtain ⟨fd2, E2⟩ := c.def_ 2 (d := d2) rfl
  have m2 := He.glo_ok X G (c.fact 2 (f := .glo "is_strength") rfl)
  obtain ⟨fd3, E3⟩ := c.def_ 3 (d := d3) rfl
  have m3 := He.glo_ok X G (c.fact 3 (f := .glo "is_effect") rfl)
  obtain ⟨fd4, E4⟩ := c.def_ 4 (d := d4) rfl
  have m4 := He.glo_ok X G (c.fact 4 (f := .glo "join_two") rfl)
  obtain ⟨fd5, E5⟩ := c.def_ 5 (d := d5) rfl
  have m5 := He.glo_ok X G (c.fact 5 (f := .glo "through") rfl)
  obtain ⟨fd6, E6⟩ := c.def_ 6 (d := d6) rfl
  have m6 := He.glo_ok X G (c.fact 6 (f := .glo "joined") rfl)
  obtain ⟨fd7, E7⟩ := c.def_ 7 (d := d7) rfl
  have m7 := He.glo_ok X G (c.fact 7 (f := .glo "passed") rfl)
  obtain ⟨fd8, E8⟩ := c.def_ 8 (d := d8) rfl
  have m8 := He.glo_ok X G (c.fact 8 (f := .glo "_law_bag") rfl)
  obtain ⟨fd9, E9⟩ := c.def_ 9 (d := d9) rfl
  have m9 := He.glo_ok X G (c.fact 9 (f := .glo "_law_take") rfl)
  obtain ⟨fd10, E10⟩ := c.def_ 10 (d := d10) rfl
  have m10 := He.glo_ok X G (c.fact 10 (f := .glo "_law_alike") rfl)
  obtain ⟨fd11, E11⟩ := c.def_ 11 (d := d11) rfl
  have m11 := He.glo_ok X G (c.fact 11 (f := .glo "_law_number") rfl)
  obtain ⟨fd12, E12⟩ := c.def_ 12 (d := d12) rfl
  have m12 := He.glo_ok X G (c.fact 12 (f := .glo "_law_effect") rfl)
  obtain ⟨fd13, E13⟩ := c.def_ 13 (d := d13) rfl
  have m13 := He.glo_ok X G (c.fact 13 (f := .glo "_law_joined") rfl)
  obtain ⟨fd14, E14⟩ := c.def_ 14 (d := d14) rfl
  have m14 := He.glo_ok X G (c.fact 14 (f := .glo "_law_passed") rfl)
  obtain ⟨fd15, E15⟩ := c.def_ 15 (d := d15) rfl
  have m15 := He.glo_ok X G (c.fact 15 (f := .glo "_law_two_right") rfl)
  obtain ⟨fd16, E16⟩ := c.def_ 16 (d := d16) rfl
  have m16 := He.glo_ok X G (c.fact 16 (f := .glo "_law_plain") rfl)
  obtain ⟨fd17, E17⟩ := c.def_ 17 (d := d17) rfl
  have m17 := He.glo_ok X G (c.fact 17 (f := .glo "_law_chain_right") rfl)
  obtain ⟨fd18, E18⟩ := c.def_ 18 (d := d18) rfl
  have m18 := He.glo_ok X G (c.fact 18 (f := .glo "_law_great_right") rfl)
  obtain ⟨fd19, E19⟩ := c.def_ 19 (d := d19) rfl
  have m19 := He.glo_ok X G (c.fact 19 (f := .glo "law") rfl)
  have e := hfa.symm.trans m19
  cases e
  have b0 : Binds K fd0 P0 [] := FunD.bindsN E0 fun _ _ _ _ _ _ us hl => match us, hl with | [_], _ => rfl
  have b1 : Binds K fd1 P1 [] := FunD.bindsN E1 fun _ _ _ _ _ _ us hl => match us, hl with | [_, _, _], _ => rfl
  have b2 : Binds K fd2 P2 [] := FunD.bindsN E2 fun _ _ _ _ _ _ us hl => match us, hl with | [_], _ => rfl
  have b3 : Binds K fd3 P3 [] := FunD.bindsN E3 fun _ _ _ _ _ _ us hl => match us, hl with | [_], _ => rfl
  have b4 : Binds K fd4 P4 [] := FunD.bindsN E4 fun _ _ _ _ _ _ us hl => match us, hl with | [_, _], _ => rfl
  have b5 : Binds K fd5 P5 [] := FunD.bindsN E5 fun _ _ _ _ _ _ us hl => match us, hl with | [_, _], _ => rfl
  have b6 : Binds K fd6 P6 [] := FunD.bindsN E6 fun _ _ _ _ _ _ us hl => match us, hl with | [_, _], _ => rfl
  have b7 : Binds K fd7 P7 [] := FunD.bindsN E7 fun _ _ _ _ _ _ us hl => match us, hl with | [_, _], _ => rfl
  have b8 : Binds K fd8 P8 [] := FunD.bindsN E8 fun _ _ _ _ _ _ us hl => match us, hl with | [_], _ => rfl
  have b9 : Binds K fd9 P9 [] := FunD.bindsN E9 fun _ _ _ _ _ _ us hl => match us, hl with | [_, _], _ => rfl
  have b10 : Binds K fd10 P10 [] := FunD.bindsN E10 fun _ _ _ _ _ _ us hl => match us, hl with | [_, _], _ => rfl
  have b11 : Binds K fd11 P11 [] := FunD.bindsN E11 fun _ _ _ _ _ _ us hl => match us, hl with | [_, _], _ => rfl
  have b12 : Binds K fd12 P12 [] := FunD.bindsN E12 fun _ _ _ _ _ _ us hl => match us, hl with | [_, _], _ => rfl
  have b13 : Binds K fd13 P13 [] := FunD.bindsN E13 fun _ _ _ _ _ _ us hl => match us, hl with | [_, _], _ => rfl
  have b14 : Binds K fd14 P14 [] := FunD.bindsN E14 fun _ _ _ _ _ _ us hl => match us, hl with | [_, _], _ => rfl
  have b15 : Binds K fd15 P15 [] := FunD.bindsN E15 fun _ _ _ _ _ _ us hl => match us, hl with | [_, _, _], _ => rfl
  have b16 : Binds K fd16 P16 [] := FunD.bindsN E16 fun _ _ _ _ _ _ us hl => match us, hl with | [_], _ => rfl
  have b17 : Binds K fd17 P17 [] := FunD.bindsN E17 fun _ _ _ _ _ _ us hl => match us, hl with | [_], _ => rfl
  have b18 : Binds K fd18 P18 [] := FunD.bindsN E18 fun _ _ _ _ _ _ us hl => match us, hl with | [_], _ => rfl
  have b19 : Binds K fd19 P19 [] := FunD.bindsN E19 fun _ _ _ _ _ _ us hl => match us, hl with | [_], _ => rfl
  have bA := FunD.bindsA (ps := P19) E19 fun _ _ _ _ _ _ us hl => match us, hl with | [_], _ => rfl
  refine ⟨fd19, fun s v => bA s [v] rfl, fun base _ _ => ?_⟩
  have bl : ∀ x ∈ blN, mg x = none := by
    intro x hx
    simp only [blN, List.mem_cons, List.not_mem_nil, or_false] at hx
    rcases hx with rfl | rfl | rfl | rfl | rfl | rfl | rfl | rfl | rfl | rfl | rfl | rfl | rfl | rfl | rfl | rfl
    · exact He.free_ok X G (c.fact 20 (f := .free "abs") rfl)
    · exact He.free_ok X G (c.fact 21 (f := .free "min") rfl)
    · exact He.free_ok X G (c.fact 22 (f := .free "max") rfl)
    · exact He.free_ok X G (c.fact 23 (f := .free "int") rfl)
    · exact He.free_ok X G (c.fact 24 (f := .free "repr") rfl)
    · exact He.free_ok X G (c.fact 25 (f := .free "list") rfl)
    · exact He.free_ok X G (c.fact 26 (f := .free "tuple") rfl)
    · exact He.free_ok X G (c.fact 27 (f := .free "all") rfl)
    · exact He.free_ok X G (c.fact 28 (f := .free "any") rfl)
    · exact He.free_ok X G (c.fact 29 (f := .free "sum") rfl)
    · exact He.free_ok X G (c.fact 30 (f := .free "str") rfl)
    · exact He.free_ok X G (c.fact 31 (f := .free "bool") rfl)
    · exact He.free_ok X G (c.fact 32 (f := .free "dict") rfl)
    · exact He.free_ok X G (c.fact 33 (f := .free "len") rfl)
    · exact He.free_ok X G (c.fact 34 (f := .free "isinstance") rfl)
    · exact He.free_ok X G (c.fact 35 (f := .free "range") rfl)
  have G0 : Gok0 g0 (mkD0 K hd) T0 P w K mg base 0 := by
    refine ⟨fun x i io h => (by cases h), fun x i h => ?_, fun x C h => (by cases h), fun x f h => (by cases h), bl, tabG_ok _ _⟩
    have h := mem_lookup h
    simp only [g0, List.mem_cons, List.not_mem_nil, or_false, Prod.mk.injEq] at h
    rcases h with ⟨rfl, rfl⟩ | ⟨rfl, rfl⟩
    · obtain ⟨t, e⟩ := He.int_ok X G (c.fact 36 (f := .int "MOST_STRENGTH" (1000000000)) rfl)
      exact ⟨.int (1000000000), _, .int (1000000000), rfl, e, ⟨t, rfl⟩, fun _ _ => by simp only [RelA], by decide⟩
    · obtain ⟨t, e⟩ := He.int_ok X G (c.fact 37 (f := .int "GREAT" (10000000000000000000000000000000000000000000000000000000000000000000000000000000000000000000000000000000000000000000000000000000000000000000000000000000000000000000000000000000000000000000000000000000000000000000000000000000000000000000000000000000000000000000000000000000000000000000000000000000000000000000000000000000000000000000000000000000000000000000000000000000000000000000000000000000000000000)) rfl)
      exact ⟨.int (10000000000000000000000000000000000000000000000000000000000000000000000000000000000000000000000000000000000000000000000000000000000000000000000000000000000000000000000000000000000000000000000000000000000000000000000000000000000000000000000000000000000000000000000000000000000000000000000000000000000000000000000000000000000000000000000000000000000000000000000000000000000000000000000000000000000000000), _, .int (10000000000000000000000000000000000000000000000000000000000000000000000000000000000000000000000000000000000000000000000000000000000000000000000000000000000000000000000000000000000000000000000000000000000000000000000000000000000000000000000000000000000000000000000000000000000000000000000000000000000000000000000000000000000000000000000000000000000000000000000000000000000000000000000000000000000000000), rfl, e, ⟨t, rfl⟩, fun _ _ => by simp only [RelA], by decide⟩
  have G1 : Gok0 g1 (mkD0 K hd) T1 P w K mg base 1 := G0.def_ E0 rfl s0 t0 rfl n0 b0 m0 rfl (by decide)
  have G2 : Gok0 g2 (mkD0 K hd) T2 P w K mg base 2 := G1.def_ E1 rfl s1 t1 rfl n1 b1 m1 rfl (by decide)
  have G3 : Gok0 g3 (mkD0 K hd) T3 P w K mg base 3 := G2.def_ E2 rfl s2 t2 rfl n2 b2 m2 rfl (by decide)
  have G4 : Gok0 g4 (mkD0 K hd) T4 P w K mg base 4 := G3.def_ E3 rfl s3 t3 rfl n3 b3 m3 rfl (by decide)
  have G5 : Gok0 g5 (mkD0 K hd) T5 P w K mg base 5 := G4.def_ E4 rfl s4 t4 rfl n4 b4 m4 rfl (by decide)
  have G6 : Gok0 g6 (mkD0 K hd) T6 P w K mg base 6 := G5.def_ E5 rfl s5 t5 rfl n5 b5 m5 rfl (by decide)
  have G7 : Gok0 g7 (mkD0 K hd) T7 P w K mg base 7 := G6.def_ E6 rfl s6 t6 rfl n6 b6 m6 rfl (by decide)
  have G8 : Gok0 g8 (mkD0 K hd) T8 P w K mg base 8 := G7.def_ E7 rfl s7 t7 rfl n7 b7 m7 rfl (by decide)
  have G9 : Gok0 g9 (mkD0 K hd) T9 P w K mg base 9 := G8.def_ E8 rfl s8 t8 rfl n8 b8 m8 rfl (by decide)
  have G10 : Gok0 g10 (mkD0 K hd) T10 P w K mg base 10 := G9.def_ E9 rfl s9 t9 rfl n9 b9 m9 rfl (by decide)
  have G11 : Gok0 g11 (mkD0 K hd) T11 P w K mg base 11 := G10.def_ E10 rfl s10 t10 rfl n10 b10 m10 rfl (by decide)
  have G12 : Gok0 g12 (mkD0 K hd) T12 P w K mg base 12 := G11.def_ E11 rfl s11 t11 rfl n11 b11 m11 rfl (by decide)
  have G13 : Gok0 g13 (mkD0 K hd) T13 P w K mg base 13 := G12.def_ E12 rfl s12 t12 rfl n12 b12 m12 rfl (by decide)
  have G14 : Gok0 g14 (mkD0 K hd) T14 P w K mg base 14 := G13.def_ E13 rfl s13 t13 rfl n13 b13 m13 rfl (by decide)
  have G15 : Gok0 g15 (mkD0 K hd) T15 P w K mg base 15 := G14.def_ E14 rfl s14 t14 rfl n14 b14 m14 rfl (by decide)
  have G16 : Gok0 g16 (mkD0 K hd) T16 P w K mg base 16 := G15.def_ E15 rfl s15 t15 rfl n15 b15 m15 rfl (by decide)
  have G17 : Gok0 g17 (mkD0 K hd) T17 P w K mg base 17 := G16.def_ E16 rfl s16 t16 rfl n16 b16 m16 rfl (by decide)
  have G18 : Gok0 g18 (mkD0 K hd) T18 P w K mg base 18 := G17.def_ E17 rfl s17 t17 rfl n17 b17 m17 rfl (by decide)
  have G19 : Gok0 g19 (mkD0 K hd) T19 P w K mg base 19 := G18.def_ E18 rfl s18 t18 rfl n18 b18 m18 rfl (by decide)
  exact g_fn G19 E19 rfl s19 t19 rfl n19
end Lw
namespace Lw
open PySem PySem.Spec PyProof.Rows L2 Eg
structure Ef where
  l : Int
  a : Int
  b : Int
  t : Int
def Ef.A (e : Ef) : A := .tup [.int e.l, .int e.a, .int e.b, .int e.t]
def oA : Option Ef → A
  | none => .non
  | some e => e.A
def GR : Int := 10 ^ 400
structure Ef.Ok (e : Ef) : Prop where
  l1 : 1 ≤ e.l
  b1 : 1 ≤ e.b
  t1 : 1 ≤ e.t
  l : e.l < GR
  a : -GR < e.a ∧ e.a < GR
  b : e.b < GR
  t : e.t < GR
def mx (i j : Int) : Int := if j > i then j else i
def mn (i j : Int) : Int := if j < i then j else i
def jn (x y : Ef) : Option Ef := if x.t < y.l then none else some ⟨mx x.l (y.l * x.b - x.a), x.a + y.a * x.b, x.b * y.b, mn y.t ((x.t + y.a) / y.b)⟩
def th : Option Ef → Int → Int
  | none, _ => 0
  | some e, s => if s < e.l then 0 else mn e.t ((s + e.a) / e.b)
theorem atI4 (a b c d : A) (k : Int) : atI [a, b, c, d] 0 = some a ∧ atI [a, b, c, d] 1 = some b ∧ atI [a, b, c, d] 2 = some c ∧ atI [a, b, c, d] 3 = some d := by
  refine ⟨rfl, rfl, rfl, rfl⟩
theorem GR_eq : GR = (10 : Int) ^ 400 := rfl
theorem small {i : Int} (h : -GR < i) (h' : i < GR) : i.natAbs < 2 ^ 1400 := by
  have : (10 : Nat) ^ 400 < 2 ^ 1400 := by decide +kernel
  have e : GR = ((10 ^ 400 : Nat) : Int) := by decide +kernel
  rw [e] at h h'
  generalize (10 : Nat) ^ 400 = N at *
  generalize (2 : Nat) ^ 1400 = M at *
  omega
theorem mul_ok {i j : Int} (h : -GR < i) (h' : i < GR) (k : -GR < j) (k' : j < GR) : mulOk i j = true := mulOk_of 1400 1400 (small h h') (small k k') (by decide) (by decide) (by decide)
theorem div_ok {j : Int} (h0 : 1 ≤ j) (h' : j < GR) : divOk j = true := by
  have hg : (0 : Int) < GR := by decide +kernel
  exact divOk_of (by omega) (Nat.lt_of_lt_of_le (small (by omega) h') (Nat.pow_le_pow_right (by decide) (by decide)))
theorem r0 (i : Int) (g : GS) : F0.run [.va (.int i)] g = .ok (.va (.bl true)) [] g := by
  simp [F0, q0, run_mk, runF, agOk, exL, exS, evR, evL, evAV, retR, slOf, rdV, tyIs, kindA, tyB, outsOf, callM, argsOf, ioOf, backE, ite_M, asgM, tgM, setSl, setAll, endN, brw, holdB, lookOw, ctA, ctO, subC, lenC, biA, isV, setB, setOw, getOwB, lineOk, guardO, guardN, itM, itA, itSq]
theorem r1 (i a b : Int) (g : GS) : F1.run [.va (.int i), .va (.int a), .va (.int b)] g = .ok (.va (.bl (decide (a ≤ i) && decide (i ≤ b)))) [] g := by
  have io0 : F0.io = [false] := rfl
  have f0 : T1.fn 0 = some F0 := rfl
  simp [F1, q1, run_mk, runF, agOk, exL, exS, evR, evL, evAV, retR, slOf, rdV, tyIs, kindA, tyB, outsOf, callM, argsOf, ioOf, backE, ite_M, asgM, tgM, setSl, setAll, endN, brw, holdB, lookOw, ctA, ctO, subC, lenC, biA, isV, setB, setOw, getOwB, lineOk, guardO, guardN, itM, itA, itSq, f0, io0, r0]
  by_cases h : a ≤ i <;> simp [h, rdV]
theorem r2 (i : Int) (g : GS) : F2.run [.va (.int i)] g = .ok (.va (.bl (decide (1 ≤ i) && decide (i ≤ 1000000000)))) [] g := by
  have io1 : F1.io = [false, false, false] := rfl
  have f1 : T2.fn 1 = some F1 := rfl
  have gl0 : T2.gl 0 = some (.int 1000000000) := rfl
  simp [F2, q2, run_mk, runF, agOk, exL, exS, evR, evL, evAV, retR, slOf, rdV, tyIs, kindA, tyB, outsOf, callM, argsOf, ioOf, backE, ite_M, asgM, tgM, setSl, setAll, endN, brw, holdB, lookOw, ctA, ctO, subC, lenC, biA, isV, setB, setOw, getOwB, lineOk, guardO, guardN, itM, itA, itSq, f1, io1, r1, gl0]
theorem gl_one : gl 1 = some (.int GR) := by
  have e : GR = 10 ^ 400 := rfl
  unfold gl
  rw [if_neg (by decide), if_pos rfl]
  exact congrArg (fun i => some (A.int i)) (by decide +kernel)
theorem r3 (e : Ef) (h : e.Ok) (g : GS) : F3.run [.va e.A] g = .ok (.va (.bl true)) [] g := by
  have io0 : F0.io = [false] := rfl
  have f0 : T3.fn 0 = some F0 := rfl
  have gl1 : T3.gl 1 = some (.int GR) := gl_one
  obtain ⟨a0, a1, a2, a3⟩ := atI4 (.int e.l) (.int e.a) (.int e.b) (.int e.t) 0
  have hg : (0 : Int) < GR := by decide +kernel
  have k1 : ∀ x : Int, -GR < x → x < GR → (decide (-GR < x)) = true ∧ decide (x < GR) = true := fun x h h' => ⟨decide_eq_true h, decide_eq_true h'⟩
  have hl := h.l1
  have hb := h.b1
  have ht := h.t1
  have k2 := h.l
  have k3 := h.a
  have k4 := h.b
  have k5 := h.t
  have n1 : -GR < e.l := by omega
  have n2 : -GR < e.b := by omega
  have n3 : -GR < e.t := by omega
  simp [F3, q3, Ef.A, run_mk, runF, agOk, exL, exS, evR, evL, evAV, retR, slOf, rdV, tyIs, kindA, tyB, outsOf, callM, argsOf, ioOf, backE, ite_M, asgM, tgM, setSl, setAll, endN, brw, holdB, lookOw, ctA, ctO, subC, lenC, biA, isV, setB, setOw, getOwB, lineOk, guardO, guardN, itM, itA, itSq, f0, io0, r0, gl1, itM, itA, itSq, forN, a0, a1, a2, a3, n1, n2, n3, k2, k3, k4, k5, hl, hb, ht]
end Lw
namespace Lw
open PySem PySem.Spec PyProof.Rows L2 Eg
theorem r4 (x y : Ef) (m1 : mulOk y.l x.b = true) (m2 : mulOk y.a x.b = true) (m3 : mulOk x.b y.b = true) (d : divOk y.b = true) (g : GS) : F4.run [.va x.A, .va y.A] g = .ok (.va (oA (jn x y))) [] g := by
  by_cases h : x.t < y.l
  · simp [F4, q4, Ef.A, run_mk, runF, agOk, exL, exS, evR, evL, evAV, retR, slOf, rdV, tyIs, kindA, tyB, outsOf, callM, argsOf, ioOf, backE, ite_M, asgM, tgM, setSl, setAll, endN, brw, holdB, lookOw, ctA, ctO, subC, lenC, biA, isV, setB, setOw, getOwB, lineOk, guardO, guardN, itM, itA, itSq, h, jn, oA]
  · simp [F4, q4, Ef.A, run_mk, runF, agOk, exL, exS, evR, evL, evAV, retR, slOf, rdV, tyIs, kindA, tyB, outsOf, callM, argsOf, ioOf, backE, ite_M, asgM, tgM, setSl, setAll, endN, brw, holdB, lookOw, ctA, ctO, subC, lenC, biA, isV, setB, setOw, getOwB, lineOk, guardO, guardN, itM, itA, itSq, h, jn, oA, m1, m2, m3, d, mx, mn, lineOk, sizeLine]
theorem r5 (e : Option Ef) (s : Int) (d : ∀ x, e = some x → divOk x.b = true) (g : GS) : F5.run [.va (oA e), .va (.int s)] g = .ok (.va (.int (th e s))) [] g := by
  cases e with
  | none => simp [F5, q5, run_mk, runF, agOk, exL, exS, evR, evL, evAV, retR, slOf, rdV, tyIs, kindA, tyB, outsOf, callM, argsOf, ioOf, backE, ite_M, asgM, tgM, setSl, setAll, endN, brw, holdB, lookOw, ctA, ctO, subC, lenC, biA, isV, setB, setOw, getOwB, lineOk, guardO, guardN, itM, itA, itSq, oA, th]
  | some x =>
    obtain ⟨a0, a1, a2, a3⟩ := atI4 (.int x.l) (.int x.a) (.int x.b) (.int x.t) 0
    have dx := d x rfl
    by_cases h : s < x.l
    · simp [F5, q5, run_mk, runF, agOk, exL, exS, evR, evL, evAV, retR, slOf, rdV, tyIs, kindA, tyB, outsOf, callM, argsOf, ioOf, backE, ite_M, asgM, tgM, setSl, setAll, endN, brw, holdB, lookOw, ctA, ctO, subC, lenC, biA, isV, setB, setOw, getOwB, lineOk, guardO, guardN, itM, itA, itSq, oA, th, Ef.A, h, a0]
    · simp [F5, q5, run_mk, runF, agOk, exL, exS, evR, evL, evAV, retR, slOf, rdV, tyIs, kindA, tyB, outsOf, callM, argsOf, ioOf, backE, ite_M, asgM, tgM, setSl, setAll, endN, brw, holdB, lookOw, ctA, ctO, subC, lenC, biA, isV, setB, setOw, getOwB, lineOk, guardO, guardN, itM, itA, itSq, oA, th, Ef.A, h, a0, dx, mn]
theorem r6 (x y : Ef) (hx : x.Ok) (hy : y.Ok) (g : GS) : F6.run [.va x.A, .va y.A] g = .ok (.va (oA (jn x y))) [] g := by
  have io3 : F3.io = [false] := rfl
  have io4 : F4.io = [false, false] := rfl
  have f3 : T6.fn 3 = some F3 := rfl
  have f4 : T6.fn 4 = some F4 := rfl
  have hg : (0 : Int) < GR := by decide +kernel
  have h1 := hx.b1
  have h2 := hx.b
  have h3 := hy.b1
  have h4 := hy.b
  have h5 := hy.l1
  have h6 := hy.l
  have h7 := hy.a
  have r := r4 x y (mul_ok (by omega) h6 (by omega) h2) (mul_ok h7.1 h7.2 (by omega) h2) (mul_ok (by omega) h2 (by omega) h4) (div_ok h3 h4)
  simp [F6, q6, run_mk, runF, agOk, exL, exS, evR, evL, evAV, retR, slOf, rdV, tyIs, kindA, tyB, outsOf, callM, argsOf, ioOf, backE, ite_M, asgM, tgM, setSl, setAll, endN, brw, holdB, lookOw, ctA, ctO, subC, lenC, biA, isV, setB, setOw, getOwB, lineOk, guardO, guardN, itM, itA, itSq, io3, io4, f3, f4, r3 x hx, r3 y hy, r]
theorem r7 (e : Option Ef) (s : Int) (h : ∀ x, e = some x → x.Ok) (h0 : 0 ≤ s) (h1 : s ≤ 1000000000) (g : GS) : F7.run [.va (oA e), .va (.int s)] g = .ok (.va (.int (if s = 0 then 0 else th e s))) [] g := by
  have io3 : F3.io = [false] := rfl
  have io2 : F2.io = [false] := rfl
  have io0 : F0.io = [false] := rfl
  have io5 : F5.io = [false, false] := rfl
  have f3 : T7.fn 3 = some F3 := rfl
  have f2 : T7.fn 2 = some F2 := rfl
  have f0 : T7.fn 0 = some F0 := rfl
  have f5 : T7.fn 5 = some F5 := rfl
  have r := r5 e s fun x hx => div_ok (h x hx).b1 (h x hx).b
  by_cases hs : s = 0
  · subst hs
    cases e with
    | none => simp [F7, q7, run_mk, runF, agOk, exL, exS, evR, evL, evAV, retR, slOf, rdV, tyIs, kindA, tyB, outsOf, callM, argsOf, ioOf, backE, ite_M, asgM, tgM, setSl, setAll, endN, brw, holdB, lookOw, ctA, ctO, subC, lenC, biA, isV, setB, setOw, getOwB, lineOk, guardO, guardN, itM, itA, itSq, io3, io2, io0, io5, f3, f2, f0, f5, oA, r2, r0]
    | some x =>
      have hx := r3 x (h x rfl)
      have hn : isNon x.A = false := rfl
      show F7.run [.va x.A, .va (.int 0)] g = _
      simp [F7, q7, run_mk, runF, agOk, exL, exS, evR, evL, evAV, retR, slOf, rdV, tyIs, kindA, tyB, outsOf, callM, argsOf, ioOf, backE, ite_M, asgM, tgM, setSl, setAll, endN, brw, holdB, lookOw, ctO, subC, lenC, biA, isV, setB, setOw, getOwB, lineOk, guardO, guardN, itM, itA, itSq, io3, io2, io0, io5, f3, f2, f0, f5, r2, r0, hx, hn]
  · have h1s : 1 ≤ s := by omega
    cases e with
    | none =>
      have r' : ∀ g : GS, F5.run [.va .non, .va (.int s)] g = .ok (.va (.int (th none s))) [] g := r
      show F7.run [.va .non, .va (.int s)] g = _
      simp [F7, q7, run_mk, runF, agOk, exL, exS, evR, evL, evAV, retR, slOf, rdV, tyIs, kindA, tyB, outsOf, callM, argsOf, ioOf, backE, ite_M, asgM, tgM, setSl, setAll, endN, brw, holdB, lookOw, ctO, subC, lenC, biA, isV, setB, setOw, getOwB, lineOk, guardO, guardN, itM, itA, itSq, io3, io2, io0, io5, f3, f2, f0, f5, r2, r0, hs, h1s, h1, r']
    | some x =>
      have hx := r3 x (h x rfl)
      have hn : isNon x.A = false := rfl
      have r' : ∀ g : GS, F5.run [.va x.A, .va (.int s)] g = .ok (.va (.int (th (some x) s))) [] g := r
      show F7.run [.va x.A, .va (.int s)] g = _
      simp [F7, q7, run_mk, runF, agOk, exL, exS, evR, evL, evAV, retR, slOf, rdV, tyIs, kindA, tyB, outsOf, callM, argsOf, ioOf, backE, ite_M, asgM, tgM, setSl, setAll, endN, brw, holdB, lookOw, ctO, subC, lenC, biA, isV, setB, setOw, getOwB, lineOk, guardO, guardN, itM, itA, itSq, io3, io2, io0, io5, f3, f2, f0, f5, r2, r0, hs, h1s, h1, hx, hn, r']
end Lw
namespace Lw
open PySem PySem.Spec PyProof.Rows L2 Eg
theorem f9_eq : F9 = mkFn T9 [true, false] 6 takeQ := rfl
theorem take (B : Bag) (m : Int) (hc : B.c ≤ 1000000) (h1 : 1 ≤ m) (h2 : m < 1267650600228229401496703205376) : ∃ (v : Int) (B' : Bag), 0 ≤ v ∧ v < m ∧ B'.c ≤ B.c + 1 ∧ ∀ g : GS, F9.run [.lo B.lo, .va (.int m)] g = .ok (.va (.int v)) [B'.lo] g := take_ex T9 B m hc h1 h2
theorem io9 : F9.io = [true, false] := rfl
theorem cut63 {xs : List A} (h : xs.length ≤ 63) : cutA xs none (some 63) = xs := by
  unfold cutA
  have e : HT.sIx xs.length xs.length (some 63) = xs.length := by
    have := HT.sIx_nat xs.length xs.length 63
    rw [show ((63 : Nat) : Int) = 63 from rfl] at this
    rw [this]
    omega
  rw [e]
  show (xs.drop 0).take (xs.length - 0) = xs
  simp
theorem r8 (ns : List Int) (h : ns.length ≤ 63) (g : GS) : F8.run [.va (.kl (ns.map A.int))] g = .ok (.nw (bag0 ns h).lo) [] g := by
  have hz : (ns.map A.int).length ≤ 63 := by rw [List.length_map]; exact h
  have sl : (63 : Nat) ≤ sizeLine := by decide
  have c := comp1 (v := 1) (p := fun _ => true) (h := fun x => match x with | .int i => .int (absI i) | x => x) (ρ := [some (.va (.kl (ns.map A.int))), none]) (g := g) (items := ns.map A.int)
    (f := fun x => do
      tgM (.n 1) x
      let c ← fzM (evR T8 (.c (.bl true)))
      let c' ← boolM c
      if c' then do
        let y ← fzM (evR T8 (.bi .abs [.v 1]))
        pure (some y)
      else pure none) (by omega) rfl fun x hx => by
        obtain ⟨i, _, rfl⟩ := List.mem_map.mp hx
        exact ⟨[some (.va (.kl (ns.map A.int))), some (.va (.int i))], by simp [run_mk, runF, agOk, exL, exS, evR, evL, evAV, retR, slOf, rdV, tyIs, kindA, tyB, outsOf, callM, argsOf, ioOf, backE, ite_M, asgM, tgM, setSl, setAll, endN, brw, holdB, lookOw, ctA, ctO, subC, lenC, biA, isV, setB, setOw, getOwB, lineOk, guardO, guardN, itM, itA, itSq, absI], rfl⟩
  have e : (ns.map A.int).filter (fun _ => true) = ns.map A.int := by simp
  rw [e, List.map_map] at c
  have e2 : ns.map ((fun x => match x with | A.int i => A.int (absI i) | x => x) ∘ A.int) = (ns.map absI).map A.int := by rw [List.map_map]; rfl
  rw [e2] at c
  simp [F8, q8, run_mk, runF, agOk, exL, exS, evR, evL, evAV, retR, slOf, rdV, tyIs, kindA, tyB, outsOf, callM, argsOf, ioOf, backE, ite_M, asgM, tgM, setSl, setAll, endN, brw, holdB, lookOw, ctA, ctO, subC, lenC, biA, isV, setB, setOw, getOwB, lineOk, guardO, guardN, itM, itA, itSq, slcC, cut63 hz, Tg.slots, partM, isNonC] at c ⊢
  simp [c, run_mk, runF, agOk, exL, exS, evR, evL, evAV, retR, slOf, rdV, tyIs, kindA, tyB, outsOf, callM, argsOf, ioOf, backE, ite_M, asgM, tgM, setSl, setAll, endN, brw, holdB, lookOw, ctA, ctO, subC, lenC, biA, isV, setB, setOw, getOwB, lineOk, guardO, guardN, itM, itA, itSq, bag0, Bag.lo, sizeLine]
end Lw
namespace Lw
open PySem PySem.Spec PyProof.Rows L2 Eg
theorem cmp_eqX (x y : A) : cmpA .eq x y = eqA x y := rfl
theorem r10 (x : A) (z : Str) (h1 : eqA x x = some true) (h2 : reprA x = some (.str z)) (g : GS) : F10.run [.va x, .va x] g = .ok (.va (.bl true)) [] g := by
  have e : eqA (.str z) (.str z) = some true := by show some (decide (z = z)) = _; simp
  have hh : biA .repr1 [x] = some (.va (.str z)) := by show (reprA x).map Rv.va = _; rw [h2]; rfl
  simp [F10, q10, run_mk, runF, agOk, exL, exS, evR, evL, retR, slOf, rdV, outsOf, ite_M, cmp_eqX, h1, hh, e]
theorem eqv4 (e : Ef) : eqA e.A e.A = some true := by
  show eqD e.A e.A = some true
  simp [eqD, Ef.A, A.py, pyL, SeqAt.shaped, PyData.canLay0, PyData.canLayAll0, PyData.depth, PyData.depthAll, PyData.eqv, PyData.eqvAll]
theorem lenI {i : Int} (h : i.natAbs.log2 < 1920) : (Str.ofString (toString i)).length ≤ 1921 := by
  rw [PySem.ofString_length]
  exact int_text_length_le (by decide) h
theorem str_app_len (a b : Str) : (a ++ b).length = a.length + b.length := by
  show (a.cps ++ b.cps).size = _
  simp [Str.length]
theorem len4 (a b c d : Str) : (tupleText [a, b, c, d]).length = a.length + b.length + c.length + d.length + 8 := by
  unfold tupleText
  rw [if_neg (by simp)]
  show ((("(" : Str) ++ (a ++ ", " ++ (b ++ ", " ++ (c ++ ", " ++ d)))) ++ (")" : Str)).length = _
  simp only [str_app_len]
  have e1 : ("(" : Str).length = 1 := rfl
  have e2 : (")" : Str).length = 1 := rfl
  have e3 : (", " : Str).length = 2 := rfl
  rw [e1, e2, e3]
  omega
theorem guardO_some' {α : Type} {b : Bool} {x y : α} (h : guardO b x = some y) : b = true ∧ y = x := by
  unfold guardO at h
  split at h
  · rename_i hb; cases h; exact ⟨hb, rfl⟩
  · cases h
theorem reprA_of {x r : A} (h : reprD x = some r) : reprA x = some r := by
  unfold reprA
  rw [h]
theorem lenB {i : Int} (h : i.natAbs < 10 ^ 1000) : (Str.ofString (toString i)).length ≤ 1001 := by
  rw [PySem.ofString_length]
  exact int_text_length_le10 (by decide) h
theorem reprBig (e : Ef) (h1 : e.l.natAbs < 10 ^ 1000) (h2 : e.a.natAbs < 10 ^ 1000) (h3 : e.b.natAbs < 10 ^ 1000) (h4 : e.t.natAbs < 10 ^ 1000) : ∃ z, reprA e.A = some (.str z) := by
  cases hd : reprD e.A with
  | some r =>
    have hr := hd
    unfold reprD at hd
    split at hd
    · obtain ⟨_, rfl⟩ := guardO_some' hd
      exact ⟨_, reprA_of hr⟩
    · cases hd
  | none =>
    have l1 := lenB h1
    have l2 := lenB h2
    have l3 := lenB h3
    have l4 := lenB h4
    have hk : (10 : Nat) ^ 1000 ≤ 10 ^ 4300 := Nat.pow_le_pow_right (by decide) (by decide)
    have hb : bigIs e.A = some [e.l, e.a, e.b, e.t] := by
      show (match allInt [.int e.l, .int e.a, .int e.b, .int e.t] with
        | some is => guardO (is.all fun i => decide (i.natAbs < 10 ^ 4300)) is
        | none => none) = _
      have ha : allInt [.int e.l, .int e.a, .int e.b, .int e.t] = some [e.l, e.a, e.b, e.t] := rfl
      rw [ha]
      dsimp only
      unfold guardO
      rw [if_pos]
      generalize (10 : Nat) ^ 4300 = N at *
      generalize (10 : Nat) ^ 1000 = M at *
      simp only [List.all_cons, List.all_nil, Bool.and_true, Bool.and_eq_true, decide_eq_true_eq]
      omega
    refine ⟨bigT [e.l, e.a, e.b, e.t], ?_⟩
    unfold reprA
    rw [hd]
    dsimp only
    rw [hb]
    dsimp only
    unfold guardO
    rw [if_pos]
    rw [decide_eq_true_eq]
    show (tupleText [Str.ofString (toString e.l), Str.ofString (toString e.a), Str.ofString (toString e.b), Str.ofString (toString e.t)]).length ≤ sizeLine
    rw [len4, sizeLine_eq]
    omega
theorem repr4 (e : Ef) (h1 : e.l.natAbs.log2 < 1920) (h2 : e.a.natAbs.log2 < 1920) (h3 : e.b.natAbs.log2 < 1920) (h4 : e.t.natAbs.log2 < 1920) : ∃ z, reprA e.A = some (.str z) := by
  have l1 := lenI h1
  have l2 := lenI h2
  have l3 := lenI h3
  have l4 := lenI h4
  have hp : e.A.py = some (.tuple [.int e.l, .int e.a, .int e.b, .int e.t]) := by simp [Ef.A, A.py, pyL]
  refine ⟨(PyData.tuple [.int e.l, .int e.a, .int e.b, .int e.t]).shown, reprA_of ?_⟩
  unfold reprD
  rw [hp]
  dsimp only
  unfold guardO
  rw [if_pos]
  rw [Bool.and_eq_true, Bool.and_eq_true]
  refine ⟨⟨?_, ?_⟩, ?_⟩
  · simp [PyData.showable, PyData.showableAll, h1, h2, h3, h4]
  · simp [SeqAt.shaped, PyData.canLay0, PyData.canLayAll0, PyData.depth, PyData.depthAll]
  · rw [decide_eq_true_eq]
    simp only [PyData.shown, PyData.shownAll]
    rw [len4, sizeLine_eq]
    omega
theorem eqvI (i : Int) : eqA (.int i) (.int i) = some true := by show some (decide (i = i)) = _; simp
theorem reprI (i : Int) (h : i.natAbs.log2 < 1920) : ∃ z, reprA (.int i) = some (.str z) := by
  have l1 := lenI h
  refine ⟨(PyData.int i).shown, reprA_of ?_⟩
  unfold reprD A.py
  dsimp only
  unfold guardO
  rw [if_pos]
  rw [Bool.and_eq_true, Bool.and_eq_true]
  refine ⟨⟨?_, ?_⟩, ?_⟩
  · simp [PyData.showable, h]
  · simp [SeqAt.shaped, PyData.canLay0, PyData.depth]
  · rw [decide_eq_true_eq]
    simp only [PyData.shown]
    rw [sizeLine_eq]
    omega
theorem reprN : reprA .non = some (.str "None") := by kernel_rfl
theorem r10o (o : Option Ef) (h : ∀ e, o = some e → e.l.natAbs.log2 < 1920 ∧ e.a.natAbs.log2 < 1920 ∧ e.b.natAbs.log2 < 1920 ∧ e.t.natAbs.log2 < 1920) (g : GS) : F10.run [.va (oA o), .va (oA o)] g = .ok (.va (.bl true)) [] g := by
  cases o with
  | none => exact r10 .non _ rfl reprN g
  | some e =>
    obtain ⟨h1, h2, h3, h4⟩ := h e rfl
    obtain ⟨z, hz⟩ := repr4 e h1 h2 h3 h4
    exact r10 e.A z (eqv4 e) hz g
theorem r10i (i : Int) (h : i.natAbs.log2 < 1920) (g : GS) : F10.run [.va (.int i), .va (.int i)] g = .ok (.va (.bl true)) [] g := by
  obtain ⟨z, hz⟩ := reprI i h
  exact r10 _ z (eqvI i) hz g
end Lw
namespace Lw
open PySem PySem.Spec PyProof.Rows L2 Eg
def XX : Int := (10 ^ 20 - 1) ^ 10
theorem XX0 : 1000000000 < XX := by decide +kernel
theorem pow_bd {v : Int} (h0 : 0 ≤ v) (h : v < 10 ^ 20) : 0 ≤ v ^ 10 ∧ v ^ 10 ≤ XX := by
  obtain ⟨k, rfl⟩ := Int.eq_ofNat_of_zero_le h0
  have hk : k ≤ 10 ^ 20 - 1 := by omega
  have e : ((k : Int)) ^ 10 = ((k ^ 10 : Nat) : Int) := by simp
  have x : XX = (((10 ^ 20 - 1) ^ 10 : Nat) : Int) := by decide +kernel
  rw [e, x]
  exact ⟨Int.natCast_nonneg _, Int.ofNat_le.mpr (Nat.pow_le_pow_left hk 10)⟩
theorem powOk_of {v : Int} {k : Int} (n : Nat) (hk : 0 ≤ k) (h : v.natAbs < 2 ^ n) (hn : 0 < n) (hb : (n + 1) * k.toNat ≤ 2 ^ 27) : powOk v k = true := by
  have l := log2_lt h hn
  unfold powOk
  rw [Bool.and_eq_true, decide_eq_true_eq, decide_eq_true_eq]
  refine ⟨hk, ?_⟩
  have hb1 : Builtin.Int.intBits v ≤ n + 1 := by
    unfold Builtin.Int.intBits
    split
    · omega
    · omega
  obtain ⟨j, rfl⟩ := Int.eq_ofNat_of_zero_le hk
  have h3 : Builtin.Int.intBits v * j ≤ (n + 1) * j := Nat.mul_le_mul_right j hb1
  rw [Int.toNat_natCast] at hb
  have h4 : Builtin.Int.intBits v * j ≤ 2 ^ 27 := Nat.le_trans h3 hb
  exact_mod_cast h4
theorem pw9 : powOk 10 9 = true := by decide +kernel
theorem pw20 : powOk 10 20 = true := by decide +kernel
theorem i5 (a b c d e : A) : atI [a, b, c, d, e] 0 = some a ∧ atI [a, b, c, d, e] 1 = some b ∧ atI [a, b, c, d, e] 2 = some c ∧ atI [a, b, c, d, e] 3 = some d ∧ atI [a, b, c, d, e] 4 = some e := ⟨rfl, rfl, rfl, rfl, rfl⟩
theorem number (B : Bag) (least : Int) (hl : least = 0 ∨ least = 1) (hc : B.c ≤ 900000) : ∃ (n : Int) (B' : Bag), least ≤ n ∧ n ≤ XX ∧ B'.c ≤ B.c + 4 ∧ ∀ g : GS, F11.run [.lo B.lo, .va (.int least)] g = .ok (.va (.int n)) [B'.lo] g := by
  obtain ⟨v1, B1, p1, p2, p3, e1⟩ := take B 12 (by omega) (by decide) (by decide)
  obtain ⟨v2, B2, q1, q2, q3, e2⟩ := take B1 1000000000 (by omega) (by decide) (by decide)
  obtain ⟨v3, B3, s1, s2, s3, e3⟩ := take B2 100000000000000000000 (by omega) (by decide) (by decide)
  obtain ⟨v4, B4, t1, t2, t3, e4⟩ := take B3 5 (by omega) (by decide) (by decide)
  have f9 : T11.fn 9 = some F9 := rfl
  have pv : powOk v3 10 = true := powOk_of 70 (by decide) (by omega) (by decide) (by decide)
  have hp := pow_bd s1 s2
  have x0 := XX0
  have h0 : 0 ≤ least := by omega
  obtain ⟨a0, a1, a2, a3, a4⟩ := i5 (.int least) (.int (least + 1)) (.int v1) (.int v2) (.int (v3 ^ 10))
  have go : ∀ j : Int, atI [A.int least, A.int (least + 1), A.int v1, A.int v2, A.int (v3 ^ 10)] v4 = some (.int j) → j ≤ XX → ∃ (n : Int) (B' : Bag), least ≤ n ∧ n ≤ XX ∧ B'.c ≤ B.c + 4 ∧ ∀ g : GS, F11.run [.lo B.lo, .va (.int least)] g = .ok (.va (.int n)) [B'.lo] g := fun j hj hx => by
    refine ⟨if least < j then j else least, B4, by split <;> omega, by split <;> omega, by omega, fun g => ?_⟩
    simp [F11, q11, run_mk, runF, agOk, exL, exS, evR, evL, evAV, retR, slOf, rdV, tyIs, kindA, tyB, outsOf, callM, argsOf, ioOf, backE, ite_M, asgM, tgM, setSl, setAll, endN, brw, holdB, lookOw, ctA, ctO, subC, lenC, biA, isV, setB, setOw, getOwB, lineOk, guardO, guardN, itM, itA, itSq, f9, io9, e1, e2, e3, e4, pw9, pw20, pv, hj, sizeLine]
  have h4 : v4 = 0 ∨ v4 = 1 ∨ v4 = 2 ∨ v4 = 3 ∨ v4 = 4 := by omega
  rcases h4 with rfl | rfl | rfl | rfl | rfl
  · exact go _ a0 (by omega)
  · exact go _ a1 (by omega)
  · exact go _ a2 (by omega)
  · exact go _ a3 (by omega)
  · exact go _ a4 hp.2
theorem io11 : F11.io = [true, false] := rfl
theorem i2 (a b : A) : atI [a, b] 0 = some a ∧ atI [a, b] 1 = some b := ⟨rfl, rfl⟩
structure Ef.Big (e : Ef) : Prop where
  l1 : 1 ≤ e.l
  l2 : e.l ≤ XX + 1
  a1 : -XX ≤ e.a
  a2 : e.a ≤ XX
  b1 : 1 ≤ e.b
  b2 : e.b ≤ XX
  t1 : 1 ≤ e.t
  t2 : e.t ≤ XX
theorem XXG : XX + 1 < GR := by decide +kernel
theorem effect (B : Bag) (near : Int) (h1 : 1 ≤ near) (h2 : near ≤ XX) (hc : B.c ≤ 800000) : ∃ (e : Ef) (B' : Bag), e.Big ∧ B'.c ≤ B.c + 25 ∧ ∀ g : GS, F12.run [.lo B.lo, .va (.int near)] g = .ok (.va e.A) [B'.lo] g := by
  have f9 : T12.fn 9 = some F9 := rfl
  have f11 : T12.fn 11 = some F11 := rfl
  have x0 := XX0
  have xg := XXG
  obtain ⟨n1, B1, k1, k2, k3, e1⟩ := number B 1 (.inr rfl) (by omega)
  obtain ⟨v2, B2, p1, p2, p3, e2⟩ := take B1 2 (by omega) (by decide) (by decide)
  have stage : ∃ (l : Int) (B3 : Bag), 1 ≤ l ∧ l ≤ XX + 1 ∧ B3.c ≤ B2.c + 1 ∧ ∀ g, exS T12 q12[1] [some (.ow true B1.lo), some (.va (.int near)), some (.va (.int n1)), none, none] g = .nx [some (.ow true B3.lo), some (.va (.int near)), some (.va (.int l)), none, none] g := by
    by_cases hv : v2 = 0
    · obtain ⟨v3, B3, s1, s2, s3, e3⟩ := take B2 5 (by omega) (by decide) (by decide)
      refine ⟨if 1 < near + v3 - 3 then near + v3 - 3 else 1, B3, by split <;> omega, by split <;> omega, by omega, fun g => ?_⟩
      simp [q12, run_mk, runF, agOk, exL, exS, evR, evL, evAV, retR, slOf, rdV, tyIs, kindA, tyB, outsOf, callM, argsOf, ioOf, backE, ite_M, asgM, tgM, setSl, setAll, endN, brw, holdB, lookOw, ctA, ctO, subC, lenC, biA, isV, setB, setOw, getOwB, lineOk, guardO, guardN, itM, itA, itSq, f9, f11, io9, io11, e2, e3, hv]
    · refine ⟨n1, B2, k1, by omega, by omega, fun g => ?_⟩
      simp [q12, run_mk, runF, agOk, exL, exS, evR, evL, evAV, retR, slOf, rdV, tyIs, kindA, tyB, outsOf, callM, argsOf, ioOf, backE, ite_M, asgM, tgM, setSl, setAll, endN, brw, holdB, lookOw, ctA, ctO, subC, lenC, biA, isV, setB, setOw, getOwB, lineOk, guardO, guardN, itM, itA, itSq, f9, f11, io9, io11, e2, hv]
  obtain ⟨l, B3, l1, l2, l3, es⟩ := stage
  obtain ⟨n4, B4, m1, m2, m3, e4⟩ := number B3 0 (.inl rfl) (by omega)
  obtain ⟨v5, B5, t1, t2, t3, e5⟩ := take B4 2 (by omega) (by decide) (by decide)
  obtain ⟨v6, B6, u1, u2, u3, e6⟩ := take B5 8 (by omega) (by decide) (by decide)
  obtain ⟨n7, B7, w1, w2, w3, e7⟩ := number B6 1 (.inr rfl) (by omega)
  obtain ⟨v8, B8, x1, x2, x3, e8⟩ := take B7 4 (by omega) (by decide) (by decide)
  obtain ⟨n9, B9, y1, y2, y3, e9⟩ := number B8 1 (.inr rfl) (by omega)
  obtain ⟨sg, hs, hsa⟩ : ∃ s : Int, (s = 1 ∨ s = -1) ∧ atI [A.int 1, A.int (-1)] v5 = some (.int s) := by
    have h : v5 = 0 ∨ v5 = 1 := by omega
    rcases h with rfl | rfl
    · exact ⟨1, .inl rfl, (i2 _ _).1⟩
    · exact ⟨-1, .inr rfl, (i2 _ _).2⟩
  obtain ⟨b, b1, b2, hb⟩ : ∃ b : Int, 1 ≤ b ∧ b ≤ XX ∧ atI [A.int 1, A.int 1, A.int (2 + v6), A.int n7] v8 = some (.int b) := by
    have h : v8 = 0 ∨ v8 = 1 ∨ v8 = 2 ∨ v8 = 3 := by omega
    obtain ⟨a0, a1, a2, a3⟩ := atI4 (A.int 1) (A.int 1) (A.int (2 + v6)) (A.int n7) 0
    rcases h with rfl | rfl | rfl | rfl
    · exact ⟨1, by omega, by omega, a0⟩
    · exact ⟨1, by omega, by omega, a1⟩
    · exact ⟨2 + v6, by omega, by omega, a2⟩
    · exact ⟨n7, w1, w2, a3⟩
  have hm : mulOk n4 sg = true := mul_ok (by omega) (by omega) (by omega) (by omega)
  have bd : -XX ≤ n4 * sg ∧ n4 * sg ≤ XX := by
    rcases hs with rfl | rfl
    · rw [Int.mul_one]; omega
    · rw [Int.mul_neg, Int.mul_one]; omega
  refine ⟨⟨l, n4 * sg, b, n9⟩, B9, ⟨l1, l2, bd.1, bd.2, b1, b2, y1, y2⟩, by omega, fun g => ?_⟩
  have e0 : exS T12 q12[0] [some (.ow true B.lo), some (.va (.int near)), none, none, none] g = .nx [some (.ow true B1.lo), some (.va (.int near)), some (.va (.int n1)), none, none] g := by
    simp [q12, run_mk, runF, agOk, exL, exS, evR, evL, evAV, retR, slOf, rdV, tyIs, kindA, tyB, outsOf, callM, argsOf, ioOf, backE, ite_M, asgM, tgM, setSl, setAll, endN, brw, holdB, lookOw, ctA, ctO, subC, lenC, biA, isV, setB, setOw, getOwB, lineOk, guardO, guardN, itM, itA, itSq, f9, f11, io9, io11, e1]
  have tail : exL T12 (q12.drop 2) [some (.ow true B3.lo), some (.va (.int near)), some (.va (.int l)), none, none] g = .rt (.va (.tup [.int l, .int (n4 * sg), .int b, .int n9])) [some (.ow true B9.lo), some (.va (.int near)), some (.va (.int l)), some (.va (.int (n4 * sg))), some (.va (.int b))] g := by
    simp [q12, run_mk, runF, agOk, exL, exS, evR, evL, evAV, retR, slOf, rdV, tyIs, kindA, tyB, outsOf, callM, argsOf, ioOf, backE, ite_M, asgM, tgM, setSl, setAll, endN, brw, holdB, lookOw, ctA, ctO, subC, lenC, biA, isV, setB, setOw, getOwB, lineOk, guardO, guardN, itM, itA, itSq, f9, f11, io9, io11, e4, e5, e6, e7, e8, e9, hsa, hb, hm, sizeLine]
  have all : exL T12 q12 [some (.ow true B.lo), some (.va (.int near)), none, none, none] g = .rt (.va (.tup [.int l, .int (n4 * sg), .int b, .int n9])) [some (.ow true B9.lo), some (.va (.int near)), some (.va (.int l)), some (.va (.int (n4 * sg))), some (.va (.int b))] g := by
    have hq : q12 = q12[0] :: q12[1] :: q12.drop 2 := rfl
    rw [hq]
    simp only [exL]
    rw [e0]
    show (exS T12 q12[1] _ g).then _ = _
    rw [es]
    exact tail
  exact run_rt rfl all rfl
end Lw
namespace Lw
open PySem PySem.Spec PyProof.Rows L2 Eg
theorem r13 (x y : Ef) (m1 : mulOk y.l x.b = true) (m2 : mulOk y.a x.b = true) (m3 : mulOk x.b y.b = true) (d : divOk y.b = true) (g : GS) : F13.run [.va x.A, .va y.A] g = .ok (.va (oA (jn x y))) [] g := by
  obtain ⟨a0, a1, a2, a3⟩ := atI4 (.int x.l) (.int x.a) (.int x.b) (.int x.t) 0
  obtain ⟨b0, b1, b2, b3⟩ := atI4 (.int y.l) (.int y.a) (.int y.b) (.int y.t) 0
  by_cases h : x.t < y.l
  · simp [F13, q13, Ef.A, run_mk, runF, agOk, exL, exS, evR, evL, evAV, retR, slOf, rdV, tyIs, kindA, tyB, outsOf, callM, argsOf, ioOf, backE, ite_M, asgM, tgM, setSl, setAll, endN, brw, holdB, lookOw, ctA, ctO, subC, lenC, biA, isV, setB, setOw, getOwB, lineOk, guardO, guardN, itM, itA, itSq, h, jn, oA, a0, a1, a2, a3, b0, b1, b2, b3]
  · simp [F13, q13, Ef.A, run_mk, runF, agOk, exL, exS, evR, evL, evAV, retR, slOf, rdV, tyIs, kindA, tyB, outsOf, callM, argsOf, ioOf, backE, ite_M, asgM, tgM, setSl, setAll, endN, brw, holdB, lookOw, ctA, ctO, subC, lenC, biA, isV, setB, setOw, getOwB, lineOk, guardO, guardN, itM, itA, itSq, h, jn, oA, m1, m2, m3, d, mx, mn, sizeLine, a0, a1, a2, a3, b0, b1, b2, b3]
theorem r14 (e : Option Ef) (s : Int) (d : ∀ x, e = some x → divOk x.b = true) (g : GS) : F14.run [.va (oA e), .va (.int s)] g = .ok (.va (.int (th e s))) [] g := by
  cases e with
  | none => simp [F14, q14, run_mk, runF, agOk, exL, exS, evR, evL, evAV, retR, slOf, rdV, tyIs, kindA, tyB, outsOf, callM, argsOf, ioOf, backE, ite_M, asgM, tgM, setSl, setAll, endN, brw, holdB, lookOw, ctA, ctO, subC, lenC, biA, isV, setB, setOw, getOwB, lineOk, guardO, guardN, itM, itA, itSq, oA, th]
  | some x =>
    obtain ⟨a0, a1, a2, a3⟩ := atI4 (.int x.l) (.int x.a) (.int x.b) (.int x.t) 0
    have dx := d x rfl
    by_cases h : s < x.l
    · simp [F14, q14, run_mk, runF, agOk, exL, exS, evR, evL, evAV, retR, slOf, rdV, tyIs, kindA, tyB, outsOf, callM, argsOf, ioOf, backE, ite_M, asgM, tgM, setSl, setAll, endN, brw, holdB, lookOw, ctA, ctO, subC, lenC, biA, isV, setB, setOw, getOwB, lineOk, guardO, guardN, itM, itA, itSq, oA, th, Ef.A, h, a0]
    · simp [F14, q14, run_mk, runF, agOk, exL, exS, evR, evL, evAV, retR, slOf, rdV, tyIs, kindA, tyB, outsOf, callM, argsOf, ioOf, backE, ite_M, asgM, tgM, setSl, setAll, endN, brw, holdB, lookOw, ctA, ctO, subC, lenC, biA, isV, setB, setOw, getOwB, lineOk, guardO, guardN, itM, itA, itSq, oA, th, Ef.A, h, a0, a1, a2, a3, dx, mn]
theorem logG {i : Int} (h : -GR < i) (h' : i < GR) : i.natAbs.log2 < 1920 := Nat.lt_of_lt_of_le (log2_lt (small h h') (by decide)) (by decide)
theorem div_bd {x b K : Int} (hb : 1 ≤ b) (hK : 0 ≤ K) (h1 : -K ≤ x) (h2 : x ≤ K) : -K ≤ x / b ∧ x / b ≤ K := by
  have e := Int.mul_ediv_add_emod x b
  have m0 := Int.emod_nonneg x (show b ≠ 0 by omega)
  have m1 := Int.emod_lt_of_pos x (show 0 < b by omega)
  constructor
  · apply Int.le_ediv_of_mul_le (by omega)
    have : K * 1 ≤ K * b := Int.mul_le_mul_of_nonneg_left hb hK
    rw [Int.neg_mul]
    omega
  · have h3 : x < (K + 1) * b := by
      have : (K + 1) * 1 ≤ (K + 1) * b := Int.mul_le_mul_of_nonneg_left hb (by omega)
      omega
    have := Int.ediv_lt_of_lt_mul (by omega) h3
    omega
theorem th_bd (o : Option Ef) (s : Int) (h : ∀ x, o = some x → x.Ok) (h0 : 0 ≤ s) (h1 : s ≤ 1000000000) : -(GR * 2) ≤ th o s ∧ th o s < GR := by
  have hg : (1000000000 : Int) < GR := by decide +kernel
  cases o with
  | none => simp only [th]; omega
  | some e =>
    have he := h e rfl
    have t1 := he.t1
    have t2 := he.t
    have a := he.a
    obtain ⟨d1, d2⟩ := div_bd (K := GR * 2) he.b1 (by omega) (show -(GR * 2) ≤ s + e.a by omega) (by omega)
    simp only [th, mn]
    split
    · omega
    · split <;> omega
theorem small2 {i : Int} (h : -(GR * 2) ≤ i) (h' : i < GR) : i.natAbs < 2 ^ 1401 := by
  have : 2 * (10 : Nat) ^ 400 < 2 ^ 1401 := by decide +kernel
  have e : GR = ((10 ^ 400 : Nat) : Int) := by decide +kernel
  rw [e] at h h'
  generalize (10 : Nat) ^ 400 = N at *
  generalize (2 : Nat) ^ 1401 = M at *
  omega
def pa (o : Option Ef) (s : Int) : Int := if s = 0 then 0 else th o s
theorem pass (o : Option Ef) (s : Int) (h : ∀ x, o = some x → x.Ok) (h0 : 0 ≤ s) (h1 : s ≤ 1000000000) :
    (∀ g, F7.run [.va (oA o), .va (.int s)] g = .ok (.va (.int (pa o s))) [] g) ∧ (∀ g, F14.run [.va (oA o), .va (.int s)] g = .ok (.va (.int (th o s))) [] g) ∧ mulOk (th o s) (if 0 < s then 1 else 0) = true ∧ th o s * (if 0 < s then 1 else 0) = pa o s ∧ (pa o s).natAbs.log2 < 1920 := by
  obtain ⟨b1, b2⟩ := th_bd o s h h0 h1
  have sm := small2 b1 b2
  refine ⟨r7 o s h h0 h1, r14 o s fun x hx => div_ok (h x hx).b1 (h x hx).b, ?_, ?_, ?_⟩
  · refine mulOk_of 1401 1 sm ?_ (by decide) (by decide) (by decide)
    split <;> decide
  · unfold pa
    by_cases hs : s = 0
    · subst hs; simp
    · rw [if_pos (by omega), if_neg hs, Int.mul_one]
  · have := log2_lt sm (by decide)
    unfold pa
    split
    · decide
    · omega
theorem prod_bd {x y P Q : Int} (hx : 0 ≤ x) (hxP : x ≤ P) (hy : 0 ≤ y) (hyQ : y ≤ Q) : 0 ≤ x * y ∧ x * y ≤ P * Q :=
  ⟨Int.mul_nonneg hx hy, Int.mul_le_mul hxP hyQ hy (by omega)⟩
theorem prod_bd2 {x y P Q : Int} (hx : -P ≤ x) (hxP : x ≤ P) (hy : 0 ≤ y) (hyQ : y ≤ Q) : -(P * Q) ≤ x * y ∧ x * y ≤ P * Q := by
  have hP : 0 ≤ P := by omega
  by_cases h : 0 ≤ x
  · obtain ⟨h1, h2⟩ := prod_bd h hxP hy hyQ
    have := Int.mul_nonneg hP (show 0 ≤ Q by omega)
    omega
  · obtain ⟨h1, h2⟩ := prod_bd (x := -x) (P := P) (by omega) (by omega) hy hyQ
    rw [Int.neg_mul] at h1 h2
    have := Int.mul_nonneg hP (show 0 ≤ Q by omega)
    omega
theorem Ef.Big.ok {e : Ef} (h : e.Big) : e.Ok := by
  have := XXG
  have := XX0
  obtain ⟨h1, h2, h3, h4, h5, h6, h7, h8⟩ := h
  exact ⟨h1, h5, h7, by omega, ⟨by omega, by omega⟩, by omega, by omega⟩
theorem XXX : (XX + 1) * XX + XX < GR ∧ XX * XX + XX < GR := by decide +kernel
theorem jn_bd {x y J : Ef} (hx : x.Big) (hy : y.Big) (h : jn x y = some J) : (-GR < J.l ∧ J.l < GR) ∧ (-GR < J.a ∧ J.a < GR) ∧ (-GR < J.b ∧ J.b < GR) ∧ (-GR < J.t ∧ J.t < GR) ∧ 1 ≤ J.l ∧ 1 ≤ J.b := by
  have x0 := XX0
  obtain ⟨c1, c2⟩ := XXX
  obtain ⟨h1, h2, h3, h4, h5, h6, h7, h8⟩ := hx
  obtain ⟨k1, k2, k3, k4, k5, k6, k7, k8⟩ := hy
  unfold jn at h
  split at h
  · cases h
  · cases h
    obtain ⟨p1, p2⟩ := prod_bd (x := y.l) (y := x.b) (by omega) k2 (by omega) h6
    obtain ⟨p3, p4⟩ := prod_bd2 (x := y.a) (y := x.b) k3 k4 (by omega) h6
    obtain ⟨p5, p6⟩ := prod_bd (x := x.b) (y := y.b) (by omega) h6 (by omega) k6
    obtain ⟨d1, d2⟩ := div_bd (x := x.t + y.a) (K := XX + XX) k5 (by omega) (by omega) (by omega)
    have xx : 0 ≤ XX * XX := Int.mul_nonneg (by omega) (by omega)
    have c3 : XX + XX < GR := by decide +kernel
    have pb : 1 ≤ x.b * y.b := by
      have := Int.mul_le_mul h5 k5 (by decide) (by omega)
      omega
    refine ⟨?_, ?_, ?_, ?_, ?_, pb⟩
    · dsimp only [mx]; split <;> omega
    · dsimp only; omega
    · dsimp only; omega
    · dsimp only [mn]; split <;> omega
    · dsimp only [mx]; split <;> omega
end Lw
namespace Lw
open PySem PySem.Spec PyProof.Rows L2 Eg
theorem io6 : F6.io = [false, false] := rfl
theorem io7 : F7.io = [false, false] := rfl
theorem io10 : F10.io = [false, false] := rfl
theorem io13 : F13.io = [false, false] := rfl
theorem io14 : F14.io = [false, false] := rfl
def body15 : List Eg.St := match q15[4]? with
  | some (Eg.St.for_ _ _ _ b) => b
  | _ => []
def inR (i : Int) : Bool := decide (0 ≤ i) && decide (i ≤ 1000000000)
theorem turn15 (B : Bag) (x y : Ef) (hx : x.Big) (hy : y.Big) (z : Option Sl) (s : Int) (h0 : 0 ≤ s) (h1 : s ≤ 1000000000) (g : GS) :
    ∃ o, (o = Out.nx [some (.ow true B.lo), some (.va x.A), some (.va y.A), some (.va (oA (jn x y))), z, some (.va (.int s)), none] g ∨ o = Out.ct [some (.ow true B.lo), some (.va x.A), some (.va y.A), some (.va (oA (jn x y))), z, some (.va (.int s)), none] g) ∧
      exL T15 body15 [some (.ow true B.lo), some (.va x.A), some (.va y.A), some (.va (oA (jn x y))), z, some (.va (.int s)), none] g = o := by
  have f7 : T15.fn 7 = some F7 := rfl
  have f10 : T15.fn 10 = some F10 := rfl
  have f14 : T15.fn 14 = some F14 := rfl
  obtain ⟨p1, p2, p3, p4, p5⟩ := pass (some x) s (fun e he => by cases he; exact hx.ok) h0 h1
  obtain ⟨n1, n2, n3, n4, n5⟩ := pass none s (fun e he => by cases he) h0 h1
  have a1 := r10i _ p5
  have a2 := r10i _ n5
  have pn : pa none s = 0 := by unfold pa th; split <;> rfl
  rw [pn] at a2 n1
  have k1 : ∀ b : Bool, (if b = true then (1 : Int) else 0) = if b = true then 1 else 0 := fun _ => rfl
  cases hj : jn x y with
  | none =>
    have tn : th none s = 0 := rfl
    rw [tn] at n2 n3 n4
    refine ⟨_, .inl rfl, ?_⟩
    simp only [oA] at p1 p2 n1 n2 ⊢
    simp [body15, q15, run_mk, runF, agOk, exL, exS, evR, evL, evAV, retR, slOf, rdV, tyIs, kindA, tyB, outsOf, callM, argsOf, ioOf, backE, ite_M, asgM, tgM, setSl, setAll, endN, brw, holdB, lookOw, ctA, ctO, subC, lenC, biA, isV, setB, setOw, getOwB, lineOk, guardO, guardN, itM, itA, itSq, f7, f10, f14, io7, io10, io14, p1, p2, p3, p4, a1, n1, n2, n3, n4, a2, pn]
  | some J =>
    obtain ⟨j1, j2, j3, j4, j5, j6⟩ := jn_bd hx hy hj
    obtain ⟨c0, c1, c2, c3⟩ := atI4 (.int J.l) (.int J.a) (.int J.b) (.int J.t) 0
    have isJ : isNon J.A = false := rfl
    have cJ : ctA J.A = some (.seq .tup [.int J.l, .int J.a, .int J.b, .int J.t]) := rfl
    by_cases ht : J.t < 1
    · refine ⟨_, .inr rfl, ?_⟩
      simp only [oA] at p1 p2 n1 n2 ⊢
      simp [body15, q15, run_mk, runF, agOk, exL, exS, evR, evL, evAV, retR, slOf, rdV, tyIs, kindA, tyB, outsOf, callM, argsOf, ioOf, backE, ite_M, asgM, tgM, setSl, setAll, endN, brw, holdB, lookOw, ctO, subC, lenC, biA, isV, setB, setOw, getOwB, lineOk, guardO, guardN, itM, itA, itSq, f7, f10, f14, io7, io10, io14, p1, p2, p3, p4, a1, isJ, cJ, c3, ht]
    · have hJ : J.Ok := ⟨j5, j6, by omega, j1.2, j2, j3.2, j4.2⟩
      obtain ⟨m1, m2, m3, m4, m5⟩ := pass (some J) s (fun e he => by cases he; exact hJ) h0 h1
      have a3 := r10i _ m5
      refine ⟨_, .inl rfl, ?_⟩
      simp only [oA] at p1 p2 n1 n2 m1 m2 ⊢
      simp [body15, q15, run_mk, runF, agOk, exL, exS, evR, evL, evAV, retR, slOf, rdV, tyIs, kindA, tyB, outsOf, callM, argsOf, ioOf, backE, ite_M, asgM, tgM, setSl, setAll, endN, brw, holdB, lookOw, ctO, subC, lenC, biA, isV, setB, setOw, getOwB, lineOk, guardO, guardN, itM, itA, itSq, f7, f10, f14, io7, io10, io14, p1, p2, p3, p4, a1, n1, m1, m2, m3, m4, a3, isJ, cJ, c3, ht]
def pI (x : A) : Bool := match x with
  | .int i => inR i
  | _ => false
theorem filt : ∀ L : List Int, (L.map A.int).filter pI = (L.filter inR).map A.int
  | [] => rfl
  | i :: L => by
    rw [List.map_cons, List.filter_cons, List.filter_cons]
    have e : pI (A.int i) = inR i := rfl
    rw [e, filt L]
    by_cases h : inR i = true
    · rw [if_pos h, if_pos h]; rfl
    · rw [if_neg h, if_neg h]
theorem comp15 (B : Bag) (x y : Ef) (o : Option Ef) (L : List Int) (hl : L.length ≤ 7) (g : GS) :
    evR T15 (.lc (.v 6) (.n 6) .seq [.v 4] (.cmp2 .le .le (.c (.int 0)) (.v 6) (.bin .pow (.c (.int 10)) (.c (.int 9))))) [some (.ow true B.lo), some (.va x.A), some (.va y.A), some (.va (oA o)), some (.ow false (.lst (L.map A.int))), none, none] g =
      .ok (.nw (.lst ((L.filter inR).map A.int))) [some (.ow true B.lo), some (.va x.A), some (.va y.A), some (.va (oA o)), some (.va (.lst (L.map A.int))), none, none] g := by
  have sl : (7 : Nat) ≤ sizeLine := by decide
  have c := comp1 (v := 6) (p := pI) (h := fun x => x) (ρ := [some (.ow true B.lo), some (.va x.A), some (.va y.A), some (.va (oA o)), some (.va (.lst (L.map A.int))), none, none]) (g := g) (items := L.map A.int)
    (f := fun x => do
      tgM (.n 6) x
      let c ← fzM (evR T15 (.cmp2 .le .le (.c (.int 0)) (.v 6) (.bin .pow (.c (.int 10)) (.c (.int 9)))))
      let c' ← boolM c
      if c' then do
        let y ← fzM (evR T15 (.v 6))
        pure (some y)
      else pure none) (by rw [List.length_map]; omega) rfl fun z hz => by
        obtain ⟨i, _, rfl⟩ := List.mem_map.mp hz
        refine ⟨[some (.ow true B.lo), some (.va x.A), some (.va y.A), some (.va (oA o)), some (.va (.lst (L.map A.int))), none, some (.va (.int i))], ?_, rfl⟩
        by_cases h1 : 0 ≤ i <;> by_cases h2 : i ≤ 1000000000 <;> simp [run_mk, runF, agOk, exL, exS, evR, evL, evAV, retR, slOf, rdV, tyIs, kindA, tyB, outsOf, callM, argsOf, ioOf, backE, ite_M, asgM, tgM, setSl, setAll, endN, brw, holdB, lookOw, ctA, ctO, subC, lenC, biA, isV, setB, setOw, getOwB, lineOk, guardO, guardN, itM, itA, itSq, pw9, pI, inR, h1, h2]
  have e2 : ((L.map A.int).filter pI).map (fun x => x) = (L.filter inR).map A.int := by
    rw [List.map_id', filt]
  rw [e2] at c
  simp [run_mk, runF, agOk, exL, exS, evR, evL, evAV, retR, slOf, rdV, tyIs, kindA, tyB, outsOf, callM, argsOf, ioOf, backE, ite_M, asgM, tgM, setSl, setAll, endN, brw, holdB, lookOw, ctA, ctO, subC, lenC, biA, isV, setB, setOw, getOwB, lineOk, guardO, guardN, itM, itA, itSq, Tg.slots] at c ⊢
  simp [c]
theorem two_right (B : Bag) (x y : Ef) (hx : x.Big) (hy : y.Big) (hc : B.c ≤ 900000) : ∃ B' : Bag, B'.c ≤ B.c + 1 ∧ ∀ g, F15.run [.lo B.lo, .va x.A, .va y.A] g = .ok (.va (.bl true)) [B'.lo] g := by
  have f6 : T15.fn 6 = some F6 := rfl
  have f9 : T15.fn 9 = some F9 := rfl
  have f10 : T15.fn 10 = some F10 := rfl
  have f13 : T15.fn 13 = some F13 := rfl
  obtain ⟨v, B1, p1, p2, p3, e1⟩ := take B 1000000000 (by omega) (by decide) (by decide)
  have hX := hx.ok
  have hY := hy.ok
  have hg : (0 : Int) < GR := by decide +kernel
  have q1' := hX.b1
  have q2' := hX.b
  have q3' := hY.b1
  have q4' := hY.b
  have q5' := hY.l1
  have q6' := hY.l
  have q7' := hY.a
  have j6 := r6 x y hX hY
  have j13 := r13 x y (mul_ok (by omega) q6' (by omega) q2') (mul_ok q7'.1 q7'.2 (by omega) q2') (mul_ok (by omega) q2' (by omega) q4') (div_ok q3' q4')
  have al := r10o (jn x y) fun e he => by
    obtain ⟨b1, b2, b3, b4, _, _⟩ := jn_bd hx hy he
    exact ⟨logG b1.1 b1.2, logG b2.1 b2.2, logG b3.1 b3.2, logG b4.1 b4.2⟩
  refine ⟨B1, p3, fun g => ?_⟩
  have pre : ∃ L : List Int, L.length ≤ 7 ∧ exL T15 q15 [some (.ow true B.lo), some (.va x.A), some (.va y.A), none, none, none, none] g =
      exL T15 (q15.drop 4) [some (.ow true B1.lo), some (.va x.A), some (.va y.A), some (.va (oA (jn x y))), some (.ow false (.lst (L.map A.int))), none, none] g := by
    cases hj : jn x y with
    | none =>
      rw [hj] at j6 j13 al
      simp only [oA] at j6 j13 al
      refine ⟨[0, 1, v + 1, 1000000000], by simp, ?_⟩
      simp [q15, run_mk, runF, agOk, exL, exS, evR, evL, evAV, retR, slOf, rdV, tyIs, kindA, tyB, outsOf, callM, argsOf, ioOf, backE, ite_M, asgM, tgM, setSl, setAll, endN, brw, holdB, lookOw, ctA, ctO, subC, lenC, biA, isV, setB, setOw, getOwB, lineOk, guardO, guardN, itM, itA, itSq, f6, f9, f10, f13, io6, io9, io10, io13, j6, j13, al, e1, pw9, oA, sizeLine]
    | some J =>
      rw [hj] at j6 j13 al
      simp only [oA] at j6 j13 al
      obtain ⟨c0, c1, c2, c3⟩ := atI4 (.int J.l) (.int J.a) (.int J.b) (.int J.t) 0
      have isJ : isNon J.A = false := rfl
      have cJ : ctA J.A = some (.seq .tup [.int J.l, .int J.a, .int J.b, .int J.t]) := rfl
      refine ⟨[0, 1, v + 1, 1000000000, J.l - 1, J.l, J.l + 1], by simp, ?_⟩
      simp [q15, run_mk, runF, agOk, exL, exS, evR, evL, evAV, retR, slOf, rdV, tyIs, kindA, tyB, outsOf, callM, argsOf, ioOf, backE, ite_M, asgM, tgM, setSl, setAll, endN, brw, holdB, lookOw, ctO, subC, lenC, biA, isV, setB, setOw, getOwB, lineOk, guardO, guardN, itM, itA, itSq, f6, f9, f10, f13, io6, io9, io10, io13, j6, j13, al, e1, pw9, oA, sizeLine, isJ, cJ, c0, binA]
  obtain ⟨L, hl, pre⟩ := pre
  have cm := comp15 B1 x y (jn x y) L hl g
  obtain ⟨ρ', g', hf, z, zi⟩ := forN_inv (t := tgM (.n 5)) (b := exL T15 body15) (fun ρ h => h = g ∧ ∃ z : Option Sl, ρ = [some (.ow true B1.lo), some (.va x.A), some (.va y.A), some (.va (oA (jn x y))), some (.va (.lst (L.map A.int))), z, none])
    (fun a => ∃ s : Int, a = .int s ∧ 0 ≤ s ∧ s ≤ 1000000000) (by
      rintro a ρ h ⟨s, rfl, s0, s1⟩ ⟨rfl, z, rfl⟩
      obtain ⟨o, ho, e⟩ := turn15 B1 x y hx hy (some (.va (.lst (L.map A.int)))) s s0 s1 h
      refine ⟨_, h, rfl, [some (.ow true B1.lo), some (.va x.A), some (.va y.A), some (.va (oA (jn x y))), some (.va (.lst (L.map A.int))), some (.va (.int s)), none], h, ?_, rfl, _, rfl⟩
      rcases ho with rfl | rfl
      · exact .inl e
      · exact .inr e) ((L.filter inR).map A.int) (by
      intro a ha
      obtain ⟨s, hs, rfl⟩ := List.mem_map.mp ha
      have := (List.mem_filter.mp hs).2
      simp only [inR, Bool.and_eq_true, decide_eq_true_eq] at this
      exact ⟨s, rfl, this.1, this.2⟩) [some (.ow true B1.lo), some (.va x.A), some (.va y.A), some (.va (oA (jn x y))), some (.va (.lst (L.map A.int))), none, none] g ⟨rfl, none, rfl⟩
  obtain ⟨rfl, w, rfl⟩ : g' = g ∧ ∃ z : Option Sl, ρ' = [some (.ow true B1.lo), some (.va x.A), some (.va y.A), some (.va (oA (jn x y))), some (.va (.lst (L.map A.int))), z, none] := ⟨z, zi⟩
  have hfor : exS T15 q15[4] [some (.ow true B1.lo), some (.va x.A), some (.va y.A), some (.va (oA (jn x y))), some (.ow false (.lst (L.map A.int))), none, none] g' = .nx [some (.ow true B1.lo), some (.va x.A), some (.va y.A), some (.va (oA (jn x y))), some (.va (.lst (L.map A.int))), w, none] g' := by
    have hq : q15[4] = Eg.St.for_ (.n 5) .seq [.lc (.v 6) (.n 6) .seq [.v 4] (.cmp2 .le .le (.c (.int 0)) (.v 6) (.bin .pow (.c (.int 10)) (.c (.int 9))))] body15 := rfl
    rw [hq]
    simp only [exS, ev_toOut, ev_bind, evL, ev_fz, cm, ev_pure, fzR_nw, itM, itA, itSq, ev_ofO]
    exact hf
  have hend : exL T15 (q15.drop 4) [some (.ow true B1.lo), some (.va x.A), some (.va y.A), some (.va (oA (jn x y))), some (.ow false (.lst (L.map A.int))), none, none] g' = .rt (.va (.bl true)) [some (.ow true B1.lo), some (.va x.A), some (.va y.A), some (.va (oA (jn x y))), some (.va (.lst (L.map A.int))), w, none] g' := by
    have hq : q15.drop 4 = [q15[4], Eg.St.ret (.c (.bl true))] := rfl
    rw [hq]
    simp only [exL]
    rw [hfor]
    simp [run_mk, runF, agOk, exL, exS, evR, evL, evAV, retR, slOf, rdV, tyIs, kindA, tyB, outsOf, callM, argsOf, ioOf, backE, ite_M, asgM, tgM, setSl, setAll, endN, brw, holdB, lookOw, ctA, ctO, subC, lenC, biA, isV, setB, setOw, getOwB, lineOk, guardO, guardN, itM, itA, itSq]
  exact run_rt rfl (pre.trans hend) rfl
end Lw
namespace Lw
open PySem PySem.Spec PyProof.Rows L2 Eg
structure Ef.Pl (e : Ef) : Prop where
  b1 : 1 ≤ e.b
  b3 : e.b ≤ 3
  a1 : -15 ≤ e.a
  a2 : e.a ≤ 14
  l1 : 1 ≤ e.l
  l2 : e.l ≤ 18
  lb : e.b - e.a ≤ e.l
  t1 : 1 ≤ e.t
  t2 : e.t ≤ 60
theorem Ef.Pl.big {e : Ef} (h : e.Pl) : e.Big := by
  have := XX0
  obtain ⟨h1, h2, h3, h4, h5, h6, h7, h8, h9⟩ := h
  exact ⟨h5, by omega, by omega, by omega, h1, by omega, h8, by omega⟩
theorem div_ge {x b k : Int} (hb : 1 ≤ b) (h : k * b ≤ x) : k ≤ x / b := Int.le_ediv_of_mul_le (by omega) h
theorem ge_iff {x b k : Int} (hb : 1 ≤ b) : k ≤ x / b ↔ k * b ≤ x := Int.le_ediv_iff_mul_le (by omega)
theorem mn_le (i j k : Int) : k ≤ mn i j ↔ k ≤ i ∧ k ≤ j := by unfold mn; split <;> omega
theorem mx_le (i j k : Int) : mx i j ≤ k ↔ i ≤ k ∧ j ≤ k := by unfold mx; split <;> omega
theorem eq_of_le {i j : Int} (h : ∀ k, k ≤ i ↔ k ≤ j) : i = j := Int.le_antisymm ((h i).mp (Int.le_refl _)) ((h j).mpr (Int.le_refl _))
theorem eq_of_ge {i j : Int} (h : ∀ k, i ≤ k ↔ j ≤ k) : i = j := Int.le_antisymm ((h j).mpr (Int.le_refl _)) ((h i).mp (Int.le_refl _))
theorem th_ge {e : Ef} {s : Int} (hp : e.Pl) (h : ¬ s < e.l) : 1 ≤ th (some e) s := by
  obtain ⟨h1, h2, h3, h4, h5, h6, h7, h8, h9⟩ := hp
  simp only [th, if_neg h]
  rw [mn_le, ge_iff h1]
  omega
theorem pa_rng {e : Ef} {s : Int} (hp : e.Pl) (hs : 0 ≤ s) : 0 ≤ pa (some e) s ∧ pa (some e) s ≤ 60 := by
  unfold pa
  split
  · omega
  · by_cases h : s < e.l
    · simp only [th, if_pos h]; omega
    · have h1 := th_ge hp h
      have h2 : th (some e) s ≤ e.t := by
        simp only [th, if_neg h, mn]
        split <;> omega
      have := hp.t2
      omega
theorem chain1 {x y : Ef} (hx : x.Pl) (hy : y.Pl) {s : Int} (hs : 0 ≤ s) : pa (some y) (pa (some x) s) = pa (jn x y) s := by
  by_cases s0 : s = 0
  · subst s0
    have e1 : pa (some x) 0 = 0 := by unfold pa; rw [if_pos rfl]
    rw [e1]
    unfold pa
    rw [if_pos rfl, if_pos rfl]
  · obtain ⟨x1, x2, x3, x4, x5, x6, x7, x8, x9⟩ := id hx
    obtain ⟨y1, y2, y3, y4, y5, y6, y7, y8, y9⟩ := id hy
    have e1 : pa (some x) s = th (some x) s := by unfold pa; rw [if_neg s0]
    rw [e1]
    by_cases hl : s < x.l
    · have e2 : th (some x) s = 0 := by simp only [th, if_pos hl]
      rw [e2]
      unfold pa
      rw [if_pos rfl, if_neg s0]
      cases hj : jn x y with
      | none => rfl
      | some J =>
        unfold jn at hj
        split at hj
        · cases hj
        · cases hj
          simp only [th]
          rw [if_pos]
          have := (mx_le x.l (y.l * x.b - x.a) (mx x.l (y.l * x.b - x.a))).mp (Int.le_refl _)
          omega
    · have g1 := th_ge hx hl
      have e2 : th (some x) s = mn x.t ((s + x.a) / x.b) := by simp only [th, if_neg hl]
      unfold pa
      rw [if_neg (by omega), if_neg s0]
      generalize hp : th (some x) s = p at *
      unfold jn
      by_cases ht : x.t < y.l
      · rw [if_pos ht]
        have : p ≤ x.t := by rw [e2]; exact ((mn_le x.t _ _).mp (Int.le_refl _)).1
        simp only [th]
        rw [if_pos (by omega)]
      · rw [if_neg ht]
        have hpl : y.l ≤ p ↔ y.l * x.b - x.a ≤ s := by
          rw [e2, mn_le, ge_iff x1]
          omega
        by_cases hq : p < y.l
        · simp only [th]
          rw [if_pos hq, if_pos]
          have := (mx_le x.l (y.l * x.b - x.a) (mx x.l (y.l * x.b - x.a))).mp (Int.le_refl _)
          omega
        · simp only [th]
          rw [if_neg hq, if_neg]
          · apply eq_of_le
            intro k
            have hb : 1 ≤ x.b * y.b := by
              have := Int.mul_le_mul x1 y1 (by decide) (by omega)
              omega
            rw [mn_le, mn_le, mn_le, ge_iff y1, ge_iff hb, ge_iff y1, e2]
            have e3 : k * y.b ≤ mn x.t ((s + x.a) / x.b) + y.a ↔ k * y.b - y.a ≤ mn x.t ((s + x.a) / x.b) := by omega
            rw [e3, mn_le, ge_iff x1]
            have e4 : (k * y.b - y.a) * x.b = k * (x.b * y.b) - y.a * x.b := by
              rw [Int.sub_mul, Int.mul_assoc, Int.mul_comm y.b x.b]
            rw [e4]
            constructor
            · rintro ⟨h1, h2, h3⟩; exact ⟨⟨h1, by omega⟩, by omega⟩
            · rintro ⟨⟨h1, h2⟩, h3⟩; exact ⟨h1, by omega, by omega⟩
          · have := (mx_le x.l (y.l * x.b - x.a) s).mpr ⟨by omega, by omega⟩
            omega
theorem jn_pl {x y J : Ef} (hx : x.Pl) (hy : y.Pl) (h : jn x y = some J) : J.Big := by
  obtain ⟨x1, x2, x3, x4, x5, x6, x7, x8, x9⟩ := id hx
  obtain ⟨y1, y2, y3, y4, y5, y6, y7, y8, y9⟩ := id hy
  have := XX0
  unfold jn at h
  split at h
  · cases h
  · cases h
    obtain ⟨p1, p2⟩ := prod_bd (x := y.l) (y := x.b) (P := 18) (Q := 3) (by omega) (by omega) (by omega) (by omega)
    obtain ⟨p3, p4⟩ := prod_bd2 (x := y.a) (y := x.b) (P := 15) (Q := 3) (by omega) (by omega) (by omega) (by omega)
    obtain ⟨p5, p6⟩ := prod_bd (x := x.b) (y := y.b) (P := 3) (Q := 3) (by omega) (by omega) (by omega) (by omega)
    have pb : 1 ≤ x.b * y.b := by
      have := Int.mul_le_mul x1 y1 (by decide) (by omega)
      omega
    have d : 1 ≤ (x.t + y.a) / y.b := by rw [ge_iff y1]; omega
    refine ⟨?_, ?_, ?_, ?_, ?_, ?_, ?_, ?_⟩
    · dsimp only [mx]; split <;> omega
    · dsimp only [mx]; split <;> omega
    · dsimp only; omega
    · dsimp only; omega
    · exact pb
    · dsimp only; omega
    · dsimp only [mn]; split <;> omega
    · dsimp only [mn]; split <;> omega
theorem chain2 {x y z J K : Ef} (hx : x.Pl) (hy : y.Pl) (hz : z.Pl) (h1 : jn x y = some J) (h2 : jn y z = some K) : jn J z = jn x K := by
  obtain ⟨x1, x2, x3, x4, x5, x6, x7, x8, x9⟩ := id hx
  obtain ⟨y1, y2, y3, y4, y5, y6, y7, y8, y9⟩ := id hy
  obtain ⟨z1, z2, z3, z4, z5, z6, z7, z8, z9⟩ := id hz
  unfold jn at h1 h2
  split at h1
  · cases h1
  · rename_i n1
    cases h1
    split at h2
    · cases h2
    · rename_i n2
      cases h2
      unfold jn
      dsimp only
      have hb : 1 ≤ x.b * y.b := by
        have := Int.mul_le_mul x1 y1 (by decide) (by omega)
        omega
      have hc : 1 ≤ y.b * z.b := by
        have := Int.mul_le_mul y1 z1 (by decide) (by omega)
        omega
      have cond : (mn y.t ((x.t + y.a) / y.b) < z.l) ↔ (x.t < mx y.l (z.l * y.b - y.a)) := by
        have i1 := mn_le y.t ((x.t + y.a) / y.b) z.l
        have i2 := mx_le y.l (z.l * y.b - y.a) x.t
        have i3 := ge_iff (x := x.t + y.a) (k := z.l) y1
        omega
      by_cases hcond : mn y.t ((x.t + y.a) / y.b) < z.l
      · rw [if_pos hcond, if_pos (cond.mp hcond)]
      · rw [if_neg hcond, if_neg (fun h => hcond (cond.mpr h))]
        have m1 : x.b * y.b * z.b = x.b * (y.b * z.b) := Int.mul_assoc ..
        have ea : x.a + y.a * x.b + z.a * (x.b * y.b) = x.a + (y.a + z.a * y.b) * x.b := by
          rw [Int.add_mul, Int.mul_assoc z.a y.b x.b, Int.mul_comm y.b x.b]
          omega
        have el : mx (mx x.l (y.l * x.b - x.a)) (z.l * (x.b * y.b) - (x.a + y.a * x.b)) = mx x.l (mx y.l (z.l * y.b - y.a) * x.b - x.a) := by
          apply eq_of_ge
          intro k
          rw [mx_le, mx_le, mx_le]
          have e3 : (z.l * y.b - y.a) * x.b = z.l * (x.b * y.b) - y.a * x.b := by
            rw [Int.sub_mul, Int.mul_assoc, Int.mul_comm y.b x.b]
          have e4 : mx y.l (z.l * y.b - y.a) * x.b ≤ k + x.a ↔ y.l * x.b ≤ k + x.a ∧ (z.l * y.b - y.a) * x.b ≤ k + x.a := by
            unfold mx
            split
            · rename_i hh
              have := Int.mul_le_mul_of_nonneg_right (show y.l ≤ z.l * y.b - y.a by omega) (show 0 ≤ x.b by omega)
              omega
            · rename_i hh
              have := Int.mul_le_mul_of_nonneg_right (show z.l * y.b - y.a ≤ y.l by omega) (show 0 ≤ x.b by omega)
              omega
          omega
        have et : mn z.t ((mn y.t ((x.t + y.a) / y.b) + z.a) / z.b) = mn (mn z.t ((y.t + z.a) / z.b)) ((x.t + (y.a + z.a * y.b)) / (y.b * z.b)) := by
          apply eq_of_le
          intro k
          rw [mn_le, mn_le, mn_le, ge_iff z1, ge_iff z1, ge_iff hc]
          have e3 : k * z.b ≤ mn y.t ((x.t + y.a) / y.b) + z.a ↔ k * z.b - z.a ≤ mn y.t ((x.t + y.a) / y.b) := by omega
          rw [e3, mn_le, ge_iff y1]
          have e4 : (k * z.b - z.a) * y.b = k * (y.b * z.b) - z.a * y.b := by
            rw [Int.sub_mul, Int.mul_assoc, Int.mul_comm z.b y.b]
          rw [e4]
          omega
        rw [m1, ea, el, et]
end Lw
namespace Lw
open PySem PySem.Spec PyProof.Rows L2 Eg
theorem oA_some (e : Ef) : oA (some e) = e.A := rfl
theorem oA_none : oA none = .non := rfl
theorem plainE (B : Bag) (hc : B.c ≤ 900000) : ∃ (e : Ef) (B' : Bag), e.Pl ∧ B'.c ≤ B.c + 3 ∧ ∀ g, F16.run [.lo B.lo] g = .ok (.va e.A) [B'.lo] g := by
  have f9 : T16.fn 9 = some F9 := rfl
  obtain ⟨v1, B1, p1, p2, p3, e1⟩ := take B 60 (by omega) (by decide) (by decide)
  obtain ⟨v2, B2, q1, q2, q3, e2⟩ := take B1 3 (by omega) (by decide) (by decide)
  obtain ⟨v3, B3, s1, s2, s3, e3⟩ := take B2 30 (by omega) (by decide) (by decide)
  have xg := XXG
  have x0 := XX0
  have d : divOk (1 + v2) = true := div_ok (by omega) (by omega)
  obtain ⟨dl, dr⟩ := div_bd (x := 60 + (v3 - 15)) (b := 1 + v2) (K := 100) (by omega) (by decide) (by omega) (by omega)
  refine ⟨⟨if 1 < 1 + v2 - (v3 - 15) then 1 + v2 - (v3 - 15) else 1, v3 - 15, 1 + v2, if (if 1 < (60 + (v3 - 15)) / (1 + v2) then (60 + (v3 - 15)) / (1 + v2) else 1) < 1 + v1 then (if 1 < (60 + (v3 - 15)) / (1 + v2) then (60 + (v3 - 15)) / (1 + v2) else 1) else 1 + v1⟩, B3, ?_, by omega, fun g => ?_⟩
  · refine ⟨?_, ?_, ?_, ?_, ?_, ?_, ?_, ?_, ?_⟩
    · dsimp only; omega
    · dsimp only; omega
    · dsimp only; omega
    · dsimp only; omega
    · dsimp only; split <;> omega
    · dsimp only; split <;> omega
    · dsimp only; split <;> omega
    · dsimp only; split <;> split <;> omega
    · dsimp only; split <;> split <;> omega
  · simp [F16, q16, run_mk, runF, agOk, exL, exS, evR, evL, evAV, retR, slOf, rdV, tyIs, kindA, tyB, outsOf, callM, argsOf, ioOf, backE, ite_M, asgM, tgM, setSl, setAll, endN, brw, holdB, lookOw, ctA, ctO, subC, lenC, biA, isV, setB, setOw, getOwB, lineOk, guardO, guardN, itM, itA, itSq, f9, io9, e1, e2, e3, d, Ef.A, sizeLine]
theorem io16 : F16.io = [true] := rfl
theorem rng3 : rngA 0 3 = [.int 0, .int 1, .int 2] := rfl
theorem rng6 : rngA 0 6 = [.int 0, .int 1, .int 2, .int 3, .int 4, .int 5] := rfl
theorem passE {o : Option Ef} {s : Int} (h : ∀ x, o = some x → x.Ok) (h0 : 0 ≤ s) (h1 : s ≤ 60) (g : GS) : F7.run [.va (oA o), .va (.int s)] g = .ok (.va (.int (pa o s))) [] g := (pass o s h h0 (by omega)).1 g
def body17 : List Eg.St := match q17[3]? with
  | some (Eg.St.for_ _ _ _ b) => b
  | _ => []
theorem turn17 (B : Bag) (x y z : Ef) (hx : x.Pl) (hy : y.Pl) (o2 : Option Ef) (w u : Option Sl) (s : Int) (h0 : 0 ≤ s) (h1 : s ≤ 60) (g : GS) :
    exL T17 body17 [some (.ow true B.lo), some (.va x.A), some (.va y.A), some (.va z.A), w, some (.va (oA (jn x y))), some (.va (oA o2)), some (.va (.int s))] g = .nx [some (.ow true B.lo), some (.va x.A), some (.va y.A), some (.va z.A), w, some (.va (oA (jn x y))), some (.va (oA o2)), some (.va (.int s))] g := by
  have f7 : T17.fn 7 = some F7 := rfl
  obtain ⟨r1, r2⟩ := pa_rng (e := x) (s := s) hx h0
  have e1 := passE (o := some x) (s := s) (fun e he => by cases he; exact hx.big.ok) h0 h1
  have e2 := passE (o := some y) (s := pa (some x) s) (fun e he => by cases he; exact hy.big.ok) r1 r2
  have e3 := passE (o := jn x y) (s := s) (fun e he => (jn_pl hx hy he).ok) h0 h1
  rw [chain1 hx hy h0] at e2
  simp only [oA] at e1 e2
  simp [body17, q17, run_mk, runF, agOk, exL, exS, evR, evL, evAV, retR, slOf, rdV, tyIs, kindA, tyB, outsOf, callM, argsOf, ioOf, backE, ite_M, asgM, tgM, setSl, setAll, endN, brw, holdB, lookOw, ctA, ctO, subC, lenC, biA, isV, setB, setOw, getOwB, lineOk, guardO, guardN, itM, itA, itSq, f7, io7, e1, e2, e3]
theorem chain_right (B : Bag) (hc : B.c ≤ 800000) : ∃ B' : Bag, B'.c ≤ B.c + 9 ∧ ∀ g, F17.run [.lo B.lo] g = .ok (.va (.bl true)) [B'.lo] g := by
  have f6 : T17.fn 6 = some F6 := rfl
  have f7 : T17.fn 7 = some F7 := rfl
  have f10 : T17.fn 10 = some F10 := rfl
  have f16 : T17.fn 16 = some F16 := rfl
  obtain ⟨x, B1, hx, c1, e1⟩ := plainE B (by omega)
  obtain ⟨y, B2, hy, c2, e2⟩ := plainE B1 (by omega)
  obtain ⟨z, B3, hz, c3, e3⟩ := plainE B2 (by omega)
  have jxy := r6 x y hx.big.ok hy.big.ok
  have jyz := r6 y z hy.big.ok hz.big.ok
  refine ⟨B3, by omega, fun g => ?_⟩
  have pre : exL T17 q17 [some (.ow true B.lo), none, none, none, none, none, none, none] g = exL T17 (q17.drop 3) [some (.ow true B3.lo), some (.va x.A), some (.va y.A), some (.va z.A), none, some (.va (oA (jn x y))), some (.va (oA (jn y z))), none] g := by
    simp [q17, run_mk, runF, agOk, exL, exS, evR, evL, evAV, retR, slOf, rdV, tyIs, kindA, tyB, outsOf, callM, argsOf, ioOf, backE, ite_M, asgM, tgM, setSl, setAll, endN, brw, holdB, lookOw, ctA, ctO, subC, lenC, biA, isV, setB, setOw, getOwB, lineOk, guardO, guardN, itM, itA, itSq, itR1, f16, f6, io16, io6, e1, e2, e3, jxy, jyz, rng3, compR, compM, wipeE, restE, Tg.slots, sizeLine]
  obtain ⟨ρ', g', hf, zi⟩ := forN_inv (t := tgM (.n 7)) (b := exL T17 body17) (fun ρ h => h = g ∧ ∃ w : Option Sl, ρ = [some (.ow true B3.lo), some (.va x.A), some (.va y.A), some (.va z.A), none, some (.va (oA (jn x y))), some (.va (oA (jn y z))), w])
    (fun a => ∃ s : Int, a = .int s ∧ 0 ≤ s ∧ s ≤ 60) (by
      rintro a ρ h ⟨s, rfl, s0, s1⟩ ⟨rfl, w, rfl⟩
      exact ⟨_, h, rfl, _, h, .inl (turn17 B3 x y z hx hy (jn y z) none none s s0 s1 h), rfl, _, rfl⟩) (rngA 0 61) (by
      intro a ha
      obtain ⟨k, hk, rfl⟩ := List.mem_map.mp ha
      have := List.mem_range.mp hk
      exact ⟨0 + (k : Int), rfl, by omega, by omega⟩) [some (.ow true B3.lo), some (.va x.A), some (.va y.A), some (.va z.A), none, some (.va (oA (jn x y))), some (.va (oA (jn y z))), none] g ⟨rfl, none, rfl⟩
  obtain ⟨rfl, w, rfl⟩ := zi
  have hfor : exS T17 q17[3] [some (.ow true B3.lo), some (.va x.A), some (.va y.A), some (.va z.A), none, some (.va (oA (jn x y))), some (.va (oA (jn y z))), none] g' = .nx [some (.ow true B3.lo), some (.va x.A), some (.va y.A), some (.va z.A), none, some (.va (oA (jn x y))), some (.va (oA (jn y z))), w] g' := by
    have hq : q17[3] = Eg.St.for_ (.n 7) .r1 [.c (.int 61)] body17 := rfl
    have hi : itA .r1 [A.int 61] = some (rngA 0 61) := rfl
    rw [hq]
    simp only [exS, ev_toOut, ev_bind, evL, evR, ev_fz, ev_pure, fzR_va, itM, hi, ev_ofO]
    exact hf
  have p1 := passE (o := some x) (s := 60) (fun e he => by cases he; exact hx.big.ok) (by decide) (by decide)
  have rg := pa_rng (e := x) (s := 60) hx (by decide)
  have p2 := passE (o := some y) (s := pa (some x) 60) (fun e he => by cases he; exact hy.big.ok) rg.1 rg.2
  rw [chain1 hx hy (by decide)] at p2
  have p3 := passE (o := some z) (s := 0) (fun e he => by cases he; exact hz.big.ok) (by decide) (by decide)
  have p0 : pa (some z) 0 = 0 := rfl
  have n0 : pa none 60 = 0 := rfl
  simp only [oA] at p1 p2 p3
  have hend : exL T17 (q17.drop 4) [some (.ow true B3.lo), some (.va x.A), some (.va y.A), some (.va z.A), none, some (.va (oA (jn x y))), some (.va (oA (jn y z))), w] g' = .rt (.va (.bl true)) [some (.ow true B3.lo), some (.va x.A), some (.va y.A), some (.va z.A), none, some (.va (oA (jn x y))), some (.va (oA (jn y z))), w] g' := by
    cases h1 : jn x y with
    | none =>
      rw [h1, n0] at p2
      cases h2 : jn y z with
      | none => simp [q17, run_mk, runF, agOk, exL, exS, evR, evL, evAV, retR, slOf, rdV, tyIs, kindA, tyB, outsOf, callM, argsOf, ioOf, backE, ite_M, asgM, tgM, setSl, setAll, endN, brw, holdB, lookOw, ctA, ctO, subC, lenC, biA, isV, setB, setOw, getOwB, lineOk, guardO, guardN, itM, itA, itSq, oA, f7, io7, p1, p2, p3, p0]
      | some K =>
        have isK : isNon K.A = false := rfl
        simp [q17, run_mk, runF, agOk, exL, exS, evR, evL, evAV, retR, slOf, rdV, tyIs, kindA, tyB, outsOf, callM, argsOf, ioOf, backE, ite_M, asgM, tgM, setSl, setAll, endN, brw, holdB, lookOw, ctA, ctO, subC, lenC, biA, isV, setB, setOw, getOwB, lineOk, guardO, guardN, itM, itA, itSq, oA, isK]
    | some J =>
      have isJ : isNon J.A = false := rfl
      cases h2 : jn y z with
      | none => simp [q17, run_mk, runF, agOk, exL, exS, evR, evL, evAV, retR, slOf, rdV, tyIs, kindA, tyB, outsOf, callM, argsOf, ioOf, backE, ite_M, asgM, tgM, setSl, setAll, endN, brw, holdB, lookOw, ctA, ctO, subC, lenC, biA, isV, setB, setOw, getOwB, lineOk, guardO, guardN, itM, itA, itSq, oA, isJ]
      | some K =>
        have isK : isNon K.A = false := rfl
        have bJ := jn_pl hx hy h1
        have bK := jn_pl hy hz h2
        have r1 := r6 J z bJ.ok hz.big.ok
        have r2 := r6 x K hx.big.ok bK.ok
        rw [← chain2 hx hy hz h1 h2] at r2
        have al := r10o (jn J z) fun e he => by
          obtain ⟨b1, b2, b3, b4, _, _⟩ := jn_bd bJ hz.big he
          exact ⟨logG b1.1 b1.2, logG b2.1 b2.2, logG b3.1 b3.2, logG b4.1 b4.2⟩
        simp [q17, run_mk, runF, agOk, exL, exS, evR, evL, evAV, retR, slOf, rdV, tyIs, kindA, tyB, outsOf, callM, argsOf, ioOf, backE, ite_M, asgM, tgM, setSl, setAll, endN, brw, holdB, lookOw, ctA, ctO, subC, lenC, biA, isV, setB, setOw, getOwB, lineOk, guardO, guardN, itM, itA, itSq, oA_some, isJ, isK, f6, f10, io6, io10, r1, r2, al]
  have all : exL T17 q17 [some (.ow true B.lo), none, none, none, none, none, none, none] g' = .rt (.va (.bl true)) [some (.ow true B3.lo), some (.va x.A), some (.va y.A), some (.va z.A), none, some (.va (oA (jn x y))), some (.va (oA (jn y z))), w] g' := by
    rw [pre]
    have hq : q17.drop 3 = q17[3] :: q17.drop 4 := rfl
    rw [hq]
    simp only [exL]
    rw [hfor]
    exact hend
  exact run_rt rfl all rfl
end Lw
namespace Lw
open PySem PySem.Spec PyProof.Rows L2 Eg
def YY : Int := (10 ^ 20 - 1) ^ 20
theorem YYG : YY + 1 < GR := by decide +kernel
theorem YY0 : 0 ≤ YY := by decide +kernel
theorem pow20_bd {v : Int} (h0 : 0 ≤ v) (h : v < 10 ^ 20) : 0 ≤ v ^ 20 ∧ v ^ 20 ≤ YY := by
  obtain ⟨k, rfl⟩ := Int.eq_ofNat_of_zero_le h0
  have hk : k ≤ 10 ^ 20 - 1 := by omega
  have e : ((k : Int)) ^ 20 = ((k ^ 20 : Nat) : Int) := by simp
  have x : YY = (((10 ^ 20 - 1) ^ 20 : Nat) : Int) := by decide +kernel
  rw [e, x]
  exact ⟨Int.natCast_nonneg _, Int.ofNat_le.mpr (Nat.pow_le_pow_left hk 20)⟩
theorem natB {i : Int} (h : -((GR + 2) * (GR + 2)) ≤ i) (h' : i ≤ (GR + 2) * (GR + 2)) : i.natAbs < 10 ^ 1000 := by
  have h2 : (GR + 2) * (GR + 2) < ((10 ^ 1000 : Nat) : Int) := by decide +kernel
  generalize (10 : Nat) ^ 1000 = N at *
  generalize (GR + 2) * (GR + 2) = M at *
  omega
theorem jn_big {x y J : Ef} (hx : x.Ok) (hy : y.Ok) (h : jn x y = some J) : J.l.natAbs < 10 ^ 1000 ∧ J.a.natAbs < 10 ^ 1000 ∧ J.b.natAbs < 10 ^ 1000 ∧ J.t.natAbs < 10 ^ 1000 := by
  have hg : (0 : Int) < GR := by decide +kernel
  obtain ⟨x1, x2, x3, x4, x5, x6, x7⟩ := hx
  obtain ⟨y1, y2, y3, y4, y5, y6, y7⟩ := hy
  unfold jn at h
  split at h
  · cases h
  · cases h
    obtain ⟨p1, p2⟩ := prod_bd (x := y.l) (y := x.b) (P := GR) (Q := GR) (by omega) (by omega) (by omega) (by omega)
    obtain ⟨p3, p4⟩ := prod_bd2 (x := y.a) (y := x.b) (P := GR) (Q := GR) (by omega) (by omega) (by omega) (by omega)
    obtain ⟨p5, p6⟩ := prod_bd (x := x.b) (y := y.b) (P := GR) (Q := GR) (by omega) (by omega) (by omega) (by omega)
    obtain ⟨d1, d2⟩ := div_bd (x := x.t + y.a) (K := GR + GR) y2 (by omega) (by omega) (by omega)
    have e : (GR + 2) * (GR + 2) = GR * GR + 4 * GR + 4 := by decide +kernel
    have e2 : 0 ≤ GR * GR := Int.mul_nonneg (by omega) (by omega)
    refine ⟨natB ?_ ?_, natB ?_ ?_, natB ?_ ?_, natB ?_ ?_⟩
    · rw [e]; dsimp only [mx]; split <;> omega
    · rw [e]; dsimp only [mx]; split <;> omega
    · rw [e]; dsimp only; omega
    · rw [e]; dsimp only; omega
    · rw [e]; dsimp only; omega
    · rw [e]; dsimp only; omega
    · rw [e]; dsimp only [mn]; split <;> omega
    · rw [e]; dsimp only [mn]; split <;> omega
theorem r10b {x y : Ef} (hx : x.Ok) (hy : y.Ok) (g : GS) : F10.run [.va (oA (jn x y)), .va (oA (jn x y))] g = .ok (.va (.bl true)) [] g := by
  cases h : jn x y with
  | none => exact r10 .non _ rfl reprN g
  | some J =>
    obtain ⟨h1, h2, h3, h4⟩ := jn_big hx hy h
    obtain ⟨z, hz⟩ := reprBig J h1 h2 h3 h4
    exact r10 J.A z (eqv4 J) hz g
theorem i6 (a b c d e f : A) : atI [a, b, c, d, e, f] 0 = some a ∧ atI [a, b, c, d, e, f] 1 = some b ∧ atI [a, b, c, d, e, f] 2 = some c ∧ atI [a, b, c, d, e, f] 3 = some d ∧ atI [a, b, c, d, e, f] 4 = some e ∧ atI [a, b, c, d, e, f] 5 = some f := ⟨rfl, rfl, rfl, rfl, rfl, rfl⟩
theorem great_right (B : Bag) (hc : B.c ≤ 800000) : ∃ B' : Bag, ∀ g, F18.run [.lo B.lo] g = .ok (.va (.bl true)) [B'.lo] g := by
  have f6 : T18.fn 6 = some F6 := rfl
  have f7 : T18.fn 7 = some F7 := rfl
  have f9 : T18.fn 9 = some F9 := rfl
  have f10 : T18.fn 10 = some F10 := rfl
  have f13 : T18.fn 13 = some F13 := rfl
  have f14 : T18.fn 14 = some F14 := rfl
  have yg := YYG
  have y0 := YY0
  have hg : (0 : Int) < GR := by decide +kernel
  obtain ⟨v0, B0, a1, a2, a3, e0⟩ := take B 100000000000000000000 (by omega) (by decide) (by decide)
  obtain ⟨v1, B1, b1, b2, b3, e1⟩ := take B0 100000000000000000000 (by omega) (by decide) (by decide)
  obtain ⟨v2, B2, c1, c2, c3, e2⟩ := take B1 100000000000000000000 (by omega) (by decide) (by decide)
  obtain ⟨v3, B3, d1, d2, d3, e3⟩ := take B2 100000000000000000000 (by omega) (by decide) (by decide)
  obtain ⟨v4, B4, g1, g2, g3, e4⟩ := take B3 100000000000000000000 (by omega) (by decide) (by decide)
  obtain ⟨v5, B5, h1, h2, h3, e5⟩ := take B4 100000000000000000000 (by omega) (by decide) (by decide)
  obtain ⟨v6, B6, k1, k2, k3, e6⟩ := take B5 1000000000 (by omega) (by decide) (by decide)
  have pw : ∀ v : Int, 0 ≤ v → v < 100000000000000000000 → powOk v 20 = true := fun v h h' => powOk_of 70 (by decide) (by omega) (by decide) (by decide)
  have p0 := pow20_bd a1 a2
  have p1 := pow20_bd b1 b2
  have p2 := pow20_bd c1 c2
  have p3 := pow20_bd d1 d2
  have p4 := pow20_bd g1 g2
  have p5 := pow20_bd h1 h2
  have w0 := pw v0 a1 a2
  have w1 := pw v1 b1 b2
  have w2 := pw v2 c1 c2
  have w3 := pw v3 d1 d2
  have w4 := pw v4 g1 g2
  have w5 := pw v5 h1 h2
  have ho : Ef.Ok ⟨1, 1 + v0 ^ 20, 1 + v1 ^ 20, 1 + v2 ^ 20⟩ := by
    refine ⟨?_, ?_, ?_, ?_, ⟨?_, ?_⟩, ?_, ?_⟩ <;> dsimp only <;> omega
  have ht : Ef.Ok ⟨1, -(1 + v3 ^ 20), 1 + v4 ^ 20, 1 + v5 ^ 20⟩ := by
    refine ⟨?_, ?_, ?_, ?_, ⟨?_, ?_⟩, ?_, ?_⟩ <;> dsimp only <;> omega
  have j6 := r6 _ _ ho ht
  have m1 : mulOk 1 (1 + v1 ^ 20) = true := mul_ok (by omega) (by omega) (by omega) (by omega)
  have m2 : mulOk (-(1 + v3 ^ 20)) (1 + v1 ^ 20) = true := mul_ok (by omega) (by omega) (by omega) (by omega)
  have m3 : mulOk (1 + v1 ^ 20) (1 + v4 ^ 20) = true := mul_ok (by omega) (by omega) (by omega) (by omega)
  have dd : divOk (1 + v4 ^ 20) = true := div_ok (by omega) (by omega)
  have j13 := r13 ⟨1, 1 + v0 ^ 20, 1 + v1 ^ 20, 1 + v2 ^ 20⟩ ⟨1, -(1 + v3 ^ 20), 1 + v4 ^ 20, 1 + v5 ^ 20⟩ m1 m2 m3 dd
  have al := r10b ho ht
  obtain ⟨q1, q2, q3, q4, q5⟩ := pass (some ⟨1, 1 + v0 ^ 20, 1 + v1 ^ 20, 1 + v2 ^ 20⟩) (1 + v6) (fun e he => by cases he; exact ho) (by omega) (by omega)
  have hs : pa (some ⟨1, 1 + v0 ^ 20, 1 + v1 ^ 20, 1 + v2 ^ 20⟩) (1 + v6) = th (some ⟨1, 1 + v0 ^ 20, 1 + v1 ^ 20, 1 + v2 ^ 20⟩) (1 + v6) := by
    unfold pa
    rw [if_neg (by omega)]
  have ai := r10i _ q5
  rw [hs] at q1 ai
  generalize th (some ⟨1, 1 + v0 ^ 20, 1 + v1 ^ 20, 1 + v2 ^ 20⟩) (1 + v6) = tv at *
  generalize oA (jn ⟨1, 1 + v0 ^ 20, 1 + v1 ^ 20, 1 + v2 ^ 20⟩ ⟨1, -(1 + v3 ^ 20), 1 + v4 ^ 20, 1 + v5 ^ 20⟩) = jv at *
  simp only [Ef.A, oA] at j6 j13 q1 q2
  obtain ⟨t0, t1, t2, t3, t4, t5⟩ := i6 (A.int (1 + v0 ^ 20)) (A.int (1 + v1 ^ 20)) (A.int (1 + v2 ^ 20)) (A.int (1 + v3 ^ 20)) (A.int (1 + v4 ^ 20)) (A.int (1 + v5 ^ 20))
  refine ⟨B6, fun g => ?_⟩
  simp [F18, q18, run_mk, runF, agOk, exL, exS, evR, evL, evAV, retR, slOf, rdV, tyIs, kindA, tyB, outsOf, callM, argsOf, ioOf, backE, ite_M, asgM, tgM, setSl, setAll, endN, brw, holdB, lookOw, ctA, ctO, subC, lenC, biA, isV, setB, setOw, getOwB, lineOk, guardO, guardN, itM, itA, itSq, itR1, f6, f7, f9, f10, f13, f14, io6, io7, io9, io10, io13, io14, rng6, compR, compM, wipeE, restE, Tg.slots, sizeLine, pw9, pw20, e0, e1, e2, e3, e4, e5, e6, w0, w1, w2, w3, w4, w5, t0, t1, t2, t3, t4, t5, j6, j13, al, q1, q2, ai]
theorem forN_cnt {t : A → M Unit} {b : En → GS → Out} (I : Nat → En → GS → Prop) (N : Nat) (h : ∀ n x ρ g, n < N → I n ρ g → (∃ k : Int, x = .int k) → ∃ ρ1 g1, t x ρ g = .ok () ρ1 g1 ∧ ∃ ρ2 g2, b ρ1 g1 = .nx ρ2 g2 ∧ I (n + 1) ρ2 g2) :
    ∀ (items : List A), (∀ x ∈ items, ∃ k : Int, x = .int k) → ∀ n ρ g, n + items.length ≤ N → I n ρ g → ∃ ρ' g', forN t b items ρ g = .nx ρ' g' ∧ I (n + items.length) ρ' g'
  | [], _, n, ρ, g, _, i => ⟨ρ, g, rfl, i⟩
  | x :: xs, hp, n, ρ, g, hn, i => by
    rw [List.length_cons] at hn
    obtain ⟨ρ1, g1, e1, ρ2, g2, e2, i2⟩ := h n x ρ g (by omega) i (hp x List.mem_cons_self)
    obtain ⟨ρ3, g3, e3, i3⟩ := forN_cnt I N h xs (fun y hy => hp y (List.mem_cons_of_mem _ hy)) (n + 1) ρ2 g2 (by omega) i2
    refine ⟨ρ3, g3, ?_, ?_⟩
    · show toOut (t x) _ ρ g = _
      unfold toOut
      rw [e1]
      dsimp only
      rw [e2]
      exact e3
    · rw [List.length_cons, show n + (xs.length + 1) = n + 1 + xs.length by omega]
      exact i3
def body19 : List Eg.St := match q19[1]? with
  | some (Eg.St.for_ _ _ _ b) => b
  | _ => []
theorem io8 : F8.io = [false] := rfl
theorem io12 : F12.io = [true, false] := rfl
theorem io15 : F15.io = [true, false, false] := rfl
theorem io17 : F17.io = [true] := rfl
theorem io18 : F18.io = [true] := rfl
theorem turn19 (B : Bag) (z : A) (w u : Option Sl) (k : Int) (hc : B.c ≤ 700000) (g : GS) : ∃ (B' : Bag) (w' u' : Option Sl), B'.c ≤ B.c + 100 ∧
    exL T19 body19 [some (.va z), some (.ow false B.lo), some (.va (.int k)), w, u] g = .nx [some (.va z), some (.ow false B'.lo), some (.va (.int k)), w', u'] g := by
  have f12 : T19.fn 12 = some F12 := rfl
  have f15 : T19.fn 15 = some F15 := rfl
  have f17 : T19.fn 17 = some F17 := rfl
  have x0 := XX0
  obtain ⟨x, B1, hx, c1, e1⟩ := effect B 1 (by decide) (by omega) (by omega)
  obtain ⟨y, B2, hy, c2, e2⟩ := effect B1 x.t hx.t1 hx.t2 (by omega)
  obtain ⟨B3, c3, e3⟩ := two_right B2 x y hx hy (by omega)
  obtain ⟨B4, c4, e4⟩ := chain_right B3 (by omega)
  have cx : ctA x.A = some (.seq .tup [.int x.l, .int x.a, .int x.b, .int x.t]) := rfl
  obtain ⟨a0, a1, a2, a3⟩ := atI4 (.int x.l) (.int x.a) (.int x.b) (.int x.t) 0
  refine ⟨B4, some (.va x.A), some (.va y.A), by omega, ?_⟩
  simp [body19, q19, run_mk, runF, agOk, exL, exS, evR, evL, evAV, retR, slOf, rdV, tyIs, kindA, tyB, outsOf, callM, argsOf, ioOf, backE, ite_M, asgM, tgM, setSl, setAll, endN, brw, holdB, lookOw, ctO, subC, lenC, biA, isV, setB, setOw, getOwB, lineOk, guardO, guardN, itM, itA, itSq, f12, f15, f17, io12, io15, io17, e1, e2, e3, e4, cx, a3]
theorem law_plain (ns : List Int) (h : ns.length ≤ 63) : ∃ outs g1, F19.run [.va (.kl (ns.map A.int))] [] = .ok (.va (.bl true)) outs g1 := by
  have f8 : T19.fn 8 = some F8 := rfl
  have f18 : T19.fn 18 = some F18 := rfl
  have e8 := r8 ns h []
  obtain ⟨ρ', g', hf, rfl, B, w, u, v, hc, rfl⟩ := forN_cnt (t := tgM (.n 2)) (b := exL T19 body19) (fun n ρ h' => h' = [] ∧ ∃ (B : Bag) (w u v : Option Sl), B.c ≤ 100 * n ∧ ρ = [some (.va (.kl (ns.map A.int))), some (.ow false B.lo), v, w, u]) 8 (by
    rintro n x ρ g hn ⟨rfl, B, w, u, v, hc, rfl⟩ ⟨k, rfl⟩
    obtain ⟨B', w', u', c, e⟩ := turn19 B (.kl (ns.map A.int)) w u k (by omega) []
    exact ⟨_, [], rfl, _, [], e, rfl, B', w', u', _, by omega, rfl⟩) (rngA 0 8) (by
    intro a ha
    obtain ⟨k, hk, rfl⟩ := List.mem_map.mp ha
    exact ⟨_, rfl⟩) 0 [some (.va (.kl (ns.map A.int))), some (.ow false (bag0 ns h).lo), none, none, none] [] (by decide) ⟨rfl, bag0 ns h, none, none, none, (by show (0 : Int) ≤ 100 * ((0 : Nat) : Int); decide), rfl⟩
  have hl : (0 : Nat) + (rngA 0 8).length = 8 := rfl
  rw [hl] at hc
  obtain ⟨B', e18⟩ := great_right B (by omega)
  refine ⟨[], [], ?_⟩
  have h0 : exS T19 q19[0] [some (.va (.kl (ns.map A.int))), none, none, none, none] [] = .nx [some (.va (.kl (ns.map A.int))), some (.ow false (bag0 ns h).lo), none, none, none] [] := by
    simp [q19, run_mk, runF, agOk, exL, exS, evR, evL, evAV, retR, slOf, rdV, tyIs, kindA, tyB, outsOf, callM, argsOf, ioOf, backE, ite_M, asgM, tgM, setSl, setAll, endN, brw, holdB, lookOw, ctA, ctO, subC, lenC, biA, isV, setB, setOw, getOwB, lineOk, guardO, guardN, itM, itA, itSq, f8, io8, e8, Bag.lo]
  have h1 : exS T19 q19[1] [some (.va (.kl (ns.map A.int))), some (.ow false (bag0 ns h).lo), none, none, none] [] = .nx [some (.va (.kl (ns.map A.int))), some (.ow false B.lo), v, w, u] [] := by
    have hq : q19[1] = Eg.St.for_ (.n 2) .r1 [.c (.int 8)] body19 := rfl
    have hi : itA .r1 [A.int 8] = some (rngA 0 8) := rfl
    rw [hq]
    simp only [exS, ev_toOut, ev_bind, evL, evR, ev_fz, ev_pure, fzR_va, itM, hi, ev_ofO]
    exact hf
  have h2 : exL T19 (q19.drop 2) [some (.va (.kl (ns.map A.int))), some (.ow false B.lo), v, w, u] [] = .rt (.va (.bl true)) [some (.va (.kl (ns.map A.int))), some (.ow false B'.lo), v, w, u] [] := by
    simp [q19, run_mk, runF, agOk, exL, exS, evR, evL, evAV, retR, slOf, rdV, tyIs, kindA, tyB, outsOf, callM, argsOf, ioOf, backE, ite_M, asgM, tgM, setSl, setAll, endN, brw, holdB, lookOw, ctA, ctO, subC, lenC, biA, isV, setB, setOw, getOwB, lineOk, guardO, guardN, itM, itA, itSq, f18, io18, e18]
  have all : exL T19 q19 [some (.va (.kl (ns.map A.int))), none, none, none, none] [] = .rt (.va (.bl true)) [some (.va (.kl (ns.map A.int))), some (.ow false B'.lo), v, w, u] [] := by
    have hq : q19 = q19[0] :: q19[1] :: q19.drop 2 := rfl
    rw [hq]
    simp only [exL]
    rw [h0]
    show (exS T19 q19[1] _ []).then _ = _
    rw [h1]
    exact h2
  exact run_rt rfl all rfl
end Lw
open PySem PySem.W PySem.Calls PyProof.Rows
theorem PySem.Challenge.cw_wanehold_k29_joined_and_passed_holds : PySem.Challenge.rw_wanehold_k29_joined_and_passed.Holds := by
  w_on; o_law
  refine HandSHeadRun.head_any (r := OpenLaw.row PySem.Challenge.rw_wanehold_k29_joined_and_passed) (q := view (OpenLaw.row PySem.Challenge.rw_wanehold_k29_joined_and_passed).prog [27]) (H := Lw.hk) (ob := Lw.ob) (M := 6000) (loose := Lw.loose) (d := HandSHeadRun.topDef (OpenLaw.row PySem.Challenge.rw_wanehold_k29_joined_and_passed).prog 27) (kwd := []) Lw.ob_eq
    (by kernel_rfl) (fun s => by kernel_rfl) Lw.run (by kernel_rfl) (by kernel_rfl) (by kernel_rfl) (by rfl) (by first | assumption | decide +kernel) (by decide +kernel) ⟨rfl, rfl, rfl, rfl, rfl, by decide +kernel⟩ ?hw ?hc
  case hw => w_witness2
  case hc =>
    refine Eg.g_walk (l := PySem.Challenge.rw_wanehold_k29_joined_and_passed) (n := 63) (k := 20) (x := "_law_script") rfl (by decide) (by kernel_rfl) ⟨rfl, by decide, by decide⟩ ?F
    intro w mg fa h Y G hmg0
    obtain ⟨K, KX, c, ce⟩ := Y
    have hmg : mg ("law" : PySem.Str) = some (.ref fa) := by
      have e : (HandSHeadRun.topDef (OpenLaw.row PySem.Challenge.rw_wanehold_k29_joined_and_passed).prog 27).name = ("law" : PySem.Str) := by kernel_rfl
      rw [← e]
      exact hmg0
    obtain ⟨fd, hb, hF⟩ := Lw.facts (P := (PySem.Challenge.rw_wanehold_k29_joined_and_passed).prog) (w := w) KX G hmg c (of_decide_eq_true ce)
    refine ⟨K, fd, Eg.spF (Eg.mkD0 K (of_decide_eq_true ce)) Lw.F19, KX, hb, fun H a ns hl hO hS => ?_, hF⟩
    obtain ⟨outs, g1, e⟩ := Lw.law_plain ns hl
    exact Eg.g_start hO hS e
