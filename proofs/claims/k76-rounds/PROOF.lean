import PyProof.Rows.All
import Wide.All
import OpenK.AllK
import Wide.FinOn
import PySem.Challenge.RW_wishpairs_k76_whole_rounds
import HandS.ForMost
import HandS.ForExc
import KE.SortData
import HandS.Wide
import HandS.TupAny
import HandS.Style
import HandS.Conv
import HandS.Deep
import HandS.TupLe
import KE.DataMinMax
import HandS.IsInst
import HandS.Flow
import HandS.Defaults
import HandS.Strs
import HandS.Iter
import KE.GoesEnum
import HandS.Ends
import HandS.HeadEnd
import KE.KStateDown
import HandS.Head0
import HandS.Head1
import HandS.Head2
import HandS.HeadHook1
import HandS.HeadHook2
import HandS.HeadHook4
set_option Elab.async false
set_option linter.all false
set_option maxRecDepth 100000
/-! Fz, part A: data by value, their standing in the abstract heap. -/
namespace Fz
open PySem PySem.Spec PyProof.Rows L2

/-- data by value; cell l: a changing object of the small heap; fn x: the module's own def x -/
inductive D where
  | non | bl (b : Bool) | int (i : Int) | str (x : Str)
  | tup (xs : List D) | lst (xs : List D) | fix (xs : List D) | dic (ks vs : List D)
  | cell (l : Nat) | fn (x : Str)

inductive Ob where
  | lst (xs : List D) | dic (ks vs : List D)
abbrev LH := List Ob

mutual
def D.beq : D → D → Bool
  | .non, .non => true
  | .bl a, .bl b => a == b
  | .int a, .int b => decide (a = b)
  | .str a, .str b => decide (a = b)
  | .tup a, .tup b => beqL a b
  | .lst a, .lst b => beqL a b
  | .fix a, .fix b => beqL a b
  | .dic a a', .dic b b' => beqL a b && beqL a' b'
  | .cell a, .cell b => a == b
  | .fn a, .fn b => decide (a = b)
  | _, _ => false
def beqL : List D → List D → Bool
  | [], [] => true
  | a :: r, b :: q => D.beq a b && beqL r q
  | _, _ => false
end
mutual
theorem D.beq_eq : ∀ (a b : D), D.beq a b = true → a = b
  | .non, b, h => by cases b <;> simp [D.beq] at h; rfl
  | .bl a, b, h => by cases b <;> simp [D.beq] at h; rw [h]
  | .int a, b, h => by cases b <;> simp [D.beq] at h; rw [h]
  | .str a, b, h => by cases b <;> simp [D.beq] at h; rw [h]
  | .tup a, b, h => by
    cases b <;> simp [D.beq] at h
    rw [beqL_eq a _ h]
  | .lst a, b, h => by
    cases b <;> simp [D.beq] at h
    rw [beqL_eq a _ h]
  | .fix a, b, h => by
    cases b <;> simp [D.beq] at h
    rw [beqL_eq a _ h]
  | .dic a a', b, h => by
    cases b <;> simp [D.beq] at h
    rw [beqL_eq a _ h.1, beqL_eq a' _ h.2]
  | .cell a, b, h => by cases b <;> simp [D.beq] at h; rw [h]
  | .fn a, b, h => by cases b <;> simp [D.beq] at h; rw [h]
theorem beqL_eq : ∀ (a b : List D), beqL a b = true → a = b
  | [], b, h => by cases b <;> simp [beqL] at h; rfl
  | x :: r, b, h => by
    cases b with
    | nil => simp [beqL] at h
    | cons y q =>
      simp [beqL] at h
      rw [D.beq_eq x y h.1, beqL_eq r q h.2]
end
mutual
theorem D.beq_refl : ∀ (a : D), D.beq a a = true
  | .non => rfl
  | .bl a => by simp [D.beq]
  | .int a => by simp [D.beq]
  | .str a => by simp [D.beq]
  | .tup a => by simp [D.beq, beqL_refl a]
  | .lst a => by simp [D.beq, beqL_refl a]
  | .fix a => by simp [D.beq, beqL_refl a]
  | .dic a a' => by simp [D.beq, beqL_refl a, beqL_refl a']
  | .cell a => by simp [D.beq]
  | .fn a => by simp [D.beq]
theorem beqL_refl : ∀ (a : List D), beqL a a = true
  | [] => rfl
  | x :: r => by simp [beqL, D.beq_refl x, beqL_refl r]
end
instance : DecidableEq D := fun a b => if h : D.beq a b = true then .isTrue (D.beq_eq a b h) else .isFalse fun e => h (e ▸ D.beq_refl a)
def Ob.beq : Ob → Ob → Bool
  | .lst a, .lst b => beqL a b
  | .dic a a', .dic b b' => beqL a b && beqL a' b'
  | _, _ => false
theorem Ob.beq_eq (a b : Ob) (h : Ob.beq a b = true) : a = b := by
  cases a <;> cases b <;> simp [Ob.beq] at h
  · rw [beqL_eq _ _ h]
  · rw [beqL_eq _ _ h.1, beqL_eq _ _ h.2]
theorem Ob.beq_refl (a : Ob) : Ob.beq a a = true := by
  cases a <;> simp [Ob.beq, beqL_refl]

/-! ### no cell from n on -/
mutual
def D.bel (n : Nat) : D → Bool
  | .tup xs => belL n xs
  | .lst xs => belL n xs
  | .fix xs => belL n xs
  | .dic ks vs => belL n ks && belL n vs
  | .cell l => decide (l < n)
  | _ => true
def belL (n : Nat) : List D → Bool
  | [] => true
  | d :: r => D.bel n d && belL n r
end
def Ob.bel (n : Nat) : Ob → Bool
  | .lst xs => belL n xs
  | .dic ks vs => belL n ks && belL n vs
theorem belL_iff {n : Nat} : ∀ {xs : List D}, belL n xs = true ↔ ∀ d ∈ xs, d.bel n = true
  | [] => by simp [belL]
  | x :: r => by simp [belL, belL_iff (xs := r)]
mutual
theorem D.bel_mono {n m : Nat} (h : n ≤ m) : ∀ (d : D), d.bel n = true → d.bel m = true
  | .non, _ => rfl
  | .bl _, _ => rfl
  | .int _, _ => rfl
  | .str _, _ => rfl
  | .fn _, _ => rfl
  | .tup xs, q => by
    simp only [D.bel] at q ⊢
    exact belL_mono h xs q
  | .lst xs, q => by
    simp only [D.bel] at q ⊢
    exact belL_mono h xs q
  | .fix xs, q => by
    simp only [D.bel] at q ⊢
    exact belL_mono h xs q
  | .dic ks vs, q => by
    simp only [D.bel, Bool.and_eq_true] at q ⊢
    exact ⟨belL_mono h ks q.1, belL_mono h vs q.2⟩
  | .cell l, q => by
    simp only [D.bel, decide_eq_true_eq] at q ⊢
    omega
theorem belL_mono {n m : Nat} (h : n ≤ m) : ∀ (xs : List D), belL n xs = true → belL m xs = true
  | [], _ => rfl
  | d :: r, q => by
    simp only [belL, Bool.and_eq_true] at q ⊢
    exact ⟨D.bel_mono h d q.1, belL_mono h r q.2⟩
end

/-! ### where data stand -/
/-- m: the addresses of the cells; F: the lists that nobody changes any more -/
structure Mp where
  m : Nat → Option Addr
  F : Addr → Prop
  /-- held: lists under work, that nobody refers to -/
  X : Addr → Prop
def Mp.T (p : Mp) (a : Addr) : Prop := p.F a ∨ p.X a
/-- a tuple, its object known: it has no dict of its own -/
def TupAt (H : Hp) (a : Addr) (xs : List V) : Prop := ∃ o, H a = some (.frz o (.tup xs)) ∧ o.dict = none
theorem TupAt.sq {K : PySem.W.Frag} {H : Hp} {a : Addr} {xs : List V} (h : TupAt H a xs) : SqT K H a xs := by
  obtain ⟨o, h, _⟩ := h
  exact .inl (.inr ⟨o, h⟩)
/-- a list that stands still for the whole call -/
def FixL (K : PySem.W.Frag) (H : Hp) (a : Addr) (xs : List V) : Prop :=
  (∃ o, H a = some (.frz o (.lst xs))) ∨
    ∃ (o : Obj) (its : Array Value) (n : Nat), K.lookup a = some o ∧ o.cls = .type "list" ∧ o.dict = none ∧ o.data = .seq its n ∧ its.size ≤ sizeLine ∧ Vals xs its.toList
theorem FixL.sq {K : PySem.W.Frag} {H : Hp} {a : Addr} {xs : List V} (h : FixL K H a xs) : SqL K H a xs := by
  rcases h with h | h
  · exact .inl (.inr h)
  · exact .inr h
section
variable (K : PySem.W.Frag) (mg : Str → Option Value)
mutual
def Rep (H : Hp) (p : Mp) : D → V → Prop
  | .non, v => v = .non
  | .bl b, v => v = .bl b
  | .int i, v => v = .int i
  | .str x, v => v = .str x
  | .tup ds, v => ∃ a vs, v = .ref a ∧ TupAt H a vs ∧ RepL H p ds vs
  | .lst ds, v => ∃ a vs, v = .ref a ∧ (H a = some (.lst vs) ∧ p.F a) ∧ RepL H p ds vs
  | .fix ds, v => ∃ a vs, v = .ref a ∧ FixL K H a vs ∧ RepL H p ds vs
  | .dic _ _, _ => False
  | .cell l, v => ∃ a, v = .ref a ∧ p.m l = some a
  | .fn x, v => ∃ f, v = .ref f ∧ mg x = some (.ref f)
def RepL (H : Hp) (p : Mp) : List D → List V → Prop
  | [], vs => vs = []
  | d :: ds, vs => ∃ v r, vs = v :: r ∧ Rep H p d v ∧ RepL H p ds r
end
/-- p' and H' know all that p and H knew of values -/
structure Ext0 (p : Mp) (H : Hp) (p' : Mp) (H' : Hp) : Prop where
  f : ∀ a, p.F a → p'.F a
  s : ∀ a o, p.F a → H a = some o → H' a = some o
  z : ∀ a o u, H a = some (.frz o u) → H' a = some (.frz o u)
  m : ∀ l a, p.m l = some a → p'.m l = some a
/-- .. and of what is held -/
structure Ext (p : Mp) (H : Hp) (p' : Mp) (H' : Hp) : Prop extends Ext0 p H p' H' where
  x : ∀ a, p.X a → p'.X a ∧ H' a = H a
theorem Ext.refl (p : Mp) (H : Hp) : Ext p H p H := ⟨⟨fun _ h => h, fun _ _ _ h => h, fun _ _ _ h => h, fun _ _ h => h⟩, fun _ h => ⟨h, rfl⟩⟩
theorem Ext0.trans {p p1 p2 : Mp} {H H1 H2 : Hp} (a : Ext0 p H p1 H1) (b : Ext0 p1 H1 p2 H2) : Ext0 p H p2 H2 :=
  ⟨fun c h => b.f c (a.f c h), fun c o f h => b.s c o (a.f c f) (a.s c o f h), fun c o u h => b.z c o u (a.z c o u h), fun l c h => b.m l c (a.m l c h)⟩
theorem Ext.trans {p p1 p2 : Mp} {H H1 H2 : Hp} (a : Ext p H p1 H1) (b : Ext p1 H1 p2 H2) : Ext p H p2 H2 :=
  ⟨a.toExt0.trans b.toExt0, fun c h => ⟨(b.x c (a.x c h).1).1, (b.x c (a.x c h).1).2.trans (a.x c h).2⟩⟩
variable {K mg}
theorem Ext0.tup {p p' : Mp} {H H' : Hp} (e : Ext0 p H p' H') {a : Addr} {xs : List V} (h : TupAt H a xs) : TupAt H' a xs := by
  obtain ⟨o, h1, h2⟩ := h
  exact ⟨o, e.z _ _ _ h1, h2⟩
theorem Ext0.fixL {p p' : Mp} {H H' : Hp} (e : Ext0 p H p' H') {a : Addr} {xs : List V} (h : FixL K H a xs) : FixL K H' a xs := by
  rcases h with ⟨o, h⟩ | h
  · exact .inl ⟨o, e.z _ _ _ h⟩
  · exact .inr h
mutual
theorem Rep.ext0 {p p' : Mp} {H H' : Hp} (e : Ext0 p H p' H') : ∀ (d : D) (v : V), Rep K mg H p d v → Rep K mg H' p' d v
  | .non, _, h => by simpa [Rep] using h
  | .bl _, _, h => by simpa [Rep] using h
  | .int _, _, h => by simpa [Rep] using h
  | .str _, _, h => by simpa [Rep] using h
  | .tup ds, v, h => by
    simp only [Rep] at h ⊢
    obtain ⟨a, vs, e1, h1, h2⟩ := h
    exact ⟨a, vs, e1, e.tup h1, RepL.ext0 e ds vs h2⟩
  | .lst ds, v, h => by
    simp only [Rep] at h ⊢
    obtain ⟨a, vs, e1, h1, h2⟩ := h
    exact ⟨a, vs, e1, ⟨e.s _ _ h1.2 h1.1, e.f _ h1.2⟩, RepL.ext0 e ds vs h2⟩
  | .fix ds, v, h => by
    simp only [Rep] at h ⊢
    obtain ⟨a, vs, e1, h1, h2⟩ := h
    exact ⟨a, vs, e1, e.fixL h1, RepL.ext0 e ds vs h2⟩
  | .dic _ _, _, h => by simp [Rep] at h
  | .cell l, v, h => by
    simp only [Rep] at h ⊢
    obtain ⟨a, e1, h1⟩ := h
    exact ⟨a, e1, e.m _ _ h1⟩
  | .fn x, v, h => by simpa [Rep] using h
theorem RepL.ext0 {p p' : Mp} {H H' : Hp} (e : Ext0 p H p' H') : ∀ (ds : List D) (vs : List V), RepL K mg H p ds vs → RepL K mg H' p' ds vs
  | [], _, h => by simpa [RepL] using h
  | d :: ds, vs, h => by
    simp only [RepL] at h ⊢
    obtain ⟨v, r, e1, h1, h2⟩ := h
    exact ⟨v, r, e1, Rep.ext0 e d v h1, RepL.ext0 e ds r h2⟩
end
theorem Ext.tup {p p' : Mp} {H H' : Hp} (e : Ext p H p' H') {a : Addr} {xs : List V} (h : TupAt H a xs) : TupAt H' a xs := e.toExt0.tup h
theorem Ext.fixL {p p' : Mp} {H H' : Hp} (e : Ext p H p' H') {a : Addr} {xs : List V} (h : FixL K H a xs) : FixL K H' a xs := e.toExt0.fixL h
theorem Rep.ext {p p' : Mp} {H H' : Hp} (e : Ext p H p' H') (d : D) (v : V) (h : Rep K mg H p d v) : Rep K mg H' p' d v := Rep.ext0 e.toExt0 d v h
theorem RepL.ext {p p' : Mp} {H H' : Hp} (e : Ext p H p' H') (ds : List D) (vs : List V) (h : RepL K mg H p ds vs) : RepL K mg H' p' ds vs := RepL.ext0 e.toExt0 ds vs h
theorem RepL.len {p : Mp} {H : Hp} : ∀ {ds : List D} {vs : List V}, RepL K mg H p ds vs → ds.length = vs.length
  | [], _, h => by simp only [RepL] at h; subst h; rfl
  | d :: ds, vs, h => by
    simp only [RepL] at h
    obtain ⟨v, r, rfl, _, h2⟩ := h
    simp [RepL.len h2]
theorem RepL.app {p : Mp} {H : Hp} : ∀ {ds es : List D} {vs us : List V}, RepL K mg H p ds vs → RepL K mg H p es us → RepL K mg H p (ds ++ es) (vs ++ us)
  | [], _, _, _, h, g => by simp only [RepL] at h; subst h; exact g
  | d :: ds, es, vs, us, h, g => by
    simp only [RepL] at h
    obtain ⟨v, r, rfl, h1, h2⟩ := h
    show RepL K mg H p (d :: (ds ++ es)) (v :: (r ++ us))
    simp only [RepL]
    exact ⟨v, r ++ us, rfl, h1, RepL.app h2 g⟩
theorem RepL.one {p : Mp} {H : Hp} {d : D} {v : V} (h : Rep K mg H p d v) : RepL K mg H p [d] [v] := by
  simp only [RepL]
  exact ⟨v, [], rfl, h, rfl⟩
theorem RepL.get {p : Mp} {H : Hp} : ∀ {ds : List D} {vs : List V} {i : Nat} {d : D}, RepL K mg H p ds vs → ds[i]? = some d → ∃ v, vs[i]? = some v ∧ Rep K mg H p d v
  | [], _, _, _, _, e => by simp at e
  | d :: ds, vs, 0, d', h, e => by
    simp only [RepL] at h
    obtain ⟨v, r, rfl, h1, h2⟩ := h
    simp at e; subst e
    exact ⟨v, rfl, h1⟩
  | d :: ds, vs, i + 1, d', h, e => by
    simp only [RepL] at h
    obtain ⟨v, r, rfl, h1, h2⟩ := h
    obtain ⟨u, h3, h4⟩ := RepL.get (i := i) h2 (by simpa using e)
    exact ⟨u, by simpa using h3, h4⟩
theorem RepL.take {p : Mp} {H : Hp} : ∀ {ds : List D} {vs : List V} (n : Nat), RepL K mg H p ds vs → RepL K mg H p (ds.take n) (vs.take n)
  | _, _, 0, _ => by simp [RepL]
  | [], _, _ + 1, h => by simp only [RepL] at h; subst h; simp [RepL]
  | d :: ds, vs, n + 1, h => by
    simp only [RepL] at h
    obtain ⟨v, r, rfl, h1, h2⟩ := h
    simp only [List.take_succ_cons, RepL]
    exact ⟨v, r.take n, rfl, h1, RepL.take n h2⟩
theorem RepL.drop {p : Mp} {H : Hp} : ∀ {ds : List D} {vs : List V} (n : Nat), RepL K mg H p ds vs → RepL K mg H p (ds.drop n) (vs.drop n)
  | _, _, 0, h => h
  | [], _, _ + 1, h => by simp only [RepL] at h; subst h; simp [RepL]
  | d :: ds, vs, n + 1, h => by
    simp only [RepL] at h
    obtain ⟨v, r, rfl, h1, h2⟩ := h
    exact RepL.drop n h2
theorem RepL.set {p : Mp} {H : Hp} {d : D} {v : V} (q : Rep K mg H p d v) : ∀ {ds : List D} {vs : List V} (i : Nat), RepL K mg H p ds vs → RepL K mg H p (ds.set i d) (vs.set i v)
  | [], _, _, h => by simp only [RepL] at h; subst h; simp [RepL]
  | e :: ds, vs, 0, h => by
    simp only [RepL] at h
    obtain ⟨u, r, rfl, h1, h2⟩ := h
    simp only [List.set_cons_zero, RepL]
    exact ⟨v, r, rfl, q, h2⟩
  | e :: ds, vs, i + 1, h => by
    simp only [RepL] at h
    obtain ⟨u, r, rfl, h1, h2⟩ := h
    simp only [List.set_cons_succ, RepL]
    exact ⟨u, r.set i v, rfl, h1, RepL.set q i h2⟩
end

/-- what stands at a cell's address -/
def RepO (K : PySem.W.Frag) (mg : Str → Option Value) (H : Hp) (p : Mp) : Ob → Addr → Prop
  | .lst ds, a => ∃ vs, H a = some (.lst vs) ∧ RepL K mg H p ds vs
  | .dic _ _, _ => False
/-- the small heap stands -/
structure CH (K : PySem.W.Frag) (mg : Str → Option Value) (H : Hp) (p : Mp) (h : LH) : Prop where
  dom : ∀ l, h.length ≤ l → p.m l = none
  inj : ∀ l l' a, p.m l = some a → p.m l' = some a → l = l'
  sep : ∀ l a, p.m l = some a → ¬ p.T a
  fin : ∀ a, p.F a → ∃ vs, H a = some (.lst vs)
  hld : ∀ a, p.X a → (∃ o, H a = some o) ∧ ¬ p.F a
  ob : ∀ (l : Nat) (o : Ob), h[l]? = some o → ∃ a, p.m l = some a ∧ RepO K mg H p o a
  wf : ∀ (l : Nat) (o : Ob), h[l]? = some o → o.bel l = true
/-- a value; fr: a list that nobody else knows -/
def RepF (K : PySem.W.Frag) (mg : Str → Option Value) (H : Hp) (p : Mp) (d : D) (fr : Bool) (v : V) : Prop :=
  match fr with
  | false => Rep K mg H p d v
  | true => ∃ ds a vs, d = .lst ds ∧ v = .ref a ∧ H a = some (.lst vs) ∧ ¬ p.T a ∧ (∀ l, p.m l ≠ some a) ∧ RepL K mg H p ds vs
/-- the slots -/
structure SL (K : PySem.W.Frag) (mg : Str → Option Value) (H : Hp) (p : Mp) (env : List (Option D)) (σ : L2.St) : Prop where
  len : env.length = σ.length
  at_ : ∀ (i : Nat) d, env[i]? = some (some d) → ∃ v, σ[i]? = some (some v) ∧ Rep K mg H p d v
section
variable {K : PySem.W.Frag} {mg : Str → Option Value} {H H' : Hp} {p p' : Mp} {h : LH} {env : List (Option D)} {σ : L2.St}
theorem SL.ext (s : SL K mg H p env σ) (e : Ext p H p' H') : SL K mg H' p' env σ := ⟨s.len, fun i d q => by
  obtain ⟨v, h1, h2⟩ := s.at_ i d q
  exact ⟨v, h1, Rep.ext e d v h2⟩⟩
theorem SL.set {i : Nat} {d : D} {v : V} (s : SL K mg H p env σ) (r : Rep K mg H p d v) : SL K mg H p (env.set i (some d)) (σ.set i (some v)) := by
  refine ⟨by simp [s.len], fun j d' q => ?_⟩
  by_cases hj : i = j
  · subst hj
    have hl : i < env.length := by
      have := (List.getElem?_eq_some_iff.mp q).1
      simpa using this
    rw [List.getElem?_set_self hl] at q
    cases q
    exact ⟨v, by rw [List.getElem?_set_self (by rw [← s.len]; exact hl)], r⟩
  · rw [List.getElem?_set_ne hj] at q
    rw [List.getElem?_set_ne hj]
    exact s.at_ j d' q
theorem SL.unset {i : Nat} (s : SL K mg H p env σ) : SL K mg H p (env.set i none) (σ.set i none) := by
  refine ⟨by simp [s.len], fun j d' q => ?_⟩
  by_cases hj : i = j
  · subst hj
    have hl : i < env.length := by
      have := (List.getElem?_eq_some_iff.mp q).1
      simpa using this
    rw [List.getElem?_set_self hl] at q
    cases q
  · rw [List.getElem?_set_ne hj] at q
    rw [List.getElem?_set_ne hj]
    exact s.at_ j d' q
/-- a fresh list is given free -/
def Mp.add (p : Mp) (a : Addr) : Mp := ⟨p.m, fun b => p.F b ∨ b = a, p.X⟩
theorem RepF.freeze {d : D} {fr : Bool} {v : V} (c : CH K mg H p h) (r : RepF K mg H p d fr v) : ∃ p', CH K mg H p' h ∧ Ext p H p' H ∧ Rep K mg H p' d v := by
  cases fr with
  | false => exact ⟨p, c, Ext.refl p H, r⟩
  | true =>
    obtain ⟨ds, a, vs, rfl, rfl, h1, h2, h3, h4⟩ := r
    have e : Ext p H (p.add a) H := ⟨⟨fun b hb => .inl hb, fun _ _ _ q => q, fun _ _ _ q => q, fun _ _ q => q⟩, fun _ h => ⟨h, rfl⟩⟩
    refine ⟨p.add a, ⟨c.dom, c.inj, fun l b hm hF => ?_, fun b hF => ?_, fun b hX => ⟨(c.hld b hX).1, fun hF => ?_⟩, fun l o ho => ?_, c.wf⟩, e, ?_⟩
    · rcases hF with (hF | rfl) | hX
      · exact c.sep l b hm (.inl hF)
      · exact h3 l hm
      · exact c.sep l b hm (.inr hX)
    · rcases hF with hF | rfl
      · exact c.fin b hF
      · exact ⟨vs, h1⟩
    · rcases hF with hF | rfl
      · exact (c.hld b hX).2 hF
      · exact h2 (.inr hX)
    · obtain ⟨b, hm, q⟩ := c.ob l o ho
      refine ⟨b, hm, ?_⟩
      cases o with
      | lst es =>
        obtain ⟨us, q1, q2⟩ := q
        exact ⟨us, q1, RepL.ext e es us q2⟩
      | dic _ _ => exact q
    · simp only [Rep]
      exact ⟨a, vs, rfl, ⟨h1, .inr rfl⟩, RepL.ext e ds vs h4⟩
/-- a new object at a free address -/
theorem CH.new {a : Addr} {o : HO} (c : CH K mg H p h) (n : H a = none) : CH K mg (upd H a o) p h ∧ Ext p H p (upd H a o) ∧ ¬ p.T a ∧ (∀ l, p.m l ≠ some a) := by
  have hm : ∀ l, p.m l ≠ some a := fun l q => by
    have hl : l < h.length := by
      refine Nat.lt_of_not_le fun z => ?_
      rw [c.dom l z] at q
      cases q
    obtain ⟨b, h1, h2⟩ := c.ob l h[l] (by simp [hl])
    rw [q] at h1
    cases h1
    cases hO : h[l] with
    | lst ds =>
      rw [hO] at h2
      obtain ⟨vs, h3, _⟩ := h2
      rw [n] at h3
      cases h3
    | dic _ _ =>
      rw [hO] at h2
      exact h2
  have hF : ¬ p.F a := fun q => by
    obtain ⟨vs, z⟩ := c.fin a q
    rw [n] at z
    cases z
  have hX : ¬ p.X a := fun q => by
    obtain ⟨⟨vs, z⟩, _⟩ := c.hld a q
    rw [n] at z
    cases z
  have e : Ext p H p (upd H a o) := by
    refine ⟨⟨fun _ q => q, fun b x _ q => ?_, fun b x u q => ?_, fun _ _ q => q⟩, fun b q => ⟨q, upd_ne fun z => hX (z ▸ q)⟩⟩ <;> (rw [upd_ne (ne_of_none q n)]; exact q)
  refine ⟨⟨c.dom, c.inj, c.sep, fun b q => ?_, fun b q => ⟨?_, (c.hld b q).2⟩, fun l x ho => ?_, c.wf⟩, e, fun z => z.elim hF hX, hm⟩
  · obtain ⟨vs, z⟩ := c.fin b q
    exact ⟨vs, by rw [upd_ne (ne_of_none z n)]; exact z⟩
  · obtain ⟨⟨u, z⟩, _⟩ := c.hld b q
    exact ⟨u, by rw [upd_ne (ne_of_none z n)]; exact z⟩
  · obtain ⟨b, h1, h2⟩ := c.ob l x ho
    refine ⟨b, h1, ?_⟩
    cases x with
    | lst ds =>
      obtain ⟨vs, h3, h4⟩ := h2
      exact ⟨vs, by rw [upd_ne (ne_of_none h3 n)]; exact h3, RepL.ext e ds vs h4⟩
    | dic _ _ => exact h2
/-- a fresh list becomes a cell -/
def Mp.addC (p : Mp) (l : Nat) (a : Addr) : Mp := ⟨fun k => if k = l then some a else p.m k, p.F, p.X⟩
theorem CH.cell {a : Addr} {ds : List D} {vs : List V} (c : CH K mg H p h) (h1 : H a = some (.lst vs)) (h2 : ¬ p.T a) (h3 : ∀ l, p.m l ≠ some a) (h4 : RepL K mg H p ds vs) (hb : belL h.length ds = true) :
    CH K mg H (p.addC h.length a) (h ++ [.lst ds]) ∧ Ext p H (p.addC h.length a) H := by
  have e : Ext p H (p.addC h.length a) H := by
    refine ⟨⟨fun _ q => q, fun _ _ _ q => q, fun _ _ _ q => q, fun l b q => ?_⟩, fun _ q => ⟨q, rfl⟩⟩
    show (if l = h.length then some a else p.m l) = some b
    rw [if_neg ?_]
    · exact q
    · rintro rfl
      rw [c.dom _ (Nat.le_refl _)] at q
      cases q
  have eqm : ∀ l b, (p.addC h.length a).m l = some b → (l = h.length ∧ b = a) ∨ p.m l = some b := fun l b q => by
    have q' : (if l = h.length then some a else p.m l) = some b := q
    by_cases hl : l = h.length
    · rw [if_pos hl] at q'
      exact .inl ⟨hl, (Option.some.inj q').symm⟩
    · rw [if_neg hl] at q'
      exact .inr q'
  refine ⟨⟨fun l q => ?_, fun l l' b q q' => ?_, fun l b q hF => ?_, c.fin, c.hld, fun l o ho => ?_, fun l o ho => ?_⟩, e⟩
  · simp at q
    show (if l = h.length then some a else p.m l) = none
    rw [if_neg (by omega)]
    exact c.dom l (by omega)
  · rcases eqm _ _ q with ⟨e1, e2⟩ | q1 <;> rcases eqm _ _ q' with ⟨e3, e4⟩ | q2
    · rw [e1, e3]
    · rw [e2] at q2; exact absurd q2 (h3 _)
    · rw [e4] at q1; exact absurd q1 (h3 _)
    · exact c.inj _ _ _ q1 q2
  · rcases eqm _ _ q with ⟨e1, e2⟩ | q1
    · rw [e2] at hF; exact h2 hF
    · exact c.sep _ _ q1 hF
  · by_cases hl : l < h.length
    · rw [List.getElem?_append_left hl] at ho
      obtain ⟨b, m1, m2⟩ := c.ob l o ho
      refine ⟨b, e.m _ _ m1, ?_⟩
      cases o with
      | lst es =>
        obtain ⟨us, q1, q2⟩ := m2
        exact ⟨us, q1, RepL.ext e es us q2⟩
      | dic _ _ => exact m2
    · rw [List.getElem?_append_right (by omega)] at ho
      have hz : l - h.length = 0 := by
        have := (List.getElem?_eq_some_iff.mp ho).1
        simp at this; omega
      rw [hz] at ho
      simp at ho
      subst ho
      have hl' : l = h.length := by omega
      exact ⟨a, by show (if l = h.length then some a else p.m l) = some a; rw [if_pos hl'], vs, h1, RepL.ext e ds vs h4⟩
  · by_cases hl : l < h.length
    · rw [List.getElem?_append_left hl] at ho
      exact c.wf l o ho
    · rw [List.getElem?_append_right (by omega)] at ho
      have hz : l - h.length = 0 := by
        have := (List.getElem?_eq_some_iff.mp ho).1
        simp at this; omega
      rw [hz] at ho
      simp at ho
      subst ho
      have hl' : l = h.length := by omega
      rw [hl']
      exact hb
/-- a cell's list is changed -/
theorem CH.put {l : Nat} {a : Addr} {xs ds : List D} {us vs : List V} (c : CH K mg H p h) (ho : h[l]? = some (.lst xs)) (hm : p.m l = some a) (hu : H a = some (.lst us)) (r : RepL K mg H p ds vs) (hb : belL l ds = true) :
    CH K mg (upd H a (.lst vs)) p (h.set l (.lst ds)) ∧ Ext p H p (upd H a (.lst vs)) := by
  have nF : ¬ p.F a := fun z => c.sep l a hm (.inl z)
  have nX : ¬ p.X a := fun z => c.sep l a hm (.inr z)
  have e : Ext p H p (upd H a (.lst vs)) := by
    refine ⟨⟨fun _ q => q, fun b x f q => ?_, fun b x u q => ?_, fun _ _ q => q⟩, fun b q => ⟨q, upd_ne fun z => nX (z ▸ q)⟩⟩
    · rw [upd_ne (show b ≠ a from fun z => nF (by rw [← z]; exact f))]; exact q
    · rw [upd_ne (fun z => by rw [z, hu] at q; cases q)]; exact q
  refine ⟨⟨fun k q => c.dom k (by simpa using q), c.inj, c.sep, fun b q => ?_, fun b q => ⟨?_, (c.hld b q).2⟩, fun k o q => ?_, fun k o q => ?_⟩, e⟩
  · obtain ⟨ws, z⟩ := c.fin b q
    exact ⟨ws, by rw [upd_ne (show b ≠ a from fun y => nF (by rw [← y]; exact q))]; exact z⟩
  · obtain ⟨⟨u, z⟩, _⟩ := c.hld b q
    exact ⟨u, by rw [upd_ne (show b ≠ a from fun y => nX (by rw [← y]; exact q))]; exact z⟩
  · by_cases hk : l = k
    · subst hk
      have hl : l < h.length := (List.getElem?_eq_some_iff.mp ho).1
      rw [List.getElem?_set_self hl] at q
      cases q
      exact ⟨a, hm, vs, upd_same, RepL.ext e ds vs r⟩
    · rw [List.getElem?_set_ne hk] at q
      obtain ⟨b, m1, m2⟩ := c.ob k o q
      refine ⟨b, m1, ?_⟩
      have hne : b ≠ a := fun z => hk (c.inj l k a hm (z ▸ m1))
      cases o with
      | lst es =>
        obtain ⟨ws, q1, q2⟩ := m2
        exact ⟨ws, by rw [upd_ne hne]; exact q1, RepL.ext e es ws q2⟩
      | dic _ _ => exact m2
  · by_cases hk : l = k
    · subst hk
      have hl : l < h.length := (List.getElem?_eq_some_iff.mp ho).1
      rw [List.getElem?_set_self hl] at q
      cases q
      exact hb
    · rw [List.getElem?_set_ne hk] at q
      exact c.wf k o q
/-- held -/
def Mp.hold (p : Mp) (a : Addr) : Mp := ⟨p.m, p.F, fun b => p.X b ∨ b = a⟩
def Mp.drop (p : Mp) (a : Addr) : Mp := ⟨p.m, p.F, fun b => p.X b ∧ b ≠ a⟩
theorem CH.hold {a : Addr} {o : HO} (c : CH K mg H p h) (h1 : H a = some o) (h2 : ¬ p.T a) (h3 : ∀ l, p.m l ≠ some a) : CH K mg H (p.hold a) h ∧ Ext p H (p.hold a) H := by
  have e : Ext p H (p.hold a) H := ⟨⟨fun _ q => q, fun _ _ _ q => q, fun _ _ _ q => q, fun _ _ q => q⟩, fun _ q => ⟨.inl q, rfl⟩⟩
  refine ⟨⟨c.dom, c.inj, fun l b hm hT => ?_, c.fin, fun b hX => ?_, fun l o ho => ?_, c.wf⟩, e⟩
  · rcases hT with hF | hX | rfl
    · exact c.sep l b hm (.inl hF)
    · exact c.sep l b hm (.inr hX)
    · exact h3 l hm
  · rcases hX with hX | rfl
    · exact c.hld b hX
    · exact ⟨⟨o, h1⟩, fun z => h2 (.inl z)⟩
  · obtain ⟨b, m1, m2⟩ := c.ob l o ho
    refine ⟨b, m1, ?_⟩
    cases o with
    | lst es =>
      obtain ⟨us, q1, q2⟩ := m2
      exact ⟨us, q1, RepL.ext e es us q2⟩
    | dic _ _ => exact m2
/-- what is held may be written -/
theorem CH.drop {a : Addr} {vs us : List V} (c : CH K mg H p h) (hX : p.X a) (hu : H a = some (.lst us)) : CH K mg (upd H a (.lst vs)) (p.drop a) h ∧ Ext0 p H (p.drop a) (upd H a (.lst vs)) := by
  have nF : ¬ p.F a := (c.hld a hX).2
  have e : Ext0 p H (p.drop a) (upd H a (.lst vs)) := by
    refine ⟨fun _ q => q, fun b x f q => ?_, fun b x u q => ?_, fun _ _ q => q⟩
    · rw [upd_ne (show b ≠ a from fun z => nF (by rw [← z]; exact f))]; exact q
    · rw [upd_ne (fun z => by rw [z, hu] at q; cases q)]; exact q
  refine ⟨⟨c.dom, c.inj, fun l b hm hT => c.sep l b hm (hT.imp id fun z => z.1), fun b q => ?_, fun b q => ⟨?_, (c.hld b q.1).2⟩, fun l o ho => ?_, c.wf⟩, e⟩
  · obtain ⟨ws, z⟩ := c.fin b q
    exact ⟨ws, by rw [upd_ne (show b ≠ a from fun y => nF (by rw [← y]; exact q))]; exact z⟩
  · obtain ⟨⟨u, z⟩, _⟩ := c.hld b q.1
    exact ⟨u, by rw [upd_ne q.2]; exact z⟩
  · obtain ⟨b, m1, m2⟩ := c.ob l o ho
    have hne : b ≠ a := fun z => c.sep l b m1 (.inr (z ▸ hX))
    refine ⟨b, m1, ?_⟩
    cases o with
    | lst es =>
      obtain ⟨ws, q1, q2⟩ := m2
      exact ⟨ws, by rw [upd_ne hne]; exact q1, RepL.ext0 e es ws q2⟩
    | dic _ _ => exact m2
end
end Fz

set_option Elab.async false
set_option linter.all false
set_option maxRecDepth 100000
/-! Fz, part B: the small language and what its texts compute. -/
namespace Fz
open PySem PySem.Spec PyProof.Rows L2

inductive Res (α : Type) where
  | ok (a : α) (h : LH) | exc (c : Str) (xs : List (Str × D)) (h : LH) | no
def M (α : Type) := LH → Res α
def M.ret {α : Type} (a : α) : M α := fun h => .ok a h
def Res.next {α β : Type} (r : Res α) (k : α → M β) : Res β := match r with
  | .ok a h => k a h
  | .exc c xs h => .exc c xs h
  | .no => .no
def M.then {α β : Type} (m : M α) (k : α → M β) : M β := fun h => (m h).next k
instance : Monad M where
  pure := M.ret
  bind := M.then
def stop {α : Type} : M α := fun _ => .no
def need (b : Bool) : M Unit := fun h => match b with
  | true => .ok () h
  | false => .no
def ofO {α : Type} (o : Option α) : M α := fun h => match o with
  | some a => .ok a h
  | none => .no
def getH : M LH := fun h => .ok h h
def setH (h' : LH) : M Unit := fun _ => .ok () h'
abbrev DF := D × Bool
/-- nothing may be raised within -/
def quiet {α : Type} (m : M α) : M α := fun h => match m h with
  | .exc _ _ _ => .no
  | r => r
/-- a value that is no new list -/
def val (d : D) : M DF := M.ret (d, false)
/-- a new list -/
def newL (xs : List D) : M DF := fun h => match decide (xs.length ≤ sizeLine) with
  | true => .ok (.lst xs, true) h
  | false => .no
def newT (xs : List D) : M DF := fun h => match decide (xs.length ≤ sizeLine) with
  | true => .ok (.tup xs, false) h
  | false => .no

/-! ### values -/
/-- a changing list as it stands now -/
def der (h : LH) : D → D
  | .cell l => match h[l]? with
    | some (.lst xs) => .lst xs
    | _ => .cell l
  | .fix xs => .lst xs
  | d => d
def seqOf : D → Option (List D)
  | .tup xs => some xs
  | .lst xs => some xs
  | _ => none
def b2n (b : Bool) : Int := if b then 1 else 0
mutual
/-- Python's == -/
def eqD : D → D → Bool
  | .non, .non => true
  | .bl a, .bl b => a == b
  | .bl a, .int j => b2n a == j
  | .int i, .bl b => i == b2n b
  | .int i, .int j => i == j
  | .str x, .str y => x == y
  | .lst a, .lst b => eqDs a b
  | .tup a, .tup b => eqDs a b
  | _, _ => false
def eqDs : List D → List D → Bool
  | [], [] => true
  | a :: r, b :: q => eqD a b && eqDs r q
  | _, _ => false
end
mutual
/-- plain data: what they read as -/
def toPy : D → Option PyData
  | .non => some .none
  | .bl b => some (.bool b)
  | .int i => some (.int i)
  | .str x => some (.str x)
  | .tup xs => (toPyL xs).map .tuple
  | .lst xs => (toPyL xs).map .list
  | _ => none
def toPyL : List D → Option (List PyData)
  | [] => some []
  | x :: r => match toPy x, toPyL r with
    | some d, some ds => some (d :: ds)
    | _, _ => none
end
mutual
/-- plain data, n deep at most -/
def plain : Nat → D → Bool
  | _, .non => true
  | _, .bl _ => true
  | _, .int _ => true
  | _, .str x => PyData.strOk x
  | n + 1, .tup xs => plainL n xs
  | n + 1, .lst xs => plainL n xs
  | _, _ => false
def plainL : Nat → List D → Bool
  | _, [] => true
  | n, x :: r => plain n x && plainL n r
end
def truthD : D → Option Bool
  | .non => some false
  | .bl b => some b
  | .int i => some (i != 0)
  | .str x => if x.length ≤ sizeLine then some ((x.length : Int) != 0) else none
  | .tup xs => some (!xs.isEmpty)
  | .lst xs => some (!xs.isEmpty)
  | _ => none

inductive Ty where
  | int | bool | str | tup | lst | dic
inductive BOp where
  | add | sub | mul | fdiv | mod | pow
inductive COp where
  | eq | ne | lt | le | gt | ge | isin | notin | same | unlike
inductive Bi where
  | len | all | any | sorted | min | max | sum | int | abs | divmod | list | tuple | repr
inductive Me where
  | append | extend | pop | index
inductive Tg where
  | loc (i : Nat) | tup (is : List Nat)

def tyn : Ty → String
  | .int => "int" | .bool => "bool" | .str => "str" | .tup => "tuple" | .lst => "list" | .dic => "dict"
inductive TyO where
  | non | bl | int | str | tup | lst
def tyOf : D → Option TyO
  | .non => some .non | .bl _ => some .bl | .int _ => some .int | .str _ => some .str | .tup _ => some .tup | .lst _ => some .lst | _ => none
def isTy : Ty → TyO → Bool
  | .int, .int => true
  | .int, .bl => true
  | .bool, .bl => true
  | .str, .str => true
  | .tup, .tup => true
  | .lst, .lst => true
  | _, _ => false
def isiD (ts : List Ty) (d : D) : M DF := fun h => match tyOf (der h d) with
  | some T => val (.bl (ts.any fun t => isTy t T)) h
  | none => .no
def notFix : D → Bool
  | .fix _ => false
  | _ => true
def mulOk (i j : Int) : Bool := decide (i.natAbs.log2 < 60 ∨ j.natAbs.log2 < 60 ∨ i.natAbs.log2 + j.natAbs.log2 < 130000000)
def binD (o : BOp) (a b : D) : M DF := fun h => match o, der h a, der h b with
  | .add, .int i, .int j => val (.int (i + j)) h
  | .add, .str x, .str y => match decide (x.length + y.length ≤ sizeLine) with
    | true => val (.str (x ++ y)) h
    | false => .no
  | .add, .tup xs, .tup ys => newT (xs ++ ys) h
  | .add, .lst xs, .lst ys => newL (xs ++ ys) h
  | .sub, .int i, .int j => val (.int (i - j)) h
  | .mul, .int i, .int j => match mulOk i j with
    | true => val (.int (i * j)) h
    | false => .no
  | .mul, .lst xs, .int j => match decide (0 ≤ j ∧ j ≤ 1000 ∧ xs.length ≤ 1000) && notFix a with
    | true => newL (List.replicate j.toNat xs).flatten h
    | false => .no
  | .fdiv, .int i, .int j => match decide (0 < j ∧ j.natAbs.log2 < 9000) with
    | true => val (.int (i / j)) h
    | false => .no
  | .mod, .int i, .int j => match decide (0 < j) with
    | true => val (.int (i % j)) h
    | false => .no
  | .pow, .int i, .int j => match decide (0 ≤ j ∧ j ≤ 1000000 ∧ i.natAbs < 2 ^ 64) with
    | true => val (.int (i ^ j.toNat)) h
    | false => .no
  | _, _, _ => .no

def negD (d : D) : M DF := fun h => match d with
  | .int i => val (.int (-i)) h
  | _ => .no
def inD (x : D) (ys : List D) : Bool := ys.any fun z => eqD z x
def cmpD (o : COp) (a b : D) : M DF := fun h => match o, der h a, der h b with
  | .eq, x, y => match plain 30 x && plain 30 y with
    | true => val (.bl (eqD x y)) h
    | false => .no
  | .ne, x, y => match plain 30 x && plain 30 y with
    | true => val (.bl (!eqD x y)) h
    | false => .no
  | .lt, .int i, .int j => val (.bl (decide (i < j))) h
  | .le, .int i, .int j => val (.bl (decide (i ≤ j))) h
  | .gt, .int i, .int j => val (.bl (decide (j < i))) h
  | .ge, .int i, .int j => val (.bl (decide (j ≤ i))) h
  | .isin, x, .tup ys => match plain 30 x && plainL 30 ys with
    | true => val (.bl (inD x ys)) h
    | false => .no
  | .isin, x, .lst ys => match plain 30 x && plainL 30 ys with
    | true => val (.bl (inD x ys)) h
    | false => .no
  | .notin, x, .tup ys => match plain 30 x && plainL 30 ys with
    | true => val (.bl (!inD x ys)) h
    | false => .no
  | .notin, x, .lst ys => match plain 30 x && plainL 30 ys with
    | true => val (.bl (!inD x ys)) h
    | false => .no
  | .same, x, .non => val (.bl (decide (x = .non))) h
  | .unlike, x, .non => val (.bl (!decide (x = .non))) h
  | .same, .bl i, .bl j => val (.bl (decide (i = j))) h
  | .unlike, .bl i, .bl j => val (.bl (!decide (i = j))) h
  | _, _, _ => .no

def ixD (a i : D) : M DF := fun h => match der h a, i with
  | .tup xs, .int i => match atI xs i with
    | some d => val d h
    | none => .no
  | .lst xs, .int i => match atI xs i with
    | some d => val d h
    | none => .no
  | _, _ => .no
def cutD (xs : List D) (lo hi : Option Int) : List D := (xs.drop (HT.sIx xs.length 0 lo)).take (HT.sIx xs.length xs.length hi - HT.sIx xs.length 0 lo)
def intD (d : D) : M (Option Int) := fun h => match d with
  | .int i => .ok (some i) h
  | _ => .no
def slcD (a : D) (lo hi : Option Int) : M DF := fun h => match der h a with
  | .tup xs => val (.tup (cutD xs lo hi)) h
  | .lst xs => newL (cutD xs lo hi) h
  | _ => .no
def intsOf : List D → Option (List Int)
  | [] => some []
  | .int i :: r => (intsOf r).map (i :: ·)
  | _ => none
def blsOf : List D → Option (List Bool)
  | [] => some []
  | .bl b :: r => (blsOf r).map (b :: ·)
  | _ => none
/-- what a datum reads as (plain data) -/
def pyOf (d : D) : PyData := (toPy d).getD .none
/-- Python's < of data that are alike -/
def ltD (a b : D) : Bool := PySem.W.dataLt (pyOf a) (pyOf b)
def alikeAllB (ds : List D) : Bool := ds.all fun d => ds.all fun e => PySem.W.alike (pyOf d) (pyOf e)
def isTupC : D → Bool
  | .tup (_ :: _) => true
  | _ => false
def noTup : D → Bool
  | .tup _ => false
  | .non => false
  | _ => true
def notNon : D → Bool
  | .non => false
  | _ => true
def sortOk (xs : List D) : Bool := plainL 30 xs && alikeAllB xs && (xs.all isTupC || xs.all noTup)
def sortD (xs : List D) : List D := xs.mergeSort fun a b => !ltD b a
def minL (x : D) (xs : List D) : D := xs.foldl (fun a y => if ltD y a then y else a) x
def maxL (x : D) (xs : List D) : D := xs.foldl (fun a y => if ltD a y then y else a) x
def ordOk (xs : List D) : Bool := plainL 30 xs && alikeAllB xs && xs.all notNon
/-- the calls of what is built in -/
def biD (b : Bi) (es : List D) : M DF := fun h => match b, es.map (der h) with
  | .len, [.tup xs] => val (.int xs.length) h
  | .len, [.lst xs] => val (.int xs.length) h
  | .len, [.str x] => match decide (x.length ≤ sizeLine) with
    | true => val (.int x.length) h
    | false => .no
  | .all, [.lst xs] => match blsOf xs with
    | some bs => val (.bl (bs.all id)) h
    | none => .no
  | .any, [.lst xs] => match blsOf xs with
    | some bs => val (.bl (bs.any id)) h
    | none => .no
  | .sorted, [.lst xs] => match sortOk xs with
    | true => newL (sortD xs) h
    | false => .no
  | .min, [.int i, .int j] => val (.int (if j < i then j else i)) h
  | .max, [.int i, .int j] => val (.int (if j > i then j else i)) h
  | .min, [.lst (x :: xs)] => match ordOk (x :: xs) with
    | true => val (minL x xs) h
    | false => .no
  | .min, [.tup (x :: xs)] => match ordOk (x :: xs) with
    | true => val (minL x xs) h
    | false => .no
  | .max, [.lst (x :: xs)] => match ordOk (x :: xs) with
    | true => val (maxL x xs) h
    | false => .no
  | .max, [.tup (x :: xs)] => match ordOk (x :: xs) with
    | true => val (maxL x xs) h
    | false => .no
  | .sum, [.lst xs] => match intsOf xs with
    | some is => val (.int is.sum) h
    | none => .no
  | .int, [.int i] => val (.int i) h
  | .int, [.bl b] => val (.int (b2n b)) h
  | .abs, [.int i] => val (.int (if i < 0 then -i else i)) h
  | .divmod, [.int i, .int j] => match decide (0 < j ∧ j < 1073741824) with
    | true => val (.tup [.int (i / j), .int (i % j)]) h
    | false => .no
  | .list, [.tup xs] => newL xs h
  | .list, [.lst xs] => newL xs h
  | .tuple, [.tup xs] => val (.tup xs) h
  | .tuple, [.lst xs] => newT xs h
  | .repr, [d] => match toPy d with
    | some x => match x.showable && plain 30 d && decide (x.shown.length ≤ sizeLine) with
      | true => val (.str x.shown) h
      | false => .no
    | none => .no
  | _, _ => .no

/-- a changing list is written -/
def putL (l : Nat) (xs : List D) : M Unit := fun h => match belL l xs && decide (xs.length ≤ sizeLine) with
  | true => .ok () (h.set l (.lst xs))
  | false => .no
def idxOf (x : D) : List D → Option Nat
  | [] => none
  | y :: r => if eqD y x then some 0 else (idxOf x r).map (· + 1)
def methD (m : Me) (o : D) (es : List D) : M DF := fun h => match m, o, es with
  | .append, .cell l, [x] => match h[l]? with
    | some (.lst xs) => M.then (putL l (xs ++ [x])) (fun _ => val .non) h
    | _ => .no
  | .extend, .cell l, [.lst ys] => match h[l]? with
    | some (.lst xs) => M.then (putL l (xs ++ ys)) (fun _ => val .non) h
    | _ => .no
  | .pop, .cell l, [.int i] => match h[l]? with
    | some (.lst xs) => match decide (0 ≤ i ∧ i < xs.length ∧ xs.length ≤ sizeLine), xs[i.toNat]? with
      | true, some d => M.then (putL l (xs.eraseIdx i.toNat)) (fun _ => val d) h
      | _, _ => .no
    | _ => .no
  | .pop, .cell l, [] => match h[l]? with
    | some (.lst xs) => match xs[xs.length - 1]? with
      | some d => M.then (putL l xs.dropLast) (fun _ => val d) h
      | _ => .no
    | _ => .no
  | .index, o, [x] => match der h o with
    | .lst ys => match plain 30 x && plainL 30 ys, idxOf x ys with
      | true, some k => val (.int k) h
      | _, _ => .no
    | .tup ys => match plain 30 x && plainL 30 ys, idxOf x ys with
      | true, some k => val (.int k) h
      | _, _ => .no
    | _ => .no
  | _, _, _ => .no
/-- what a method may be asked of -/
def recv (m : Me) (d : D) : Bool := match m, d with
  | _, .lst _ => true
  | .index, .tup _ => true
  | _, _ => false
/-- o[i] = d -/
def setD (o i d : D) : M Unit := fun h => match o, i with
  | .cell l, .int i => match h[l]? with
    | some (.lst xs) => match ixN xs.length i with
      | some j => putL l (xs.set j d) h
      | none => .no
    | _ => .no
  | _, _ => .no

/-! ### the texts -/
mutual
inductive E where
  | loc (i : Nat) | con (d : D) | glob (x : Str) (d : D)
  | tup (es : List E) | lst (es : List E) | star (e : E)
  | bin (o : BOp) (a b : E) | neg (a : E) | not (a : E)
  | cmp (o : COp) (a b : E) | chain (o o' : COp) (a b c : E)
  | and (a b : E) | or (a b : E)
  | ite (c a b : E)
  | ix (a i : E) | slc (a : E) (lo hi : Option E)
  | call (x : Str) (es : List E) | callk (x : Str) (js : List Nat) (ks : List E)
  | isi (e : E) (ts : List Ty)
  | bi (b : Bi) (es : List E)
  | meth (m : Me) (o : E) (es : List E)
  | comp (elt : E) (gs : List G) (own : List Nat)
  | mk (e : E)
  | range (es : List E) | enum (e : E) | zip (a b : E)
inductive G where
  | mk (t : Tg) (it : E) (ifs : List E)
end
abbrev Env := List (Option D)
def tgS : Tg → List Nat
  | .loc i => [i]
  | .tup is => is
def gsS : List G → List Nat
  | [] => []
  | .mk t _ _ :: gs => tgS t ++ gsS gs
def bindT (t : Tg) (d : D) (env : Env) : Option Env := match t, d with
  | .loc i, d => some (env.set i (some d))
  | .tup is, .tup ds => if is.length = ds.length then some ((is.zip ds).foldl (fun e p => e.set p.1 (some p.2)) env) else none
  | _, _ => none
def wipeE (env : Env) : List Nat → Env
  | [] => env
  | v :: vs => (wipeE env vs).set v none
/-- the changing list that is walked stands still -/
def still (g : Option Nat) (all : List D) (h : LH) : Bool := match g with
  | none => true
  | some l => match h[l]? with
    | some o => Ob.beq o (.lst all)
    | none => false
/-- a loop over these; g: the changing list that is walked, it must stand still -/
def loopM {α : Type} (g : Option Nat) (all : List D) (k : D → α → M α) : List D → α → M α
  | [], a => M.ret a
  | x :: r, a => M.then (k x a) fun a' => fun h => match still g all h with
    | true => loopM g all k r a' h
    | false => .no
/-- what is walked: all items, the changing list -/
abbrev Walk := List D × Option Nat
def walkD (d : D) : M Walk := fun h => match d with
  | .cell l => match h[l]? with
    | some (.lst xs) => .ok (xs, some l) h
    | _ => .no
  | .lst xs => .ok (xs, none) h
  | .fix xs => .ok (xs, none) h
  | .tup xs => .ok (xs, none) h
  | _ => .no
def rangeL (a b : Int) : List D := (List.range (b - a).toNat).map fun i => D.int (a + (i : Nat))
def rangeD (es : List D) : Option (List D) := match es with
  | [.int j] => if -(2 ^ 62) ≤ j ∧ j < 2 ^ 62 then some (rangeL 0 j) else none
  | [.int i, .int j] => if -(2 ^ 62) ≤ i ∧ i < 2 ^ 62 ∧ -(2 ^ 62) ≤ j ∧ j < 2 ^ 62 then some (rangeL i j) else none
  | _ => none
def enumL (k : Nat) : List D → List D
  | [] => []
  | x :: r => .tup [.int k, x] :: enumL (k + 1) r
def mkC (p : DF) : M DF := fun h => match p with
  | (.lst xs, true) => match belL h.length xs with
    | true => .ok (.cell h.length, false) (h ++ [.lst xs])
    | false => .no
  | (.lst _, false) => .no
  | (.fix _, _) => .no
  | (d, _) => .ok (d, false) h
/-- values given by name, in the parameters' order -/
def pick {α : Type} : List Nat → List α → Option (List α)
  | [], _ => some []
  | j :: r, us => match us[j]?, pick r us with
    | some u, some q => some (u :: q)
    | _, _ => none

section
variable (Φ : Str → List D → M DF)
mutual
def ev : E → Env → M DF
  | .loc i, env => fun h => match env[i]? with
    | some (some d) => val d h
    | _ => .no
  | .con d, _ => val d
  | .glob _ d, _ => val d
  | .tup es, env => M.then (evL es env) newT
  | .lst es, env => M.then (evL es env) newL
  | .star _, _ => stop
  | .bin o a b, env => M.then (ev a env) fun x => M.then (ev b env) fun y => binD o x.1 y.1
  | .neg a, env => M.then (ev a env) fun x => negD x.1
  | .not a, env => M.then (ev a env) fun x => fun h => match truthD (der h x.1) with
    | some b => val (.bl (!b)) h
    | none => .no
  | .cmp o a b, env => M.then (ev a env) fun x => M.then (ev b env) fun y => cmpD o x.1 y.1
  | .chain o o' a b c, env => M.then (ev a env) fun x => M.then (ev b env) fun y => M.then (cmpD o x.1 y.1) fun z => fun h => match z.1 with
    | .bl true => M.then (ev c env) (fun w => cmpD o' y.1 w.1) h
    | .bl false => val (.bl false) h
    | _ => .no
  | .and a b, env => M.then (ev a env) fun x => fun h => match truthD (der h x.1) with
    | some true => ev b env h
    | some false => val x.1 h
    | none => .no
  | .or a b, env => M.then (ev a env) fun x => fun h => match truthD (der h x.1) with
    | some true => val x.1 h
    | some false => ev b env h
    | none => .no
  | .ite c a b, env => M.then (ev c env) fun x => fun h => match truthD (der h x.1) with
    | some true => ev a env h
    | some false => ev b env h
    | none => .no
  | .ix a i, env => M.then (ev a env) fun x => M.then (ev i env) fun y => ixD x.1 y.1
  | .slc a lo hi, env => M.then (ev a env) fun x => M.then (evO lo env) fun y => M.then (evO hi env) fun z => slcD x.1 y z
  | .call x es, env => M.then (evL es env) fun ds => Φ x ds
  | .callk x js ks, env => M.then (evL ks env) fun us => M.then (ofO (pick js us)) fun vs => Φ x vs
  | .isi e ts, env => M.then (ev e env) fun x => isiD ts x.1
  | .bi b es, env => M.then (evL es env) fun ds => biD b ds
  | .meth m o es, env => M.then (ev o env) fun x => fun h => match recv m (der h x.1) with
    | true => M.then (evL es env) (fun ds => methD m x.1 ds) h
    | false => .no
  | .comp elt gs own, env => M.then (quiet (evG gs (fun env' acc => M.then (ev elt env') fun x => fun h => match decide (acc.length < sizeLine) with
      | true => .ok (acc ++ [x.1]) h
      | false => .no) own env [])) fun xs => fun h => .ok (.lst xs, true) h
  | .mk e, env => M.then (ev e env) mkC
  | .range es, env => M.then (evL es env) fun ds => M.then (ofO (rangeD ds)) newL
  | .enum _, _ => stop
  | .zip _ _, _ => stop
def evL : List E → Env → M (List D)
  | [], _ => M.ret []
  | .star e :: r, env => M.then (ev e env) fun x => fun h => match seqOf (der h x.1) with
    | some xs => M.then (evL r env) (fun ys => M.ret (xs ++ ys)) h
    | none => .no
  | e :: r, env => M.then (ev e env) fun x => M.then (evL r env) fun ys => M.ret (x.1 :: ys)
def evO : Option E → Env → M (Option Int)
  | none, _ => M.ret none
  | some e, env => M.then (ev e env) fun x => intD x.1
/-- what stands behind «in» -/
def evW : E → Env → M Walk
  | .range es, env => M.then (evL es env) fun ds => M.then (ofO (rangeD ds)) fun xs => M.ret (xs, none)
  | .enum e, env => M.then (ev e env) fun x => M.then (walkD x.1) fun w => match w.2 with
    | none => M.ret (enumL 0 w.1, none)
    | some _ => stop
  | e, env => M.then (ev e env) fun x => walkD x.1
def evT : List E → Env → M Bool
  | [], _ => M.ret true
  | e :: r, env => M.then (ev e env) fun x => fun h => match truthD (der h x.1) with
    | some true => evT r env h
    | some false => .ok false h
    | none => .no
/-- the clauses of a comprehension; own: the block's names, forgotten ahead of each turn of the first clause -/
def evG : List G → (Env → List D → M (List D)) → List Nat → Env → List D → M (List D)
  | [], k, _, env, acc => k env acc
  | .mk t it ifs :: gs, k, own, env, acc => M.then (evW it env) fun w => loopM w.2 w.1 (fun x acc => M.then (ofO (bindT t x (wipeE env own))) fun env' => M.then (evT ifs env') fun b => match b with
      | true => evG gs k (gsS gs) env' acc
      | false => M.ret acc) w.1 acc
end
end

/-! ### statements -/
mutual
inductive S where
  | expr (e : E) | ret (e : E) | retN | pass
  | asg (i : Nat) (e : E)
  | par (is : List Nat) (es : List E)
  | asgT (ts : List TS) (e : E)
  | asgS (o i e : E)
  | ife (c : E) (a b : List S)
  | for_ (t : Tg) (it : E) (body : List S)
  | whl (c : E) (body : List S)
  | brk | cont
  | raise_ (c : Str) (es : List E)
/-- a target of several: a name, an item -/
inductive TS where
  | loc (i : Nat) | sub (o i : E)
end
inductive Fl where
  | nx (env : Env) | rt (d : D) (fr : Bool) | bk (env : Env) | ct (env : Env)
def setL : List (Nat × D) → Env → Env
  | [], env => env
  | p :: r, env => setL r (env.set p.1 (some p.2))
section
variable (Φ : Str → List D → M DF)
/-- a for: all items, in turn -/
def forM_ (g : Option Nat) (all : List D) (k : D → Env → M Fl) : List D → Env → M Fl
  | [], env => M.ret (.nx env)
  | x :: r, env => M.then (k x env) fun f => fun h => match f with
    | .rt d fr => .ok (.rt d fr) h
    | .bk e => .ok (.nx e) h
    | .nx e => match still g all h with
      | true => forM_ g all k r e h
      | false => .no
    | .ct e => match still g all h with
      | true => forM_ g all k r e h
      | false => .no
def whileM (c : Env → M Bool) (k : Env → M Fl) : Nat → Env → M Fl
  | 0, _ => stop
  | n + 1, env => M.then (c env) fun b => match b with
    | false => M.ret (.nx env)
    | true => M.then (k env) fun f => match f with
      | .rt d fr => M.ret (.rt d fr)
      | .bk e => M.ret (.nx e)
      | .nx e => whileM c k n e
      | .ct e => whileM c k n e
def whileFuel : Nat := 1000000
def evTS (t : TS) (d : D) (env : Env) : M Env := match t with
  | .loc i => M.ret (env.set i (some d))
  | .sub o i => M.then (ev Φ o env) fun x => M.then (ev Φ i env) fun y => M.then (setD x.1 y.1 d) fun _ => M.ret env
def evTSs : List TS → List D → Env → M Env
  | [], [], env => M.ret env
  | t :: ts, d :: ds, env => M.then (evTS Φ t d env) fun e => evTSs ts ds e
  | _, _, _ => stop
mutual
def evS : S → Env → M Fl
  | .expr e, env => M.then (ev Φ e env) fun _ => M.ret (.nx env)
  | .ret e, env => M.then (ev Φ e env) fun x => M.ret (.rt x.1 x.2)
  | .retN, _ => M.ret (.rt .non false)
  | .pass, env => M.ret (.nx env)
  | .asg i e, env => M.then (ev Φ e env) fun x => M.ret (.nx (env.set i (some x.1)))
  | .par is es, env => M.then (evL Φ es env) fun ds => if is.length = ds.length then M.ret (.nx (setL (is.zip ds) env)) else stop
  | .asgT ts e, env => M.then (ev Φ e env) fun x => match x.1 with
    | .tup ds => if ts.length = ds.length then M.then (evTSs Φ ts ds env) fun e => M.ret (.nx e) else stop
    | _ => stop
  | .asgS o i e, env => M.then (ev Φ e env) fun d => M.then (ev Φ o env) fun x => M.then (ev Φ i env) fun y => M.then (setD x.1 y.1 d.1) fun _ => M.ret (.nx env)
  | .ife c a b, env => M.then (ev Φ c env) fun x => fun h => match truthD (der h x.1) with
    | some true => evSs a env h
    | some false => evSs b env h
    | none => .no
  | .for_ t it body, env => M.then (evW Φ it env) fun w => forM_ w.2 w.1 (fun x env => M.then (ofO (bindT t x env)) fun e => evSs body e) w.1 env
  | .whl c body, env => whileM (fun env => M.then (ev Φ c env) fun x => fun h => match truthD (der h x.1) with
    | some b => .ok b h
    | none => .no) (evSs body) whileFuel env
  | .brk, env => M.ret (.bk env)
  | .cont, env => M.ret (.ct env)
  | .raise_ _ _, _ => stop
def evSs : List S → Env → M Fl
  | [], env => M.ret (.nx env)
  | s :: r, env => M.then (evS s env) fun f => match f with
    | .nx e => evSs r e
    | f => M.ret f
end
end

/-! ### defs -/
structure FnA where
  name : Str
  ps : List Str
  N : List Str
  body : List S
/-- the cells that a call has made are let go, where its result needs none of them -/
def fin (base : Nat) (p : DF) : M DF := fun h => match p.1.bel base with
  | true => .ok p (h.take base)
  | false => match p.1 with
    | .cell l => match h[l]? with
      | some (.lst xs) => match belL base xs && decide (base ≤ l) with
        | true => .ok (.lst xs, true) (h.take base)
        | false => .ok (.cell l, false) h
      | _ => .ok (.cell l, false) h
    | _ => .no
def runF (Φ : Str → List D → M DF) (f : FnA) (ds : List D) : M DF := fun h =>
  if ds.length = f.ps.length then
    M.then (evSs Φ f.body (ds.map some ++ List.replicate (f.N.length - ds.length) none)) (fun fl => match fl with
      | .rt d fr => fin h.length (d, fr)
      | .nx _ => fin h.length (.non, false)
      | _ => stop) h
  else .no
abbrev Tab := List FnA
def look (T : Tab) (x : Str) : Option FnA := T.find? fun f => decide (f.name = x)
def arity (T : Tab) (x : Str) : Nat := match look T x with
  | some f => f.ps.length
  | none => 0
/-- calls, k deep at most -/
def call_ (T : Tab) : Nat → Str → List D → M DF
  | 0, _, _ => stop
  | k + 1, x, ds => match look T x with
    | some f => runF (call_ T k) f ds
    | none => stop
end Fz

set_option Elab.async false
set_option linter.all false
set_option maxRecDepth 100000
/-! Fz, part C: what a text computes is what the model computes: the frame of it, operators, built-in calls. -/
namespace Fz
open PySem PySem.Spec PyProof.Rows L2
open Heap in
section
variable {α β : Type}
/-- the exception that lies at a call's end -/
def ExR (K : PySem.W.Frag) (mg : Str → Option Value) (H : Hp) (p : Mp) (c : Str) (xs : List (Str × D)) (cls : Value) (dx : Option Addr) : Prop :=
  ∃ C, mg c = some (.ref C) ∧ cls = .ref C ∧ ((xs = [] ∧ dx = none) ∨ ∃ d fs, dx = some d ∧ H d = some (.xd fs) ∧ ∀ x ∈ xs, ∃ v, fs.lookup x.1 = some v ∧ Rep K mg H p x.2 v)
/-- what is wanted behind a run -/
def Aft (K : PySem.W.Frag) (mg : Str → Option Value) (W : XK) (p : Mp) (H : Hp) (r : Res α) (k : α → LH → Mp → Hp → Prop) : Prop := match r with
  | .ok a h' => ∀ p' H', CH K mg H' p' h' → Ext p H p' H' → k a h' p' H'
  | .exc c xs h' => ∀ cls dx p' H', CH K mg H' p' h' → Ext p H p' H' → ExR K mg H' p' c xs cls dx → W cls dx H'
  | .no => False
variable {K : PySem.W.Frag} {mg : Str → Option Value} {W : XK} {p : Mp} {H : Hp}
theorem Aft.imp {r : Res α} {k k' : α → LH → Mp → Hp → Prop} (a : Aft K mg W p H r k) (h : ∀ x h' p' H', CH K mg H' p' h' → Ext p H p' H' → k x h' p' H' → k' x h' p' H') : Aft K mg W p H r k' := by
  cases r with
  | ok x h' => exact fun p' H' c e => h x h' p' H' c e (a p' H' c e)
  | exc c xs h' => exact a
  | no => exact a
/-- .. with what came out -/
theorem Aft.impE {r : Res α} {k k' : α → LH → Mp → Hp → Prop} (a : Aft K mg W p H r k) (h : ∀ x h' p' H', r = .ok x h' → CH K mg H' p' h' → Ext p H p' H' → k x h' p' H' → k' x h' p' H') : Aft K mg W p H r k' := by
  cases r with
  | ok x h' => exact fun p' H' c e => h x h' p' H' rfl c e (a p' H' c e)
  | exc c xs h' => exact a
  | no => exact a
theorem Aft.bind {r : Res α} {f : α → M β} {k : β → LH → Mp → Hp → Prop} (a : Aft K mg W p H (r.next f) k) : Aft K mg W p H r fun x h1 p1 H1 => Aft K mg W p1 H1 (f x h1) k := by
  cases r with
  | ok x h' =>
    intro p1 H1 c1 e1
    have a : Aft K mg W p H (f x h') k := a
    cases q : f x h' with
    | ok y h2 => rw [q] at a; exact fun p' H' c e => a p' H' c (e1.trans e)
    | exc c xs h2 => rw [q] at a; exact fun cls dx p' H' c e => a cls dx p' H' c (e1.trans e)
    | no => rw [q] at a; exact a
  | exc c xs h' => exact a
  | no => exact a
/-- nothing is run -/
theorem Aft.now {a : α} {h : LH} {k : α → LH → Mp → Hp → Prop} (q : Aft K mg W p H (.ok a h) k) (c : CH K mg H p h) : k a h p H := q p H c (Ext.refl p H)
end

section
variable (K : PySem.W.Frag) (mg : Str → Option Value) (W : XK)
def Kn (H : Hp) (p : Mp) (h : LH) (env : Env) (σ : L2.St) : Prop := CH K mg H p h ∧ SL K mg H p env σ
/-- a value's reading -/
def tE (f : Env → M DF) : TE := fun σ H Q => ∃ p h env, Kn K mg H p h env σ ∧ Aft K mg W p H (f env h) fun x _ p' H' => ∀ v, RepF K mg H' p' x.1 x.2 v → Q v H'
def tZ (f : Env → M DF) : TE := fun σ H Q => ∃ p h env, Kn K mg H p h env σ ∧ Aft K mg W p H (f env h) fun x h' p' H' => ∀ v, CH K mg H' p' h' → Rep K mg H' p' x.1 v → Q v H'
def tA (f : Env → M (List D)) : TA := fun σ H Q => ∃ p h env, Kn K mg H p h env σ ∧ Aft K mg W p H (f env h) fun x h' p' H' => ∀ vs, CH K mg H' p' h' → RepL K mg H' p' x vs → Q vs H'
def tT (f : Env → M Bool) : TT := fun σ H Q => ∃ p h env, Kn K mg H p h env σ ∧ Aft K mg W p H (f env h) fun b h' p' H' => CH K mg H' p' h' → Q b H'
end
theorem PE.imp {X : Cx} {e : Expr} {t t' : TE} (h : PE X e t) (i : ∀ σ H Q, t' σ H Q → t σ H Q) : PE X e t' := ⟨fun pins s σ H Q I q => h.run pins s σ H Q I (i σ H Q q)⟩
theorem PA.imp {X : Cx} {e : List Expr} {t t' : TA} (h : PA X e t) (i : ∀ σ H Q, t' σ H Q → t σ H Q) : PA X e t' := ⟨fun pos pins s σ H Q I q => h.run pos pins s σ H Q I (i σ H Q q)⟩
theorem PT.imp {X : Cx} {e : Expr} {t t' : TT} (h : PT X e t) (i : ∀ σ H Q, t' σ H Q → t σ H Q) : PT X e t' := ⟨fun pins s σ H Q I q => h.run pins s σ H Q I (i σ H Q q)⟩
theorem PW.imp {X : Cx} {e : Expr} {t t' : TT} (h : PW X e t) (i : ∀ σ H Q, t' σ H Q → t σ H Q) : PW X e t' := ⟨fun wh pins s σ H Q I q => h.run wh pins s σ H Q I (i σ H Q q)⟩
theorem PS.imp {X : Cx} {e : Stmt} {t t' : L2.TS} (h : PS X e t) (i : ∀ D σ H, t' D σ H → t D σ H) : PS X e t' := ⟨fun pins s σ H D I q => h.run pins s σ H D I (i D σ H q)⟩
theorem PSs.imp {X : Cx} {e : List Stmt} {t t' : L2.TS} (h : PSs X e t) (i : ∀ D σ H, t' D σ H → t D σ H) : PSs X e t' := ⟨fun pins s σ H D I q => h.run pins s σ H D I (i D σ H q)⟩
section
variable {K : PySem.W.Frag} {mg : Str → Option Value} {W : XK} {H : Hp} {p : Mp} {h : LH} {env : Env} {σ : L2.St}
theorem tZ.tE {f : Env → M DF} {σ : L2.St} {H : Hp} {Q : VK} (q : tZ K mg W f σ H Q) : Fz.tE K mg W f σ H Q := by
  obtain ⟨p, h, env, kn, a⟩ := q
  refine ⟨p, h, env, kn, ?_⟩
  cases r : f env h with
  | ok x h' =>
    rw [r] at a
    intro p1 H1 c1 e1 v rv
    obtain ⟨p2, c2, e2, r2⟩ := RepF.freeze c1 rv
    exact a p2 H1 c2 (e1.trans e2) v c2 r2
  | exc c xs h' => rw [r] at a; exact a
  | no => rw [r] at a; exact a
theorem PE.z {X : Cx} {e : Expr} {f : Env → M DF} (h : PE X e (tE X.K X.mg W f)) : PE X e (tZ X.K X.mg W f) := PE.imp h fun _ _ _ q => q.tE
/-- what a plain value looks like -/
theorem rep_int {d : D} {v : V} {i : Int} (r : Rep K mg H p d v) (e : der h d = .int i) : v = .int i := by
  cases d with
  | int j => simp only [der] at e; cases e; exact r
  | cell l => simp only [der] at e; split at e <;> cases e
  | _ => simp only [der] at e; cases e
theorem rep_bl {d : D} {v : V} {i : Bool} (r : Rep K mg H p d v) (e : der h d = .bl i) : v = .bl i := by
  cases d with
  | bl j => simp only [der] at e; cases e; exact r
  | cell l => simp only [der] at e; split at e <;> cases e
  | _ => simp only [der] at e; cases e
theorem rep_str {d : D} {v : V} {i : Str} (r : Rep K mg H p d v) (e : der h d = .str i) : v = .str i := by
  cases d with
  | str j => simp only [der] at e; cases e; exact r
  | cell l => simp only [der] at e; split at e <;> cases e
  | _ => simp only [der] at e; cases e
theorem rep_non {d : D} {v : V} (r : Rep K mg H p d v) (e : der h d = .non) : v = .non := by
  cases d with
  | non => exact r
  | cell l => simp only [der] at e; split at e <;> cases e
  | _ => simp only [der] at e; cases e
theorem rep_tup {d : D} {v : V} {xs : List D} (r : Rep K mg H p d v) (e : der h d = .tup xs) : ∃ a vs, v = .ref a ∧ TupAt H a vs ∧ RepL K mg H p xs vs := by
  cases d with
  | tup j => simp only [der] at e; cases e; exact r
  | cell l => simp only [der] at e; split at e <;> cases e
  | _ => simp only [der] at e; cases e
theorem rep_lst {d : D} {v : V} {xs : List D} (c : CH K mg H p h) (r : Rep K mg H p d v) (e : der h d = .lst xs) : ∃ a vs, v = .ref a ∧ SqL K H a vs ∧ RepL K mg H p xs vs := by
  cases d with
  | lst j =>
    simp only [der] at e; cases e
    simp only [Rep] at r
    obtain ⟨a, vs, e1, h1, h2⟩ := r
    exact ⟨a, vs, e1, .of h1.1, h2⟩
  | fix j =>
    simp only [der] at e; cases e
    simp only [Rep] at r
    obtain ⟨a, vs, e1, h1, h2⟩ := r
    exact ⟨a, vs, e1, h1.sq, h2⟩
  | cell l =>
    simp only [der] at e
    split at e
    · rename_i ys ho
      cases e
      simp only [Rep] at r
      obtain ⟨a, rfl, hm⟩ := r
      obtain ⟨b, hb, vs, q1, q2⟩ := c.ob l _ ho
      rw [hm] at hb; cases hb
      exact ⟨a, vs, rfl, .of q1, q2⟩
    · cases e
  | _ => simp only [der] at e; cases e
/-- a list that may be changed, for all that its object knows -/
theorem rep_lstM {d : D} {v : V} {xs : List D} (c : CH K mg H p h) (r : Rep K mg H p d v) (e : der h d = .lst xs) (nf : notFix d = true) : ∃ a vs, v = .ref a ∧ H a = some (.lst vs) ∧ RepL K mg H p xs vs := by
  cases d with
  | lst j =>
    simp only [der] at e; cases e
    simp only [Rep] at r
    obtain ⟨a, vs, e1, h1, h2⟩ := r
    exact ⟨a, vs, e1, h1.1, h2⟩
  | fix j => cases nf
  | cell l =>
    simp only [der] at e
    split at e
    · rename_i ys ho
      cases e
      simp only [Rep] at r
      obtain ⟨a, rfl, hm⟩ := r
      obtain ⟨b, hb, vs, q1, q2⟩ := c.ob l _ ho
      rw [hm] at hb; cases hb
      exact ⟨a, vs, rfl, q1, q2⟩
    · cases e
  | _ => simp only [der] at e; cases e
theorem rep_cell {l : Nat} {v : V} {xs : List D} (c : CH K mg H p h) (r : Rep K mg H p (.cell l) v) (e : h[l]? = some (.lst xs)) : ∃ a vs, v = .ref a ∧ p.m l = some a ∧ H a = some (.lst vs) ∧ RepL K mg H p xs vs := by
  simp only [Rep] at r
  obtain ⟨a, rfl, hm⟩ := r
  obtain ⟨b, hb, vs, q1, q2⟩ := c.ob l _ e
  rw [hm] at hb; cases hb
  exact ⟨a, vs, rfl, hm, q1, q2⟩

/-! ### plain data as the library reads them -/
mutual
theorem toPy_plain : ∀ (d : D) (n : Nat), plain n d = true → ∃ x, toPy d = some x ∧ x.canLay0 = true ∧ x.depth ≤ n
  | .non, _, _ => ⟨_, rfl, by simp [PyData.canLay0], by simp [PyData.depth]⟩
  | .bl _, _, _ => ⟨_, rfl, by simp [PyData.canLay0], by simp [PyData.depth]⟩
  | .int _, _, _ => ⟨_, rfl, by simp [PyData.canLay0], by simp [PyData.depth]⟩
  | .str _, n, h => ⟨_, rfl, by simp only [plain] at h; simpa [PyData.canLay0] using h, by simp [PyData.depth]⟩
  | .tup xs, n, h => by
    cases n with
    | zero => simp [plain] at h
    | succ n =>
      simp only [plain] at h
      obtain ⟨ds, h1, h2, h3⟩ := toPyL_plain xs n h
      refine ⟨.tuple ds, by simp [toPy, h1], by simpa [PyData.canLay0] using h2, ?_⟩
      simp only [PyData.depth]
      omega
  | .lst xs, n, h => by
    cases n with
    | zero => simp [plain] at h
    | succ n =>
      simp only [plain] at h
      obtain ⟨ds, h1, h2, h3⟩ := toPyL_plain xs n h
      refine ⟨.list ds, by simp [toPy, h1], by simpa [PyData.canLay0] using h2, ?_⟩
      simp only [PyData.depth]
      omega
  | .fix _, n, h => by simp [plain] at h
  | .dic _ _, n, h => by simp [plain] at h
  | .cell _, n, h => by simp [plain] at h
  | .fn _, n, h => by simp [plain] at h
theorem toPyL_plain : ∀ (xs : List D) (n : Nat), plainL n xs = true → ∃ ds, toPyL xs = some ds ∧ PyData.canLayAll0 ds = true ∧ PyData.depthAll ds ≤ n
  | [], _, _ => ⟨[], rfl, by simp [PyData.canLayAll0], by simp [PyData.depthAll]⟩
  | x :: r, n, h => by
    simp only [plainL, Bool.and_eq_true] at h
    obtain ⟨d, h1, h2, h3⟩ := toPy_plain x n h.1
    obtain ⟨ds, h4, h5, h6⟩ := toPyL_plain r n h.2
    refine ⟨d :: ds, by simp [toPyL, h1, h4], by simp [PyData.canLayAll0, h2, h5], ?_⟩
    simp only [PyData.depthAll]
    omega
end
mutual
theorem rep_dp : ∀ (d : D) (v : V) (x : PyData), Rep K mg H p d v → toPy d = some x → Dp K H v x
  | .non, v, x, r, e => by simp only [toPy] at e; cases e; simp only [Rep] at r; subst r; exact .non
  | .bl b, v, x, r, e => by simp only [toPy] at e; cases e; simp only [Rep] at r; subst r; exact .bl b
  | .int b, v, x, r, e => by simp only [toPy] at e; cases e; simp only [Rep] at r; subst r; exact .int b
  | .str b, v, x, r, e => by simp only [toPy] at e; cases e; simp only [Rep] at r; subst r; exact .str b
  | .tup xs, v, x, r, e => by
    simp only [toPy, Option.map_eq_some_iff] at e
    obtain ⟨ds, e1, rfl⟩ := e
    simp only [Rep] at r
    obtain ⟨a, vs, rfl, h1, h2⟩ := r
    exact .tup h1.sq (rep_dpL xs vs ds h2 e1)
  | .lst xs, v, x, r, e => by
    simp only [toPy, Option.map_eq_some_iff] at e
    obtain ⟨ds, e1, rfl⟩ := e
    simp only [Rep] at r
    obtain ⟨a, vs, rfl, h1, h2⟩ := r
    exact .lst (xs := vs) (.of h1.1) (rep_dpL xs vs ds h2 e1)
  | .fix _, v, x, r, e => by simp [toPy] at e
  | .dic _ _, v, x, r, e => by simp [toPy] at e
  | .cell _, v, x, r, e => by simp [toPy] at e
  | .fn _, v, x, r, e => by simp [toPy] at e
theorem rep_dpL : ∀ (xs : List D) (vs : List V) (ds : List PyData), RepL K mg H p xs vs → toPyL xs = some ds → DpAll K H vs ds
  | [], vs, ds, r, e => by simp only [toPyL] at e; cases e; simp only [RepL] at r; subst r; exact .nil
  | x :: xs, vs, ds, r, e => by
    simp only [RepL] at r
    obtain ⟨v, us, rfl, h1, h2⟩ := r
    simp only [toPyL] at e
    split at e
    · rename_i d es e1 e2
      cases e
      exact .cons (rep_dp x v d h1 e1) (rep_dpL xs us es h2 e2)
    · cases e
end
/-- .. of what stands now -/
theorem der_dp {d : D} {v : V} {x : PyData} (c : CH K mg H p h) (r : Rep K mg H p d v) (e : toPy (der h d) = some x) : Dp K H v x := by
  cases q : der h d with
  | lst xs =>
    rw [q] at e
    obtain ⟨a, vs, rfl, h1, h2⟩ := rep_lst c r q
    simp only [toPy, Option.map_eq_some_iff] at e
    obtain ⟨ds, e1, rfl⟩ := e
    exact .lst h1 (rep_dpL xs vs ds h2 e1)
  | cell l =>
    rw [q] at e
    simp [toPy] at e
  | _ =>
    have : der h d = d := by
      cases d with
      | cell l =>
        simp only [der] at q
        split at q <;> cases q
      | fix l => simp only [der] at q; cases q
      | _ => rfl
    rw [this] at e
    exact rep_dp d v x r e
mutual
theorem eqD_py : ∀ (a b : D) (x y : PyData), toPy a = some x → toPy b = some y → PyData.eqv x y = eqD a b
  | .non, b, x, y, e, f => by
    simp only [toPy] at e; cases e
    cases b <;> simp only [toPy, Option.map_eq_some_iff] at f <;> first | (obtain ⟨_, _, rfl⟩ := f; simp [PyData.eqv, eqD]; done) | (cases f; simp [PyData.eqv, eqD]; done) | cases f
  | .bl _, b, x, y, e, f => by
    simp only [toPy] at e; cases e
    cases b <;> simp only [toPy, Option.map_eq_some_iff] at f <;> first | (obtain ⟨_, _, rfl⟩ := f; simp [PyData.eqv, eqD]; done) | (cases f; simp [PyData.eqv, eqD, b2n]; done) | cases f
  | .int _, b, x, y, e, f => by
    simp only [toPy] at e; cases e
    cases b <;> simp only [toPy, Option.map_eq_some_iff] at f <;> first | (obtain ⟨_, _, rfl⟩ := f; simp [PyData.eqv, eqD]; done) | (cases f; simp [PyData.eqv, eqD, b2n]; done) | cases f
  | .str _, b, x, y, e, f => by
    simp only [toPy] at e; cases e
    cases b <;> simp only [toPy, Option.map_eq_some_iff] at f <;> first | (obtain ⟨_, _, rfl⟩ := f; simp [PyData.eqv, eqD]; done) | (cases f; simp [PyData.eqv, eqD]; done) | cases f
  | .tup xs, b, x, y, e, f => by
    simp only [toPy, Option.map_eq_some_iff] at e
    obtain ⟨ds, e1, rfl⟩ := e
    cases b with
    | tup ys =>
      simp only [toPy, Option.map_eq_some_iff] at f
      obtain ⟨es, f1, rfl⟩ := f
      simp only [PyData.eqv, eqD]
      exact eqDs_py xs ys ds es e1 f1
    | _ => simp only [toPy, Option.map_eq_some_iff] at f <;> first | (obtain ⟨_, _, rfl⟩ := f; simp [PyData.eqv, eqD]; done) | (cases f; simp [PyData.eqv, eqD]; done) | cases f
  | .lst xs, b, x, y, e, f => by
    simp only [toPy, Option.map_eq_some_iff] at e
    obtain ⟨ds, e1, rfl⟩ := e
    cases b with
    | lst ys =>
      simp only [toPy, Option.map_eq_some_iff] at f
      obtain ⟨es, f1, rfl⟩ := f
      simp only [PyData.eqv, eqD]
      exact eqDs_py xs ys ds es e1 f1
    | _ => simp only [toPy, Option.map_eq_some_iff] at f <;> first | (obtain ⟨_, _, rfl⟩ := f; simp [PyData.eqv, eqD]; done) | (cases f; simp [PyData.eqv, eqD]; done) | cases f
  | .fix _, b, x, y, e, f => by simp [toPy] at e
  | .dic _ _, b, x, y, e, f => by simp [toPy] at e
  | .cell _, b, x, y, e, f => by simp [toPy] at e
  | .fn _, b, x, y, e, f => by simp [toPy] at e
theorem eqDs_py : ∀ (a b : List D) (x y : List PyData), toPyL a = some x → toPyL b = some y → PyData.eqvAll x y = eqDs a b
  | [], b, x, y, e, f => by
    simp only [toPyL] at e; cases e
    cases b with
    | nil => simp only [toPyL] at f; cases f; simp [PyData.eqvAll, eqDs]
    | cons b bs =>
      simp only [toPyL] at f
      split at f
      · cases f; simp [PyData.eqvAll, eqDs]
      · cases f
  | a :: as, b, x, y, e, f => by
    simp only [toPyL] at e
    split at e
    · rename_i d ds e1 e2
      cases e
      cases b with
      | nil => simp only [toPyL] at f; cases f; simp [PyData.eqvAll, eqDs]
      | cons b bs =>
        simp only [toPyL] at f
        split at f
        · rename_i d' ds' f1 f2
          cases f
          simp only [PyData.eqvAll, eqDs]
          rw [eqD_py a b d d' e1 f1, eqDs_py as bs ds ds' e2 f2]
        · cases f
    · cases e
end
theorem shaped_of {d : D} {n : Nat} (hn : n ≤ 64) (q : plain n d = true) : ∃ x, toPy d = some x ∧ SeqAt.shaped x = true := by
  obtain ⟨x, h1, h2, h3⟩ := toPy_plain d n q
  exact ⟨x, h1, by simp only [SeqAt.shaped, h2, Bool.true_and, decide_eq_true_eq]; omega⟩
end
end Fz

set_option Elab.async false
set_option linter.all false
set_option maxRecDepth 100000
set_option maxHeartbeats 1000000
/-! Fz, part D: operators, comparisons, places, slices. -/
namespace Fz
open PySem PySem.Spec PyProof.Rows L2
abbrev End (K : PySem.W.Frag) (mg : Str → Option Value) (W : XK) (p : Mp) (H : Hp) (r : Res DF) (Q : VK) : Prop := Aft K mg W p H r fun x _ p' H' => ∀ v, RepF K mg H' p' x.1 x.2 v → Q v H'
section
variable {K : PySem.W.Frag} {mg : Str → Option Value} {W : XK} {H : Hp} {p : Mp} {h : LH} {env : Env} {σ : L2.St} {Q : VK}
theorem end_val {d : D} {v : V} (q : End K mg W p H (val d h) Q) (c : CH K mg H p h) (r : Rep K mg H p d v) : Q v H := q p H c (Ext.refl p H) v r
theorem end_newT {ds : List D} {vs : List V} (q : End K mg W p H (newT ds h) Q) (c : CH K mg H p h) (r : RepL K mg H p ds vs) : vs.length ≤ sizeLine ∧ ∀ a o, H a = none → o.dict = none → Q (.ref a) (upd H a (.frz o (.tup vs))) := by
  unfold newT at q
  split at q
  · rename_i hz
    have hz : ds.length ≤ sizeLine := of_decide_eq_true hz
    refine ⟨by rw [← r.len]; exact hz, fun a o n hd => ?_⟩
    obtain ⟨c', e, _, _⟩ := c.new (o := .frz o (.tup vs)) n
    exact q p _ c' e (.ref a) (show Rep K mg _ p (.tup ds) (.ref a) by simp only [Rep]; exact ⟨a, vs, rfl, ⟨o, upd_same, hd⟩, RepL.ext e ds vs r⟩)
  · exact q.elim
theorem end_newL {ds : List D} {vs : List V} (q : End K mg W p H (newL ds h) Q) (c : CH K mg H p h) (r : RepL K mg H p ds vs) : vs.length ≤ sizeLine ∧ ∀ a, H a = none → Q (.ref a) (upd H a (.lst vs)) := by
  unfold newL at q
  split at q
  · rename_i hz
    have hz : ds.length ≤ sizeLine := of_decide_eq_true hz
    refine ⟨by rw [← r.len]; exact hz, fun a n => ?_⟩
    obtain ⟨c', e, nF, nm⟩ := c.new (o := .lst vs) n
    exact q p _ c' e (.ref a) ⟨ds, a, vs, rfl, rfl, upd_same, nF, nm, RepL.ext e ds vs r⟩
  · exact q.elim
theorem repL_rep {ds : List D} {vs : List V} (r : RepL K mg H p ds vs) : ∀ n : Nat, RepL K mg H p (List.replicate n ds).flatten (List.replicate n vs).flatten
  | 0 => by simp [RepL]
  | n + 1 => by
    simp only [List.replicate_succ, List.flatten_cons]
    exact r.app (repL_rep r n)
theorem repL_cut {ds : List D} {vs : List V} (r : RepL K mg H p ds vs) (lo hi : Option Int) : RepL K mg H p (cutD ds lo hi) (cutV vs lo hi) := by
  unfold cutD cutV
  rw [r.len]
  exact (r.drop _).take _
theorem repL_at {ds : List D} {vs : List V} (r : RepL K mg H p ds vs) {i : Int} {d : D} (e : atI ds i = some d) : ∃ v, atI vs i = some v ∧ Rep K mg H p d v := by
  unfold atI at e ⊢
  rw [r.len] at e
  cases q : ixN vs.length i with
  | none => rw [q] at e; cases e
  | some j =>
    rw [q] at e
    exact r.get (i := j) e
end

section
variable {X : Cx} {W : XK}
/-- by two values -/
def rB (K : PySem.W.Frag) (mg : Str → Option Value) (W : XK) (f : D → D → M DF) : R2 := fun x y H Q => ∃ p h d e, CH K mg H p h ∧ Rep K mg H p d x ∧ Rep K mg H p e y ∧ End K mg W p H (f d e h) Q
/-- a new tuple, its object known -/
theorem laidT {pins : List (Addr × Obj)} {σ : L2.St} {H : Hp} {s : Shared} {its : List Value} {vs : List V} {t' : Nat} (I : Inv X pins σ H s) (r : Vals vs its) (hz : vs.length ≤ sizeLine) :
    Inv X pins σ (upd H s.heap.objs.size (.frz { cls := .type "tuple", data := .seq its.toArray } (.tup vs))) { s with heap := s.heap.push { cls := .type "tuple", data := .seq its.toArray }, toks := t' } :=
  I.laid (t' := t') (fun b o e => Heap.get?_push_of_some _ e) (Nat.le_refl _) (show ObjOk X.prog X.w _ _ _ (.frz _ (.tup vs)) from ⟨Heap.get?_push_size _ rfl, hz, its, r, IsTup.new _ _⟩)
theorem op_catF : OpR X (binaryOp .Add) (fun x y H Q => ∃ a b xs ys, x = .ref a ∧ y = .ref b ∧ SqT X.K H a xs ∧ SqT X.K H b ys ∧ xs.length + ys.length ≤ sizeLine ∧
    (xs = [] → Q (.ref b) H) ∧ (xs ≠ [] → ys = [] → Q (.ref a) H) ∧ (xs ≠ [] → ys ≠ [] → ∀ p o, H p = none → o.dict = none → Q (.ref p) (upd H p (.frz o (.tup (xs ++ ys)))))) := by
  intro pins s σ H x y v u Q I rx ry h
  obtain ⟨a, b, xs, ys, rfl, rfl, ha, hb, hz, q0, q1, q2⟩ := h
  cases rx
  cases ry
  obtain ⟨its, r1, p1, _⟩ := I.tuple ha
  obtain ⟨its2, r2, p2, _⟩ := I.tuple hb
  by_cases hx : xs = []
  · subst hx
    cases r1
    exact cat_tup0 p1 p2 ⟨.ref b, H, I, rfl, q0 rfl⟩
  · refine HT.cat_tup p1 p2 (fun z => hx (r1.nil_iff.mp z)) (fun z => ⟨.ref a, H, I, rfl, q1 hx (r2.nil_iff.mp z)⟩) (fun z => ?_) (by rw [← r1.length, ← r2.length]; exact hz)
    exact ⟨.ref s.heap.objs.size, _, laidT (t' := s.toks) I (r1.append r2) (by rw [List.length_append]; exact hz), rfl, q2 hx (fun w => z (r2.nil_iff.mpr w)) _ _ (I.hok.fresh (Nat.le_refl _)) rfl⟩
theorem sl_tupF : SlR X (fun x lo hi H Q => ∃ a xs, x = .ref a ∧ SqT X.K H a xs ∧
    (HT.sIx xs.length 0 lo = 0 ∧ HT.sIx xs.length xs.length hi = xs.length → Q (.ref a) H) ∧ (¬ (HT.sIx xs.length 0 lo = 0 ∧ HT.sIx xs.length xs.length hi = xs.length) → ∀ p o, H p = none → o.dict = none → Q (.ref p) (upd H p (.frz o (.tup (cutV xs lo hi)))))) := by
  intro pins s σ H x v vl vu lo hi sl Q I rx hs pl pu h
  obtain ⟨a, xs, rfl, hx, q1, q2⟩ := h
  cases rx
  obtain ⟨its, r, ht, hz⟩ := I.tuple hx
  have hlen : its.toArray.size = xs.length := by rw [List.size_toArray]; exact r.length.symm
  refine ⟨"tuple", _, PyProof.Rows.slot_tuple_getitem.lookup, ht.typeIs, ?_⟩
  by_cases hw : HT.sIx xs.length 0 lo = 0 ∧ HT.sIx xs.length xs.length hi = xs.length
  · exact getItem_tuple_whole ht hs pl pu (by rw [hlen]; exact hw) ⟨.ref a, H, I, rfl, q1 hw⟩
  · refine HT.getItem_tuple_cut ht hs pl pu (by rw [hlen]; exact hw) ?_ (by rw [hlen]; exact hz)
    rw [hlen]
    exact ⟨.ref s.heap.objs.size, _, laidT (t' := s.toks) I ((r.drop (HT.sIx xs.length 0 lo)).take (HT.sIx xs.length xs.length hi - HT.sIx xs.length 0 lo)) (Nat.le_trans (cutV_length xs lo hi) hz), rfl, q2 hw _ _ (I.hok.fresh (Nat.le_refl _)) rfl⟩
theorem op_catL : OpR X (binaryOp .Add) (fun x y H Q => ∃ l b xs zs, x = .ref l ∧ y = .ref b ∧ SqL X.K H l xs ∧ SqL X.K H b zs ∧ (xs ++ zs).length ≤ sizeLine ∧ ∀ p, H p = none → Q (.ref p) (upd H p (.lst (xs ++ zs)))) := by
  intro pins s σ H x y v u Q I rx ry h
  obtain ⟨l, b, xs, zs, rfl, rfl, hH, hB, hz, q⟩ := h
  cases rx
  cases ry
  obtain ⟨its, r, p1, z1⟩ := I.list hH
  obtain ⟨its2, r2, p2, z2⟩ := I.list hB
  obtain ⟨⟨cls, dd, data, sl⟩, ho, hc, n, hd⟩ := p1.isList
  obtain ⟨⟨cls2, dd2, data2, sl2⟩, ho2, hc2, n2, hd2⟩ := p2.isList
  simp only at hc hd hc2 hd2
  subst hc hd hc2 hd2
  have e : its.toArray ++ its2.toArray = (its ++ its2).toArray := by simp
  refine concat_meets ⟨_, ho, rfl⟩ ⟨_, ho2, rfl⟩ noFill_list_add seq_list_add PySem.F.slot_list_add PySem.F.entry_list_add (PySem.F.args_list_add_2 _ _)
    (list_addW l b its.toArray its2.toArray n n2 dd dd2 sl sl2 (by rw [List.length_append, r.length, r2.length] at hz; simpa using hz)) ⟨ho, ho2, ?_⟩
  rw [e]
  exact ⟨.ref _, _, I.lnew (t' := s.toks) (r.append r2) hz, rfl, q _ I.fresh⟩
/-- * of two factors of which one is short, or of together less than 130 million bits -/
def CMulB (i j : Int) : Prop := i.natAbs.log2 < 60 ∨ j.natAbs.log2 < 60 ∨ i.natAbs.log2 + j.natAbs.log2 < 130000000
theorem CMulB.ok {i j : Int} (h : CMulB i j) : IntMulOk i j := by
  have b : ∀ x : Int, Builtin.Int.intBits x ≤ x.natAbs.log2 + 1 := fun x => by
    unfold Builtin.Int.intBits; split <;> omega
  have h1 := b i
  have h2 := b j
  rcases h with h3 | h3 | h3
  · exact .of_left (by omega)
  · exact .of_right (by omega)
  · have e : bitsLine = 134217728 := by decide
    intro z
    rw [Bool.and_eq_true] at z
    have z3 := of_decide_eq_true z.2
    rw [e] at z3
    omega
theorem op_mulB {X : Cx} : OpR X (binaryOp .Mult) (rI CMulB fun i j => .int (i * j)) := opI fun _ _ _ _ _ _ _ hc q => mul_int q hc.ok
theorem op_bin {o : BOp} {op : Operator} (ho : (o, op) ∈ [(BOp.add, Operator.Add), (.sub, .Sub), (.mul, .Mult), (.fdiv, .FloorDiv), (.mod, .Mod), (.pow, .Pow)]) : OpR X (binaryOp op) (rB X.K X.mg W (binD o)) := by
  intro pins s σ H x y v u Q I rx ry hq
  obtain ⟨p, h, d, e, c, r1, r2, q⟩ := hq
  unfold binD at q
  have op_of : ∀ o' op', (o', op') ∈ [(BOp.add, Operator.Add), (.sub, .Sub), (.mul, .Mult), (.fdiv, .FloorDiv), (.mod, .Mod), (.pow, .Pow)] → o = o' → op = op' := by
    intro o' op' hm eo
    subst eo
    simp only [List.mem_cons, Prod.mk.injEq, List.mem_nil_iff, or_false] at ho hm
    cases o <;> simp_all
  split at q
  · rename_i i j h1 h2
    obtain rfl := op_of .add .Add (by simp) rfl
    obtain rfl := rep_int r1 h1
    obtain rfl := rep_int r2 h2
    exact op_add pins s σ H _ _ v u Q I rx ry ⟨i, j, rfl, rfl, end_val q c (by simp [Rep])⟩
  · rename_i i j h1 h2
    obtain rfl := op_of .add .Add (by simp) rfl
    obtain rfl := rep_str r1 h1
    obtain rfl := rep_str r2 h2
    split at q
    · rename_i hz
      exact op_add_str pins s σ H _ _ v u Q I rx ry ⟨i, j, rfl, rfl, of_decide_eq_true hz, end_val q c (by simp [Rep])⟩
    · exact q.elim
  · rename_i xs ys h1 h2
    obtain rfl := op_of .add .Add (by simp) rfl
    obtain ⟨a, vs, rfl, s1, l1⟩ := rep_tup r1 h1
    obtain ⟨b, us, rfl, s2, l2⟩ := rep_tup r2 h2
    obtain ⟨z, qn⟩ := end_newT q c (l1.app l2)
    have hzz : vs.length + us.length ≤ sizeLine := by simpa using z
    -- where one of them is empty the other one is handed back
    have same : ∀ (ws : List V) (a : Addr), TupAt H a ws → ws = vs ++ us → Q (.ref a) H := by
      intro ws a hs e
      subst e
      unfold newT at q
      split at q
      · exact q p H c (Ext.refl p H) (.ref a) (show Rep X.K X.mg H p (.tup (xs ++ ys)) (.ref a) by simp only [Rep]; exact ⟨a, _, rfl, hs, l1.app l2⟩)
      · exact q.elim
    exact op_catF pins s σ H _ _ v u Q I rx ry ⟨a, b, vs, us, rfl, rfl, s1.sq, s2.sq, hzz, fun e => same us b s2 (by rw [e]; rfl), fun _ e => same vs a s1 (by rw [e]; simp), fun _ _ => qn⟩
  · rename_i xs ys h1 h2
    obtain rfl := op_of .add .Add (by simp) rfl
    obtain ⟨a, vs, rfl, s1, l1⟩ := rep_lst c r1 h1
    obtain ⟨b, us, rfl, s2, l2⟩ := rep_lst c r2 h2
    obtain ⟨z, qn⟩ := end_newL q c (l1.app l2)
    exact op_catL pins s σ H _ _ v u Q I rx ry ⟨a, b, vs, us, rfl, rfl, s1, s2, z, qn⟩
  · rename_i i j h1 h2
    obtain rfl := op_of .sub .Sub (by simp) rfl
    obtain rfl := rep_int r1 h1
    obtain rfl := rep_int r2 h2
    exact op_sub pins s σ H _ _ v u Q I rx ry ⟨i, j, rfl, rfl, end_val q c (by simp [Rep])⟩
  · rename_i i j h1 h2
    obtain rfl := op_of .mul .Mult (by simp) rfl
    obtain rfl := rep_int r1 h1
    obtain rfl := rep_int r2 h2
    split at q
    · rename_i hz
      exact op_mulB pins s σ H _ _ v u Q I rx ry ⟨i, j, rfl, rfl, (show i.natAbs.log2 < 60 ∨ j.natAbs.log2 < 60 ∨ i.natAbs.log2 + j.natAbs.log2 < 130000000 from of_decide_eq_true hz), end_val q c (by simp [Rep])⟩
    · exact q.elim
  · rename_i xs j h1 h2
    obtain rfl := op_of .mul .Mult (by simp) rfl
    obtain rfl := rep_int r2 h2
    split at q
    · rename_i hz
      simp only [Bool.and_eq_true, decide_eq_true_eq] at hz
      obtain ⟨⟨z0, z1, z2⟩, z3⟩ := hz
      obtain ⟨a, vs, rfl, s1, l1⟩ := rep_lstM c r1 h1 z3
      obtain ⟨z, qn⟩ := end_newL q c (repL_rep l1 j.toNat)
      have hl := l1.len
      have hm : vs.length * j.toNat ≤ 1000 * 1000 := Nat.mul_le_mul (by omega) (by omega)
      exact op_rep pins s σ H _ _ v u Q I rx ry ⟨a, j, vs, rfl, rfl, s1, by omega, by omega, by rw [sizeLine_eq]; omega, qn⟩
    · exact q.elim
  · rename_i i j h1 h2
    obtain rfl := op_of .fdiv .FloorDiv (by simp) rfl
    obtain rfl := rep_int r1 h1
    obtain rfl := rep_int r2 h2
    split at q
    · rename_i hz
      exact op_fdivW pins s σ H _ _ v u Q I rx ry ⟨i, j, rfl, rfl, (show 0 < j ∧ j.natAbs.log2 < 9000 from of_decide_eq_true hz), end_val q c (by simp [Rep])⟩
    · exact q.elim
  · rename_i i j h1 h2
    obtain rfl := op_of .mod .Mod (by simp) rfl
    obtain rfl := rep_int r1 h1
    obtain rfl := rep_int r2 h2
    split at q
    · rename_i hz
      exact op_mod pins s σ H _ _ v u Q I rx ry ⟨i, j, rfl, rfl, of_decide_eq_true hz, end_val q c (by simp [Rep])⟩
    · exact q.elim
  · rename_i i j h1 h2
    obtain rfl := op_of .pow .Pow (by simp) rfl
    obtain rfl := rep_int r1 h1
    obtain rfl := rep_int r2 h2
    split at q
    · rename_i hz
      exact op_pow pins s σ H _ _ v u Q I rx ry ⟨i, j, rfl, rfl, (show 0 ≤ j ∧ j ≤ 1000000 ∧ i.natAbs < 2 ^ 64 from of_decide_eq_true hz), end_val q c (by simp [Rep])⟩
    · exact q.elim
  · exact q.elim

/-! ### comparisons -/
def opC : COp → CmpOp
  | .eq => .Eq | .ne => .NotEq | .lt => .Lt | .le => .LtE | .gt => .Gt | .ge => .GtE | .isin => .In | .notin => .NotIn | .same => .Is | .unlike => .IsNot
theorem eqD_any {x : D} {y : PyData} (e : toPy x = some y) : ∀ (zs : List D) (ds : List PyData), toPyL zs = some ds → (ds.any fun z => PyData.eqv z y) = inD x zs
  | [], ds, h => by simp only [toPyL] at h; cases h; simp [inD]
  | z :: zs, ds, h => by
    simp only [toPyL] at h
    split at h
    · rename_i d es e1 e2
      cases h
      simp only [List.any_cons, inD]
      rw [eqD_py z x d y e1 e, eqD_any e zs es e2]
      rfl
    · cases h
theorem shapedL_of {xs : List D} {n : Nat} (hn : n < 64) (q : plainL n xs = true) : ∃ ds, toPyL xs = some ds ∧ SeqAt.shaped (.list ds) = true ∧ SeqAt.shaped (.tuple ds) = true := by
  obtain ⟨ds, h1, h2, h3⟩ := toPyL_plain xs n q
  have h4 : PyData.depthAll ds + 1 ≤ 64 := by omega
  refine ⟨ds, h1, ?_, ?_⟩ <;> (simp only [SeqAt.shaped, PyData.canLay0, PyData.depth, h2, Bool.true_and, decide_eq_true_eq]; exact decide_eq_true h4)
theorem op_inT (hu : X.A.units + 65 < cLine) : OpR X (compareOp .In) (fun x y H Q => ∃ d ds, Dp X.K H x d ∧ Dp X.K H y (.tuple ds) ∧ SeqAt.shaped d = true ∧ SeqAt.shaped (.tuple ds) = true ∧ Q (.bl (ds.any fun z => PyData.eqv z d)) H) := by
  intro pins s σ H x y v u Q I rx ry h
  obtain ⟨d, ds, hd, he, sd, se, q⟩ := h
  obtain ⟨as, r1⟩ := Dp.reads I d x v hd rx
  obtain ⟨bs, r2⟩ := Dp.reads I _ y u he ry
  exact SeqAt.in_tuple_reads r2 r1 (by have := SeqAt.canLay_of_shaped se; exact this) (SeqAt.canLay_of_shaped sd) (room_in_shaped sd hu) ⟨.bl _, H, I, rfl, q⟩
theorem op_notInT (hu : X.A.units + 65 < cLine) : OpR X (compareOp .NotIn) (fun x y H Q => ∃ d ds, Dp X.K H x d ∧ Dp X.K H y (.tuple ds) ∧ SeqAt.shaped d = true ∧ SeqAt.shaped (.tuple ds) = true ∧ Q (.bl (!ds.any fun z => PyData.eqv z d)) H) := by
  intro pins s σ H x y v u Q I rx ry h
  obtain ⟨d, ds, hd, he, sd, se, q⟩ := h
  obtain ⟨as, r1⟩ := Dp.reads I d x v hd rx
  obtain ⟨bs, r2⟩ := Dp.reads I _ y u he ry
  exact SeqAt.notIn_tuple_reads r2 r1 (by have := SeqAt.canLay_of_shaped se; exact this) (SeqAt.canLay_of_shaped sd) (room_in_shaped sd hu) ⟨.bl _, H, I, rfl, q⟩
theorem rep_isnon {d : D} {v : V} {p : Mp} {H : Hp} {K : PySem.W.Frag} {mg : Str → Option Value} (r : Rep K mg H p d v) : decide (v = .non) = decide (d = .non) := by
  cases d with
  | non => simp only [Rep] at r; subst r; rfl
  | bl _ => simp only [Rep] at r; subst r; simp
  | int _ => simp only [Rep] at r; subst r; simp
  | str _ => simp only [Rep] at r; subst r; simp
  | tup _ => simp only [Rep] at r; obtain ⟨_, _, rfl, _⟩ := r; simp
  | lst _ => simp only [Rep] at r; obtain ⟨_, _, rfl, _⟩ := r; simp
  | fix _ => simp only [Rep] at r; obtain ⟨_, _, rfl, _⟩ := r; simp
  | dic _ _ => simp only [Rep] at r
  | cell _ => simp only [Rep] at r; obtain ⟨_, rfl, _⟩ := r; simp
  | fn _ => simp only [Rep] at r; obtain ⟨_, rfl, _⟩ := r; simp
theorem der_non {h : LH} {d : D} : decide (der h d = .non) = decide (d = .non) := by
  cases d with
  | cell l =>
    have : der h (.cell l) ≠ .non := by
      simp only [der]
      intro z
      split at z <;> cases z
    simp [this]
  | fix l => simp [der]
  | _ => rfl
theorem op_cmp {o : COp} (hr : X.A.units + 65 < cLine) : OpR X (compareOp (opC o)) (rB X.K X.mg W (cmpD o)) := by
  intro pins s σ H x y v u Q I rx ry hq
  obtain ⟨p, h, d, e, c, r1, r2, q⟩ := hq
  unfold cmpD at q
  split at q
  · split at q
    · rename_i hz
      rw [Bool.and_eq_true] at hz
      obtain ⟨x1, e1, s1⟩ := shaped_of (by decide) hz.1
      obtain ⟨x2, e2, s2⟩ := shaped_of (by decide) hz.2
      exact op_eqD (by omega) pins s σ H _ _ v u Q I rx ry ⟨x1, x2, der_dp c r1 e1, der_dp c r2 e2, s1, s2, by rw [eqD_py _ _ _ _ e1 e2]; exact end_val q c (by simp [Rep])⟩
    · exact q.elim
  · split at q
    · rename_i hz
      rw [Bool.and_eq_true] at hz
      obtain ⟨x1, e1, s1⟩ := shaped_of (by decide) hz.1
      obtain ⟨x2, e2, s2⟩ := shaped_of (by decide) hz.2
      exact op_neD (by omega) pins s σ H _ _ v u Q I rx ry ⟨x1, x2, der_dp c r1 e1, der_dp c r2 e2, s1, s2, by rw [eqD_py _ _ _ _ e1 e2]; exact end_val q c (by simp [Rep])⟩
    · exact q.elim
  · rename_i i j h1 h2
    obtain rfl := rep_int r1 h1
    obtain rfl := rep_int r2 h2
    exact op_lt pins s σ H _ _ v u Q I rx ry ⟨i, j, rfl, rfl, end_val q c (by simp [Rep])⟩
  · rename_i i j h1 h2
    obtain rfl := rep_int r1 h1
    obtain rfl := rep_int r2 h2
    exact op_le pins s σ H _ _ v u Q I rx ry ⟨i, j, rfl, rfl, end_val q c (by simp [Rep])⟩
  · rename_i i j h1 h2
    obtain rfl := rep_int r1 h1
    obtain rfl := rep_int r2 h2
    exact op_gt pins s σ H _ _ v u Q I rx ry ⟨i, j, rfl, rfl, end_val q c (by simp [Rep])⟩
  · rename_i i j h1 h2
    obtain rfl := rep_int r1 h1
    obtain rfl := rep_int r2 h2
    exact op_ge pins s σ H _ _ v u Q I rx ry ⟨i, j, rfl, rfl, end_val q c (by simp [Rep])⟩
  · rename_i ys h2
    split at q
    · rename_i hz
      rw [Bool.and_eq_true] at hz
      obtain ⟨x1, e1, s1⟩ := shaped_of (by decide) hz.1
      obtain ⟨ds, e2, _, s2⟩ := shapedL_of (by decide) hz.2
      have t2 : toPy (der h e) = some (.tuple ds) := by rw [h2]; simp [toPy, e2]
      exact op_inT hr pins s σ H _ _ v u Q I rx ry ⟨x1, ds, der_dp c r1 e1, der_dp c r2 t2, s1, s2, by rw [eqD_any e1 ys ds e2]; exact end_val q c (by simp [Rep])⟩
    · exact q.elim
  · rename_i ys h2
    split at q
    · rename_i hz
      rw [Bool.and_eq_true] at hz
      obtain ⟨x1, e1, s1⟩ := shaped_of (by decide) hz.1
      obtain ⟨ds, e2, s2, _⟩ := shapedL_of (by decide) hz.2
      have t2 : toPy (der h e) = some (.list ds) := by rw [h2]; simp [toPy, e2]
      exact op_inD hr pins s σ H _ _ v u Q I rx ry ⟨x1, ds, der_dp c r1 e1, der_dp c r2 t2, s1, s2, by rw [eqD_any e1 ys ds e2]; exact end_val q c (by simp [Rep])⟩
    · exact q.elim
  · rename_i ys h2
    split at q
    · rename_i hz
      rw [Bool.and_eq_true] at hz
      obtain ⟨x1, e1, s1⟩ := shaped_of (by decide) hz.1
      obtain ⟨ds, e2, _, s2⟩ := shapedL_of (by decide) hz.2
      have t2 : toPy (der h e) = some (.tuple ds) := by rw [h2]; simp [toPy, e2]
      exact op_notInT hr pins s σ H _ _ v u Q I rx ry ⟨x1, ds, der_dp c r1 e1, der_dp c r2 t2, s1, s2, by rw [eqD_any e1 ys ds e2]; exact end_val q c (by simp [Rep])⟩
    · exact q.elim
  · rename_i ys h2
    split at q
    · rename_i hz
      rw [Bool.and_eq_true] at hz
      obtain ⟨x1, e1, s1⟩ := shaped_of (by decide) hz.1
      obtain ⟨ds, e2, s2, _⟩ := shapedL_of (by decide) hz.2
      have t2 : toPy (der h e) = some (.list ds) := by rw [h2]; simp [toPy, e2]
      exact op_notInD hr pins s σ H _ _ v u Q I rx ry ⟨x1, ds, der_dp c r1 e1, der_dp c r2 t2, s1, s2, by rw [eqD_any e1 ys ds e2]; exact end_val q c (by simp [Rep])⟩
    · exact q.elim
  · rename_i h2
    obtain rfl := rep_non r2 h2
    rw [der_non, ← rep_isnon r1] at q
    exact op_isN pins s σ H _ _ v u Q I rx ry ⟨rfl, end_val q c (by simp [Rep])⟩
  · rename_i h2
    obtain rfl := rep_non r2 h2
    rw [der_non, ← rep_isnon r1] at q
    exact op_notN pins s σ H _ _ v u Q I rx ry ⟨rfl, end_val q c (by simp [Rep])⟩
  · rename_i i j h1 h2
    obtain rfl := rep_bl r1 h1
    obtain rfl := rep_bl r2 h2
    exact op_isBl pins s σ H _ _ v u Q I rx ry ⟨i, j, rfl, rfl, end_val q c (by simp [Rep])⟩
  · rename_i i j h1 h2
    obtain rfl := rep_bl r1 h1
    obtain rfl := rep_bl r2 h2
    exact op_notBl pins s σ H _ _ v u Q I rx ry ⟨i, j, rfl, rfl, end_val q c (by simp [Rep])⟩
  · exact q.elim

/-! ### places and slices -/
theorem ix_ok : IxR X (rB X.K X.mg W ixD) := by
  intro va sl pins s σ H x y v u Q I rx ry hq hs
  obtain ⟨p, h, d, e, c, r1, r2, q⟩ := hq
  unfold ixD at q
  split at q
  · rename_i xs i h1
    split at q
    · rename_i d' hd
      obtain ⟨a, vs, rfl, s1, l1⟩ := rep_tup r1 h1
      simp only [Rep] at r2
      subst r2
      obtain ⟨w, g1, g2⟩ := repL_at l1 hd
      exact ix_tup va sl pins s σ H _ _ v u Q I rx ry ⟨a, vs, i, w, rfl, rfl, s1.sq, g1, end_val q c g2⟩ hs
    · exact q.elim
  · rename_i xs i h1
    split at q
    · rename_i d' hd
      obtain ⟨a, vs, rfl, s1, l1⟩ := rep_lst c r1 h1
      simp only [Rep] at r2
      subst r2
      obtain ⟨w, g1, g2⟩ := repL_at l1 hd
      exact ix_list va sl pins s σ H _ _ v u Q I rx ry ⟨a, vs, i, w, rfl, rfl, s1, g1, end_val q c g2⟩ hs
    · exact q.elim
  · exact q.elim
/-- by a value and two bounds -/
def rSlc (K : PySem.W.Frag) (mg : Str → Option Value) (W : XK) : V → Option Int → Option Int → Hp → VK → Prop := fun x lo hi H Q => ∃ p h d, CH K mg H p h ∧ Rep K mg H p d x ∧ End K mg W p H (slcD d lo hi h) Q
theorem cutV_whole {xs : List V} {lo hi : Option Int} (h : HT.sIx xs.length 0 lo = 0 ∧ HT.sIx xs.length xs.length hi = xs.length) : cutV xs lo hi = xs := by
  unfold cutV
  rw [h.1, h.2]
  simp
theorem slc_ok : SlR X (rSlc X.K X.mg W) := by
  intro pins s σ H x v vl vu lo hi sl Q I rx hs pl pu hq
  obtain ⟨p, h, d, c, r1, q⟩ := hq
  unfold slcD at q
  split at q
  · rename_i xs h1
    obtain ⟨a, vs, rfl, s1, l1⟩ := rep_tup r1 h1
    refine sl_tupF pins s σ H _ v vl vu _ _ sl Q I rx hs pl pu ⟨a, vs, rfl, s1.sq, fun w => ?_, fun w b o n hd => ?_⟩
    · exact end_val q c (show Rep X.K X.mg H p (.tup _) (.ref a) by simp only [Rep]; exact ⟨a, vs, rfl, s1, by have := repL_cut l1 lo hi; rw [cutV_whole w] at this; exact this⟩)
    · obtain ⟨c', e', _, _⟩ := c.new (o := .frz o (.tup (cutV vs lo hi))) n
      exact q p _ c' e' (.ref b) (show Rep X.K X.mg _ p (.tup _) (.ref b) by simp only [Rep]; exact ⟨b, _, rfl, ⟨o, upd_same, hd⟩, RepL.ext e' _ _ (repL_cut l1 lo hi)⟩)
  · rename_i xs h1
    obtain ⟨a, vs, rfl, s1, l1⟩ := rep_lst c r1 h1
    obtain ⟨z, qn⟩ := end_newL q c (repL_cut l1 lo hi)
    exact sl_list pins s σ H _ v vl vu _ _ sl Q I rx hs pl pu ⟨a, vs, rfl, s1, qn⟩
  · exact q.elim
end
end Fz

set_option Elab.async false
set_option linter.all false
set_option maxRecDepth 100000
set_option maxHeartbeats 1000000
/-! Fz, part E: the calls of what is built in. -/
namespace Fz
open PySem PySem.Spec PyProof.Rows L2
section
variable {K : PySem.W.Frag} {mg : Str → Option Value} {W : XK} {H : Hp} {p : Mp} {h : LH}
theorem repL1 {d : D} {vs : List V} (r : RepL K mg H p [d] vs) : ∃ v, vs = [v] ∧ Rep K mg H p d v := by
  simp only [RepL] at r
  obtain ⟨v, t, rfl, h1, rfl⟩ := r
  exact ⟨v, rfl, h1⟩
theorem repL2 {d e : D} {vs : List V} (r : RepL K mg H p [d, e] vs) : ∃ v u, vs = [v, u] ∧ Rep K mg H p d v ∧ Rep K mg H p e u := by
  simp only [RepL] at r
  obtain ⟨v, t, rfl, h1, u, t', rfl, h2, rfl⟩ := r
  exact ⟨v, u, rfl, h1, h2⟩
theorem map1 {α β : Type} {f : α → β} {xs : List α} {b : β} (h : xs.map f = [b]) : ∃ a, xs = [a] ∧ f a = b := by
  cases xs with
  | nil => cases h
  | cons a r =>
    cases r with
    | nil => exact ⟨a, rfl, List.head_eq_of_cons_eq h⟩
    | cons _ _ => cases h
theorem map2 {α β : Type} {f : α → β} {xs : List α} {b c : β} (h : xs.map f = [b, c]) : ∃ a a', xs = [a, a'] ∧ f a = b ∧ f a' = c := by
  cases xs with
  | nil => cases h
  | cons a r =>
    cases r with
    | nil => cases h
    | cons a' r' =>
      cases r' with
      | nil =>
        simp at h
        exact ⟨a, a', rfl, h.1, h.2⟩
      | cons _ _ => simp at h
theorem repL_ints : ∀ {xs : List D} {is : List Int} {vs : List V}, RepL K mg H p xs vs → intsOf xs = some is → vs = is.map V.int
  | [], is, vs, r, e => by simp only [intsOf] at e; cases e; simpa [RepL] using r
  | .int i :: r, is, vs, q, e => by
    simp only [intsOf, Option.map_eq_some_iff] at e
    obtain ⟨js, e1, rfl⟩ := e
    simp only [RepL] at q
    obtain ⟨v, t, rfl, h1, h2⟩ := q
    simp only [Rep] at h1
    rw [h1, repL_ints h2 e1]; rfl
  | .non :: _, _, _, _, e => by simp [intsOf] at e
  | .bl _ :: _, _, _, _, e => by simp [intsOf] at e
  | .str _ :: _, _, _, _, e => by simp [intsOf] at e
  | .tup _ :: _, _, _, _, e => by simp [intsOf] at e
  | .lst _ :: _, _, _, _, e => by simp [intsOf] at e
  | .fix _ :: _, _, _, _, e => by simp [intsOf] at e
  | .dic _ _ :: _, _, _, _, e => by simp [intsOf] at e
  | .cell _ :: _, _, _, _, e => by simp [intsOf] at e
  | .fn _ :: _, _, _, _, e => by simp [intsOf] at e
theorem repL_bls : ∀ {xs : List D} {is : List Bool} {vs : List V}, RepL K mg H p xs vs → blsOf xs = some is → vs = is.map V.bl
  | [], is, vs, r, e => by simp only [blsOf] at e; cases e; simpa [RepL] using r
  | .bl i :: r, is, vs, q, e => by
    simp only [blsOf, Option.map_eq_some_iff] at e
    obtain ⟨js, e1, rfl⟩ := e
    simp only [RepL] at q
    obtain ⟨v, t, rfl, h1, h2⟩ := q
    simp only [Rep] at h1
    rw [h1, repL_bls h2 e1]; rfl
  | .non :: _, _, _, _, e => by simp [blsOf] at e
  | .int _ :: _, _, _, _, e => by simp [blsOf] at e
  | .str _ :: _, _, _, _, e => by simp [blsOf] at e
  | .tup _ :: _, _, _, _, e => by simp [blsOf] at e
  | .lst _ :: _, _, _, _, e => by simp [blsOf] at e
  | .fix _ :: _, _, _, _, e => by simp [blsOf] at e
  | .dic _ _ :: _, _, _, _, e => by simp [blsOf] at e
  | .cell _ :: _, _, _, _, e => by simp [blsOf] at e
  | .fn _ :: _, _, _, _, e => by simp [blsOf] at e

/-! ### plain data: what reads alike is alike -/
mutual
theorem toPy_inj : ∀ (a b : D) (x : PyData), toPy a = some x → toPy b = some x → a = b
  | .non, b, x, e, f => by
    simp only [toPy] at e; cases e
    cases b <;> simp [toPy] at f <;> rfl
  | .bl _, b, x, e, f => by
    simp only [toPy] at e; cases e
    cases b <;> simp [toPy] at f <;> rw [f]
  | .int _, b, x, e, f => by
    simp only [toPy] at e; cases e
    cases b <;> simp [toPy] at f <;> rw [f]
  | .str _, b, x, e, f => by
    simp only [toPy] at e; cases e
    cases b <;> simp [toPy] at f <;> rw [f]
  | .tup xs, b, x, e, f => by
    simp only [toPy, Option.map_eq_some_iff] at e
    obtain ⟨ds, e1, rfl⟩ := e
    cases b with
    | tup ys =>
      simp only [toPy, Option.map_eq_some_iff] at f
      obtain ⟨es, f1, f2⟩ := f
      cases f2
      rw [toPyL_inj xs ys ds e1 f1]
    | _ => simp [toPy] at f
  | .lst xs, b, x, e, f => by
    simp only [toPy, Option.map_eq_some_iff] at e
    obtain ⟨ds, e1, rfl⟩ := e
    cases b with
    | lst ys =>
      simp only [toPy, Option.map_eq_some_iff] at f
      obtain ⟨es, f1, f2⟩ := f
      cases f2
      rw [toPyL_inj xs ys ds e1 f1]
    | _ => simp [toPy] at f
  | .fix _, b, x, e, f => by simp [toPy] at e
  | .dic _ _, b, x, e, f => by simp [toPy] at e
  | .cell _, b, x, e, f => by simp [toPy] at e
  | .fn _, b, x, e, f => by simp [toPy] at e
theorem toPyL_inj : ∀ (a b : List D) (x : List PyData), toPyL a = some x → toPyL b = some x → a = b
  | [], b, x, e, f => by
    simp only [toPyL] at e; cases e
    cases b with
    | nil => rfl
    | cons y q =>
      simp only [toPyL] at f
      split at f <;> cases f
  | a :: r, b, x, e, f => by
    simp only [toPyL] at e
    split at e
    · rename_i d ds e1 e2
      cases e
      cases b with
      | nil => simp [toPyL] at f
      | cons y q =>
        simp only [toPyL] at f
        split at f
        · rename_i d' ds' f1 f2
          cases f
          rw [toPy_inj a y d e1 f1, toPyL_inj r q ds e2 f2]
        · cases f
    · cases e
end
theorem plain_py {n : Nat} {d : D} (q : plain n d = true) : toPy d = some (pyOf d) ∧ (pyOf d).canLay0 = true ∧ (pyOf d).depth ≤ n := by
  obtain ⟨x, h1, h2, h3⟩ := toPy_plain d n q
  have e : pyOf d = x := by simp [pyOf, h1]
  rw [e]
  exact ⟨h1, h2, h3⟩
theorem plainL_iff {n : Nat} : ∀ {xs : List D}, plainL n xs = true ↔ ∀ d ∈ xs, plain n d = true
  | [] => by simp [plainL]
  | x :: r => by simp [plainL, plainL_iff (xs := r)]
theorem plainL_py {n : Nat} : ∀ {xs : List D}, plainL n xs = true → toPyL xs = some (xs.map pyOf)
  | [], _ => rfl
  | x :: r, h => by
    simp only [plainL, Bool.and_eq_true] at h
    simp [toPyL, (plain_py h.1).1, plainL_py h.2]
theorem pyOf_minL {n : Nat} : ∀ (xs : List D) (x : D), pyOf (minL x xs) = PySem.W.minD (pyOf x) (xs.map pyOf)
  | [], x => rfl
  | y :: r, x => by
    have e : minL x (y :: r) = minL (if ltD y x then y else x) r := rfl
    rw [e, pyOf_minL (n := n) r]
    show _ = PySem.W.minD (if PySem.W.dataLt (pyOf y) (pyOf x) then pyOf y else pyOf x) (r.map pyOf)
    unfold ltD
    split <;> rfl
theorem pyOf_maxL {n : Nat} : ∀ (xs : List D) (x : D), pyOf (maxL x xs) = PySem.W.maxD (pyOf x) (xs.map pyOf)
  | [], x => rfl
  | y :: r, x => by
    have e : maxL x (y :: r) = maxL (if ltD x y then y else x) r := rfl
    rw [e, pyOf_maxL (n := n) r]
    show _ = PySem.W.maxD (if PySem.W.dataLt (pyOf x) (pyOf y) then pyOf y else pyOf x) (r.map pyOf)
    unfold ltD
    split <;> rfl
theorem minL_mem : ∀ (xs : List D) (x : D), minL x xs ∈ x :: xs
  | [], x => by simp [minL]
  | y :: r, x => by
    have e : minL x (y :: r) = minL (if ltD y x then y else x) r := rfl
    rw [e]
    have := minL_mem r (if ltD y x then y else x)
    simp only [List.mem_cons] at this ⊢
    rcases this with h | h
    · rw [h]; split <;> simp
    · simp [h]
theorem maxL_mem : ∀ (xs : List D) (x : D), maxL x xs ∈ x :: xs
  | [], x => by simp [maxL]
  | y :: r, x => by
    have e : maxL x (y :: r) = maxL (if ltD x y then y else x) r := rfl
    rw [e]
    have := maxL_mem r (if ltD x y then y else x)
    simp only [List.mem_cons] at this ⊢
    rcases this with h | h
    · rw [h]; split <;> simp
    · simp [h]
theorem repL_reads {X : Cx} {pins : List (Addr × Obj)} {σ : L2.St} {s : Shared} {H : Hp} {p : Mp} (I : Inv X pins σ H s) {xs : List D} {vs : List V} {us : List Value} (r : RepL X.K X.mg H p xs vs) (rv : Vals vs us) {n : Nat} (q : plainL n xs = true) :
    ∃ as, ReadsAll s.heap us (xs.map pyOf) as := Dp.readsAll I _ vs us (rep_dpL xs vs _ r (plainL_py q)) rv
theorem depthAll_le {n : Nat} : ∀ {xs : List D}, plainL n xs = true → PyData.depthAll (xs.map pyOf) ≤ n
  | [], _ => by simp [PyData.depthAll]
  | x :: r, h => by
    simp only [plainL, Bool.and_eq_true] at h
    simp only [List.map_cons, PyData.depthAll]
    have h1 := (plain_py h.1).2.2
    have h2 := depthAll_le h.2
    omega
theorem alikeAllB_iff {xs : List D} : alikeAllB xs = true ↔ ∀ d ∈ xs, ∀ e ∈ xs, PySem.W.alike (pyOf d) (pyOf e) = true := by
  simp [alikeAllB, List.all_eq_true]
theorem ordOk_al {xs : List D} (q : ordOk xs = true) : plainL 30 xs = true ∧ PySem.W.AlikeAll (xs.map pyOf) := by
  unfold ordOk at q
  simp only [Bool.and_eq_true] at q
  obtain ⟨⟨q1, q2⟩, q3⟩ := q
  refine ⟨q1, fun x hx y hy => ?_, fun x hx => ?_⟩
  · obtain ⟨d, hd, rfl⟩ := List.mem_map.mp hx
    obtain ⟨e, he, rfl⟩ := List.mem_map.mp hy
    exact alikeAllB_iff.mp q2 d hd e he
  · obtain ⟨d, hd, rfl⟩ := List.mem_map.mp hx
    have h1 := List.all_eq_true.mp q3 d hd
    have h2 := (plain_py (plainL_iff.mp q1 d hd)).1
    intro z
    rw [z] at h2
    cases d with
    | non => simp [notNon] at h1
    | _ => simp [toPy] at h2
/-- the item that reads as this -/
theorem item_of {X : Cx} {pins : List (Addr × Obj)} {σ : L2.St} {s : Shared} {H : Hp} {p : Mp} (I : Inv X pins σ H s) {xs : List D} {vs : List V} {us : List Value} (r : RepL X.K X.mg H p xs vs) (rv : Vals vs us) (q : plainL 30 xs = true)
    {i : Nat} {u : Value} {h' : Heap} {bs : List Addr} {m : D} (hi : us[i]? = some u) (hr : Reads h' u (pyOf m) bs) (hk : ∀ b o, s.heap.get? b = some o → h'.get? b = some o) (hm : m ∈ xs) : ∃ v, RelV v u ∧ Rep X.K X.mg H p m v := by
  have hl : i < xs.length := by
    rw [r.len, rv.length]
    exact (List.getElem?_eq_some_iff.mp hi).1
  have hx : xs[i]? = some xs[i] := List.getElem?_eq_getElem hl
  obtain ⟨v, hv, rp⟩ := r.get hx
  obtain ⟨u', hu', ru⟩ := rv.get hv
  rw [hi] at hu'
  cases hu'
  have p1 := plain_py (plainL_iff.mp q _ (List.mem_of_getElem? hx))
  obtain ⟨as, r1⟩ := Dp.reads I _ v u (rep_dp _ v _ rp p1.1) ru
  obtain ⟨e, _⟩ := PyProof.Rows.reads_det (fun _ _ e _ => e) (PyProof.Rows.Reads.keeps hk r1) hr
  have p2 := plain_py (plainL_iff.mp q m hm)
  have : xs[i] = m := toPy_inj _ _ _ (e ▸ p1.1) p2.1
  rw [this] at rp
  exact ⟨v, ru, rp⟩
end

section
variable {X : Cx} {W : XK}
def bv : Bi → Value
  | .len => .builtin "len" | .all => .builtin "all" | .any => .builtin "any" | .sorted => .builtin "sorted" | .min => .builtin "min" | .max => .builtin "max" | .sum => .builtin "sum"
  | .int => .type "int" | .abs => .builtin "abs" | .divmod => .builtin "divmod" | .list => .type "list" | .tuple => .type "tuple" | .repr => .builtin "repr"
def rCall (K : PySem.W.Frag) (mg : Str → Option Value) (W : XK) (f : List D → M DF) : List V → Hp → VK → Prop := fun vs H Q => ∃ p h ds, CH K mg H p h ∧ RepL K mg H p ds vs ∧ End K mg W p H (f ds h) Q
theorem cr_sortedD (hu : X.A.units + 40 < cLine) {xs : List D} {vs : List V} {a : Addr} {p : Mp} {h : LH} {Q : VK} {pins : List (Addr × Obj)} {σ : L2.St} {s : Shared} {H : Hp} (I : Inv X pins σ H s) (c : CH X.K X.mg H p h)
    (hs : SqL X.K H a vs) (r : RepL X.K X.mg H p xs vs) (ok : sortOk xs = true) (q : End X.K X.mg W p H (newL (sortD xs) h) Q) : wpAny (model X.prog X.w) X.A (call (.builtin "sorted") [.ref a]) (EP X pins σ Q) X.xe s := by
  unfold sortOk at ok
  simp only [Bool.and_eq_true, Bool.or_eq_true] at ok
  obtain ⟨⟨o1, o2⟩, o3⟩ := ok
  obtain ⟨its, rv, hl, hz⟩ := I.list hs
  have each : ∀ (ys : List D) (ws : List V) (us : List Value), RepL X.K X.mg H p ys ws → Vals ws us → PySem.W.EachIs (fun u b => ∃ v, RelV v u ∧ Rep X.K X.mg H p b v) us ys := by
    intro ys
    induction ys with
    | nil =>
      intro ws us r1 r2
      simp only [RepL] at r1
      subst r1
      cases r2
      exact .nil
    | cons y ys ih =>
      intro ws us r1 r2
      simp only [RepL] at r1
      obtain ⟨v, t, rfl, h1, h2⟩ := r1
      cases r2 with
      | cons q1 q2 => exact .cons ⟨v, q1, h1⟩ (ih t _ h2 q2)
  have e := each xs vs its r rv
  have er : PySem.W.EachIs (fun u b => ∃ as, Reads s.heap u (pyOf b) as) its xs := by
    have : ∀ (ys : List D) (us : List Value), (∀ y ∈ ys, plain 30 y = true) → PySem.W.EachIs (fun u b => ∃ v, RelV v u ∧ Rep X.K X.mg H p b v) us ys → PySem.W.EachIs (fun u b => ∃ as, Reads s.heap u (pyOf b) as) us ys := by
      intro ys
      induction ys with
      | nil => intro us _ h; cases h; exact .nil
      | cons y ys ih =>
        intro us hp h
        cases h with
        | cons h1 h2 =>
          obtain ⟨v, q1, q2⟩ := h1
          exact .cons (Dp.reads I _ v _ (rep_dp _ v _ q2 (plain_py (hp y (by simp))).1) q1) (ih _ (fun z hz => hp z (by simp [hz])) h2)
    exact this xs its (plainL_iff.mp o1) e
  have hal : PySem.W.AllAlike (xs.map pyOf) := fun d hd d' hd' => by
    obtain ⟨x, hx, rfl⟩ := List.mem_map.mp hd
    obtain ⟨y, hy, rfl⟩ := List.mem_map.mp hd'
    exact alikeAllB_iff.mp o2 x hx y hy
  have hk : PySem.W.Sortable (xs.map pyOf) := by
    rcases o3 with o3 | o3
    · refine .inl fun d hd => ?_
      obtain ⟨x, hx, rfl⟩ := List.mem_map.mp hd
      have h1 := List.all_eq_true.mp o3 x hx
      have h2 := (plain_py (plainL_iff.mp o1 x hx)).1
      cases x with
      | tup ys =>
        cases ys with
        | nil => cases h1
        | cons y ys =>
          simp only [toPy, Option.map_eq_some_iff] at h2
          obtain ⟨ds, h3, h4⟩ := h2
          simp only [toPyL] at h3
          split at h3
          · cases h3
            exact ⟨_, _, h4.symm⟩
          · cases h3
      | _ => cases h1
    · refine .inr fun d hd => ?_
      obtain ⟨x, hx, rfl⟩ := List.mem_map.mp hd
      have h1 := List.all_eq_true.mp o3 x hx
      have h2 := (plain_py (plainL_iff.mp o1 x hx)).1
      refine ⟨fun z => ?_, fun ds z => ?_⟩ <;> (rw [z] at h2; cases x <;> first | (simp [noTup] at h1; done) | (simp [toPy] at h2; done))
  have hlen : xs.length = vs.length := r.len
  refine PySem.W.sorted_data (R := fun u b => ∃ v, RelV v u ∧ Rep X.K X.mg H p b v) (enc := pyOf) hl.isList e er hal hk (by omega) (fun b hb => ?_) fun out ho eo => ?_
  · have := (plain_py (plainL_iff.mp o1 b hb)).2.2
    omega
  · have back : ∀ (us : List Value) (ys : List D), PySem.W.EachIs (fun u b => ∃ v, RelV v u ∧ Rep X.K X.mg H p b v) us ys → ∃ ws, Vals ws us ∧ RepL X.K X.mg H p ys ws := by
      intro us ys hh
      induction hh with
      | nil => exact ⟨[], .nil, by simp [RepL]⟩
      | cons h1 h2 ih =>
        obtain ⟨v, q1, q2⟩ := h1
        obtain ⟨ws, q3, q4⟩ := ih
        refine ⟨v :: ws, .cons q1 q3, ?_⟩
        simp only [RepL]
        exact ⟨v, ws, rfl, q2, q4⟩
    obtain ⟨ws, rw1, rw2⟩ := back out _ eo
    have es : xs.mergeSort (PySem.W.dataLe false pyOf) = sortD xs := by
      unfold sortD
      rw [PySem.W.dataLe_eq]
      rfl
    rw [es] at rw2
    obtain ⟨z, qn⟩ := end_newL q c rw2
    obtain ⟨ep, he'⟩ := PyProof.Rows.sortedAll_at s.heap its out.toArray
    exact ⟨.ref _, upd H (s.heap.objs.size + 1) (.lst ws), I.laid (t' := s.toks) (fun _ _ => PyProof.Rows.sortedAll_old) (Nat.le_succ _) ⟨z, out, ep, rw1, by simpa using he'⟩, rfl, qn _ (I.hok.fresh (Nat.le_succ _))⟩

theorem bi_ok (hc : X.calm = true) (hu : X.A.units + 70 < cLine) (hg : X.A.guards = some []) (b : Bi) : CallR X (bv b) (rCall X.K X.mg W (biD b)) := by
  intro pins s σ H vs us Q I rv hq
  obtain ⟨p, h, ds, c, r, q⟩ := hq
  unfold biD at q
  split at q
  -- len
  · rename_i xs e
    obtain ⟨d, rfl, e1⟩ := map1 e
    obtain ⟨v, rfl, r1⟩ := repL1 r
    obtain ⟨a, ws, rfl, s1, l1⟩ := rep_tup r1 e1
    exact call_len_seq pins s σ H _ us Q I rv ⟨a, ws, rfl, .inr s1.sq, end_val q c (by rw [l1.len]; simp [Rep])⟩
  · rename_i xs e
    obtain ⟨d, rfl, e1⟩ := map1 e
    obtain ⟨v, rfl, r1⟩ := repL1 r
    obtain ⟨a, ws, rfl, s1, l1⟩ := rep_lst c r1 e1
    exact call_len_seq pins s σ H _ us Q I rv ⟨a, ws, rfl, .inl s1, end_val q c (by rw [l1.len]; simp [Rep])⟩
  · rename_i x e
    obtain ⟨d, rfl, e1⟩ := map1 e
    obtain ⟨v, rfl, r1⟩ := repL1 r
    obtain rfl := rep_str r1 e1
    split at q
    · rename_i hz
      exact call_len_str pins s σ H _ us Q I rv ⟨x, rfl, of_decide_eq_true hz, end_val q c (by simp [Rep])⟩
    · exact q.elim
  -- all, any
  · rename_i xs e
    obtain ⟨d, rfl, e1⟩ := map1 e
    obtain ⟨v, rfl, r1⟩ := repL1 r
    obtain ⟨a, ws, rfl, s1, l1⟩ := rep_lst c r1 e1
    split at q
    · rename_i bs hb
      obtain rfl := repL_bls l1 hb
      exact cr_all hc pins s σ H _ us Q I rv ⟨a, bs, rfl, s1, end_val q c (by simp [Rep])⟩
    · exact q.elim
  · rename_i xs e
    obtain ⟨d, rfl, e1⟩ := map1 e
    obtain ⟨v, rfl, r1⟩ := repL1 r
    obtain ⟨a, ws, rfl, s1, l1⟩ := rep_lst c r1 e1
    split at q
    · rename_i bs hb
      obtain rfl := repL_bls l1 hb
      exact cr_any hc pins s σ H _ us Q I rv ⟨a, bs, rfl, s1, end_val q c (by simp [Rep])⟩
    · exact q.elim
  -- sorted
  · rename_i xs e
    obtain ⟨d, rfl, e1⟩ := map1 e
    obtain ⟨v, rfl, r1⟩ := repL1 r
    obtain ⟨a, ws, rfl, s1, l1⟩ := rep_lst c r1 e1
    rw [Vals.ref1 rv]
    split at q
    · rename_i hz
      exact cr_sortedD (by omega) I c s1 l1 hz q
    · exact q.elim
  -- min, max of two ints
  · rename_i i j e
    obtain ⟨d, d', rfl, e1, e2⟩ := map2 e
    obtain ⟨v, u, rfl, r1, r2⟩ := repL2 r
    obtain rfl := rep_int r1 e1
    obtain rfl := rep_int r2 e2
    exact call_min2 hc pins s σ H _ us Q I rv ⟨i, j, rfl, end_val q c (by simp [Rep])⟩
  · rename_i i j e
    obtain ⟨d, d', rfl, e1, e2⟩ := map2 e
    obtain ⟨v, u, rfl, r1, r2⟩ := repL2 r
    obtain rfl := rep_int r1 e1
    obtain rfl := rep_int r2 e2
    exact call_max2 hc pins s σ H _ us Q I rv ⟨i, j, rfl, end_val q c (by simp [Rep])⟩
  -- min, max of items
  · rename_i x xs e
    obtain ⟨d, rfl, e1⟩ := map1 e
    obtain ⟨v, rfl, r1⟩ := repL1 r
    obtain ⟨a, ws, rfl, s1, l1⟩ := rep_lst c r1 e1
    rw [Vals.ref1 rv]
    split at q
    · rename_i hz
      obtain ⟨o1, o2⟩ := ordOk_al hz
      obtain ⟨its, rw1, hl, _⟩ := I.list s1
      obtain ⟨as, rs⟩ := repL_reads I l1 rw1 o1
      have hd := depthAll_le o1
      refine PySem.W.min_list_data (I.ok.hd hc) hl.isList (by simpa using rs) o2 (by simp only [List.map_cons] at hd; omega) fun i u h' tk bs hi hr hk => ?_
      rw [← pyOf_minL (n := 30)] at hr
      obtain ⟨w, rw2, rp⟩ := item_of I l1 rw1 o1 (i := i) (by simpa using hi) hr hk (minL_mem xs x)
      exact ⟨w, H, I.kept hk, rw2, end_val q c rp⟩
    · exact q.elim
  · rename_i x xs e
    obtain ⟨d, rfl, e1⟩ := map1 e
    obtain ⟨v, rfl, r1⟩ := repL1 r
    obtain ⟨a, ws, rfl, s1, l1⟩ := rep_tup r1 e1
    rw [Vals.ref1 rv]
    split at q
    · rename_i hz
      obtain ⟨o1, o2⟩ := ordOk_al hz
      obtain ⟨its, rw1, hl, _⟩ := I.tuple s1.sq
      obtain ⟨as, rs⟩ := repL_reads I l1 rw1 o1
      have hd := depthAll_le o1
      refine PySem.W.min_tuple_data (I.ok.hd hc) hl (by simpa using rs) o2 (by simp only [List.map_cons] at hd; omega) fun i u h' tk bs hi hr hk => ?_
      rw [← pyOf_minL (n := 30)] at hr
      obtain ⟨w, rw2, rp⟩ := item_of I l1 rw1 o1 (i := i) (by simpa using hi) hr hk (minL_mem xs x)
      exact ⟨w, H, I.kept hk, rw2, end_val q c rp⟩
    · exact q.elim
  · rename_i x xs e
    obtain ⟨d, rfl, e1⟩ := map1 e
    obtain ⟨v, rfl, r1⟩ := repL1 r
    obtain ⟨a, ws, rfl, s1, l1⟩ := rep_lst c r1 e1
    rw [Vals.ref1 rv]
    split at q
    · rename_i hz
      obtain ⟨o1, o2⟩ := ordOk_al hz
      obtain ⟨its, rw1, hl, _⟩ := I.list s1
      obtain ⟨as, rs⟩ := repL_reads I l1 rw1 o1
      have hd := depthAll_le o1
      refine PySem.W.max_list_data (I.ok.hd hc) hl.isList (by simpa using rs) o2 (by simp only [List.map_cons] at hd; omega) fun i u h' tk bs hi hr hk => ?_
      rw [← pyOf_maxL (n := 30)] at hr
      obtain ⟨w, rw2, rp⟩ := item_of I l1 rw1 o1 (i := i) (by simpa using hi) hr hk (maxL_mem xs x)
      exact ⟨w, H, I.kept hk, rw2, end_val q c rp⟩
    · exact q.elim
  · rename_i x xs e
    obtain ⟨d, rfl, e1⟩ := map1 e
    obtain ⟨v, rfl, r1⟩ := repL1 r
    obtain ⟨a, ws, rfl, s1, l1⟩ := rep_tup r1 e1
    rw [Vals.ref1 rv]
    split at q
    · rename_i hz
      obtain ⟨o1, o2⟩ := ordOk_al hz
      obtain ⟨its, rw1, hl, _⟩ := I.tuple s1.sq
      obtain ⟨as, rs⟩ := repL_reads I l1 rw1 o1
      have hd := depthAll_le o1
      refine PySem.W.max_tuple_data (I.ok.hd hc) hl (by simpa using rs) o2 (by simp only [List.map_cons] at hd; omega) fun i u h' tk bs hi hr hk => ?_
      rw [← pyOf_maxL (n := 30)] at hr
      obtain ⟨w, rw2, rp⟩ := item_of I l1 rw1 o1 (i := i) (by simpa using hi) hr hk (maxL_mem xs x)
      exact ⟨w, H, I.kept hk, rw2, end_val q c rp⟩
    · exact q.elim
  -- sum
  · rename_i xs e
    obtain ⟨d, rfl, e1⟩ := map1 e
    obtain ⟨v, rfl, r1⟩ := repL1 r
    obtain ⟨a, ws, rfl, s1, l1⟩ := rep_lst c r1 e1
    split at q
    · rename_i is hi
      obtain rfl := repL_ints l1 hi
      exact cr_sum hc pins s σ H _ us Q I rv ⟨a, is, rfl, s1, end_val q c (by simp [Rep])⟩
    · exact q.elim
  -- int
  · rename_i i e
    obtain ⟨d, rfl, e1⟩ := map1 e
    obtain ⟨v, rfl, r1⟩ := repL1 r
    obtain rfl := rep_int r1 e1
    exact call_int1 pins s σ H _ us Q I rv (.inl ⟨i, rfl, end_val q c (by simp [Rep])⟩)
  · rename_i i e
    obtain ⟨d, rfl, e1⟩ := map1 e
    obtain ⟨v, rfl, r1⟩ := repL1 r
    obtain rfl := rep_bl r1 e1
    exact call_int1 pins s σ H _ us Q I rv (.inr ⟨i, rfl, end_val q c (by simp [Rep, b2n])⟩)
  -- abs
  · rename_i i e
    obtain ⟨d, rfl, e1⟩ := map1 e
    obtain ⟨v, rfl, r1⟩ := repL1 r
    obtain rfl := rep_int r1 e1
    exact call_abs pins s σ H _ us Q I rv ⟨i, rfl, end_val q c (by simp [Rep])⟩
  -- divmod
  · rename_i i j e
    obtain ⟨d, d', rfl, e1, e2⟩ := map2 e
    obtain ⟨v, u, rfl, r1, r2⟩ := repL2 r
    obtain rfl := rep_int r1 e1
    obtain rfl := rep_int r2 e2
    split at q
    · rename_i hz
      have hz' : 0 < j ∧ j < 1073741824 := of_decide_eq_true hz
      obtain ⟨u, w', rfl, ⟨t, rfl⟩, ⟨t', rfl⟩⟩ := vals2 rv
      refine divmod_int (by omega) ?_ (.inl (PyProof.noPylong_small (by omega)))
      rw [Int.fdiv_eq_ediv_of_nonneg i (by omega), Int.fmod_eq_emod_of_nonneg i (by omega)]
      have n : H s.heap.objs.size = none := I.hok.fresh (Nat.le_refl _)
      obtain ⟨c', e', _, _⟩ := c.new (o := .frz { cls := .type "tuple", data := .seq [Value.int (i / j) s.toks, Value.int (i % j) (s.toks + 1)].toArray } (.tup [.int (i / j), .int (i % j)])) n
      have hsz : (2 : Nat) ≤ sizeLine := by rw [sizeLine_eq]; decide
      refine ⟨.ref s.heap.objs.size, _, ?_, rfl, q p _ c' e' (.ref s.heap.objs.size) (show Rep X.K X.mg _ p (.tup _) (.ref s.heap.objs.size) by simp only [Rep]; exact ⟨_, _, rfl, ⟨_, upd_same, rfl⟩, by simp [RepL, Rep]⟩)⟩
      exact laidT I (.cons ⟨_, rfl⟩ (.cons ⟨_, rfl⟩ .nil)) hsz
    · exact q.elim
  -- list
  · rename_i xs e
    obtain ⟨d, rfl, e1⟩ := map1 e
    obtain ⟨v, rfl, r1⟩ := repL1 r
    obtain ⟨a, ws, rfl, s1, l1⟩ := rep_tup r1 e1
    obtain ⟨z, qn⟩ := end_newL q c l1
    exact call_list_of pins s σ H _ us Q I rv ⟨a, ws, rfl, .inr s1.sq, qn⟩
  · rename_i xs e
    obtain ⟨d, rfl, e1⟩ := map1 e
    obtain ⟨v, rfl, r1⟩ := repL1 r
    obtain ⟨a, ws, rfl, s1, l1⟩ := rep_lst c r1 e1
    obtain ⟨z, qn⟩ := end_newL q c l1
    exact call_list_of pins s σ H _ us Q I rv ⟨a, ws, rfl, .inl s1, qn⟩
  -- tuple
  · rename_i xs e
    obtain ⟨d, rfl, e1⟩ := map1 e
    obtain ⟨v, rfl, r1⟩ := repL1 r
    obtain ⟨a, ws, rfl, s1, l1⟩ := rep_tup r1 e1
    exact call_tuple_of pins s σ H _ us Q I rv ⟨a, ws, rfl, .inr ⟨s1.sq, end_val q c (show Rep X.K X.mg H p (.tup xs) (.ref a) by simp only [Rep]; exact ⟨a, ws, rfl, s1, l1⟩)⟩⟩
  · rename_i xs e
    obtain ⟨d, rfl, e1⟩ := map1 e
    obtain ⟨v, rfl, r1⟩ := repL1 r
    obtain ⟨a, ws, rfl, s1, l1⟩ := rep_lst c r1 e1
    obtain ⟨z, qn⟩ := end_newT q c l1
    obtain ⟨u, rfl, rx⟩ := vals1 rv
    cases rx
    obtain ⟨its, r', pl, hz⟩ := I.list s1
    have hlen := r'.length
    refine call_tuple_list pl.isList (fun h' kp => ?_) (by simp only [List.size_toArray] <;> omega)
    have I1 : Inv X pins σ H { s with heap := h' } := I.kept (t' := s.toks) kp
    exact ⟨.ref h'.objs.size, _, laidT (t' := s.toks) I1 r' hz, rfl, qn _ _ (I1.hok.fresh (Nat.le_refl _)) rfl⟩
  -- repr
  · rename_i d e
    obtain ⟨d', rfl, e1⟩ := map1 e
    obtain ⟨v, rfl, r1⟩ := repL1 r
    split at q
    · rename_i x hx
      split at q
      · rename_i hz
        simp only [Bool.and_eq_true, decide_eq_true_eq] at hz
        obtain ⟨⟨z1, z2⟩, z3⟩ := hz
        obtain ⟨u, rfl, ru⟩ := vals1 rv
        have dp : Dp X.K H v x := der_dp c r1 (by rw [e1]; exact hx)
        have pl := plain_py z2
        have ex : pyOf d = x := by simp [pyOf, hx]
        rw [ex] at pl
        have fin : Q (.str x.shown) H := end_val q c (by simp [Rep])
        cases dp with
        | non =>
          cases ru
          exact PySem.P.repr_of_none ⟨.str _, H, I.tok _, ⟨_, rfl⟩, fin⟩
        | bl b =>
          cases ru
          exact PySem.P.repr_of_bool ⟨.str _, H, I.tok _, ⟨_, rfl⟩, by simpa [PyData.shown] using fin⟩
        | int i =>
          obtain ⟨t, rfl⟩ := ru
          exact PySem.P.repr_of_int (by simpa [PyData.showable] using z1) ⟨.str _, H, I.tok _, ⟨_, rfl⟩, by simpa [PyData.shown] using fin⟩
        | str y =>
          obtain ⟨t, rfl⟩ := ru
          exact PySem.P.repr_of_str ⟨.str _, H, I.tok _, ⟨_, rfl⟩, by simpa [PyData.shown] using fin⟩ (by simpa [PyData.shown] using z3)
        | lst hs ha =>
          cases ru
          obtain ⟨as, rd⟩ := Dp.reads I _ _ _ (Dp.lst hs ha) (show RelV (V.ref _) (Value.ref _) from rfl)
          exact repr_of_reads' rd z1 (PyData.noDict_hsm (PyData.hasDict_of_canLay _ pl.2.1)) hg (by omega) (fun _ _ e => e) (fun h' u tk hk => ⟨.str _, H, I.kept hk, ⟨_, rfl⟩, fin⟩) z3
        | tup hs ha =>
          cases ru
          obtain ⟨as, rd⟩ := Dp.reads I _ _ _ (Dp.tup hs ha) (show RelV (V.ref _) (Value.ref _) from rfl)
          exact repr_of_reads' rd z1 (PyData.noDict_hsm (PyData.hasDict_of_canLay _ pl.2.1)) hg (by omega) (fun _ _ e => e) (fun h' u tk hk => ⟨.str _, H, I.kept hk, ⟨_, rfl⟩, fin⟩) z3
      · exact q.elim
    · exact q.elim
  · exact q.elim
end
end Fz

set_option Elab.async false
set_option linter.all false
set_option maxRecDepth 100000
set_option maxHeartbeats 1000000
/-! Fz, part F: each construct of an expression, from its parts. -/
namespace Fz
open PySem PySem.Spec PyProof.Rows L2
section
variable {K : PySem.W.Frag} {mg : Str → Option Value} {W : XK} {H : Hp} {p : Mp} {h : LH} {env : Env} {σ : L2.St} {Q : VK}
/-- and now a continuation by one value -/
theorem Aft.z {α β : Type} {r : Res α} {f : α → M β} {k : β → LH → Mp → Hp → Prop} (a : Aft K mg W p H (r.next f) k) (s : SL K mg H p env σ) :
    Aft K mg W p H r fun x h1 p1 H1 => Kn K mg H1 p1 h1 env σ ∧ Aft K mg W p1 H1 (f x h1) k :=
  a.bind.imp fun x h1 p1 H1 c1 e1 q1 => ⟨⟨c1, s.ext e1⟩, q1⟩
end
section
variable {X : Cx} {W : XK} {e a b c : Expr} {pos : Pos} {fa fb fc : Env → M DF}
theorem cnt_app (k : Kn X.K X.mg H p h env σ) : CH X.K X.mg H p h := k.1
theorem s_con {x : Const} {j : Option Nat → Nat} : True := trivial
theorem s_int {i j} : PE X (.Constant (.int i) j pos) (tE X.K X.mg W fun _ => val (.int i)) := PE.imp pe_int fun σ H Q ⟨p, h, env, k, a⟩ => end_val a k.1 (by simp [Rep])
theorem s_bl {i j} : PE X (.Constant (.bool i) j pos) (tE X.K X.mg W fun _ => val (.bl i)) := PE.imp pe_bl fun σ H Q ⟨p, h, env, k, a⟩ => end_val a k.1 (by simp [Rep])
theorem s_str {i j} : PE X (.Constant (.str i) j pos) (tE X.K X.mg W fun _ => val (.str i)) := PE.imp pe_str fun σ H Q ⟨p, h, env, k, a⟩ => end_val a k.1 (by simp [Rep])
theorem s_non {j} : PE X (.Constant .none j pos) (tE X.K X.mg W fun _ => val .non) := PE.imp pe_non fun σ H Q ⟨p, h, env, k, a⟩ => end_val a k.1 (by simp [Rep])
theorem s_var {i : Nat} {x : Str} (hN : X.N[i]? = some x) (hv : Vis X.env.scope x) (hd : (x == ("__debug__" : Str)) = false) (hcd : (x == ("__classdict__" : Str)) = false) :
    PE X (.Name x pos) (tE X.K X.mg W fun env => fun h => match env[i]? with
      | some (some d) => val d h
      | _ => .no) := PE.imp (pe_var hN hv hd hcd) fun σ H Q ⟨p, h, env, k, a⟩ => by
  simp only at a
  split at a
  · rename_i d q
    obtain ⟨v, h1, h2⟩ := k.2.at_ i d q
    exact ⟨v, h1, end_val a k.1 h2⟩
  · exact a.elim
theorem s_glob {x : Str} {d : D} {u : Value} {v : V} (hg : Gl X x) (hm : X.mg x = some u) (r : RelV v u) (rd : ∀ H p, Rep X.K X.mg H p d v) (hd : (x == ("__debug__" : Str)) = false) :
    PE X (.Name x pos) (tE X.K X.mg W fun _ => val d) := PE.imp (pe_glob hg hm r hd) fun σ H Q ⟨p, h, env, k, a⟩ => end_val a k.1 (rd _ _)
/-- a fresh list becomes a changing one: nothing happens -/
theorem s_mk (ha : PE X e (tE X.K X.mg W fa)) : PE X e (tE X.K X.mg W fun env => M.then (fa env) mkC) := PE.imp ha fun σ H Q ⟨p, h, env, k, a⟩ => by
  refine ⟨p, h, env, k, (Aft.bind a).imp fun x h1 p1 H1 c1 e1 q1 v rv => ?_⟩
  unfold mkC at q1
  obtain ⟨d, fr⟩ := x
  split at q1
  · rename_i xs hx
    split at q1
    · rename_i hb
      cases hx
      obtain ⟨ds, a', vs, e2, e3, r1, r2, r3, r4⟩ := rv
      cases e2
      subst e3
      obtain ⟨c2, ex⟩ := c1.cell r1 r2 r3 r4 hb
      exact q1 _ _ c2 ex (.ref a') (show Rep X.K X.mg H1 _ (.cell h1.length) (.ref a') by
        simp only [Rep]
        exact ⟨a', rfl, by show (if h1.length = h1.length then some a' else _) = some a'; rw [if_pos rfl]⟩)
    · exact q1.elim
  · exact q1.elim
  · exact q1.elim
  · rename_i d' fr' n1 n2 n3 hx
    cases hx
    cases fr with
    | false => exact end_val q1 c1 rv
    | true =>
      obtain ⟨ds, a', vs, e2, _⟩ := rv
      exact (n1 ds e2 rfl).elim
theorem s_bin {o : BOp} {op : Operator} (ho : (o, op) ∈ [(BOp.add, Operator.Add), (.sub, .Sub), (.mul, .Mult), (.fdiv, .FloorDiv), (.mod, .Mod), (.pow, .Pow)]) (ha : PE X a (tE X.K X.mg W fa)) (hb : PE X b (tE X.K X.mg W fb)) :
    PE X (.BinOp a op b pos) (tE X.K X.mg W fun env => M.then (fa env) fun x => M.then (fb env) fun y => binD o x.1 y.1) :=
  PE.imp (pe_op (op_bin (W := W) ho) (PE.z ha) (PE.z hb)) fun σ H Q ⟨p, h, env, k, q⟩ =>
    ⟨p, h, env, k, (Aft.z q k.2).imp fun x h1 p1 H1 c1 e1 q1 v c1' r1 => ⟨p1, h1, env, ⟨c1', q1.1.2⟩, (Aft.bind q1.2).imp fun y h2 p2 H2 c2 e2 q2 u c2' r2 => ⟨p2, h2, x.1, y.1, c2', Rep.ext e2 _ _ r1, r2, q2⟩⟩⟩
theorem s_cmp {o : COp} (hu : X.A.units + 65 < cLine) (hm : behindInMarks (opC o) b = false) (ha : PE X a (tE X.K X.mg W fa)) (hb : PE X b (tE X.K X.mg W fb)) :
    PE X (.Compare a [opC o] [b] pos) (tE X.K X.mg W fun env => M.then (fa env) fun x => M.then (fb env) fun y => cmpD o x.1 y.1) :=
  PE.imp (pe_cmpR (op_cmp (W := W) hu) (PE.z ha) (PE.z hb) hm) fun σ H Q ⟨p, h, env, k, q⟩ =>
    ⟨p, h, env, k, (Aft.z q k.2).imp fun x h1 p1 H1 c1 e1 q1 v c1' r1 => ⟨p1, h1, env, ⟨c1', q1.1.2⟩, (Aft.bind q1.2).imp fun y h2 p2 H2 c2 e2 q2 u c2' r2 => ⟨p2, h2, x.1, y.1, c2', Rep.ext e2 _ _ r1, r2, q2⟩⟩⟩
theorem s_ix (hs : PlainIx b) (ha : PE X a (tE X.K X.mg W fa)) (hb : PE X b (tE X.K X.mg W fb)) :
    PE X (.Subscript a b pos) (tE X.K X.mg W fun env => M.then (fa env) fun x => M.then (fb env) fun y => ixD x.1 y.1) :=
  PE.imp (pe_ix (ix_ok (W := W)) (PE.z ha) (PE.z hb) hs) fun σ H Q ⟨p, h, env, k, q⟩ =>
    ⟨p, h, env, k, (Aft.z q k.2).imp fun x h1 p1 H1 c1 e1 q1 v c1' r1 => ⟨p1, h1, env, ⟨c1', q1.1.2⟩, (Aft.bind q1.2).imp fun y h2 p2 H2 c2 e2 q2 u c2' r2 => ⟨p2, h2, x.1, y.1, c2', Rep.ext e2 _ _ r1, r2, q2⟩⟩⟩
theorem s_neg (ha : PE X a (tE X.K X.mg W fa)) : PE X (.UnaryOp .USub a pos) (tE X.K X.mg W fun env => M.then (fa env) fun x => negD x.1) := PE.imp (pe_un un_neg (PE.z ha)) fun σ H Q ⟨p, h, env, k, q⟩ =>
  ⟨p, h, env, k, (Aft.z q k.2).imp fun x h1 p1 H1 c1 e1 q1 v c1' r1 => by
    obtain ⟨_, q1⟩ := q1
    unfold negD at q1
    split at q1
    · rename_i i hi
      rw [hi] at r1
      simp only [Rep] at r1
      exact ⟨i, r1, end_val q1 c1' (by simp [Rep])⟩
    · exact q1.elim⟩

/-! ### truth -/
theorem tru_of {p : Mp} {h : LH} {H : Hp} {d : D} {v : V} {t : Bool} (c : CH X.K X.mg H p h) (r : Rep X.K X.mg H p d v) (e : truthD (der h d) = some t) : TruV X.K v H t := by
  cases q : der h d with
  | non => rw [q] at e; cases e; rw [rep_non r q]; rfl
  | bl x => rw [q] at e; cases e; rw [rep_bl r q]; rfl
  | int x => rw [q] at e; cases e; rw [rep_int r q]; rfl
  | str x =>
    rw [q] at e
    simp only [truthD] at e
    split at e
    · rename_i hz
      cases e
      rw [rep_str r q]
      exact ⟨hz, rfl⟩
    · cases e
  | tup xs =>
    rw [q] at e; cases e
    obtain ⟨a, vs, rfl, s1, l1⟩ := rep_tup r q
    have hl := l1.len
    have he : (!xs.isEmpty) = !vs.isEmpty := by cases xs <;> cases vs <;> simp_all
    rw [he]
    exact .inr (.inl ⟨vs, s1.sq, rfl⟩)
  | lst xs =>
    rw [q] at e; cases e
    obtain ⟨a, vs, rfl, s1, l1⟩ := rep_lst c r q
    have hl := l1.len
    have he : (!xs.isEmpty) = !vs.isEmpty := by cases xs <;> cases vs <;> simp_all
    rw [he]
    exact .inl ⟨vs, s1, rfl⟩
  | fix xs => rw [q] at e; cases e
  | dic _ _ => rw [q] at e; cases e
  | cell _ => rw [q] at e; cases e
  | fn _ => rw [q] at e; cases e

/-- a truth asked: the expression's value, then its truth -/
def tru (f : Env → M DF) : Env → M Bool := fun env => M.then (f env) fun x => fun h => match truthD (der h x.1) with
  | some b => .ok b h
  | none => .no
theorem tru_next {α : Type} {p : Mp} {H : Hp} {h : LH} {d : D} {k1 k2 : M α} {P : α → LH → Mp → Hp → Prop} (q : Aft X.K X.mg W p H (match truthD (der h d) with
    | some true => k1 h
    | some false => k2 h
    | none => .no) P) : ∃ b, truthD (der h d) = some b ∧ (b = true → Aft X.K X.mg W p H (k1 h) P) ∧ (b = false → Aft X.K X.mg W p H (k2 h) P) := by
  cases e : truthD (der h d) with
  | none => rw [e] at q; exact q.elim
  | some b =>
    rw [e] at q
    cases b with
    | true => exact ⟨true, rfl, (fun _ => q), (fun z => nomatch z)⟩
    | false => exact ⟨false, rfl, (fun z => nomatch z), (fun _ => q)⟩
/-- a value as a test -/
theorem s_truth (ha : PE X a (tE X.K X.mg W fa)) (he : ∀ whole, isTrue a X.env whole = (do let v ← whole; standAt a.pos; holding [v] (truthy v))) : PT X a (tT X.K X.mg W (tru fa)) :=
  PT.imp (pt_truth (PE.z ha) he) fun σ H Q ⟨p, h, env, k, q⟩ => ⟨p, h, env, k, (Aft.bind q).imp fun x h1 p1 H1 c1 e1 q1 v c1' r1 => by
    cases e : truthD (der h1 x.1) with
    | none => simp only [e] at q1; exact q1.elim
    | some b =>
      simp only [e] at q1
      exact ⟨b, tru_of c1' r1 e, q1 p1 H1 c1' (Ext.refl _ _) c1'⟩⟩
theorem s_not (ha : PE X a (tE X.K X.mg W fa)) : PE X (.UnaryOp .Not a pos) (tE X.K X.mg W fun env => M.then (fa env) fun x => fun h => match truthD (der h x.1) with
    | some b => val (.bl (!b)) h
    | none => .no) :=
  PE.imp (pe_notT (PE.z ha)) fun σ H Q ⟨p, h, env, k, q⟩ => ⟨p, h, env, k, (Aft.bind q).imp fun x h1 p1 H1 c1 e1 q1 v c1' r1 => by
    cases e : truthD (der h1 x.1) with
    | none => simp only [e] at q1; exact q1.elim
    | some b =>
      simp only [e] at q1
      exact ⟨b, tru_of c1' r1 e, end_val q1 c1' (by simp [Rep])⟩⟩
theorem s_notT {f : Env → M Bool} (ha : PT X a (tT X.K X.mg W f)) : PT X (.UnaryOp .Not a pos) (tT X.K X.mg W fun env => M.then (f env) fun b => M.ret (!b)) :=
  PT.imp (pt_not ha) fun σ H Q ⟨p, h, env, k, q⟩ => ⟨p, h, env, k, (Aft.bind q).imp fun x h1 p1 H1 c1 e1 q1 c1' => q1 p1 H1 c1' (Ext.refl _ _) c1'⟩
theorem s_one {op} (h : PE X a (tE X.K X.mg W fa)) : PE X (.BoolOp op [a] pos) (tE X.K X.mg W fa) := pe_one h
theorem s_and {rest : List Expr} (ha : PE X a (tE X.K X.mg W fa)) (hb : PE X (.BoolOp .And (b :: rest) pos) (tE X.K X.mg W fb)) :
    PE X (.BoolOp .And (a :: b :: rest) pos) (tE X.K X.mg W fun env => M.then (fa env) fun x => fun h => match truthD (der h x.1) with
      | some true => fb env h
      | some false => val x.1 h
      | none => .no) :=
  PE.imp (pe_andT (PE.z ha) hb) fun σ H Q ⟨p, h, env, k, q⟩ => ⟨p, h, env, k, (Aft.z q k.2).imp fun x h1 p1 H1 c1 e1 q1 v c1' r1 => by
    obtain ⟨k1, q1⟩ := q1
    obtain ⟨t, e, y, n⟩ := tru_next (k1 := fb env) (k2 := val x.1) q1
    refine ⟨t, tru_of c1' r1 e, ?_⟩
    cases t with
    | true => exact ⟨p1, h1, env, ⟨c1', k1.2⟩, y rfl⟩
    | false => exact end_val (n rfl) c1' r1⟩
theorem s_or {rest : List Expr} (ha : PE X a (tE X.K X.mg W fa)) (hb : PE X (.BoolOp .Or (b :: rest) pos) (tE X.K X.mg W fb)) :
    PE X (.BoolOp .Or (a :: b :: rest) pos) (tE X.K X.mg W fun env => M.then (fa env) fun x => fun h => match truthD (der h x.1) with
      | some true => val x.1 h
      | some false => fb env h
      | none => .no) :=
  PE.imp (pe_orT (PE.z ha) hb) fun σ H Q ⟨p, h, env, k, q⟩ => ⟨p, h, env, k, (Aft.z q k.2).imp fun x h1 p1 H1 c1 e1 q1 v c1' r1 => by
    obtain ⟨k1, q1⟩ := q1
    obtain ⟨t, e, y, n⟩ := tru_next (k1 := val x.1) (k2 := fb env) q1
    refine ⟨t, tru_of c1' r1 e, ?_⟩
    cases t with
    | true => exact end_val (y rfl) c1' r1
    | false => exact ⟨p1, h1, env, ⟨c1', k1.2⟩, n rfl⟩⟩
/-- .. as tests: what they answer is the truth of the value -/
theorem s_andT {rest : List Expr} {f g : Env → M Bool} (ha : PT X a (tT X.K X.mg W f)) (hb : PW X (.BoolOp .And (b :: rest) pos) (tT X.K X.mg W g)) :
    PW X (.BoolOp .And (a :: b :: rest) pos) (tT X.K X.mg W fun env => M.then (f env) fun t => match t with
      | true => g env
      | false => M.ret false) :=
  PW.imp (pw_and ha hb) fun σ H Q ⟨p, h, env, k, q⟩ => ⟨p, h, env, k, (Aft.z q k.2).imp fun t h1 p1 H1 c1 e1 q1 c1' => by
    obtain ⟨k1, q1⟩ := q1
    cases t with
    | true => rw [if_pos rfl]; exact ⟨p1, h1, env, k1, q1⟩
    | false => rw [if_neg Bool.false_ne_true]; exact q1 p1 H1 c1' (Ext.refl _ _) c1'⟩
theorem s_orT {rest : List Expr} {f g : Env → M Bool} (ha : PT X a (tT X.K X.mg W f)) (hb : PW X (.BoolOp .Or (b :: rest) pos) (tT X.K X.mg W g)) :
    PW X (.BoolOp .Or (a :: b :: rest) pos) (tT X.K X.mg W fun env => M.then (f env) fun t => match t with
      | true => M.ret true
      | false => g env) :=
  PW.imp (pw_or ha hb) fun σ H Q ⟨p, h, env, k, q⟩ => ⟨p, h, env, k, (Aft.z q k.2).imp fun t h1 p1 H1 c1 e1 q1 c1' => by
    obtain ⟨k1, q1⟩ := q1
    cases t with
    | true => rw [if_pos rfl]; exact q1 p1 H1 c1' (Ext.refl _ _) c1'
    | false => rw [if_neg Bool.false_ne_true]; exact ⟨p1, h1, env, k1, q1⟩⟩
/-- two tests that compute the same -/
theorem PT.as {f g : Env → M Bool} (h : PT X a (tT X.K X.mg W f)) (e : ∀ env, f env = g env) : PT X a (tT X.K X.mg W g) := by
  have : f = g := funext e
  rw [← this]
  exact h
theorem PW.as {f g : Env → M Bool} (h : PW X a (tT X.K X.mg W f)) (e : ∀ env, f env = g env) : PW X a (tT X.K X.mg W g) := by
  have : f = g := funext e
  rw [← this]
  exact h
theorem tru_not (f : Env → M DF) (env : Env) : (M.then (tru f env) fun b => M.ret (!b)) = tru (fun env => M.then (f env) fun x => fun h => match truthD (der h x.1) with
    | some b => val (.bl (!b)) h
    | none => .no) env := by
  funext h
  simp only [tru, M.then, Res.next]
  cases f env h with
  | ok x h1 => simp only; cases truthD (der h1 x.1) <;> rfl
  | exc _ _ _ => rfl
  | no => rfl
theorem tru_and (f g : Env → M DF) (env : Env) : (M.then (tru f env) fun t => match t with
      | true => tru g env
      | false => M.ret false) = tru (fun env => M.then (f env) fun x => fun h => match truthD (der h x.1) with
      | some true => g env h
      | some false => val x.1 h
      | none => .no) env := by
  funext h
  simp only [tru, M.then, Res.next]
  cases f env h with
  | ok x h1 =>
    simp only
    cases e : truthD (der h1 x.1) with
    | none => rfl
    | some b =>
      cases b with
      | true => rfl
      | false => simp [val, M.ret, e]
  | exc _ _ _ => rfl
  | no => rfl
theorem tru_or (f g : Env → M DF) (env : Env) : (M.then (tru f env) fun t => match t with
      | true => M.ret true
      | false => tru g env) = tru (fun env => M.then (f env) fun x => fun h => match truthD (der h x.1) with
      | some true => val x.1 h
      | some false => g env h
      | none => .no) env := by
  funext h
  simp only [tru, M.then, Res.next]
  cases f env h with
  | ok x h1 =>
    simp only
    cases e : truthD (der h1 x.1) with
    | none => rfl
    | some b =>
      cases b with
      | true => simp [val, M.ret, e]
      | false => rfl
  | exc _ _ _ => rfl
  | no => rfl
theorem s_ite {f : Env → M Bool} (hc : PT X c (tT X.K X.mg W f)) (ha : PE X a (tE X.K X.mg W fa)) (hb : PE X b (tE X.K X.mg W fb)) : PE X (.IfExp c a b pos) (tE X.K X.mg W fun env => M.then (f env) fun t => match t with
    | true => fa env
    | false => fb env) :=
  PE.imp (pe_ifExp hc ha hb) fun σ H Q ⟨p, h, env, k, q⟩ => ⟨p, h, env, k, (Aft.z q k.2).imp fun t h1 p1 H1 c1 e1 q1 c1' => by
    obtain ⟨k1, q1⟩ := q1
    cases t with
    | true => rw [if_pos rfl]; exact ⟨p1, h1, env, k1, q1⟩
    | false => rw [if_neg Bool.false_ne_true]; exact ⟨p1, h1, env, k1, q1⟩⟩
/-- .. as a test -/
theorem s_iteT {f g1 g2 : Env → M Bool} (hc : PT X c (tT X.K X.mg W f)) (ha : PT X a (tT X.K X.mg W g1)) (hb : PT X b (tT X.K X.mg W g2)) : PT X (.IfExp c a b pos) (tT X.K X.mg W fun env => M.then (f env) fun t => match t with
    | true => g1 env
    | false => g2 env) := by
  refine ⟨fun pins s σ H Q I hq => ?_⟩
  obtain ⟨p, h, env, k, q⟩ := hq
  show wpAny _ _ (do if ← isTrue c X.env (eval c X.env) then isTrue a X.env (eval a X.env) else isTrue b X.env (eval b X.env)) _ _ s
  refine wpAny_bind (thn (hc.run pins s σ H (fun t H1 => ∃ p1 h1 env, Kn X.K X.mg H1 p1 h1 env σ ∧ Aft X.K X.mg W p1 H1 ((match t with
    | true => g1 env
    | false => g2 env) h1) fun b h' p' H' => CH X.K X.mg H' p' h' → Q b H') I ⟨p, h, env, k, (Aft.z q k.2).imp fun t h1 p1 H1 c1 e1 q1 c1' => ⟨p1, h1, env, q1.1, q1.2⟩⟩) fun t s1 ⟨H1, I1, p1, h1, env1, k1, q1⟩ => ?_)
  cases t with
  | true => rw [if_pos rfl]; exact ha.run pins s1 σ H1 Q I1 ⟨p1, h1, env1, k1, q1⟩
  | false => rw [if_neg Bool.false_ne_true]; exact hb.run pins s1 σ H1 Q I1 ⟨p1, h1, env1, k1, q1⟩
theorem tru_ite (f g1 g2 : Env → M DF) (env : Env) : (M.then (tru f env) fun t => match t with
      | true => tru g1 env
      | false => tru g2 env) = tru (fun env => M.then (f env) fun x => fun h => match truthD (der h x.1) with
      | some true => g1 env h
      | some false => g2 env h
      | none => .no) env := by
  funext h
  simp only [tru, M.then, Res.next]
  cases f env h with
  | ok x h1 =>
    simp only
    cases e : truthD (der h1 x.1) with
    | none => rfl
    | some b => cases b <;> rfl
  | exc _ _ _ => rfl
  | no => rfl
theorem ite_val (f : Env → M DF) (g1 g2 : Env → M DF) (env : Env) : (M.then (tru f env) fun t => match t with
      | true => g1 env
      | false => g2 env) = (M.then (f env) fun x => fun h => match truthD (der h x.1) with
      | some true => g1 env h
      | some false => g2 env h
      | none => .no) := by
  funext h
  simp only [tru, M.then, Res.next]
  cases f env h with
  | ok x h1 =>
    simp only
    cases e : truthD (der h1 x.1) with
    | none => rfl
    | some b => cases b <;> rfl
  | exc _ _ _ => rfl
  | no => rfl
theorem PE.as {f g : Env → M DF} (h : PE X a (tE X.K X.mg W f)) (e : ∀ env, f env = g env) : PE X a (tE X.K X.mg W g) := by
  have : f = g := funext e
  rw [← this]
  exact h
end
end Fz

set_option Elab.async false
set_option linter.all false
set_option maxRecDepth 100000
set_option maxHeartbeats 1000000
/-! Fz, part G: argument lists, displays, calls, methods. -/
namespace Fz
open PySem PySem.Spec PyProof.Rows L2
section
variable {K : PySem.W.Frag} {mg : Str → Option Value} {W : XK} {H : Hp} {p : Mp} {h : LH} {env : Env} {σ : L2.St} {Q : VK}
theorem repL_nil : RepL K mg H p [] [] := by simp [RepL]
theorem repL_cons {d : D} {v : V} {ds : List D} {vs : List V} (r : Rep K mg H p d v) (q : RepL K mg H p ds vs) : RepL K mg H p (d :: ds) (v :: vs) := by
  simp only [RepL]
  exact ⟨v, vs, rfl, r, q⟩
end
def noStar : Expr → Bool
  | .Starred _ _ => false
  | _ => true
theorem star_cons {e : Expr} (h : noStar e = true) (es : List Expr) (env : PySem.Env) : starEach (e :: es) env = (false, eval e env) :: starEach es env := by
  cases e <;> first | rfl | cases h
theorem star_any {es : List Expr} (h : es.all noStar = true) (pos : Pos) (env : PySem.Env) : (backTo pos (starEach es env)).any (·.1) = false := by
  induction es with
  | nil => rfl
  | cons e es ih =>
    simp only [List.all_cons, Bool.and_eq_true] at h
    rw [star_cons h.1]
    show (false || (backTo pos (starEach es env)).any (·.1)) = false
    rw [ih h.2]; rfl
section
variable {X : Cx} {W : XK} {e a b c : Expr} {es : List Expr} {pos : Pos} {fa fb fc : Env → M DF} {fl : Env → M (List D)}
theorem s_nil : PA X [] (tA X.K X.mg W fun _ => M.ret []) := PA.imp pa_nil fun σ H Q ⟨p, h, env, k, q⟩ => q p H k.1 (Ext.refl _ _) [] k.1 repL_nil
theorem s_cons (hs : noStar e = true) (he : PE X e (tE X.K X.mg W fa)) (hes : PA X es (tA X.K X.mg W fl)) : PA X (e :: es) (tA X.K X.mg W fun env => M.then (fa env) fun x => M.then (fl env) fun ys => M.ret (x.1 :: ys)) :=
  PA.imp (pa_cons (PE.z he) hes (star_cons hs es X.env)) fun σ H Q ⟨p, h, env, k, q⟩ => ⟨p, h, env, k, (Aft.z q k.2).imp fun x h1 p1 H1 c1 e1 q1 v c1' r1 =>
    ⟨p1, h1, env, ⟨c1', q1.1.2⟩, (Aft.bind q1.2).imp fun ys h2 p2 H2 c2 e2 q2 vs c2' r2 => q2 p2 H2 c2' (Ext.refl _ _) (v :: vs) c2' (repL_cons (Rep.ext e2 _ _ r1) r2)⟩⟩
theorem pe_tupF {k : Nat} {t : TA} (h : PA X es t) : PE X (.Tuple es k pos) (fun σ H Q => t σ H fun xs H1 => xs.length ≤ sizeLine ∧ ∀ p o, H1 p = none → o.dict = none → Q (.ref p) (upd H1 p (.frz o (.tup xs)))) := by
  refine ⟨fun pins s σ H Q I hq => ?_⟩
  refine wpAny_Tuple_spliced (thn (h.run pos pins s σ H _ I hq) fun us s1 ⟨xs, H1, I1, r, z, q⟩ => ⟨by rw [← r.length]; exact z, ?_⟩)
  exact ⟨.ref s1.heap.objs.size, _, laidT (t' := s1.toks) I1 r z, rfl, q _ _ (I1.hok.fresh (Nat.le_refl _)) rfl⟩
theorem s_tup {k : Nat} (h : PA X es (tA X.K X.mg W fl)) : PE X (.Tuple es k pos) (tE X.K X.mg W fun env => M.then (fl env) newT) :=
  PE.imp (pe_tupF h) fun σ H Q ⟨p, h, env, k, q⟩ => ⟨p, h, env, k, (Aft.bind q).imp fun ds h1 p1 H1 c1 e1 q1 vs c1' r1 => end_newT q1 c1' r1⟩
theorem s_lst (h : PA X es (tA X.K X.mg W fl)) : PE X (.List es pos) (tE X.K X.mg W fun env => M.then (fl env) newL) :=
  PE.imp (pe_lst h) fun σ H Q ⟨p, h, env, k, q⟩ => ⟨p, h, env, k, (Aft.bind q).imp fun ds h1 p1 H1 c1 e1 q1 vs c1' r1 => end_newL q1 c1' r1⟩
/-- a chain of two comparisons -/
theorem s_chain {o o' : COp} (hu : X.A.units + 65 < cLine) (hm : lastMarks [opC o, opC o'] [b, c] = false) (ha : PE X a (tE X.K X.mg W fa)) (hb : PE X b (tE X.K X.mg W fb)) (hc : PE X c (tE X.K X.mg W fc)) :
    PE X (.Compare a [opC o, opC o'] [b, c] pos) (tE X.K X.mg W fun env => M.then (fa env) fun x => M.then (fb env) fun y => M.then (cmpD o x.1 y.1) fun z => fun h => match z.1 with
      | .bl true => M.then (fc env) (fun w => cmpD o' y.1 w.1) h
      | .bl false => val (.bl false) h
      | _ => .no) :=
  PE.imp (pe_chain (op_cmp (W := W) hu) (op_cmp (W := W) hu) (PE.z ha) (PE.z hb) (PE.z hc) hm) fun σ H Q ⟨p, h, env, k, q⟩ =>
    ⟨p, h, env, k, (Aft.z q k.2).imp fun x h1 p1 H1 c1 e1 q1 v c1' r1 => ⟨p1, h1, env, ⟨c1', q1.1.2⟩, (Aft.z q1.2 q1.1.2).imp fun y h2 p2 H2 c2 e2 q2 u c2' r2 =>
      ⟨p2, h2, x.1, y.1, c2', Rep.ext e2 _ _ r1, r2, (Aft.z q2.2 q2.1.2).imp fun z h3 p3 H3 c3 e3 q3 w r3 => by
        obtain ⟨k3, q3⟩ := q3
        obtain ⟨z, zf⟩ := z
        cases z with
        | bl t =>
          have ew : w = .bl t := by
            cases zf with
            | false => exact r3
            | true => obtain ⟨_, _, _, e0, _⟩ := r3; cases e0
          subst ew
          refine ⟨t, rfl, ?_⟩
          cases t with
          | true =>
            rw [if_pos rfl]
            exact ⟨p3, h3, env, k3, (Aft.bind q3).imp fun w' h4 p4 H4 c4 e4 q4 w2 c4' r4 => ⟨p4, h4, y.1, w'.1, c4', Rep.ext (e3.trans e4) _ _ r2, r4, q4⟩⟩
          | false =>
            rw [if_neg Bool.false_ne_true]
            exact end_val q3 c3 (by simp [Rep])
        | _ => exact q3.elim⟩⟩⟩
/-! ### slices -/
def tO (K : PySem.W.Frag) (mg : Str → Option Value) (W : XK) (f : Env → M (Option Int)) : TO := fun σ H Q => ∃ p h env, Kn K mg H p h env σ ∧ Aft K mg W p H (f env h) fun o h' p' H' => CH K mg H' p' h' → Q o H'
theorem PO.imp {o : Option Expr} {t t' : TO} (h : PO X o t) (i : ∀ σ H Q, t' σ H Q → t σ H Q) : PO X o t' := ⟨fun pins s σ H Q I q => h.run pins s σ H Q I (i σ H Q q)⟩
theorem s_none : PO X none (tO X.K X.mg W fun _ => M.ret none) := PO.imp po_none fun σ H Q ⟨p, h, env, k, q⟩ => q p H k.1 (Ext.refl _ _) k.1
theorem s_some (ha : PE X a (tE X.K X.mg W fa)) : PO X (some a) (tO X.K X.mg W fun env => M.then (fa env) fun x => intD x.1) := PO.imp (po_some (PE.z ha)) fun σ H Q ⟨p, h, env, k, q⟩ =>
  ⟨p, h, env, k, (Aft.bind q).imp fun x h1 p1 H1 c1 e1 q1 v c1' r1 => by
    unfold intD at q1
    split at q1
    · rename_i i hi
      rw [hi] at r1
      simp only [Rep] at r1
      exact ⟨i, r1, q1 p1 H1 c1' (Ext.refl _ _) c1'⟩
    · exact q1.elim⟩
theorem s_slc {lo hi : Option Expr} {p2 : Pos} {fo fp : Env → M (Option Int)} (ha : PE X a (tE X.K X.mg W fa)) (hl : PO X lo (tO X.K X.mg W fo)) (hh : PO X hi (tO X.K X.mg W fp)) :
    PE X (.Subscript a (.Slice lo hi none p2) pos) (tE X.K X.mg W fun env => M.then (fa env) fun x => M.then (fo env) fun y => M.then (fp env) fun z => slcD x.1 y z) :=
  PE.imp (pe_slice (slc_ok (W := W)) (PE.z ha) hl hh) fun σ H Q ⟨p, h, env, k, q⟩ =>
    ⟨p, h, env, k, (Aft.z q k.2).imp fun x h1 p1 H1 c1 e1 q1 v c1' r1 => ⟨p1, h1, env, ⟨c1', q1.1.2⟩, (Aft.z q1.2 q1.1.2).imp fun y h2 p2 H2 c2 e2 q2 c2' =>
      ⟨p2, h2, env, q2.1, (Aft.bind q2.2).imp fun z h3 p3 H3 c3 e3 q3 c3' => ⟨p3, h3, x.1, c3', Rep.ext (e2.trans e3) _ _ r1, q3⟩⟩⟩⟩

/-! ### what is built in -/
def bn : Bi → Str
  | .len => "len" | .all => "all" | .any => "any" | .sorted => "sorted" | .min => "min" | .max => "max" | .sum => "sum" | .int => "int" | .abs => "abs" | .divmod => "divmod" | .list => "list" | .tuple => "tuple" | .repr => "repr"
theorem bn_boot (b : Bi) : bootBuiltins (bn b) = some (bv b) := by cases b <;> decide +kernel
theorem bn_name (b : Bi) : bn b ≠ "__name__" ∧ (bn b == ("__debug__" : Str)) = false := by cases b <;> decide
theorem s_bi {b : Bi} {p0 : Pos} (hc : X.calm = true) (hu : X.A.units + 70 < cLine) (hg : X.A.guards = some []) (hgl : Gl X (bn b)) (hm : X.mg (bn b) = none) (ns : (e :: es).all noStar = true) (ha : PA X (e :: es) (tA X.K X.mg W fl)) :
    PE X (.Call (.Name (bn b) p0) (e :: es) [] pos) (tE X.K X.mg W fun env => M.then (fl env) fun ds => biD b ds) := by
  have ns2 := ns
  simp only [List.all_cons, Bool.and_eq_true] at ns2
  have key : PE X (.Call (.Name (bn b) p0) (e :: es) [] pos) (tCB (rCall X.K X.mg W (biD b)) (tA X.K X.mg W fl)) := by
    have h1 := bn_boot b
    have h2 := bn_name b
    have h3 : CallR X (bv b) (rCall X.K X.mg W (biD b)) := bi_ok hc hu hg b
    cases b <;> first
      | exact pe_callB h3 hgl hm h1 ha h2.1 h2.2 (star_cons ns2.1 es X.env) (star_any ns2.2 _ _)
      | exact pe_callTy h3 hgl hm h1 ha h2.1 h2.2 (star_cons ns2.1 es X.env) (star_any ns2.2 _ _)
  exact PE.imp key fun σ H Q ⟨p, h, env, k, q⟩ => ⟨p, h, env, k, (Aft.bind q).imp fun ds h1 p1 H1 c1 e1 q1 vs c1' r1 => ⟨p1, h1, ds, c1', r1, q1⟩⟩
/-! ### isinstance -/
def tyS : TyO → String
  | .non => "NoneType" | .bl => "bool" | .int => "int" | .str => "str" | .tup => "tuple" | .lst => "list"
theorem kit_all (T : TyO) (t : Ty) : kitB (tyS T) (tyn t) = some (isTy t T) := by
  cases T <;> cases t <;> decide +kernel
theorem ty_of {K : PySem.W.Frag} {mg : Str → Option Value} {H : Hp} {p : Mp} {h : LH} {d : D} {v : V} {T : TyO} (c : CH K mg H p h) (r : Rep K mg H p d v) (e : tyOf (der h d) = some T) : TyX K H v (.type (tyS T)) := by
  cases q : der h d with
  | non => rw [q] at e; cases e; rw [rep_non r q]; exact .base .non
  | bl x => rw [q] at e; cases e; rw [rep_bl r q]; exact .base (.bl x)
  | int x => rw [q] at e; cases e; rw [rep_int r q]; exact .base (.int x)
  | str x => rw [q] at e; cases e; rw [rep_str r q]; exact .base (.str x)
  | tup x =>
    rw [q] at e; cases e
    obtain ⟨a, vs, rfl, s1, _⟩ := rep_tup r q
    obtain ⟨o, s1, _⟩ := s1
    exact .fTuple s1
  | lst x =>
    rw [q] at e; cases e
    obtain ⟨a, vs, rfl, s1, _⟩ := rep_lst c r q
    rcases s1 with (s1 | ⟨o, s1⟩) | ⟨o, _, _, s1, s2, _⟩
    · exact .base (.lst s1)
    · exact .base (.frz s1)
    · exact .kList s1 s2
  | fix x => rw [q] at e; cases e
  | dic _ _ => rw [q] at e; cases e
  | cell _ => rw [q] at e; cases e
  | fn _ => rw [q] at e; cases e
/-- isinstance(e, T) -/
theorem s_isi {t : Ty} {p0 p1 : Pos} {tx : Str} (ht : tx = Str.ofString (tyn t)) (hgl : Gl X "isinstance") (hm : X.mg "isinstance" = none) (hgt : Gl X tx) (hmt : X.mg tx = none) (ns : noStar e = true) (ha : PE X e (tE X.K X.mg W fa)) :
    PE X (.Call (.Name "isinstance" p0) [e, .Name tx p1] [] pos) (tE X.K X.mg W fun env => M.then (fa env) fun x => isiD [t] x.1) := by
  have pt : PE X (.Name tx p1) (tC (.ty (tyn t))) := by
    subst ht
    cases t <;> exact pe_bltn hgt hmt (by decide +kernel) rfl
  exact PE.imp (pe_callB call_isi hgl hm (by decide +kernel) (pa_cons (PE.z ha) (pa_cons pt pa_nil (star_cons rfl _ _)) (star_cons ns _ _)) (by decide) (by decide) (star_cons ns _ _) rfl) fun σ H Q ⟨p, h, env, k, q⟩ =>
    ⟨p, h, env, k, (Aft.bind q).imp fun x h1 p1 H1 c1 e1 q1 v c1' r1 => by
      unfold isiD at q1
      split at q1
      · rename_i T hT
        exact ⟨v, .ty (tyn t), .type (tyS T), .type (tyn t), isTy t T, rfl, .ty _, ty_of c1' r1 hT, kit_ty (kit_all T t), by simpa using end_val q1 c1' (by simp [Rep])⟩
      · exact q1.elim⟩

/-! ### list(range(..)) -/
theorem rgV_rep {K : PySem.W.Frag} {mg : Str → Option Value} {H : Hp} {p : Mp} (a b : Int) : RepL K mg H p (rangeL a b) (rgV a b) := by
  unfold rangeL rgV
  generalize (List.range (b - a).toNat) = l
  induction l with
  | nil => simp [RepL]
  | cons x r ih => exact repL_cons (by simp [Rep]) ih
theorem s_range1 {p0 p1 pos1 : Pos} (hc : X.calm = true) (hl : Gl X "list") (ml : X.mg "list" = none) (hr : Gl X "range") (mr : X.mg "range" = none) (ns : noStar a = true) (ha : PE X a (tE X.K X.mg W fa)) :
    PE X (.Call (.Name "list" p0) [.Call (.Name "range" p1) [a] [] pos1] [] pos) (tE X.K X.mg W fun env => M.then (M.then (fa env) fun x => M.then (M.ret []) fun ys => M.ret (x.1 :: ys)) fun ds => M.then (ofO (rangeD ds)) newL) :=
  PE.imp (pe_listRg hc hl ml (prg_1 hr mr (PE.z ha) (star_cons ns _ _)) (star_cons rfl _ _)) fun σ H Q ⟨p, h, env, k, q⟩ =>
    ⟨p, h, env, k, (Aft.bind (Aft.bind q)).imp fun x h1 p1 H1 c1 e1 q1 v c1' r1 => by
      have q2 : Aft X.K X.mg W p1 H1 (M.then (ofO (rangeD [x.1])) newL h1) (fun x _ p' H' => ∀ v, RepF X.K X.mg H' p' x.1 x.2 v → Q v H') := q1 p1 H1 c1' (Ext.refl _ _)
      have q3 := Aft.bind q2
      unfold rangeD at q3
      split at q3
      · rename_i j hj
        split at q3
        · rename_i hb
          have hj' : x.1 = .int j := by simpa using hj
          rw [hj'] at r1
          simp only [Rep] at r1
          have q4 : End X.K X.mg W p1 H1 (newL (rangeL 0 j) h1) Q := q3 p1 H1 c1' (Ext.refl _ _)
          obtain ⟨z, qn⟩ := end_newL q4 c1' (rgV_rep 0 j)
          rw [rgV_length, sizeLine_eq] at z
          exact ⟨j, r1, ⟨by omega, by omega, hb.1, hb.2, by omega⟩, qn⟩
        · exact q3.elim
      · rename_i i j hj
        simp at hj
      · exact q3.elim⟩
theorem s_range2 {p0 p1 pos1 : Pos} (hc : X.calm = true) (hl : Gl X "list") (ml : X.mg "list" = none) (hr : Gl X "range") (mr : X.mg "range" = none) (ns : noStar a = true) (ns2 : noStar b = true) (ha : PE X a (tE X.K X.mg W fa)) (hb : PE X b (tE X.K X.mg W fb)) :
    PE X (.Call (.Name "list" p0) [.Call (.Name "range" p1) [a, b] [] pos1] [] pos) (tE X.K X.mg W fun env => M.then (M.then (fa env) fun x => M.then (M.then (fb env) fun x => M.then (M.ret []) fun ys => M.ret (x.1 :: ys)) fun ys => M.ret (x.1 :: ys)) fun ds => M.then (ofO (rangeD ds)) newL) :=
  PE.imp (pe_listRg hc hl ml (prg_2 hr mr (PE.z ha) (PE.z hb) (star_cons ns _ _) (star_cons ns2 _ _) (by rw [star_cons ns2]; rfl)) (star_cons rfl _ _)) fun σ H Q ⟨p, h, env, k, q⟩ =>
    ⟨p, h, env, k, (Aft.z (Aft.bind q) k.2).imp fun x h1 p1 H1 c1 e1 q1 v c1' r1 => ⟨p1, h1, env, ⟨c1', q1.1.2⟩, (Aft.bind (Aft.bind q1.2)).imp fun y h2 p2 H2 c2 e2 q2' u c2' r2 => by
      have q2 : Aft X.K X.mg W p2 H2 (M.then (ofO (rangeD [x.1, y.1])) newL h2) (fun x _ p' H' => ∀ v, RepF X.K X.mg H' p' x.1 x.2 v → Q v H') := q2' p2 H2 c2' (Ext.refl _ _) p2 H2 c2' (Ext.refl _ _)
      have q3 := Aft.bind q2
      unfold rangeD at q3
      split at q3
      · rename_i j hj
        simp at hj
      · rename_i i j hj
        split at q3
        · rename_i hb
          have hx : x.1 = .int i ∧ y.1 = .int j := by simpa using hj
          rw [hx.1] at r1
          rw [hx.2] at r2
          simp only [Rep] at r1 r2
          have q4 : End X.K X.mg W p2 H2 (newL (rangeL i j) h2) Q := q3 p2 H2 c2' (Ext.refl _ _)
          obtain ⟨z, qn⟩ := end_newL q4 c2' (rgV_rep i j)
          rw [rgV_length, sizeLine_eq] at z
          exact ⟨i, j, r1, r2, ⟨hb.1, hb.2.1, hb.2.2.1, hb.2.2.2, by omega⟩, qn⟩
        · exact q3.elim
      · exact q3.elim⟩⟩

/-! ### methods -/
def rMeth (K : PySem.W.Frag) (mg : Str → Option Value) (W : XK) (m : Me) : V → List V → Hp → VK → Prop := fun x xs H Q => ∃ p h d ds, CH K mg H p h ∧ Rep K mg H p d x ∧ RepL K mg H p ds xs ∧ End K mg W p H (methD m d ds h) Q
theorem put_end {p : Mp} {h : LH} {H : Hp} {l : Nat} {a : Addr} {xs ds : List D} {us vs : List V} {d : D} {v : V} {Q : VK} (c : CH X.K X.mg H p h) (ho : h[l]? = some (.lst xs)) (hm : p.m l = some a) (hu : H a = some (.lst us)) (r : RepL X.K X.mg H p ds vs)
    (rd : Rep X.K X.mg H p d v) (q : End X.K X.mg W p H (M.then (putL l ds) (fun _ => val d) h) Q) : vs.length ≤ sizeLine ∧ Q v (upd H a (.lst vs)) := by
  have q1 := Aft.bind q
  unfold putL at q1
  split at q1
  · rename_i hz
    simp only [Bool.and_eq_true, decide_eq_true_eq] at hz
    obtain ⟨c2, e2⟩ := c.put ho hm hu r hz.1
    exact ⟨by rw [← r.len]; exact hz.2, end_val (q1 p _ c2 e2) c2 (Rep.ext e2 _ _ rd)⟩
  · exact q1.elim
theorem repL_erase {K : PySem.W.Frag} {mg : Str → Option Value} {H : Hp} {p : Mp} : ∀ {ds : List D} {vs : List V} (i : Nat), RepL K mg H p ds vs → RepL K mg H p (ds.eraseIdx i) (vs.eraseIdx i)
  | [], vs, i, r => by simp only [RepL] at r; subst r; simp [RepL]
  | d :: ds, vs, 0, r => by
    simp only [RepL] at r
    obtain ⟨v, t, rfl, _, h2⟩ := r
    exact h2
  | d :: ds, vs, i + 1, r => by
    simp only [RepL] at r
    obtain ⟨v, t, rfl, h1, h2⟩ := r
    exact repL_cons h1 (repL_erase i h2)
theorem repL_dropLast {K : PySem.W.Frag} {mg : Str → Option Value} {H : Hp} {p : Mp} {ds : List D} {vs : List V} (r : RepL K mg H p ds vs) : RepL K mg H p ds.dropLast vs.dropLast := by
  rw [List.dropLast_eq_take, List.dropLast_eq_take, r.len]
  exact r.take _
theorem mt_appendD : MtM X "list.append" (rMeth X.K X.mg W .append) := by
  intro pins s σ H x xs v us Q I rx rv ⟨p, h, d, ds, c, r, rs, q⟩
  unfold methD at q
  split at q <;> first | (rename_i hm; cases hm; done) | skip
  · rename_i l y
    split at q
    · rename_i zs ho
      obtain ⟨a, ws, rfl, hm, hu, rw1⟩ := rep_cell c r ho
      obtain ⟨w, rfl, r1⟩ := repL1 rs
      obtain ⟨z, q2⟩ := put_end c ho hm hu (rw1.app (RepL.one r1)) (by simp [Rep] : Rep X.K X.mg H p .non .non) q
      refine mt_append pins s σ H _ _ v us Q I rx rv ⟨a, ws, w, rfl, rfl, hu, ?_, q2⟩
      simp at z
      omega
    · exact q.elim
  · exact q.elim
theorem mt_extendD : MtM X "list.extend" (rMeth X.K X.mg W .extend) := by
  intro pins s σ H x xs v us Q I rx rv ⟨p, h, d, ds, c, r, rs, q⟩
  unfold methD at q
  split at q <;> first | (rename_i hm; cases hm; done) | skip
  · rename_i l ys
    split at q
    · rename_i zs ho
      obtain ⟨a, ws, rfl, hm, hu, rw1⟩ := rep_cell c r ho
      obtain ⟨w, rfl, r1⟩ := repL1 rs
      simp only [Rep] at r1
      obtain ⟨b, vs, rfl, s1, l1⟩ := r1
      obtain ⟨z, q2⟩ := put_end c ho hm hu (rw1.app l1) (by simp [Rep] : Rep X.K X.mg H p .non .non) q
      exact mt_extend pins s σ H _ _ v us Q I rx rv ⟨a, b, ws, vs, rfl, rfl, hu, s1.1, by simpa using z, q2⟩
    · exact q.elim
  · exact q.elim
theorem mt_popD : MtM X "list.pop" (fun x xs H Q => ∃ p h d i, CH X.K X.mg H p h ∧ Rep X.K X.mg H p d x ∧ RepL X.K X.mg H p [i] xs ∧ End X.K X.mg W p H (methD .pop d [i] h) Q) := by
  intro pins s σ H x xs v us Q I rx rv ⟨p, h, d, i, c, r, rs, q⟩
  cases d <;> cases i <;> first | exact False.elim q | skip
  rename_i l j
  have q : End X.K X.mg W p H (match h[l]? with
    | some (.lst xs) => match decide (0 ≤ j ∧ j < xs.length ∧ xs.length ≤ sizeLine), xs[j.toNat]? with
      | true, some d => M.then (putL l (xs.eraseIdx j.toNat)) (fun _ => val d) h
      | _, _ => .no
    | _ => .no) Q := q
  split at q
  · rename_i zs ho
    split at q
    · rename_i dd hz hd
      simp only [decide_eq_true_eq] at hz
      obtain ⟨a, ws, rfl, hm, hu, rw1⟩ := rep_cell c r ho
      obtain ⟨w, rfl, r1⟩ := repL1 rs
      simp only [Rep] at r1
      subst r1
      obtain ⟨y, hy, ry⟩ := rw1.get hd
      have hl := rw1.len
      obtain ⟨z, q2⟩ := put_end c ho hm hu (repL_erase j.toNat rw1) ry q
      refine mt_popAt pins s σ H _ _ v us Q I rx rv ⟨a, ws, j, j.toNat, y, rfl, rfl, hu, by omega, by rw [sizeLine_eq] at hz; omega, ?_, hy, q2⟩
      exact seqIndex_of hz.1 (by omega)
    · exact q.elim
  · exact q.elim
theorem idx_py {x : D} {px : PyData} (ex : toPy x = some px) : ∀ (ys : List D) (ds : List PyData) (k : Nat), toPyL ys = some ds → idxOf x ys = some k → ∃ z, ds[k]? = some z ∧ PyData.eqv z px = true ∧ ∀ (m : Nat) (z' : PyData), m < k → ds[m]? = some z' → PyData.eqv z' px = false
  | [], _, _, _, e => by simp [idxOf] at e
  | y :: ys, ds, k, e1, e => by
    simp only [toPyL] at e1
    split at e1
    · rename_i d es f1 f2
      cases e1
      simp only [idxOf] at e
      have hy := eqD_py y x d px f1 ex
      split at e
      · rename_i ht
        cases e
        exact ⟨d, rfl, by rw [hy]; exact ht, fun m z' hm => absurd hm (Nat.not_lt_zero _)⟩
      · rename_i hf
        simp only [Option.map_eq_some_iff] at e
        obtain ⟨j, ej, rfl⟩ := e
        obtain ⟨z, h1, h2, h3⟩ := idx_py ex ys es j f2 ej
        refine ⟨z, by simpa using h1, h2, fun m z' hm hz => ?_⟩
        cases m with
        | zero => simp at hz; subst hz; rw [hy]; simpa using hf
        | succ m => exact h3 m z' (by omega) (by simpa using hz)
    · cases e1
theorem mt_indexL (hu : X.A.units + 65 < cLine) : MtR X "list.index" (fun x xs H Q => ∃ p h d y ys, CH X.K X.mg H p h ∧ Rep X.K X.mg H p d x ∧ der h d = .lst ys ∧ RepL X.K X.mg H p [y] xs ∧ End X.K X.mg W p H (methD .index d [y] h) Q) := by
  intro pins s σ H x xs v us Q I rx rv ⟨p, h, d, y, ys, c, r, hd, rs, q⟩
  have q' : End X.K X.mg W p H (match plain 30 y && plainL 30 ys, idxOf y ys with
      | true, some k => val (.int k) h
      | _, _ => .no) Q := by
    cases d <;> simp only [methD, hd] at q <;> first | exact q | (simp [methD, hd] at q; exact q)
  split at q'
  · rename_i k hz hk
    rw [Bool.and_eq_true] at hz
    obtain ⟨a, ws, rfl, s1, l1⟩ := rep_lst c r hd
    obtain ⟨w, rfl, r1⟩ := repL1 rs
    obtain ⟨x1, e1, sh1⟩ := shaped_of (by decide) hz.1
    obtain ⟨ds, e2, sh2, _⟩ := shapedL_of (by decide) hz.2
    obtain ⟨z, g1, g2, g3⟩ := idx_py e1 ys ds k e2 hk
    exact mt_indexD hu pins s σ H _ _ v us Q I rx rv ⟨a, w, x1, ds, k, z, rfl, rfl, .lst s1 (rep_dpL ys ws ds l1 e2), rep_dp y w x1 r1 e1, sh2, sh1, g1, g2, g3, end_val q' c (by simp [Rep])⟩
  · exact q'.elim
theorem mt_indexT (hu : X.A.units + 65 < cLine) : MtR X "tuple.index" (fun x xs H Q => ∃ p h d y ys, CH X.K X.mg H p h ∧ Rep X.K X.mg H p d x ∧ der h d = .tup ys ∧ RepL X.K X.mg H p [y] xs ∧ End X.K X.mg W p H (methD .index d [y] h) Q) := by
  intro pins s σ H x xs v us Q I rx rv ⟨p, h, d, y, ys, c, r, hd, rs, q⟩
  have q' : End X.K X.mg W p H (match plain 30 y && plainL 30 ys, idxOf y ys with
      | true, some k => val (.int k) h
      | _, _ => .no) Q := by
    cases d <;> simp only [methD, hd] at q <;> first | exact q | (simp [methD, hd] at q; exact q)
  split at q'
  · rename_i k hz hk
    rw [Bool.and_eq_true] at hz
    obtain ⟨a, ws, rfl, s1, l1⟩ := rep_tup r hd
    obtain ⟨w, rfl, r1⟩ := repL1 rs
    obtain ⟨x1, e1, sh1⟩ := shaped_of (by decide) hz.1
    obtain ⟨ds, e2, _, sh2⟩ := shapedL_of (by decide) hz.2
    obtain ⟨z, g1, g2, g3⟩ := idx_py e1 ys ds k e2 hk
    cases rx
    obtain ⟨uy, rfl, ry⟩ := vals1 rv
    obtain ⟨bs, rd⟩ := Dp.reads I x1 w uy (rep_dp y w x1 r1 e1) ry
    obtain ⟨its, rv', ⟨⟨cls, dd, data, sls⟩, ho, hc, n, hdt⟩, hlen⟩ := I.tuple s1.sq
    simp only at hc hdt
    subst hc hdt
    obtain ⟨as, h4⟩ := Dp.readsAll I ds _ its (rep_dpL ys ws ds l1 e2) rv'
    have hxs : PyData.canLayAll0 ds = true := by have := SeqAt.canLay_of_shaped sh2; simpa [PyData.canLay0] using this
    have hn : its.length = ds.length := SeqAt.ReadsAll.length ds its as h4
    have hmap : its.map (SeqAt.readOf s.heap) = ds := SeqAt.readsAll_map ds its as hxs h4
    have hj : k < its.toArray.size := by
      have := (List.getElem?_eq_some_iff.mp g1).1
      simp; omega
    have at_ : ∀ (m : Nat) (hm : m < its.toArray.size) (z' : PyData), ds[m]? = some z' → SeqAt.readOf s.heap its.toArray[m] = z' := by
      intro m hm z' hz'
      have hml : m < its.length := by simpa using hm
      rw [← hmap, List.getElem?_map, List.getElem?_eq_getElem hml] at hz'
      have e1 : SeqAt.readOf s.heap its[m] = z' := Option.some.inj hz'
      simpa using e1
    refine call_meets PySem.F.slot_tuple_index ⟨_, ho, rfl⟩ PySem.F.entry_tuple_index (PySem.F.args_tuple_index_2 _ _)
      (TI.tuple_indexAt a its.toArray n dd sls uy (fun u => PyData.eqv (SeqAt.readOf s.heap u) x1) k hj ?_ ?_) ⟨ho, SeqAt.items_eqAt (vs := its.toArray) (by simpa using h4) rd hxs (SeqAt.canLay_of_shaped sh1) (room_in_shaped sh1 hu), ?_⟩
    · show PyData.eqv (SeqAt.readOf s.heap its.toArray[k]) x1 = true
      rw [at_ k hj z g1]
      exact g2
    · intro m hm hmj
      have hmd : m < ds.length := by have : m < its.length := by simpa using hm
                                     omega
      have hz' : ds[m]? = some ds[m] := List.getElem?_eq_getElem hmd
      show PyData.eqv (SeqAt.readOf s.heap its.toArray[m]) x1 = false
      rw [at_ m hm _ hz']
      exact g3 m _ hmj hz'
    · exact ⟨.int (k : Nat), H, I.tok _, ⟨_, rfl⟩, end_val q' c (by simp [Rep])⟩
  · exact q'.elim
end
end Fz

set_option Elab.async false
set_option linter.all false
set_option maxRecDepth 100000
set_option maxHeartbeats 1000000
/-! Fz, part H: methods asked, own defs called. -/
namespace Fz
open PySem PySem.Spec PyProof.Rows L2
section
variable {X : Cx} {W : XK} {e a b c o : Expr} {es : List Expr} {pos apos cpos : Pos} {fa fb fc fo : Env → M DF} {fl : Env → M (List D)}
theorem few_of {e : Expr} {es : List Expr} {env : PySem.Env} {pos : Pos} (ns : (e :: es).all noStar = true) (hl : es.length < 20) :
    ((backTo pos (starEach (e :: es) env)).all (fun x => !x.1) && (backToKw pos (keywordEach [] env)).all (fun x => x.1.isSome)
      && decide ((e :: es).length + ([] : List Keyword).length + (if ([] : List Keyword).isEmpty then 0 else 1) < 30)) = true := by
  have h1 : (backTo pos (starEach (e :: es) env)).all (fun x => !x.1) = true := by
    have := star_any ns pos env
    rw [List.all_eq_not_any_not]
    simp only [Bool.not_not]
    rw [this]; rfl
  rw [h1]
  simp [backToKw, keywordEach]
  omega
theorem tyL {p : Mp} {h : LH} {H : Hp} {d : D} {v : V} {ys : List D} (c : CH X.K X.mg H p h) (r : Rep X.K X.mg H p d v) (e : der h d = .lst ys) : tyV X.K "list" v H := by
  obtain ⟨a, vs, rfl, s1, _⟩ := rep_lst c r e
  exact .inl ⟨rfl, vs, s1⟩
def mn : Me → Str
  | .append => "append" | .extend => "extend" | .pop => "pop" | .index => "index"
/-- methods that lists alone have here: append, extend, pop -/
theorem s_methL {m : Me} {id : String} (hm : m ≠ .index) (slot : Slot "list" (mn m) id) (hty : typeOf (.builtin id) = pure (.type "method_descriptor")) (mt : MtR X id (rMeth X.K X.mg W m))
    (ns : (e :: es).all noStar = true) (hl : es.length < 20) (hbase : attributeBase o (mn m) X.env (eval o X.env) = eval o X.env) (hline : (apos.endLine == cpos.line) = true)
    (ho : PE X o (tE X.K X.mg W fo)) (ha : PA X (e :: es) (tA X.K X.mg W fl)) :
    PE X (.Call (.Attribute o (mn m) apos) (e :: es) [] cpos) (tE X.K X.mg W fun env => M.then (fo env) fun x => fun h => match recv m (der h x.1) with
      | true => M.then (fl env) (fun ds => methD m x.1 ds) h
      | false => .no) := by
  have ns2 := ns
  simp only [List.all_cons, Bool.and_eq_true] at ns2
  refine PE.imp (pe_bm PySem.F.plainAttrs_list slot hty mt (PE.z ho) ha hbase (few_of ns hl) hline (star_cons ns2.1 es _) (star_any ns2.2 _ _)) fun σ H Q ⟨p, h, env, k, q⟩ =>
    ⟨p, h, env, k, (Aft.z q k.2).imp fun x h1 p1 H1 c1 e1 q1 v c1' r1 => ?_⟩
  obtain ⟨k1, q1⟩ := q1
  have q1 := q1
  cases rv : recv m (der h1 x.1) with
  | false => rw [rv] at q1; exact q1.elim
  | true =>
    rw [rv] at q1
    cases dd : der h1 x.1 with
    | lst ys =>
      exact ⟨tyL c1' r1 dd, p1, h1, env, ⟨c1', k1.2⟩, (Aft.bind q1).imp fun ds h2 p2 H2 c2 e2 q2 vs c2' r2 => ⟨p2, h2, x.1, ds, c2', Rep.ext e2 _ _ r1, r2, q2⟩⟩
    | _ => rw [dd] at rv; cases m <;> first | (simp [recv] at rv; done) | exact absurd rfl hm
theorem s_append (ns : (e :: es).all noStar = true) (hl : es.length < 20) (hbase : attributeBase o "append" X.env (eval o X.env) = eval o X.env) (hline : (apos.endLine == cpos.line) = true)
    (ho : PE X o (tE X.K X.mg W fo)) (ha : PA X (e :: es) (tA X.K X.mg W fl)) :
    PE X (.Call (.Attribute o "append" apos) (e :: es) [] cpos) (tE X.K X.mg W fun env => M.then (fo env) fun x => fun h => match recv .append (der h x.1) with
      | true => M.then (fl env) (fun ds => methD .append x.1 ds) h
      | false => .no) := s_methL (m := .append) (fun z => nomatch z) PySem.F.slot_list_append PySem.F.type_list_append mt_appendD ns hl hbase hline ho ha
theorem s_extend (ns : (e :: es).all noStar = true) (hl : es.length < 20) (hbase : attributeBase o "extend" X.env (eval o X.env) = eval o X.env) (hline : (apos.endLine == cpos.line) = true)
    (ho : PE X o (tE X.K X.mg W fo)) (ha : PA X (e :: es) (tA X.K X.mg W fl)) :
    PE X (.Call (.Attribute o "extend" apos) (e :: es) [] cpos) (tE X.K X.mg W fun env => M.then (fo env) fun x => fun h => match recv .extend (der h x.1) with
      | true => M.then (fl env) (fun ds => methD .extend x.1 ds) h
      | false => .no) := s_methL (m := .extend) (fun z => nomatch z) PySem.F.slot_list_extend PySem.F.type_list_extend mt_extendD ns hl hbase hline ho ha
/-- pop(i) -/
theorem s_pop (ns : noStar e = true) (hbase : attributeBase o "pop" X.env (eval o X.env) = eval o X.env) (hline : (apos.endLine == cpos.line) = true)
    (ho : PE X o (tE X.K X.mg W fo)) (ha : PA X [e] (tA X.K X.mg W fun env => M.then (fa env) fun x => M.then (M.ret []) fun ys => M.ret (x.1 :: ys))) :
    PE X (.Call (.Attribute o "pop" apos) [e] [] cpos) (tE X.K X.mg W fun env => M.then (fo env) fun x => fun h => match recv .pop (der h x.1) with
      | true => M.then (M.then (fa env) fun x => M.then (M.ret []) fun ys => M.ret (x.1 :: ys)) (fun ds => methD .pop x.1 ds) h
      | false => .no) := by
  refine PE.imp (pe_bm PySem.F.plainAttrs_list PySem.F.slot_list_pop PySem.F.type_list_pop (mt_popD (W := W)) (PE.z ho) ha hbase (few_of (by simpa using ns) (by decide)) hline (star_cons ns _ _) rfl) fun σ H Q ⟨p, h, env, k, q⟩ =>
    ⟨p, h, env, k, (Aft.z q k.2).imp fun x h1 p1 H1 c1 e1 q1 v c1' r1 => ?_⟩
  obtain ⟨k1, q1⟩ := q1
  have q1 := q1
  cases rv : recv .pop (der h1 x.1) with
  | false => rw [rv] at q1; exact q1.elim
  | true =>
    rw [rv] at q1
    cases dd : der h1 x.1 with
    | lst ys =>
      refine ⟨tyL c1' r1 dd, p1, h1, env, ⟨c1', k1.2⟩, (Aft.bind q1).impE fun ds h2 p2 H2 er c2 e2 q2 vs c2' r2 => ?_⟩
      -- one argument, one value
      have one : ∃ i, ds = [i] := by
        simp only [M.then, Res.next] at er
        cases f : fa env h1 with
        | ok y h3 =>
          rw [f] at er
          cases er
          exact ⟨y.1, rfl⟩
        | exc _ _ _ => rw [f] at er; cases er
        | no => rw [f] at er; cases er
      obtain ⟨i, rfl⟩ := one
      exact ⟨p2, h2, x.1, i, c2', Rep.ext e2 _ _ r1, r2, q2⟩
    | _ => rw [dd] at rv; simp [recv] at rv

/-- index: of a list, of a tuple -/
theorem pe_bmT {id : String} {r : V → List V → Hp → VK → Prop} {name : Str} {to : TE} {t : TA} (slot : Slot "tuple" name id) (hty : typeOf (.builtin id) = pure (.type "method_descriptor")) (hm : MtR X id r) (ho : PE X o to) (ha : PA X (e :: es) t)
    (hbase : attributeBase o name X.env (eval o X.env) = eval o X.env) (ns : (e :: es).all noStar = true) (hl : es.length < 20) (hline : (apos.endLine == cpos.line) = true) :
    PE X (.Call (.Attribute o name apos) (e :: es) [] cpos) (fun σ H Q => to σ H fun x H1 => (∃ a xs, x = .ref a ∧ TupAt H1 a xs) ∧ t σ H1 fun xs H2 => r x xs H2 Q) := by
  have ns2 := ns
  simp only [List.all_cons, Bool.and_eq_true] at ns2
  refine ⟨fun pins s σ H Q I h => ?_⟩
  refine wpAny_Call_method_late hbase (few_of ns hl) hline rfl (thn (ho.run pins s σ H _ I h) fun v s1 ⟨x, H1, I1, r1, ⟨a, xs, ex, hT⟩, q1⟩ => ?_)
  subst ex
  cases r1
  obtain ⟨ob, hf, hd⟩ := hT
  obtain ⟨g1, _, _, _, ob', g2, g3, g4⟩ := I1.hok a _ hf
  refine ⟨"tuple", id, PySem.F.plainAttrs_tuple, slot, hty, ⟨ob', g2, g3⟩, fun b e => ?_, ?_⟩
  · cases e
    exact ⟨ob, g1, hd⟩
  · have hA := ha.run cpos pins s1 σ H1 _ I1 q1
    rw [star_cons ns2.1] at hA ⊢
    refine Calls.callWith_builtin (by show (false || (backTo cpos (starEach es X.env)).any (·.1)) = false; rw [star_any ns2.2] <;> rfl) (Calls.evalArgs_plain ?_)
    exact thn hA fun us s2 ⟨vs, H2, I2, r2, q2⟩ => hm pins s2 σ H2 (.ref a) vs (.ref a) us Q I2 rfl r2 q2
theorem s_index (hu : X.A.units + 65 < cLine) (ns : noStar e = true) (hbase : attributeBase o "index" X.env (eval o X.env) = eval o X.env) (hline : (apos.endLine == cpos.line) = true)
    (ho : PE X o (tE X.K X.mg W fo)) (ha : PA X [e] (tA X.K X.mg W fun env => M.then (fa env) fun x => M.then (M.ret []) fun ys => M.ret (x.1 :: ys))) :
    PE X (.Call (.Attribute o "index" apos) [e] [] cpos) (tE X.K X.mg W fun env => M.then (fo env) fun x => fun h => match recv .index (der h x.1) with
      | true => M.then (M.then (fa env) fun x => M.then (M.ret []) fun ys => M.ret (x.1 :: ys)) (fun ds => methD .index x.1 ds) h
      | false => .no) := by
  refine ⟨fun pins s σ H Q I hq => ?_⟩
  obtain ⟨p, h, env, k, q⟩ := hq
  have one : ∀ {h1 h2 : LH} {ds : List D}, (M.then (fa env) fun x => M.then (M.ret []) fun ys => M.ret (x.1 :: ys)) h1 = .ok ds h2 → ∃ i, ds = [i] := by
    intro h1 h2 ds er
    simp only [M.then, Res.next] at er
    cases f : fa env h1 with
    | ok y h3 =>
      rw [f] at er
      cases er
      exact ⟨y.1, rfl⟩
    | exc _ _ _ => rw [f] at er; cases er
    | no => rw [f] at er; cases er
  -- what it is asked of says which one it is
  cases f : fo env h with
  | no => simp only [M.then, Res.next, f] at q; exact q.elim
  | exc cc xs h1 =>
    refine (PE.imp (pe_bm PySem.F.plainAttrs_list PySem.F.slot_list_index PySem.F.type_list_index (mt_indexL (W := W) hu) (PE.z ho) ha hbase (few_of (by simpa using ns) (by decide)) hline (star_cons ns _ _) rfl)
      (t' := tBM X.K "list" _ (tZ X.K X.mg W fo) _) fun _ _ _ z => z).run pins s σ H Q I ⟨p, h, env, k, ?_⟩
    have q' := Aft.bind q
    rw [f] at q' ⊢
    exact q'
  | ok x h1 =>
    have q' := Aft.z q k.2
    rw [f] at q'
    cases dd : der h1 x.1 with
    | lst ys =>
      refine (pe_bm PySem.F.plainAttrs_list PySem.F.slot_list_index PySem.F.type_list_index (mt_indexL (W := W) hu) (PE.z ho) ha hbase (few_of (by simpa using ns) (by decide)) hline (star_cons ns _ _) rfl).run pins s σ H Q I ⟨p, h, env, k, ?_⟩
      rw [f]
      refine Aft.impE q' fun x' h1' p1 H1 ex c1 e1 q1 v c1' r1 => ?_
      cases ex
      obtain ⟨k1, q1⟩ := q1
      rw [dd] at q1
      refine ⟨tyL c1' r1 dd, p1, h1, env, ⟨c1', k1.2⟩, (Aft.bind q1).impE fun ds h2 p2 H2 er c2 e2 q2 vs c2' r2 => ?_⟩
      obtain ⟨i, rfl⟩ := one er
      cases d2 : der h2 x.1 with
      | lst zs => exact ⟨p2, h2, x.1, i, zs, c2', Rep.ext e2 _ _ r1, d2, r2, q2⟩
      | _ =>
        exfalso
        obtain ⟨x1, x2⟩ := x
        cases x1 <;> simp only [methD, d2] at q2 <;> first
          | exact q2
          | (simp only [der] at dd d2; rw [d2] at dd; cases dd)
          | (simp only [der] at dd d2; cases dd; done)
          | (simp only [der] at dd d2; split at d2 <;> cases d2; done)
    | tup ys =>
      refine (pe_bmT PySem.F.slot_tuple_index PySem.F.type_tuple_index (mt_indexT (W := W) hu) (PE.z ho) ha hbase (by simpa using ns) (by decide) hline).run pins s σ H Q I ⟨p, h, env, k, ?_⟩
      rw [f]
      refine Aft.impE q' fun x' h1' p1 H1 ex c1 e1 q1 v c1' r1 => ?_
      cases ex
      obtain ⟨k1, q1⟩ := q1
      rw [dd] at q1
      obtain ⟨a, ws, rfl, s1, _⟩ := rep_tup r1 dd
      refine ⟨⟨a, ws, rfl, s1⟩, p1, h1, env, ⟨c1', k1.2⟩, (Aft.bind q1).impE fun ds h2 p2 H2 er c2 e2 q2 vs c2' r2 => ?_⟩
      obtain ⟨i, rfl⟩ := one er
      have d2 : der h2 x.1 = .tup ys := by
        obtain ⟨x1, x2⟩ := x
        cases x1 <;> simp only [der] at dd ⊢ <;> first | exact dd | cases dd | (split at dd <;> cases dd)
      exact ⟨p2, h2, x.1, i, ys, c2', Rep.ext e2 _ _ r1, d2, r2, q2⟩
    | _ =>
      refine (pe_bm PySem.F.plainAttrs_list PySem.F.slot_list_index PySem.F.type_list_index (mt_indexL (W := W) hu) (PE.z ho) ha hbase (few_of (by simpa using ns) (by decide)) hline (star_cons ns _ _) rfl).run pins s σ H Q I ⟨p, h, env, k, ?_⟩
      rw [f]
      refine Aft.impE q' fun x' h1' p1 H1 ex c1 e1 q1 v c1' r1 => ?_
      cases ex
      obtain ⟨k1, q1⟩ := q1
      rw [dd] at q1
      exact q1.elim
end
end Fz

set_option Elab.async false
set_option linter.all false
set_option maxRecDepth 100000
set_option maxHeartbeats 1000000
/-! Fz, part I: defs of the module and their calls. -/
namespace Fz
open PySem PySem.Spec PyProof.Rows L2
/-- a def keeps its promise wherever no guard is set -/
structure FnG (P : Program) (w : World) (K : PySem.W.Frag) (mg : Str → Option Value) (base : Heap) (k : Nat) (f : Addr) (fd : FuncData) (ps : List Str) (sp : Sp) : Prop where
  len : ∀ vs H Q E, sp vs H Q E → vs.length = ps.length
  run : ∀ (A : Around) (outer : List PySem.Env) (s : Shared) (H : Hp) (args : Args) (us : List Value) (vs : List V) (Q : VK) (E : XK), Room k A → A.guards = some [] → Env0 P w K mg base A outer s H → BindsTo s fd args (ps.zip us) → Vals vs us → sp vs H Q E →
    codeAny (model P w) A (.call (.ref f) args) (CR (L2.CX P w) outer P w H s Q E) s
/-- what a def is worth -/
def spF (K : PySem.W.Frag) (mg : Str → Option Value) (n : Nat) (f : List D → M DF) : Sp := fun vs H Q E => vs.length = n ∧ ∃ p h ds, CH K mg H p h ∧ RepL K mg H p ds vs ∧ Aft K mg E p H (f ds h) fun z _ p' H' => ∀ v, RepF K mg H' p' z.1 z.2 v → Q v H'
/-- exceptions reach what is wanted of them -/
def TakesW (X : Cx) (W : XK) : Prop := Takes X fun c d _ H => W c d H
theorem takesF {X : Cx} : TakesW X (fun _ _ _ => False) := takes0
/-- calls by name alone: the def, the names as they are written, their places by the parameters -/
abbrev KwT := List (Str × List Str × List Nat)
def KwB (kw : KwT) (x : Str) (fd : FuncData) (ps : List Str) : Prop := ∀ ks js, (x, ks, js) ∈ kw → ∀ us us' : List Value, us.length = ks.length → pick js us = some us' → us'.length = ps.length ∧ bindArgs fd ⟨[], ks.zip us⟩ = pure (ps.zip us')
structure Own (X : Cx) (k : Nat) (Φ : Str → List D → M DF) (ar : Str → Nat) (kw : KwT) (x : Str) : Prop where
  ex : ∃ f fd ps, X.mg x = some (.ref f) ∧ PySem.W.keepIn X.K (.ref f) = true ∧ L2.Binds X.K fd ps [] ∧ ps.length = ar x ∧ FnG X.prog X.w X.K X.mg X.base k f fd ps (spF X.K X.mg (ar x) (Φ x)) ∧ KwB kw x fd ps
section
variable {X : Cx} {W : XK} {k n : Nat} {f : Addr} {fd : FuncData} {ps ks : List Str} {sp : Sp} {ds : List Value} {dvs : List V}
theorem backG {pins : List (Addr × Obj)} {σ : L2.St} {H : Hp} {s : Shared} {Q : VK} {args : Args} (tk : TakesW X W) (I : Inv X pins σ H s)
    (h : codeAny (model X.prog X.w) X.A (.call (.ref f) args) (CR (L2.CX X.prog X.w) X.stack X.prog X.w H s Q W) s) : wpAny (model X.prog X.w) X.A (call (.ref f) args.pos args.kw) (EP X pins σ Q) X.xe s := by
  refine wpAny_call (codeAny_mono h fun r s' hq => ?_)
  cases r with
  | error e => exact passes_call tk (fun _ _ _ _ z => z) pins σ H s e s' I hq
  | ok fl =>
    cases fl with
    | ret u => exact I.after hq
    | next => exact False.elim hq
    | brk => exact False.elim hq
    | cont => exact False.elim hq
variable {Φ : Str → List D → M DF} {ar : Str → Nat} {kw : KwT} {x : Str} {p0 pos : Pos} {e : Expr} {es : List Expr} {kws : List Keyword} {fl fk : Env → M (List D)}
theorem s_call (own : Own X k Φ ar kw x) (hr : Room k X.A) (hg : X.A.guards = some []) (tk : TakesW X W) (hgl : Gl X x) (hdb : (x == ("__debug__" : Str)) = false) (ns : (e :: es).all noStar = true) (hl : (e :: es).length = ar x) (ha : PA X (e :: es) (tA X.K X.mg W fl))
    (hlen : ∀ env h ds h', fl env h = .ok ds h' → ds.length = (e :: es).length) :
    PE X (.Call (.Name x p0) (e :: es) [] pos) (tE X.K X.mg W fun env => M.then (fl env) fun ds => Φ x ds) := by
  obtain ⟨f, fd, ps, hm, hk, hb, hps, F, _⟩ := own.ex
  have ns2 := ns
  simp only [List.all_cons, Bool.and_eq_true] at ns2
  refine ⟨fun pins s σ H Q I hq => ?_⟩
  obtain ⟨p, h, env, kn, q⟩ := hq
  refine wpAny_Call_Name_kw (ld_glob I hgl hm ?_ hdb)
  refine PySem.W.callWith_K (h₀ := X.base) I.ok.mod.kin hk (thn (ha.run pos pins s σ H (fun vs H1 => spF X.K X.mg (ar x) (Φ x) vs H1 Q W) I ⟨p, h, env, kn, (Aft.bind q).impE fun ds h1 p1 H1 er c1 e1 q1 vs c1' r1 => ⟨?_, p1, h1, ds, c1', r1, q1⟩⟩) fun us s1 ⟨vs, H1, I1, r, q⟩ => ⟨I1.kIn, ?_⟩) (star_cons ns2.1 es _) (star_any ns2.2 _ _)
  · rw [← r1.len, hlen _ _ _ _ er, hl]
  · have hu : us.length = ps.length := by rw [← r.length, q.1, hps]
    have hbt := hb s1 us I1.kIn (by simpa using hu)
    simp only [List.append_nil] at hbt
    exact backG (args := ⟨us, []⟩) tk I1 (F.run X.A X.stack s1 H1 ⟨us, []⟩ us vs Q W hr hg I1.env0 hbt r q)

/-! ### calls with keywords -/
theorem PK.imp {t t' : TA} (h : PK X kws t) (i : ∀ σ H Q, t' σ H Q → t σ H Q) : PK X kws t' := ⟨fun pos pins s σ H Q I q => h.run pos pins s σ H Q I (i σ H Q q)⟩
theorem s_knil : PK X [] (tA X.K X.mg W fun _ => M.ret []) := PK.imp pk_nil fun σ H Q ⟨p, h, env, k, q⟩ => q p H k.1 (Ext.refl _ _) [] k.1 repL_nil
theorem s_kcons {nm : Option Str} {kpos : Pos} {fa : Env → M DF} (he : PE X e (tE X.K X.mg W fa)) (hes : PK X kws (tA X.K X.mg W fl)) : PK X (⟨nm, e, kpos⟩ :: kws) (tA X.K X.mg W fun env => M.then (fa env) fun x => M.then (fl env) fun ys => M.ret (x.1 :: ys)) :=
  PK.imp (pk_cons (PE.z he) hes) fun σ H Q ⟨p, h, env, k, q⟩ => ⟨p, h, env, k, (Aft.z q k.2).imp fun x h1 p1 H1 c1 e1 q1 v c1' r1 =>
    ⟨p1, h1, env, ⟨c1', q1.1.2⟩, (Aft.bind q1.2).imp fun ys h2 p2 H2 c2 e2 q2 vs c2' r2 => q2 p2 H2 c2' (Ext.refl _ _) (v :: vs) c2' (repL_cons (Rep.ext e2 _ _ r1) r2)⟩⟩
theorem pick_rep {K : PySem.W.Frag} {mg : Str → Option Value} {H : Hp} {p : Mp} {ds : List D} {vs : List V} (r : RepL K mg H p ds vs) : ∀ {js : List Nat} {ds' : List D}, pick js ds = some ds' → ∃ vs', pick js vs = some vs' ∧ RepL K mg H p ds' vs'
  | [], ds', h => by
    cases h
    exact ⟨[], rfl, repL_nil⟩
  | j :: js, ds', h => by
    unfold pick at h
    cases h1 : ds[j]? with
    | none => rw [h1] at h; cases h
    | some d =>
      cases h2 : pick js ds with
      | none => rw [h1, h2] at h; cases h
      | some q =>
        rw [h1, h2] at h
        cases h
        obtain ⟨v, hv, rv⟩ := r.get h1
        obtain ⟨vs', hvs, rvs⟩ := pick_rep r h2
        exact ⟨v :: vs', by unfold pick; rw [hv, hvs], repL_cons rv rvs⟩
theorem pick_vals {vs : List V} {us : List Value} (r : Vals vs us) : ∀ {js : List Nat} {vs' : List V}, pick js vs = some vs' → ∃ us', pick js us = some us' ∧ Vals vs' us'
  | [], vs', h => by
    cases h
    exact ⟨[], rfl, .nil⟩
  | j :: js, vs', h => by
    unfold pick at h
    cases h1 : vs[j]? with
    | none => rw [h1] at h; cases h
    | some d =>
      cases h2 : pick js vs with
      | none => rw [h1, h2] at h; cases h
      | some q =>
        rw [h1, h2] at h
        cases h
        obtain ⟨v, hv, rv⟩ := r.get h1
        obtain ⟨vs', hvs, rvs⟩ := pick_vals r h2
        exact ⟨v :: vs', by unfold pick; rw [hv, hvs], .cons rv rvs⟩
theorem pick_len {α : Type} {xs : List α} : ∀ {js : List Nat} {ys : List α}, pick js xs = some ys → ys.length = js.length
  | [], ys, h => by cases h; rfl
  | j :: js, ys, h => by
    unfold pick at h
    cases h1 : xs[j]? with
    | none => rw [h1] at h; cases h
    | some d =>
      cases h2 : pick js xs with
      | none => rw [h1, h2] at h; cases h
      | some q =>
        rw [h1, h2] at h
        cases h
        simp [pick_len h2]
theorem s_callk {js : List Nat} (own : Own X k Φ ar kw x) (hr : Room k X.A) (hg : X.A.guards = some []) (tk : TakesW X W) (hgl : Gl X x) (hdb : (x == ("__debug__" : Str)) = false) (hin : (x, ks, js) ∈ kw) (hjs : js.length = ar x)
    (hnm : ∀ pos, (backToKw pos (keywordEach kws X.env)).filterMap (·.1) = ks) (hall : ∀ pos, (backToKw pos (keywordEach kws X.env)).all (·.1.isSome) = true) (hpl : ∀ pos, (backToKw pos (keywordEach kws X.env)).any (·.1.isNone) = false) (ha : PK X kws (tA X.K X.mg W fl))
    (hlen : ∀ env h ds h', fl env h = .ok ds h' → ds.length = ks.length) :
    PE X (.Call (.Name x p0) [] kws pos) (tE X.K X.mg W fun env => M.then (fl env) fun us => M.then (ofO (pick js us)) fun ds => Φ x ds) := by
  obtain ⟨f, fd, ps, hm, hk, hb, hps, F, KB⟩ := own.ex
  refine ⟨fun pins s σ H Q I hq => ?_⟩
  obtain ⟨p, h, env, kn, q⟩ := hq
  refine wpAny_Call_Name_kw (ld_glob I hgl hm ?_ hdb)
  refine PySem.W.callWith_KW0 (h₀ := X.base) I.ok.mod.kin hk (hall pos) (thn (ha.run pos pins s σ H (fun vs H1 => vs.length = ks.length ∧ ∃ vs', pick js vs = some vs' ∧ spF X.K X.mg (ar x) (Φ x) vs' H1 Q W) I ⟨p, h, env, kn, (Aft.bind q).impE fun ds h1 p1 H1 er c1 e1 q1 vs c1' r1 => ?_⟩) fun us s1 ⟨vs, H1, I1, r, hl, vs', hp', q⟩ => ⟨I1.kIn, ?_⟩) (by show (false || _) = false; rw [hpl]; rfl)
  · refine ⟨by rw [← r1.len]; exact hlen _ _ _ _ er, ?_⟩
    cases hp : pick js ds with
    | none => simp only [M.then, hp] at q1; exact q1.elim
    | some ds' =>
      simp only [M.then, hp] at q1
      obtain ⟨vs', h3, h4⟩ := pick_rep r1 hp
      exact ⟨vs', h3, by rw [pick_len h3, hjs], p1, h1, ds', c1', h4, q1⟩
  · rw [hnm pos]
    obtain ⟨us', hu, ru⟩ := pick_vals r hp'
    obtain ⟨hl', hb'⟩ := KB ks js hin us us' (by rw [← r.length, hl]) hu
    exact backG (args := ⟨[], ks.zip us⟩) tk I1 (F.run X.A X.stack s1 H1 ⟨[], ks.zip us⟩ us' vs' Q W hr hg I1.env0 (.of_eq hb') ru q)
end
end Fz

set_option Elab.async false
set_option linter.all false
set_option maxRecDepth 100000
set_option maxHeartbeats 1000000
/-! Fz, part J: list comprehensions of any number of clauses. -/
namespace Fz
open PySem PySem.Spec PyProof.Rows L2
/-- what a turn runs where its tests hold: the next clause, or the element -/
def turnOf (elt : Expr) (gs : List Comprehension) (scope : Scope) (pos : Pos) (d : Nat) (acc : Value) (env : PySem.Env) : Sem Unit := match gs[d]? with
  | some g' => do
      let x ← eval g'.iter env
      standAt g'.iter.pos
      let x ← foldedSetIterable g'.iter env x
      let _ ← runOwn (.compStart (.ListComp elt gs scope pos) d (← holding [x] (pyIter x)) acc env) env
      pure ()
  | none => do let _ ← call (.builtin "list.append") [acc, ← eval elt env]
theorem compTurn_gs {elt t i : Expr} {gs : List Comprehension} {ifs : List Expr} {scope : Scope} {pos : Pos} {d : Nat} {it acc : Value} {env : PySem.Env} (h : gs[d]? = some ⟨t, i, ifs, 0⟩) (hn : ∀ g', gs[d + 1]? = some g' → g'.is_async = 0) :
    compTurn (.ListComp elt gs scope pos) d it acc env = (do
      standAt i.pos
      match ← pyNext it with
      | none => pure (.done .next)
      | some v =>
        letOwnedTupleGo t it v
        assign t env v
        let mut ok := true
        for c in ifs do
          if ok then ok ← isTrue c env (eval c env)
        if ok then turnOf elt gs scope pos (d + 1) acc env
        again (.compLoop (.ListComp elt gs scope pos) d it acc env)) := by
  unfold compTurn turnOf
  cases hg : gs[d + 1]? with
  | none =>
    simp only [h, hg]
    rfl
  | some g' =>
    obtain ⟨t', i', ifs', z⟩ := g'
    have hz : z = 0 := hn _ hg
    subst hz
    simp only [h, hg]
    simp only [LawfulMonad.bind_assoc, LawfulMonad.pure_bind]
    rfl
section
variable {prog : Program} {w : World} {A : Around} {R : Result → Shared → Prop} {s : Shared} {elt t i : Expr} {gs : List Comprehension} {ifs : List Expr} {scope : Scope} {pos : Pos} {d : Nat} {it acc : Value} {env : PySem.Env}
theorem compLoop_gs (h : gs[d]? = some ⟨t, i, ifs, 0⟩) (hn : ∀ g', gs[d + 1]? = some g' → g'.is_async = 0) (I : Nat → Shared → Prop)
    (turn : ∀ n s, I n s → wpAny (model prog w) A (pyNext it) (fun r s₁ => match r with
      | none => R (.ok .next) s₁
      | some v => wpAny (model prog w) A (letOwnedTupleGo t it v) (fun _ s₁' => wpAny (model prog w) A (assign t env v) (fun _ s₂ =>
          wpAny (model prog w) A (forIn ifs true fun c r => if r = true then do let ok ← isTrue c env (eval c env); pure (ForInStep.yield ok) else pure (ForInStep.yield r)) (fun ok s₃ =>
            if ok = true then wpAny (model prog w) A (turnOf elt gs scope pos (d + 1) acc env) (fun _ s₄ => ∃ m, m < n ∧ I m s₄) (fun _ _ => False) s₃
            else ∃ m, m < n ∧ I m s₃) (fun _ _ => False) s₂) (fun _ _ => False) s₁') (fun _ _ => False) s₁) (fun _ _ => False) s)
    (n : Nat) (hI : I n s) : codeAny (model prog w) A (.compLoop (.ListComp elt gs scope pos) d it acc env) R s := by
  refine codeAny_loop rfl I (fun n s hI => ?_) n hI
  show wpAny _ A ((compTurn (.ListComp elt gs scope pos) d it acc env).onRaise (fun x => do noteFrame x env; theTreesLotGoes x)) _ _ s
  refine wpAny_noted ?_
  rw [compTurn_gs h hn]
  refine wpAny_bind (wpAny_standAt (wpAny_bind (thnF (turn n s hI) fun r s₁ h₁ => ?_)))
  cases r with
  | none => exact wpAny_pure h₁
  | some v =>
    refine wpAny_bind (thnF h₁ fun _ s₁' h₁' => ?_)
    refine wpAny_bind (thnF h₁' fun _ s₂ h₂ => wpAny_bind (thnF h₂ fun ok s₃ h₃ => ?_))
    cases ok with
    | false => exact wpAny_pure ⟨rfl, h₃⟩
    | true => exact wpAny_bind (thnF h₃ fun _ s₄ h₄ => wpAny_pure ⟨rfl, h₄⟩)
/-- a clause's start -/
theorem compStart_gs (h : gs[d]? = some ⟨t, i, ifs, 0⟩) (h0 : codeAny (model prog w) A (.compLoop (.ListComp elt gs scope pos) d it acc env) R s)
    (hw : wpAny (model prog w) A (pyIter it) (fun it' s' => codeAny (model prog w) A (.compLoop (.ListComp elt gs scope pos) d it' acc env) R s') (fun _ _ => False) s) :
    codeAny (model prog w) A (.compStart (.ListComp elt gs scope pos) d it acc env) R s := by
  refine codeAny_of_tree ?_
  show wpAny _ _ ((compStart (.ListComp elt gs scope pos) d it acc env).onRaise (fun x => do noteFrame x env; standAt theWindowsPlace)) _ _ s
  refine wpAny_notedAt ?_
  unfold compStart
  have hc : (clausesOf (.ListComp elt gs scope pos))[d]? = some ⟨t, i, ifs, 0⟩ := h
  rw [hc]
  show wpAny _ _ (ask >>= _) _ _ s
  refine wpAny_bind (wpAny_askSetting (wpAny_ite ?_))
  split
  · first
      | exact wpAny_bind (wpAny_pure (wpAny_pure (And.intro rfl h0)))
      | exact wpAny_pure (And.intro rfl h0)
  · first
      | exact wpAny_bind (wpAny_rule (wpAny_bind (wpAny_standAt (wpAny_bind (thnF hw fun it' s' h' => wpAny_pure (And.intro rfl h'))))))
      | (refine wpAny_bind (wpAny_rule ?_); show wpAny _ _ (standAt i.pos >>= _) _ _ s; exact wpAny_bind (wpAny_standAt (wpAny_bind (thnF hw fun it' s' h' => wpAny_pure (And.intro rfl h')))))
/-- the next clause, within a turn -/
theorem turnOf_some {Q : Unit → Shared → Prop} (h : gs[d]? = some ⟨t, i, ifs, 0⟩) (hs : ∀ x, foldedSetIterable i env x = pure x)
    (hw : wpAny (model prog w) A (eval i env) (fun x s₁ => wpAny (model prog w) A (pyIter x) (fun it s₂ => codeAny (model prog w) A (.compStart (.ListComp elt gs scope pos) d it acc env) (fun r s' => match r with
      | .ok _ => Q () s'
      | .error _ => False) s₂) (fun _ _ => False) s₁) (fun _ _ => False) s) : wpAny (model prog w) A (turnOf elt gs scope pos d acc env) Q (fun _ _ => False) s := by
  unfold turnOf
  rw [h]
  refine wpAny_bind (thnF hw fun x s1 h1 => ?_)
  refine wpAny_bind (wpAny_standAt (wpAny_bind (wpAny_of_eq (hs x) (wpAny_bind (wpAny_holding (thnF h1 fun it s2 h2 => ?_))))))
  refine wpAny_bind (wpAny_runOwn ?_)
  rw [Around.mark_none]
  refine codeAny_mono h2 fun r s' hr => ?_
  cases r with
  | ok f => exact wpAny_pure hr
  | error e => exact hr.elim
/-- the element -/
theorem turnOf_none {Q : Unit → Shared → Prop} (h : gs[d]? = none)
    (hw : wpAny (model prog w) A (eval elt env) (fun x s₁ => wpAny (model prog w) A (call (.builtin "list.append") [acc, x]) (fun _ s₂ => Q () s₂) (fun _ _ => False) s₁) (fun _ _ => False) s) : wpAny (model prog w) A (turnOf elt gs scope pos d acc env) Q (fun _ _ => False) s := by
  unfold turnOf
  rw [h]
  exact wpAny_bind (thnF hw fun x s1 h1 => wpAny_bind (thnF h1 fun _ s2 h2 => wpAny_pure h2))
end
end Fz

set_option Elab.async false
set_option linter.all false
set_option maxRecDepth 100000
set_option maxHeartbeats 1000000
/-! Fz, part K: targets; what is walked. -/
namespace Fz
open PySem PySem.Spec PyProof.Rows L2
def gIs : List Nat → TGs
  | [] => gNil
  | i :: r => gCons (gName i) (gIs r)
def gT (K : PySem.W.Frag) : Tg → TG
  | .loc i => gName i
  | .tup is => gTup K is.length (gIs is)
/-- what a turn serves; true: a tuple that is only taken apart -/
def Srv (K : PySem.W.Frag) (mg : Str → Option Value) (lo : Bool) (H : Hp) (p : Mp) (d : D) (v : V) : Prop := match lo with
  | false => Rep K mg H p d v
  | true => ∃ ds a vs, d = .tup ds ∧ v = .ref a ∧ SqT K H a vs ∧ RepL K mg H p ds vs
theorem wipe_set_out {σ : L2.St} {i : Nat} {x : Option V} : ∀ {vs : List Nat}, i ∉ vs → wipe (σ.set i x) vs = (wipe σ vs).set i x
  | [], _ => rfl
  | v :: vs, h => by
    have h1 : v ≠ i := fun e => h (by rw [e]; exact List.mem_cons_self)
    unfold wipe
    rw [wipe_set_out fun m => h (List.mem_cons_of_mem _ m), List.set_comm _ _ (Ne.symm h1)]
theorem wipe_set {σ : L2.St} {i : Nat} {x : Option V} : ∀ {vs : List Nat}, i ∈ vs → wipe (σ.set i x) vs = wipe σ vs
  | v :: vs, h => by
    unfold wipe
    by_cases hm : i ∈ vs
    · rw [wipe_set hm]
    · rcases List.mem_cons.mp h with e | h
      · subst e
        rw [wipe_set_out hm, List.set_set]
      · exact absurd h hm
section
variable {K : PySem.W.Frag} {mg : Str → Option Value} {H : Hp} {p : Mp}
theorem SL.wipe {env : Env} {σ : L2.St} (s : SL K mg H p env σ) : ∀ vs : List Nat, SL K mg H p (wipeE env vs) (L2.wipe σ vs)
  | [] => s
  | v :: vs => by
    unfold wipeE L2.wipe
    exact SL.unset (SL.wipe s vs)
theorem gIs_ok {Q : L2.St → Hp → Prop} : ∀ {is : List Nat} {ds : List D} {vs : List V} {env : Env} {σ : L2.St}, is.length = ds.length → SL K mg H p env σ → RepL K mg H p ds vs →
    (∀ σ', SL K mg H p ((is.zip ds).foldl (fun e q => e.set q.1 (some q.2)) env) σ' → (∀ ws, (∀ i ∈ is, i ∈ ws) → L2.wipe σ' ws = L2.wipe σ ws) → Q σ' H) → gIs is vs σ H Q
  | [], [], vs, env, σ, _, s, r, q => by
    simp only [RepL] at r
    subst r
    exact ⟨rfl, q σ s fun _ _ => rfl⟩
  | i :: is, d :: ds, vs, env, σ, hl, s, r, q => by
    simp only [RepL] at r
    obtain ⟨v, vr, rfl, r1, r2⟩ := r
    refine ⟨v, vr, rfl, ?_⟩
    show gIs is vr (σ.set i (some v)) H Q
    refine gIs_ok (env := env.set i (some d)) (by simpa using hl) (s.set r1) r2 fun σ' s' hw => q σ' s' fun ws hws => ?_
    rw [hw ws fun j hj => hws j (List.mem_cons_of_mem _ hj), wipe_set (hws i List.mem_cons_self)]
  | [], _ :: _, _, _, _, hl, _, _, _ => by simp at hl
  | _ :: _, [], _, _, _, hl, _, _, _ => by simp at hl
theorem gT_ok {Q : L2.St → Hp → Prop} {lo : Bool} {t : Tg} {d : D} {v : V} {env env' : Env} {σ : L2.St} (hl : lo = true → ∃ is, t = .tup is) (s : SL K mg H p env σ) (r : Srv K mg lo H p d v) (b : bindT t d env = some env')
    (q : ∀ σ', SL K mg H p env' σ' → (∀ ws, (∀ i ∈ tgS t, i ∈ ws) → L2.wipe σ' ws = L2.wipe σ ws) → Q σ' H) : gT K t v σ H Q := by
  cases t with
  | loc i =>
    cases lo with
    | true =>
      obtain ⟨is, e⟩ := hl rfl
      cases e
    | false =>
      simp only [bindT] at b
      cases b
      exact q _ (s.set r) fun ws hw => wipe_set (hw i List.mem_cons_self)
  | tup is =>
    have : ∃ ds a vs, d = .tup ds ∧ v = .ref a ∧ SqT K H a vs ∧ RepL K mg H p ds vs := by
      cases lo with
      | true => exact r
      | false =>
        cases d with
        | tup ds =>
          have r : Rep K mg H p (.tup ds) v := r
          simp only [Rep] at r
          obtain ⟨a, vs, e1, h1, h2⟩ := r
          exact ⟨ds, a, vs, rfl, e1, h1.sq, h2⟩
        | _ => simp [bindT] at b
    obtain ⟨ds, a, vs, rfl, rfl, h1, h2⟩ := this
    simp only [bindT] at b
    split at b
    · rename_i hlen
      cases b
      exact ⟨a, vs, rfl, h1, by rw [← h2.len]; exact hlen.symm, gIs_ok hlen s h2 q⟩
    · cases b
end
/-! ### the targets' code -/
/-- a name that is stored -/
def Sto (X : Cx) (i : Nat) (x : Str) : Prop := X.N[i]? = some x ∧ Loc X.env.scope x ∧ (X.fn x = true ∨ X.env.scope.names.lookup x = some .local)
theorem pg_sto {X : Cx} {i : Nat} {x : Str} {pos : Pos} (hN : X.N.Nodup) (h : Sto X i x) : PG X (.Name x pos) (gName i) := pg_name hN h.1 h.2.1 h.2.2
inductive NamesAt (X : Cx) : List Expr → List Nat → Prop where
  | nil : NamesAt X [] []
  | cons {x : Str} {pos : Pos} {i : Nat} {es : List Expr} {is : List Nat} (h : Sto X i x) (r : NamesAt X es is) : NamesAt X (.Name x pos :: es) (i :: is)
theorem NamesAt.pgs {X : Cx} (hN : X.N.Nodup) {es : List Expr} {is : List Nat} (h : NamesAt X es is) : PGs X es (gIs is) := by
  induction h with
  | nil => exact pgs_nil
  | cons h r ih => exact pgs_cons (pg_sto hN h) ih
theorem NamesAt.each {X : Cx} {es : List Expr} {is : List Nat} (h : NamesAt X es is) (env : PySem.Env) : (assignEach es env).length = is.length ∧ (assignEach es env).findIdx? (·.1) = none := by
  induction h with
  | nil => exact ⟨rfl, rfl⟩
  | @cons x pos i es is h r ih =>
    have e : assignEach (.Name x pos :: es) env = (false, assign (.Name x pos) env) :: assignEach es env := rfl
    refine ⟨by rw [e]; simp [ih.1], ?_⟩
    rw [e, List.findIdx?_cons]
    simp [ih.2]
/-- a target's code -/
inductive TgAt (X : Cx) : Expr → Tg → Prop where
  | loc {x : Str} {pos : Pos} {i : Nat} (h : Sto X i x) : TgAt X (.Name x pos) (.loc i)
  | tup {es : List Expr} {is : List Nat} {k : Nat} {pos : Pos} (h : NamesAt X es is) : TgAt X (.Tuple es k pos) (.tup is)
theorem TgAt.pg {X : Cx} (hc : X.calm = true) (hN : X.N.Nodup) {e : Expr} {t : Tg} (h : TgAt X e t) : PG X e (gT X.K t) := by
  cases h with
  | loc h => exact pg_sto hN h
  | tup h => exact pg_tup hc (h.pgs hN) (h.each _).1 (h.each _).2

/-! ### what is walked -/
/-- all that the turns serve -/
structure Serves (K : PySem.W.Frag) (mg : Str → Option Value) (lo : Bool) (J : It) (p0 : Mp) (H0 : Hp) (xs : List D) (g : Option Nat) : Prop where
  stop : ∀ p H h i, CH K mg H p h → Ext0 p0 H0 p H → still g xs h = true → xs.length ≤ i → J.stop i H
  go : ∀ p H h i x, CH K mg H p h → Ext0 p0 H0 p H → still g xs h = true → xs[i]? = some x → J.go i H ∧ ∀ v H', J.yld i H v H' → CH K mg H' p h ∧ Ext p H p H' ∧ Srv K mg lo H' p x v
def tI (K : PySem.W.Frag) (mg : Str → Option Value) (W : XK) (lo : Bool) (f : Env → M Walk) : TI := fun σ H R => ∃ p h env, Kn K mg H p h env σ ∧ Aft K mg W p H (f env h) fun w h1 p1 H1 =>
  ∀ J p2, CH K mg H1 p2 h1 → Ext p1 H1 p2 H1 → still w.2 w.1 h1 = true → Serves K mg lo J p2 H1 w.1 w.2 → R J H1
theorem PI.imp {X : Cx} {tg e : Expr} {t t' : TI} (h : PI X tg e t) (i : ∀ σ H R, t' σ H R → t σ H R) : PI X tg e t' := ⟨fun pins s σ H R I q => h.run pins s σ H R I (i σ H R q)⟩
section
variable {K : PySem.W.Frag} {mg : Str → Option Value} {H : Hp} {p : Mp}
theorem RepL.len' {xs : List D} {vs : List V} (r : RepL K mg H p xs vs) : vs.length = xs.length := r.len.symm
/-- a list that stands still -/
theorem serves_fix {a : Addr} {xs : List D} {vs : List V} (h1 : (H a = some (.lst vs) ∧ p.F a) ∨ FixL K H a vs) (h2 : RepL K mg H p xs vs) : Serves K mg false (Itl K a) p H xs none := by
  have sq : ∀ p' H', Ext0 p H p' H' → SqL K H' a vs := fun p' H' e => by
    rcases h1 with h1 | h1
    · exact .of (e.s _ _ h1.2 h1.1)
    · exact (e.fixL h1).sq
  refine ⟨fun p' H' h i c e _ hi => ⟨vs, sq _ _ e, by rw [← h2.len]; exact hi⟩, fun p' H' h i x c e _ hx => ?_⟩
  obtain ⟨v, hv, _⟩ := h2.get hx
  refine ⟨⟨vs, v, sq _ _ e, hv⟩, fun u H2 y => ?_⟩
  obtain ⟨rfl, y⟩ := y
  have hu := y vs (sq _ _ e)
  rw [hv] at hu
  cases hu
  obtain ⟨v', hv', rv⟩ := (RepL.ext0 e xs vs h2).get hx
  rw [hv] at hv'
  cases hv'
  exact ⟨c, Ext.refl _ _, rv⟩
theorem serves_cell {a : Addr} {l : Nat} {xs : List D} (hm : p.m l = some a) : Serves K mg false (Itl K a) p H xs (some l) := by
  have sq : ∀ p' H' h, CH K mg H' p' h → Ext0 p H p' H' → still (some l) xs h = true → ∃ vs, SqL K H' a vs ∧ RepL K mg H' p' xs vs := fun p' H' h c e st => by
    simp only [still] at st
    split at st
    · rename_i o ho
      have := Ob.beq_eq _ _ st
      subst this
      obtain ⟨b, m1, us, q1, q2⟩ := c.ob l _ ho
      have m2 := e.m _ _ hm
      rw [m1] at m2
      cases m2
      exact ⟨us, .of q1, q2⟩
    · cases st
  refine ⟨fun p' H' h i c e st hi => ?_, fun p' H' h i x c e st hx => ?_⟩
  · obtain ⟨vs, s1, r1⟩ := sq _ _ _ c e st
    exact ⟨vs, s1, by rw [← r1.len]; exact hi⟩
  · obtain ⟨vs, s1, r1⟩ := sq _ _ _ c e st
    obtain ⟨v, hv, rv⟩ := r1.get hx
    refine ⟨⟨vs, v, s1, hv⟩, fun u H2 y => ?_⟩
    obtain ⟨rfl, y⟩ := y
    have hu := y vs s1
    rw [hv] at hu
    cases hu
    exact ⟨c, Ext.refl _ _, rv⟩
theorem serves_tup {a : Addr} {xs : List D} {vs : List V} (h1 : TupAt H a vs) (h2 : RepL K mg H p xs vs) : Serves K mg false (Itt K a) p H xs none := by
  refine ⟨fun p' H' h i c e _ hi => ⟨vs, (e.tup h1).sq, by rw [← h2.len]; exact hi⟩, fun p' H' h i x c e _ hx => ?_⟩
  obtain ⟨v, hv, rv⟩ := (RepL.ext0 e xs vs h2).get hx
  refine ⟨⟨vs, v, (e.tup h1).sq, hv⟩, fun u H2 y => ?_⟩
  obtain ⟨rfl, y⟩ := y
  have hu := y vs (e.tup h1).sq
  rw [hv] at hu
  cases hu
  exact ⟨c, Ext.refl _ _, rv⟩
theorem rangeL_get {a b : Int} {i : Nat} {x : D} (h : (rangeL a b)[i]? = some x) : i < (b - a).toNat ∧ x = .int (a + i) := by
  unfold rangeL at h
  rw [List.getElem?_map] at h
  by_cases hi : i < (b - a).toNat
  · rw [List.getElem?_range hi] at h
    exact ⟨hi, (Option.some.inj h).symm⟩
  · rw [List.getElem?_eq_none (by simpa using hi)] at h
    cases h
theorem serves_range {a b : Int} : Serves K mg false (Itr a (b - a).toNat) p H (rangeL a b) none := by
  refine ⟨fun p' H' h i c e _ hi => ?_, fun p' H' h i x c e _ hx => ?_⟩
  · have hl : (rangeL a b).length = (b - a).toNat := by simp [rangeL]
    show (b - a).toNat ≤ i
    rw [← hl]
    exact hi
  · obtain ⟨h1, rfl⟩ := rangeL_get hx
    refine ⟨h1, fun u H2 y => ?_⟩
    obtain ⟨rfl, rfl⟩ := y
    exact ⟨c, Ext.refl _ _, by simp [Srv, Rep]⟩
end
theorem srv_pair {K : PySem.W.Frag} {mg : Str → Option Value} {H H' : Hp} {p : Mp} {h : LH} {T : Addr} {i : Nat} {x : D} {v : V} (c : CH K mg H p h) (n : H T = none) (e : H' = upd H T (.tup [.int (i : Nat), v])) (r : Rep K mg H p x v) :
    CH K mg H' p h ∧ Ext p H p H' ∧ Srv K mg true H' p (.tup [.int (i : Nat), x]) (.ref T) := by
  subst e
  obtain ⟨c', e', _, _⟩ := c.new (o := .tup [.int (i : Nat), v]) n
  refine ⟨c', e', [.int (i : Nat), x], T, [.int (i : Nat), v], rfl, rfl, .of upd_same, ?_⟩
  simp only [RepL]
  exact ⟨_, _, rfl, by simp [Rep], _, _, rfl, Rep.ext e' _ _ r, rfl⟩
theorem enumL_get : ∀ {xs : List D} {k i : Nat} {x : D}, (enumL k xs)[i]? = some x → ∃ y, xs[i]? = some y ∧ x = .tup [.int ((k + i : Nat) : Int), y]
  | [], k, i, x, h => by simp [enumL] at h
  | y :: ys, k, 0, x, h => by
    simp only [enumL, List.getElem?_cons_zero, Option.some.injEq] at h
    exact ⟨y, rfl, h.symm⟩
  | y :: ys, k, i + 1, x, h => by
    simp only [enumL, List.getElem?_cons_succ] at h
    obtain ⟨z, h1, h2⟩ := enumL_get h
    exact ⟨z, by simpa using h1, by rw [h2]; congr 3; omega⟩
theorem enumL_len : ∀ {xs : List D} {k : Nat}, (enumL k xs).length = xs.length
  | [], _ => rfl
  | _ :: ys, k => by simp [enumL, enumL_len (xs := ys)]
section
variable {K : PySem.W.Frag} {mg : Str → Option Value} {H : Hp} {p : Mp}
theorem serves_enumL {a : Addr} {xs : List D} {vs : List V} (h1 : (H a = some (.lst vs) ∧ p.F a) ∨ FixL K H a vs) (h2 : RepL K mg H p xs vs) : Serves K mg true (Ite K a) p H (enumL 0 xs) none := by
  have sq : ∀ p' H', Ext0 p H p' H' → SqL K H' a vs := fun p' H' e => by
    rcases h1 with h1 | h1
    · exact .of (e.s _ _ h1.2 h1.1)
    · exact (e.fixL h1).sq
  refine ⟨fun p' H' h i c e _ hi => ⟨vs, sq _ _ e, by rw [← h2.len]; rw [enumL_len] at hi; exact hi⟩, fun p' H' h i x c e _ hx => ?_⟩
  obtain ⟨y, hy, rfl⟩ := enumL_get hx
  obtain ⟨v, hv, rv⟩ := (RepL.ext0 e xs vs h2).get hy
  refine ⟨⟨vs, v, sq _ _ e, hv⟩, fun u H2 yy => ?_⟩
  obtain ⟨T, w, rfl, hT, e2, hw⟩ := yy
  have hu := hw vs (sq _ _ e)
  rw [hv] at hu
  cases hu
  have z := srv_pair (i := i) c hT e2 rv
  simpa using z
/-- the tuple at a, each item in a new pair -/
def IteT (K : PySem.W.Frag) (a : Addr) : It :=
  ⟨fun i H => ∃ (xs : List V) (x : V), SqT K H a xs ∧ xs[i]? = some x, fun i H v H' => ∃ T x, v = .ref T ∧ H T = none ∧ H' = upd H T (.tup [.int (i : Nat), x]) ∧ ∀ xs, SqT K H a xs → xs[i]? = some x, fun i H => ∃ xs : List V, SqT K H a xs ∧ xs.length ≤ i⟩
theorem serves_enumT {a : Addr} {xs : List D} {vs : List V} (h1 : TupAt H a vs) (h2 : RepL K mg H p xs vs) : Serves K mg true (IteT K a) p H (enumL 0 xs) none := by
  refine ⟨fun p' H' h i c e _ hi => ⟨vs, (e.tup h1).sq, by rw [← h2.len]; rw [enumL_len] at hi; exact hi⟩, fun p' H' h i x c e _ hx => ?_⟩
  obtain ⟨y, hy, rfl⟩ := enumL_get hx
  obtain ⟨v, hv, rv⟩ := (RepL.ext0 e xs vs h2).get hy
  refine ⟨⟨vs, v, (e.tup h1).sq, hv⟩, fun u H2 yy => ?_⟩
  obtain ⟨T, w, rfl, hT, e2, hw⟩ := yy
  have hu := hw vs (e.tup h1).sq
  rw [hv] at hu
  cases hu
  have z := srv_pair (i := i) c hT e2 rv
  simpa using z
end
/-! enumerate(tuple) -/
theorem turn_enumT {P : Program} {w : World} {K : PySem.W.Frag} {elts : List Expr} {kk : Nat} {tpos : Pos} (a e it : Addr) (hae : a ≠ e) (hai : a ≠ it) :
    Turn P w K (.Tuple elts kk tpos) (IteT K a) [e, it] e (fun i h => (∃ old, IsEnum h e it ((i : Nat) : Int) old) ∧ h.IsTupleIter it a i ∧ e ≠ it) where
  mem := by simp
  obj := fun i h st b hb => by
    obtain ⟨⟨old, he⟩, ⟨o, ho, hc, hd⟩, _⟩ := st
    have e' : b = e ∨ b = it := by simpa using hb
    rcases e' with z | z
    · rw [z]; exact ⟨_, he, fun v q => nomatch q⟩
    · rw [z]; exact ⟨o, ho, fun v q => by rw [hd] at q; cases q⟩
  keep := fun i h h' st k => let ⟨⟨old, he⟩, hi, hne⟩ := st; ⟨⟨old, k e (by simp) _ he⟩, hi.at fun o q => k it (by simp) o q, hne⟩
  item := by
    intro X hP hw hK hc i pins s σ H E I hf st hg
    subst hP hw hK
    obtain ⟨⟨old, he⟩, hit, hne⟩ := st
    obtain ⟨xs, x, hq, hx⟩ := hg
    obtain ⟨its, rv, p, hz⟩ := I.tuple hq
    obtain ⟨u, hu, ru⟩ := rv.get hx
    have hel : e < s.heap.objs.size := Heap.lt_size he
    have hil : it < s.heap.objs.size := by obtain ⟨_, q, _⟩ := hit; exact Heap.lt_size q
    have pT : s.heap.IsTuple a its.toArray := p
    have hlt : i < its.toArray.size := by
      have := (List.getElem?_eq_some_iff.mp hu).1
      simpa using this
    refine wpAny_pyNext_enum_itemD (Draws.tuple (A := X.A.in1) (I.ok.hd hc) it a hai its.toArray) he ⟨hit, pT⟩ hlt hne (by simpa using ⟨hne, Ne.symm hae⟩) fun y h' tk hy ho hst' hT hsz hk => ?_
    have hyu : y = u := by
      have : its.toArray[i]? = some y := hy
      simp only [List.getElem?_toArray] at this
      rw [hu] at this
      exact (Option.some.inj this).symm
    subst hyu
    refine ⟨_, rfl, wpAny_letOwnedTupleGo_enum (s := { s with heap := h', toks := tk + 1 }) ho fun h'' he' sb => ?_⟩
    have hT2 : h''.get? s.heap.objs.size = some { cls := .type "tuple", data := .seq #[.int i tk, y] } := (sb.2 _ (Nat.ne_of_gt hel)).trans hT
    have new : ObjOk X.prog X.w (upd H s.heap.objs.size (.tup [.int (i : Nat), x])) h'' s.heap.objs.size (.tup [.int (i : Nat), x]) :=
      ⟨by show 2 ≤ sizeLine; decide, [.int i tk, y], .cons ⟨_, rfl⟩ (.cons ru .nil), ⟨_, hT2, rfl, _, rfl⟩⟩
    have I1 : Inv X pins σ (upd H s.heap.objs.size (.tup [.int (i : Nat), x])) { s with heap := h'', toks := tk + 1 } :=
      I.turnedNew (ch := [e, it]) (fun b ob hb q => (sb.2 b (fun z => hb (by simp [z]))).trans (hk b ob (fun z => hb (by simp [z])) (fun z => hb (by simp [z])) q)) hf (Nat.le_refl _) new
    refine ⟨.ref s.heap.objs.size, _, I1, rfl, ⟨_, x, rfl, I.hok.fresh (Nat.le_refl _), rfl, fun ys hy => by rw [I.tuple_inj hy hq]; exact hx⟩, ⟨⟨y, ?_⟩, hst'.1.at fun o q => (sb.2 it (Ne.symm hne)).trans q, hne⟩, fun b hb => ?_⟩
    · have e1 : ((i + 1 : Nat) : Int) = (i : Int) + 1 := by omega
      rw [e1]; exact he'
    · have hb' : b < s.heap.objs.size := by
        have e' : b = e ∨ b = it := by simpa using hb
        rcases e' with z | z
        · rw [z]; exact hel
        · rw [z]; exact hil
      rw [upd_ne (Nat.ne_of_lt hb')]
      exact (hf b hb).1
  done := by
    intro X hP hw hK hc i pins s σ H E I hf st hg
    subst hP hw hK
    obtain ⟨⟨old, he⟩, hit, hne⟩ := st
    obtain ⟨xs, hq, hx⟩ := hg
    obtain ⟨its, rv, p, hz⟩ := I.tuple hq
    obtain ⟨f0, f1, f2, f3, f4, f5⟩ := hf it (by simp)
    have hl := rv.length
    have pT : s.heap.IsTuple a its.toArray := p
    have hT : s.TypeIs (.ref e) "enumerate" := ⟨_, he, rfl⟩
    unfold pyNext
    refine wpAny_bind (wpAny_attempt (wpAny_callSpecial?_slot (name := Str.ofString "__next__") hT F.slot_enumerate_next
      (wpAny_call_entry F.slot_enumerate_next hT F.entry_enumerate_next ?_ (F.args_enumerate_next_1 _))))
    show wpAny _ _ (field (.ref e) 2 >>= _) _ _ _
    refine wpAny_bind (wpAny_field he rfl (x := .ref it) rfl ?_)
    refine wpAny_bind (wpAny_nextOf_tuple_end (I.ok.hd hc) hit pT (by simp; omega) fun h' x he' hx' => ?_)
    obtain ⟨o, ho, hc⟩ := hx'
    refine wpAny_bind (wpAny_isInstance (T := "StopIteration") (b := true) ⟨o, ho, hc⟩ isSubtype_stop ?_)
    exact wpAny_pure ⟨rfl, I.turned (t' := s.toks) (fun b o hb q => he' b o hb q) f0 f1 f3 f4 f5⟩
  self := fun A i s Q E st h => let ⟨⟨_, he⟩, _⟩ := st; wpAny_pyIter_enum he h
set_option maxHeartbeats 4000000 in
theorem meets_enumT (t : Addr) (items : Array Value) :
    Meets (Builtin.«enumerate.__new__» ⟨[.type "enumerate", .ref t], []⟩) (fun _ R s => s.heap.IsTuple t items ∧
      R (.ok (.ret (.ref (s.heap.push { cls := .type "tuple_iterator", data := .fields #[.ref t, .int 0 0] }).objs.size)))
        { s with heap := (s.heap.push { cls := .type "tuple_iterator", data := .fields #[.ref t, .int 0 0] }).push { cls := .type "enumerate", data := .fields #[.none, .bool false, .ref s.heap.objs.size, rawInt 0, .none, .none] } }) :=
  .of_wp fun prog w A R s h => by
    obtain ⟨hp, g, d, tk, os⟩ := s; obtain ⟨h1, h⟩ := h
    have hsub := sub_enumerate
    have q1 : ∀ {A' : Around} {E : Value → Shared → Prop} {Q : Value → Shared → Prop}, Q (.ref hp.objs.size) ⟨hp.push { cls := .type "tuple_iterator", data := .fields #[.ref t, .int 0 0] }, g, d, tk, os⟩ → wpAny (model prog w) A' (pyIter (.ref t)) Q E ⟨hp, g, d, tk, os⟩ :=
      fun q => (begins_tuple t items).iter prog w _ _ ⟨hp, g, d, tk, os⟩ _ h1 q
    wp_walk using q1
    refine wpAny_stack_any fun st => wpAny_pure ?_
    split
    · rename_i c _ _ _ _ _
      cases (c == Value.type "enumerate")
      · wp_walk using q1
        exact ⟨_, rfl, h⟩
      · wp_walk using q1
        exact ⟨_, rfl, h⟩
    · wp_walk using q1
      exact ⟨_, rfl, h⟩
theorem call_enumerate_tup {prog : Program} {w : World} {A : Around} {E : Value → Shared → Prop} {s : Shared} {l : Addr} {items : Array Value} {Q : Value → Shared → Prop} (hL : s.heap.IsTuple l items)
    (h : ∀ h', IsEnum h' (s.heap.objs.size + 1) s.heap.objs.size 0 .none → h'.IsTupleIter s.heap.objs.size l 0 → h'.objs.size = s.heap.objs.size + 2 →
      (∀ b o, s.heap.get? b = some o → h'.get? b = some o) → Q (.ref (s.heap.objs.size + 1)) { s with heap := h' }) :
    wpAny (model prog w) A (call (.type "enumerate") [.ref l]) Q E s := by
  refine callType_new F.called_enumerate (by decide) (F.typeCall_enumerate_1 _) (F.newCall_enumerate_1 _) (fun obj => F.args_object_init_2 obj _) F.entry_enumerate_new
    (meets_enumT l items) ⟨hL, ?_⟩
  have hz : (s.heap.push { cls := .type "tuple_iterator", data := .fields #[.ref l, .int 0 0] }).objs.size = s.heap.objs.size + 1 := Heap.size_push ..
  show _ ∧ _
  rw [hz]
  have he : IsEnum ((s.heap.push { cls := .type "tuple_iterator", data := .fields #[.ref l, .int 0 0] }).push
      { cls := .type "enumerate", data := .fields #[.none, .bool false, .ref s.heap.objs.size, rawInt 0, .none, .none] }) (s.heap.objs.size + 1) s.heap.objs.size 0 .none := by
    have := Heap.get?_push_size (s.heap.push { cls := .type "tuple_iterator", data := .fields #[.ref l, .int 0 0] })
      (o := { cls := .type "enumerate", data := .fields #[.none, .bool false, .ref s.heap.objs.size, rawInt 0, .none, .none] }) rfl
    rw [hz] at this; exact this
  refine ⟨⟨_, he, rfl⟩, h _ he ⟨_, Heap.get?_push_of_some _ (Heap.get?_push_size _ rfl), rfl, rfl⟩ (by rw [Heap.size_push, hz]) fun b o x => Heap.get?_push_of_some _ (Heap.get?_push_of_some _ x)⟩
end Fz

set_option Elab.async false
set_option linter.all false
set_option maxRecDepth 100000
set_option maxHeartbeats 1000000
/-! Fz, part L: what stands behind «in»; a clause's loop. -/
namespace Fz
open PySem PySem.Spec PyProof.Rows L2
section
variable {X : Cx} {W : XK} {tg e : Expr} {es : List Expr} {fe : Env → M DF} {fl : Env → M (List D)} {p pos : Pos}
def walkF (fe : Env → M DF) : Env → M Walk := fun env => M.then (fe env) fun x => walkD x.1
def rngF (fl : Env → M (List D)) : Env → M Walk := fun env => M.then (fl env) fun ds => M.then (ofO (rangeD ds)) fun xs => M.ret (xs, none)
def enF (fe : Env → M DF) : Env → M Walk := fun env => M.then (fe env) fun x => M.then (walkD x.1) fun w => match w.2 with
  | none => M.ret (enumL 0 w.1, none)
  | some _ => stop
/-- a list or a tuple -/
theorem s_walk (he : PE X e (tE X.K X.mg W fe)) : PI X tg e (tI X.K X.mg W false (walkF fe)) := by
  refine ⟨fun pins s σ H R I q => ?_⟩
  have q' : tZ X.K X.mg W fe σ H fun v H1 => ∃ (p1 : Mp) (h1 : LH) (d : D), CH X.K X.mg H1 p1 h1 ∧ Rep X.K X.mg H1 p1 d v ∧ Aft X.K X.mg W p1 H1 (walkD d h1) fun w h2 p2 H2 => ∀ J p3, CH X.K X.mg H2 p3 h2 → Ext p2 H2 p3 H2 → still w.2 w.1 h2 = true → Serves X.K X.mg false J p3 H2 w.1 w.2 → R J H2 := by
    obtain ⟨p, h, env, k, q⟩ := q
    exact ⟨p, h, env, k, (Aft.bind q).imp fun x h1 p1 H1 c1 e1 q1 v c1' r1 => ⟨p1, h1, x.1, c1', r1, q1⟩⟩
  refine thn ((PE.z he).run pins s σ H _ I q') fun v s1 ⟨x, H1, I1, r1, p1, h1, d, c1, rp, q1⟩ => ?_
  have fp1 : ∀ b ∈ [s1.heap.objs.size], FpOk X pins H1 b := fun b hb => by
    have e : b = s1.heap.objs.size := by simpa using hb
    subst e
    exact I1.fpOk (Nat.le_refl _) (I1.hok.fresh (Nat.le_refl _))
  have byL : ∀ (a : Addr) (xs : List D) (vs : List V) (g : Option Nat), x = .ref a → SqL X.K H1 a vs → walkD d h1 = .ok (xs, g) h1 → still g xs h1 = true → Serves X.K X.mg false (Itl X.K a) p1 H1 xs g → wpAny (model X.prog X.w) X.A (pyIter v) (PIE X pins σ tg R) X.xe s1 := by
    intro a xs vs g ex hq hw hs hv
    subst ex
    cases r1
    obtain ⟨its, rv, pp, hz⟩ := I1.list hq
    refine wpAny_pyIter_list pp.isList ?_
    rw [hw] at q1
    exact ⟨s1.heap.objs.size, [s1.heap.objs.size], _, _, H1, rfl, I1.kept (t' := s1.toks) fun b o e => Heap.get?_push_of_some _ e, turn_list a _, ⟨_, Heap.get?_push_size _ rfl, rfl, rfl⟩, fp1, q1 p1 H1 c1 (Ext.refl _ _) _ p1 c1 (Ext.refl _ _) hs hv⟩
  cases d with
  | tup xs =>
    simp only [Rep] at rp
    obtain ⟨a, vs, rfl, ht, hr⟩ := rp
    cases r1
    obtain ⟨its, rv, pp, hz⟩ := I1.tuple ht.sq
    refine wpAny_pyIter_tuple (show s1.heap.IsTuple a its.toArray from pp) ?_
    exact ⟨s1.heap.objs.size, [s1.heap.objs.size], _, _, H1, rfl, I1.kept (t' := s1.toks) fun b o e => Heap.get?_push_of_some _ e, turn_tuple a _, ⟨_, Heap.get?_push_size _ rfl, rfl, rfl⟩, fp1, q1 p1 H1 c1 (Ext.refl _ _) _ p1 c1 (Ext.refl _ _) rfl (serves_tup ht hr)⟩
  | lst xs =>
    simp only [Rep] at rp
    obtain ⟨a, vs, rfl, ht, hr⟩ := rp
    exact byL a xs vs none rfl (.of ht.1) rfl rfl (serves_fix (.inl ht) hr)
  | fix xs =>
    simp only [Rep] at rp
    obtain ⟨a, vs, rfl, ht, hr⟩ := rp
    exact byL a xs vs none rfl ht.sq rfl rfl (serves_fix (.inr ht) hr)
  | cell l =>
    simp only [Rep] at rp
    obtain ⟨a, rfl, hm⟩ := rp
    cases ho : h1[l]? with
    | none =>
      simp only [walkD, ho] at q1
      exact q1.elim
    | some o =>
      cases o with
      | dic _ _ =>
        simp only [walkD, ho] at q1
        exact q1.elim
      | lst xs =>
        obtain ⟨b, m1, vs, g1, g2⟩ := c1.ob l _ ho
        rw [hm] at m1
        cases m1
        exact byL a xs vs (some l) rfl (.of g1) (by simp only [walkD, ho]) (by simp only [still, ho, Ob.beq_refl]) (serves_cell hm)
  | non => exact q1.elim
  | bl _ => exact q1.elim
  | int _ => exact q1.elim
  | str _ => exact q1.elim
  | dic _ _ => exact q1.elim
  | fn _ => exact q1.elim
/-- range -/
theorem s_pirange1 {a : Expr} (hg : Gl X "range") (hm : X.mg "range" = none) (ns : noStar a = true) (ha : PA X [a] (tA X.K X.mg W fl)) (hlen : ∀ env h ds h', fl env h = .ok ds h' → ds.length = 1) : PI X tg (.Call (.Name "range" p) [a] [] pos) (tI X.K X.mg W false (rngF fl)) := by
  refine PI.imp (pi_range1 hg hm ha (star_cons ns [] _)) fun σ H R ⟨pp, h, env, k, q⟩ => ?_
  refine ⟨pp, h, env, k, (Aft.bind q).impE fun ds h1 p1 H1 er c1 e1 q1 vs c1' r1 => ?_⟩
  have hl := hlen _ _ _ _ er
  match ds, hl with
  | [d], _ =>
    simp only [RepL] at r1
    obtain ⟨v, rr, rfl, rd, rfl⟩ := r1
    cases d with
    | int j =>
      simp only [Rep] at rd
      subst rd
      by_cases hj : -(2 ^ 62) ≤ j ∧ j < 2 ^ 62
      · simp only [rangeD, if_pos hj] at q1
        have q2 := q1 p1 H1 c1' (Ext.refl _ _) (Itr 0 j.toNat) p1 c1' (Ext.refl _ _) rfl (by simpa using serves_range (K := X.K) (mg := X.mg) (a := 0) (b := j) (p := p1) (H := H1))
        exact ⟨j, rfl, hj.1, hj.2, q2⟩
      · simp only [rangeD, if_neg hj] at q1
        exact q1.elim
    | _ => exact q1.elim
theorem s_pirange2 {a b : Expr} (hg : Gl X "range") (hm : X.mg "range" = none) (ns : noStar a = true) (ns2 : noStar b = true) (ha : PA X [a, b] (tA X.K X.mg W fl)) (hlen : ∀ env h ds h', fl env h = .ok ds h' → ds.length = 2) : PI X tg (.Call (.Name "range" p) [a, b] [] pos) (tI X.K X.mg W false (rngF fl)) := by
  refine PI.imp (pi_range2 hg hm ha (by rw [star_cons ns, star_cons ns2]; rfl) (star_cons ns2 [] _)) fun σ H R ⟨pp, h, env, k, q⟩ => ?_
  refine ⟨pp, h, env, k, (Aft.bind q).impE fun ds h1 p1 H1 er c1 e1 q1 vs c1' r1 => ?_⟩
  have hl := hlen _ _ _ _ er
  match ds, hl with
  | [d, d'], _ =>
    simp only [RepL] at r1
    obtain ⟨v, rr, rfl, rd, w, rr', rfl, rd', rfl⟩ := r1
    cases d with
    | int i =>
      cases d' with
      | int j =>
        simp only [Rep] at rd rd'
        subst rd; subst rd'
        by_cases hj : -(2 ^ 62) ≤ i ∧ i < 2 ^ 62 ∧ -(2 ^ 62) ≤ j ∧ j < 2 ^ 62
        · simp only [rangeD, if_pos hj] at q1
          exact ⟨i, j, rfl, hj, q1 p1 H1 c1' (Ext.refl _ _) _ p1 c1' (Ext.refl _ _) rfl serves_range⟩
        · simp only [rangeD, if_neg hj] at q1
          exact q1.elim
      | _ => exact q1.elim
    | _ => exact q1.elim
/-- enumerate -/
theorem s_pienum {elts : List Expr} {kk : Nat} {tpos : Pos} (hg : Gl X "enumerate") (hm : X.mg "enumerate" = none) (ns : noStar e = true) (he : PE X e (tE X.K X.mg W fe)) :
    PI X (.Tuple elts kk tpos) (.Call (.Name "enumerate" p) [e] [] pos) (tI X.K X.mg W true (enF fe)) := by
  refine ⟨fun pins s σ H R I q => ?_⟩
  have q' : tA X.K X.mg W (fun env => M.then (fe env) fun x => M.then (M.ret []) fun ys => M.ret (x.1 :: ys)) σ H fun vs H1 => ∃ (p1 : Mp) (h1 : LH) (d : D) (v : V), vs = [v] ∧ CH X.K X.mg H1 p1 h1 ∧ Rep X.K X.mg H1 p1 d v ∧ Aft X.K X.mg W p1 H1 ((walkD d h1).next fun w => match w.2 with
      | none => M.ret (enumL 0 w.1, none)
      | some _ => stop) fun w h2 p2 H2 => ∀ J p3, CH X.K X.mg H2 p3 h2 → Ext p2 H2 p3 H2 → still w.2 w.1 h2 = true → Serves X.K X.mg true J p3 H2 w.1 w.2 → R J H2 := by
    obtain ⟨p, h, env, k, q⟩ := q
    refine ⟨p, h, env, k, ?_⟩
    have qb := Aft.bind q
    show Aft X.K X.mg W p H ((fe env h).next fun x => M.then (M.ret []) fun ys => M.ret (x.1 :: ys)) _
    revert qb
    cases fe env h with
    | ok x h1 =>
      intro qb p1 H1 c1 e1 vs c1' r1
      simp only [RepL] at r1
      obtain ⟨v, rr, rfl, rd, rfl⟩ := r1
      exact ⟨p1, h1, x.1, v, rfl, c1', rd, qb p1 H1 c1' e1⟩
    | exc c xs h1 => exact fun qb => qb
    | no => exact fun qb => qb
  refine Call_ (ld_blt I hg hm boot_enumerate (PyProof.Rows.callWith_type1 (thn ((s_cons ns he s_nil).run pos pins s σ H _ I q') fun us s1 ⟨vs, H1, I1, r1, p1, h1, d, v, ev, c1, rp, q1⟩ => ?_) (star_cons ns [] _) rfl))
  subst ev
  have fp1 : ∀ b ∈ [s1.heap.objs.size + 1, s1.heap.objs.size], FpOk X pins H1 b := fun b hb => by
    have e' : b = s1.heap.objs.size + 1 ∨ b = s1.heap.objs.size := by simpa using hb
    have hle : s1.heap.objs.size ≤ b := by
      rcases e' with z | z
      · rw [z]; exact Nat.le_add_right _ _
      · rw [z]; exact Nat.le_refl _
    exact I1.fpOk hle (I1.hok.fresh hle)
  have byL : ∀ (a : Addr) (xs : List D) (ws : List V), v = .ref a → SqL X.K H1 a ws → walkD d h1 = .ok (xs, none) h1 → Serves X.K X.mg true (Ite X.K a) p1 H1 (enumL 0 xs) none → wpAny (model X.prog X.w) X.A (call (.type "enumerate") us) (fun v s2 => wpAny (model X.prog X.w) X.A (pyIter v) (PIE X pins σ (.Tuple elts kk tpos) R) X.xe s2) X.xe s1 := by
    intro a xs ws ev hq hw hv
    subst ev
    cases r1 with
    | cons r rr =>
      cases rr
      cases r
      obtain ⟨its, rv, p', hz⟩ := I1.list hq
      refine call_enumerate_list p'.isList fun h' he hit hsz hk => wpAny_pyIter_enum he ?_
      have I2 : Inv X pins σ H1 { s1 with heap := h' } := I1.kept (t' := s1.toks) hk
      rw [hw] at q1
      exact ⟨s1.heap.objs.size + 1, [s1.heap.objs.size + 1, s1.heap.objs.size], _, _, H1, rfl, I2, turn_enum a (s1.heap.objs.size + 1) s1.heap.objs.size, ⟨⟨.none, he⟩, hit, Nat.succ_ne_self _⟩, fp1, q1 p1 H1 c1 (Ext.refl _ _) _ p1 c1 (Ext.refl _ _) rfl hv⟩
  cases d with
  | tup xs =>
    simp only [Rep] at rp
    obtain ⟨a, ws, rfl, ht, hr⟩ := rp
    cases r1 with
    | cons r rr =>
      cases rr
      cases r
      obtain ⟨its, rv, pp, hz⟩ := I1.tuple ht.sq
      have pT : s1.heap.IsTuple a its.toArray := pp
      have hal : a < s1.heap.objs.size := by obtain ⟨_, q, _⟩ := id pT; exact Heap.lt_size q
      refine call_enumerate_tup pT fun h' he hit hsz hk => wpAny_pyIter_enum he ?_
      have I2 : Inv X pins σ H1 { s1 with heap := h' } := I1.kept (t' := s1.toks) hk
      exact ⟨s1.heap.objs.size + 1, [s1.heap.objs.size + 1, s1.heap.objs.size], _, _, H1, rfl, I2, turn_enumT a (s1.heap.objs.size + 1) s1.heap.objs.size (Nat.ne_of_lt (Nat.lt_succ_of_lt hal)) (Nat.ne_of_lt hal), ⟨⟨.none, he⟩, hit, Nat.succ_ne_self _⟩, fp1, q1 p1 H1 c1 (Ext.refl _ _) _ p1 c1 (Ext.refl _ _) rfl (serves_enumT ht hr)⟩
  | lst xs =>
    simp only [Rep] at rp
    obtain ⟨a, ws, rfl, ht, hr⟩ := rp
    exact byL a xs ws rfl (.of ht.1) rfl (serves_enumL (.inl ht) hr)
  | fix xs =>
    simp only [Rep] at rp
    obtain ⟨a, ws, rfl, ht, hr⟩ := rp
    exact byL a xs ws rfl ht.sq rfl (serves_enumL (.inr ht) hr)
  | cell l =>
    cases ho : h1[l]? with
    | none =>
      simp only [walkD, ho] at q1
      exact q1.elim
    | some o =>
      cases o with
      | dic _ _ =>
        simp only [walkD, ho] at q1
        exact q1.elim
      | lst xs =>
        simp only [walkD, ho] at q1
        exact q1.elim
  | non => exact q1.elim
  | bl _ => exact q1.elim
  | int _ => exact q1.elim
  | str _ => exact q1.elim
  | dic _ _ => exact q1.elim
  | fn _ => exact q1.elim
end
end Fz

set_option Elab.async false
set_option linter.all false
set_option maxRecDepth 100000
set_option maxHeartbeats 1000000
/-! Fz, part M: the loop of a clause. -/
namespace Fz
open PySem PySem.Spec PyProof.Rows L2
/-- the list under work -/
def Acc (K : PySem.W.Frag) (mg : Str → Option Value) (H : Hp) (p : Mp) (L : Addr) (acc : List D) : Prop := ∃ us, H L = some (.lst us) ∧ RepL K mg H p acc us ∧ ¬ p.T L ∧ ∀ l, p.m l ≠ some L
section
variable {K : PySem.W.Frag} {mg : Str → Option Value} {H H1 : Hp} {p p1 : Mp} {h h1 : LH} {L : Addr} {acc : List D}
theorem ext0_drop (a : Addr) : Ext0 p H (p.drop a) H := ⟨fun _ q => q, fun _ _ _ q => q, fun _ _ _ q => q, fun _ _ q => q⟩
theorem CH.unhold (c : CH K mg H p h) (a : Addr) : CH K mg H (p.drop a) h := by
  refine ⟨c.dom, c.inj, fun l b hm hT => c.sep l b hm (hT.imp id fun z => z.1), c.fin, fun b q => c.hld b q.1, fun l o ho => ?_, c.wf⟩
  obtain ⟨b, m1, m2⟩ := c.ob l o ho
  refine ⟨b, m1, ?_⟩
  cases o with
  | lst es =>
    obtain ⟨ws, q1, q2⟩ := m2
    exact ⟨ws, q1, RepL.ext0 (ext0_drop a) es ws q2⟩
  | dic _ _ => exact m2
theorem ext0_hold (a : Addr) : Ext0 p H (p.hold a) H := ⟨fun _ q => q, fun _ _ _ q => q, fun _ _ _ q => q, fun _ _ q => q⟩
theorem Acc.hold (A : Acc K mg H p L acc) (c : CH K mg H p h) : CH K mg H (p.hold L) h ∧ Ext p H (p.hold L) H := by
  obtain ⟨us, h1, _, h2, h3⟩ := A
  exact c.hold h1 h2 h3
theorem Acc.back (A : Acc K mg H p L acc) (e : Ext (p.hold L) H p1 H1) (c : CH K mg H1 p1 h1) : CH K mg H1 (p1.drop L) h1 ∧ Ext p H (p1.drop L) H1 ∧ Acc K mg H1 (p1.drop L) L acc := by
  obtain ⟨us, g1, g2, g3, g4⟩ := A
  have hx := e.x L (.inr rfl)
  have e0 : Ext0 p H (p1.drop L) H1 := ((ext0_hold L).trans e.toExt0).trans (ext0_drop L)
  refine ⟨c.unhold L, ⟨e0, fun a ha => ?_⟩, us, hx.2.trans g1, RepL.ext0 e0 _ _ g2, ?_, fun l hl => c.sep l L hl (.inr hx.1)⟩
  · have hne : a ≠ L := fun z => g3 (.inr (z ▸ ha))
    have z := e.x a (.inl ha)
    exact ⟨⟨z.1, hne⟩, z.2⟩
  · rintro (z | z)
    · exact (c.hld L hx.1).2 z
    · exact z.2 rfl
end
/-- the rest of the clauses, within a turn -/
structure PC (B : Cx) (elt : Expr) (gs : List Comprehension) (scope : Scope) (pos : Pos) (d : Nat) (vs : List Nat) (f : Env → List D → M (List D)) : Prop where
  run : ∀ (pins : List (Addr × Obj)) (s : Shared) (σ : L2.St) (H : Hp) (L : Addr) (p : Mp) (h : LH) (env : Env) (acc acc' : List D) (h' : LH), Inv B pins σ H s → CH B.K B.mg H p h → SL B.K B.mg H p env σ → Acc B.K B.mg H p L acc → f env acc h = .ok acc' h' →
    wpAny (model B.prog B.w) B.A (turnOf elt gs scope pos d (.ref L) B.env) (fun _ s' => ∃ p' H', Inv B pins (wipe σ vs) H' s' ∧ CH B.K B.mg H' p' h' ∧ Ext p H p' H' ∧ Acc B.K B.mg H' p' L acc') (fun _ _ => False) s
theorem res_ok {α β : Type} {r : Res α} {k : α → M β} {b : β} {h' : LH} (e : r.next k = .ok b h') : ∃ a h, r = .ok a h ∧ k a h = .ok b h' := by
  cases r with
  | ok a h => exact ⟨a, h, rfl, e⟩
  | exc c xs h => cases e
  | no => cases e
section
variable {B : Cx} {elt : Expr} {gs : List Comprehension} {scope : Scope} {pos : Pos} {d : Nat} {vs : List Nat}
def eltF (fe : Env → M DF) : Env → List D → M (List D) := fun env' acc => M.then (fe env') fun x => fun h => match decide (acc.length < sizeLine) with
  | true => .ok (acc ++ [x.1]) h
  | false => .no
/-- the element -/
theorem pc_elt {fe : Env → M DF} (hx : B.xe = fun _ _ => False) (hg : gs[d]? = none) (he : PE B elt (tE B.K B.mg (fun _ _ _ => False) fe)) : PC B elt gs scope pos d [] (eltF fe) := by
  refine ⟨fun pins s σ H L p h env acc acc' h' I c S A r => ?_⟩
  obtain ⟨x, h1, e1, e2⟩ := res_ok r
  obtain ⟨c', e'⟩ := A.hold c
  refine turnOf_none hg ?_
  have run := (PE.z he).run pins s σ H (fun v H1 => ∃ p1, CH B.K B.mg H1 p1 h1 ∧ Ext (p.hold L) H p1 H1 ∧ Rep B.K B.mg H1 p1 x.1 v) I ⟨p.hold L, h, env, ⟨c', S.ext e'⟩, by
    rw [e1]
    exact fun p1 H1 c1 ex v c1' rv => ⟨p1, c1', ex, rv⟩⟩
  rw [hx] at run
  refine thnF run fun v s1 ⟨y, H1, I1, r1, p1, c1, ex, rv⟩ => ?_
  obtain ⟨us, g1, g2, g3, g4⟩ := A
  have hX := ex.x L (.inr rfl)
  have hL : H1 L = some (.lst us) := hX.2.trans g1
  split at e2
  · rename_i hz
    cases e2
    have hz' : us.length < sizeLine := by rw [← g2.len]; exact of_decide_eq_true hz
    refine app_ok I1 hL hz' r1 fun s2 I2 => ?_
    obtain ⟨c2, e2⟩ := c1.drop (vs := us ++ [y]) hX.1 hL
    have e3 : Ext0 p H (p1.drop L) (upd H1 L (.lst (us ++ [y]))) := ((ext0_hold L).trans ex.toExt0).trans e2
    refine ⟨p1.drop L, _, I2, c2, ⟨e3, fun a ha => ?_⟩, us ++ [y], upd_same, (RepL.ext0 e3 _ _ g2).app (RepL.one (Rep.ext0 e2 _ _ rv)), ?_, fun l hl => c1.sep l L hl (.inr hX.1)⟩
    · have hne : a ≠ L := fun z => g3 (.inr (z ▸ ha))
      have z := ex.x a (.inl ha)
      exact ⟨⟨z.1, hne⟩, by rw [upd_ne hne]; exact z.2⟩
    · rintro (z | z)
      · exact (c1.hld L hX.1).2 z
      · exact z.2 rfl
  · cases e2
theorem weak_back {σ σ8 : L2.St} {vs vs' : List Nat} (hw : wipe σ8 vs = wipe (wipe σ vs) vs) (hv : ∀ i ∈ vs', i ∈ vs) (j : Nat) (v : V) (e : (wipe σ vs)[j]? = some (some v)) : (wipe σ8 vs')[j]? = some (some v) := by
  have hj := (wipe_some e).2
  rw [wipe_out fun z => hj (hv j z), ← wipe_out (σ := σ8) hj, hw, wipe_out hj]
  exact e
def turnF (t : Tg) (ft : Env → M Bool) (f' : Env → List D → M (List D)) (e0 : Env) : D → List D → M (List D) := fun x acc => M.then (ofO (bindT t x e0)) fun env' => M.then (ft env') fun b => match b with
  | true => f' env' acc
  | false => M.ret acc
theorem ofO_ok {α : Type} {o : Option α} {h h' : LH} {a : α} (e : ofO o h = .ok a h') : o = some a ∧ h' = h := by
  cases o with
  | none => cases e
  | some b => cases e; exact ⟨rfl, rfl⟩
theorem drop_cons {α : Type} {xs : List α} {i : Nat} {x : α} (h : xs[i]? = some x) : xs.drop i = x :: xs.drop (i + 1) := by
  obtain ⟨hi, e⟩ := List.getElem?_eq_some_iff.mp h
  rw [List.drop_eq_getElem_cons hi, e]
/-- a clause's loop -/
theorem clause_loop {tg it0 : Expr} {ifs : List Expr} {t : Tg} {lo : Bool} {ft : Env → M Bool} {vs' own : List Nat} {f' : Env → List D → M (List D)} {J : It} {fp : List Addr} {it L : Addr} {tn : Nat → Heap → Prop} {pins : List (Addr × Obj)} {s : Shared} {σ : L2.St} {H : Hp} {p : Mp} {h h' : LH} {env : Env} {acc acc' : List D} {xs : List D} {g : Option Nat}
    (hc : B.calm = true) (hN : B.N.Nodup) (hx : B.xe = fun _ _ => False) (hg : gs[d]? = some ⟨tg, it0, ifs, 0⟩) (hn : ∀ g', gs[d + 1]? = some g' → g'.is_async = 0) (ta : TgAt B tg t) (hl : lo = true → ∃ is, t = .tup is)
    (pt : PTs B ifs (tT B.K B.mg (fun _ _ _ => False) ft)) (pc : PC B elt gs scope pos (d + 1) vs' f') (hvs : ∀ i ∈ vs', i ∈ own) (hts : ∀ i ∈ tgS t, i ∈ own)
    (T : Turn B.prog B.w B.K tg J fp it tn) (st : tn 0 s.heap) (hf : ∀ b ∈ fp, FpOk B pins H b) (I : Inv B pins (wipe σ own) H s) (S : SL B.K B.mg H p env σ) (c : CH B.K B.mg H p h) (A : Acc B.K B.mg H p L acc) (hs : still g xs h = true) (V : Serves B.K B.mg lo J (p.hold L) H xs g)
    (r : loopM g xs (turnF t ft f' (wipeE env own)) xs acc h = .ok acc' h') :
    codeAny (model B.prog B.w) B.A (.compLoop (.ListComp elt gs scope pos) d (.ref it) (.ref L) B.env) (fun r s' => match r with
      | .ok fl => fl = .next ∧ ∃ p' H', Inv B pins (wipe σ own) H' s' ∧ CH B.K B.mg H' p' h' ∧ Ext p H p' H' ∧ Acc B.K B.mg H' p' L acc' ∧ ∀ b ∈ fp, H' b = none
      | .error _ => False) s := by
  have stat : ∀ {H' : Hp}, (∀ b ∈ fp, H' b = none) → ∀ b ∈ fp, FpOk B pins H' b := fun hn b hb => ⟨hn b hb, (hf b hb).2⟩
  have pg := ta.pg hc hN
  refine compLoop_gs hg hn (fun n s' => ∃ i Hi pi hi ai, n = xs.length - i ∧ i ≤ xs.length ∧ Inv B pins (wipe σ own) Hi s' ∧ tn i s'.heap ∧ (∀ b ∈ fp, Hi b = none) ∧ CH B.K B.mg Hi pi hi ∧ Ext p H pi Hi ∧ Acc B.K B.mg Hi pi L ai ∧ still g xs hi = true ∧
      loopM g xs (turnF t ft f' (wipeE env own)) (xs.drop i) ai hi = .ok acc' h') ?_ xs.length ⟨0, H, p, h, acc, rfl, Nat.zero_le _, I, st, fun b hb => (hf b hb).1, c, Ext.refl _ _, A, hs, r⟩
  rintro n s5 ⟨i, Hi, pi, hi, ai, rfl, hle, I5, st5, n5, ci, ei, Ai, si, ri⟩
  obtain ⟨ch, eh⟩ := Ai.hold ci
  have e0 : Ext0 (p.hold L) H (pi.hold L) Hi := ⟨ei.f, ei.s, ei.z, ei.m⟩
  cases hxi : xs[i]? with
  | none =>
    have hi2 : xs.length ≤ i := by simpa using hxi
    rw [List.drop_eq_nil_of_le hi2] at ri
    cases ri
    refine thnF (T.done B rfl rfl rfl hc i pins s5 _ Hi (fun _ _ => False) I5 (stat n5) st5 (V.stop _ _ _ _ ch e0 si hi2)) fun r s6 ⟨hr, I6⟩ => ?_
    subst hr
    exact ⟨rfl, pi, Hi, I6, ci, ei, Ai, n5⟩
  | some x =>
    obtain ⟨hgo, hy⟩ := V.go _ _ _ _ _ ch e0 si hxi
    rw [drop_cons hxi] at ri
    unfold loopM at ri
    obtain ⟨a1, h3, rk0, ri1⟩ := res_ok ri
    clear ri
    split at ri1
    case h_2 => cases ri1
    rename_i hst3
    unfold turnF at rk0
    obtain ⟨env', h1', r1, rk1⟩ := res_ok rk0
    obtain ⟨hb, eh1⟩ := ofO_ok r1
    rw [eh1] at rk1
    clear rk0 r1 eh1
    obtain ⟨b, h2, r2, rk⟩ := res_ok rk1
    clear rk1
    refine thnF (T.item B rfl rfl rfl hc i pins s5 _ Hi (fun _ _ => False) I5 (stat n5) st5 hgo) fun r s6 ⟨u, hr, h6⟩ => ?_
    subst hr
    refine thnF h6 fun _ s7 ⟨v, H7, I7, r7, y7, st7, n7⟩ => ?_
    obtain ⟨c7, e7, v7⟩ := hy v H7 y7
    have I7' := I7.pinned (stat n7) (T.obj _ _ st7)
    have S7 : SL B.K B.mg H7 (pi.hold L) (wipeE env own) (wipe σ own) := ((S.ext ei).ext eh).ext e7 |>.wipe own
    have rung := pg.run _ s7 (wipe σ own) H7 v u (fun σ8 H8 => H8 = H7 ∧ SL B.K B.mg H7 (pi.hold L) env' σ8 ∧ wipe σ8 own = wipe (wipe σ own) own) I7' r7 (gT_ok hl S7 v7 hb fun σ8 S8 hw => ⟨rfl, S8, hw own hts⟩)
    rw [hx] at rung
    refine thnF rung fun _ s8 ⟨σ8, H8, I8, hH8, S8, hw8⟩ => ?_
    subst hH8
    have runt := pt.run _ s8 σ8 H8 (fun b' H9 => b' = b ∧ ∃ p9, CH B.K B.mg H9 p9 h2 ∧ Ext (pi.hold L) H8 p9 H9) I8 ⟨pi.hold L, hi, env', ⟨c7, S8⟩, by
      rw [r2]
      exact fun p9 H9 c9 e9 c9' => ⟨rfl, p9, c9', e9⟩⟩
    rw [hx] at runt
    refine thnF runt fun b' s9 ⟨H9, I9, hb', p9, c9, e9⟩ => ?_
    subst hb'
    obtain ⟨cB, eB, aB⟩ := Ai.back (e7.trans e9) c9
    have fin : ∀ {s' : Shared} {H' : Hp} {σ9 : L2.St} {p' : Mp}, Inv B (pins ++ pinsAt fp s7.heap) σ9 H' s' → (wipe σ own).length = σ9.length → (∀ (j : Nat) v, (wipe σ own)[j]? = some (some v) → σ9[j]? = some (some v)) → CH B.K B.mg H' p' h3 → Ext pi Hi p' H' → Acc B.K B.mg H' p' L a1 →
        ∃ m, m < xs.length - i ∧ ∃ i Hi pi hi ai, m = xs.length - i ∧ i ≤ xs.length ∧ Inv B pins (wipe σ own) Hi s' ∧ tn i s'.heap ∧ (∀ b ∈ fp, Hi b = none) ∧ CH B.K B.mg Hi pi hi ∧ Ext p H pi Hi ∧ Acc B.K B.mg Hi pi L ai ∧ still g xs hi = true ∧ loopM g xs (turnF t ft f' (wipeE env own)) (xs.drop i) ai hi = .ok acc' h' := by
      intro s' H' σ9 p' I' hl hk c' e' A'
      have pin' : ∀ b ∈ fp, ∀ o, s7.heap.get? b = some o → s'.heap.get? b = some o ∧ H' b = none := fun b hb o e =>
        let z := I'.pin (b, o) (List.mem_append_right _ (List.mem_append_right _ (mem_pinsAt hb e)))
        ⟨z.1, z.2.1⟩
      have hlt : i < xs.length := (List.getElem?_eq_some_iff.mp hxi).1
      refine ⟨xs.length - (i + 1), by omega, i + 1, H', p', h3, a1, rfl, hlt, I'.unpinned.weak hl hk, T.keep _ _ _ st7 fun b hb o e => (pin' b hb o e).1, fun b hb => ?_, c', ei.trans e', A', hst3, ri1⟩
      obtain ⟨o, e, _⟩ := T.obj _ _ st7 b hb
      exact (pin' b hb o e).2
    have hl8 : (wipe σ own).length = σ8.length := by
      have := congrArg List.length hw8
      rw [wipe_length, wipe_length] at this
      exact this.symm
    cases b' with
    | false =>
      simp only [Bool.false_eq_true, if_false]
      cases rk
      exact fin I9 hl8 (fun j v e => by simpa [wipe] using weak_back (vs' := []) hw8 (by simp) j v e) cB eB aB
    | true =>
      simp only [if_true]
      refine thnF (pc.run _ s9 σ8 H9 L _ _ env' ai a1 h3 I9 cB (S8.ext e9 |> fun z => ⟨z.len, fun j d q => by
        obtain ⟨v, q1, q2⟩ := z.at_ j d q
        exact ⟨v, q1, Rep.ext0 (ext0_drop L) d v q2⟩⟩) aB rk) fun _ s10 ⟨p', H', I', c', e', A'⟩ => ?_
      exact fin I' (hl8.trans (wipe_length _ _).symm) (fun j v e => weak_back hw8 hvs j v e) c' (eB.trans e') A'
end
end Fz

set_option Elab.async false
set_option linter.all false
set_option maxRecDepth 100000
set_option maxHeartbeats 1000000
/-! Fz, part N: list comprehensions. -/
namespace Fz
open PySem PySem.Spec PyProof.Rows L2
section
variable {X : Cx} {W : XK}
theorem tests_off {M : Model} {A : Around} {E : Value → Shared → Prop} {s : Shared} {env : PySem.Env} {Q : Bool → Shared → Prop} (h : Q false s) : ∀ ifs : List Expr,
    wpAny M A (forIn ifs false fun c r => if r = true then do let ok ← PySem.isTrue c env (eval c env); pure (ForInStep.yield ok) else pure (ForInStep.yield r)) Q E s
  | [] => by
    rw [List.forIn_nil]
    exact wpAny_pure h
  | c :: cs => by
    rw [List.forIn_cons, if_neg Bool.false_ne_true]
    exact wpAny_bind (wpAny_pure (tests_off h cs))
theorem pts_cons {c : Expr} {cs : List Expr} {t u : TT} (h : PT X c t) (hs : PTs X cs u) : PTs X (c :: cs) (fun σ H Q => t σ H fun b H1 => if b = true then u σ H1 Q else Q false H1) := by
  refine ⟨fun pins s σ H Q I hw => ?_⟩
  rw [List.forIn_cons, if_pos rfl]
  refine wpAny_bind (wpAny_bind (thn (h.run pins s σ H _ I hw) fun b s1 ⟨H1, I1, q1⟩ => wpAny_pure ?_))
  cases b with
  | true =>
    rw [if_pos rfl] at q1
    exact hs.run pins s1 σ H1 Q I1 q1
  | false =>
    rw [if_neg Bool.false_ne_true] at q1
    exact tests_off ⟨H1, I1, q1⟩ cs
theorem s_tnil : PTs X [] (tT X.K X.mg W fun _ => M.ret true) := ⟨fun pins s σ H Q I ⟨p, h, env, k, q⟩ => pts_nil.run pins s σ H Q I (q p H k.1 (Ext.refl _ _) k.1)⟩
theorem s_tcons {c : Expr} {cs : List Expr} {f : Env → M Bool} {ft : Env → M Bool} (hc : PT X c (tT X.K X.mg W f)) (hs : PTs X cs (tT X.K X.mg W ft)) :
    PTs X (c :: cs) (tT X.K X.mg W fun env => M.then (f env) fun b => match b with
      | true => ft env
      | false => M.ret false) := by
  refine ⟨fun pins s σ H Q I ⟨p, h, env, k, q⟩ => (pts_cons hc hs).run pins s σ H Q I ⟨p, h, env, k, (Aft.z q k.2).imp fun b h1 p1 H1 c1 e1 q1 c1' => ?_⟩⟩
  cases b with
  | true =>
    rw [if_pos rfl]
    exact ⟨p1, h1, env, ⟨c1', q1.1.2⟩, q1.2⟩
  | false =>
    rw [if_neg Bool.false_ne_true]
    exact q1.2 p1 H1 c1' (Ext.refl _ _) c1'
theorem PTs.as {ifs : List Expr} {f g : Env → M Bool} (h : PTs X ifs (tT X.K X.mg W f)) (e : ∀ env, f env = g env) : PTs X ifs (tT X.K X.mg W g) := by
  have : f = g := funext e
  exact this ▸ h
theorem tru_tests (fc : Env → M DF) (ft : Env → M Bool) (env : Env) : (M.then (tru fc env) fun b => match b with
      | true => ft env
      | false => M.ret false) = M.then (fc env) fun x => fun h => match truthD (der h x.1) with
      | some true => ft env h
      | some false => .ok false h
      | none => .no := by
  funext h
  simp only [tru, M.then]
  cases fc env h with
  | ok x h1 =>
    simp only [Res.next]
    cases truthD (der h1 x.1) with
    | none => rfl
    | some b => cases b <;> rfl
  | exc c xs h1 => rfl
  | no => rfl
theorem Serves.mono {K : PySem.W.Frag} {mg : Str → Option Value} {lo : Bool} {J : It} {p0 p1 : Mp} {H0 H1 : Hp} {xs : List D} {g : Option Nat} (V : Serves K mg lo J p0 H0 xs g) (e : Ext0 p0 H0 p1 H1) : Serves K mg lo J p1 H1 xs g :=
  ⟨fun p H h i c ex => V.stop p H h i c (e.trans ex), fun p H h i x c ex => V.go p H h i x c (e.trans ex)⟩
def clauseF (fw : Env → M Walk) (t : Tg) (ft : Env → M Bool) (f' : Env → List D → M (List D)) (own : List Nat) : Env → List D → M (List D) := fun env acc => M.then (fw env) fun w => loopM w.2 w.1 (turnF t ft f' (wipeE env own)) w.1 acc
/-- a clause within -/
theorem pc_clause {elt tg it0 : Expr} {gs : List Comprehension} {scope : Scope} {pos : Pos} {d : Nat} {ifs : List Expr} {t : Tg} {lo : Bool} {fw : Env → M Walk} {ft : Env → M Bool} {vs' own : List Nat} {f' : Env → List D → M (List D)}
    (hc : X.calm = true) (hN : X.N.Nodup) (hx : X.xe = fun _ _ => False) (hg : gs[d]? = some ⟨tg, it0, ifs, 0⟩) (hn : ∀ g', gs[d + 1]? = some g' → g'.is_async = 0) (hs : ∀ x, foldedSetIterable it0 X.env x = pure x)
    (hi : PI X tg it0 (tI X.K X.mg (fun _ _ _ => False) lo fw)) (ta : TgAt X tg t) (hl : lo = true → ∃ is, t = .tup is)
    (pt : PTs X ifs (tT X.K X.mg (fun _ _ _ => False) ft)) (pc : PC X elt gs scope pos (d + 1) vs' f') (hvs : ∀ i ∈ vs', i ∈ own) (hts : ∀ i ∈ tgS t, i ∈ own) : PC X elt gs scope pos d own (clauseF fw t ft f' own) := by
  refine ⟨fun pins s σ H L p h env acc acc' h' I c S A r => ?_⟩
  obtain ⟨w, h1, r1, r2⟩ := res_ok r
  obtain ⟨ch, eh⟩ := A.hold c
  refine turnOf_some hg hs ?_
  have run := hi.run pins s σ H (fun J H2 => ∃ p1 , CH X.K X.mg H2 p1 h1 ∧ Ext (p.hold L) H p1 H2 ∧ still w.2 w.1 h1 = true ∧ Serves X.K X.mg lo J p1 H2 w.1 w.2) I ⟨p.hold L, h, env, ⟨ch, S.ext eh⟩, by
    rw [r1]
    exact fun p1 H1 c1 e1 J p2 c2 e2 st V => ⟨p2, c2, e1.trans e2, st, V⟩⟩
  rw [hx] at run
  refine thnF run fun xv s1 hx1 => thnF hx1 fun itv s2 hx2 => ?_
  obtain ⟨it, fp, tn, J, H2, e, I2, T, st2, f2, p1, c1, e1, hst, V⟩ := hx2
  subst e
  obtain ⟨cB, eB, aB⟩ := A.back e1 c1
  have loop := clause_loop hc hN hx hg hn ta hl pt pc hvs hts T st2 f2 (I2.weak (wipe_length _ _) fun j v e => (wipe_some e).1) (S.ext eB) cB aB hst (V.mono (by
    exact ⟨fun _ q => q, fun _ _ _ q => q, fun _ _ _ q => q, fun _ _ q => q⟩)) r2
  have fin := codeAny_mono loop (R' := fun r s' => match r with
    | .ok _ => ∃ p' H', Inv X pins (wipe σ own) H' s' ∧ CH X.K X.mg H' p' h' ∧ Ext p H p' H' ∧ Acc X.K X.mg H' p' L acc'
    | .error _ => False) fun r s' hr => by
      cases r with
      | ok fl =>
        obtain ⟨_, p', H', q1, q2, q3, q4, _⟩ := hr
        exact ⟨p', H', q1, q2, eB.trans q3, q4⟩
      | error e => exact hr
  exact compStart_gs hg fin (T.self X.A 0 _ _ _ st2 fin)
/-- a comprehension -/
theorem comp_core {pins : List (Addr × Obj)} {s : Shared} {σ : L2.St} {H : Hp} {p : Mp} {h h' : LH} {env : Env} {acc' : List D} {elt tg it0 : Expr} {ifs : List Expr} {gs : List Comprehension} {scope : Scope} {own : List (Str × Nat)} {pos pos' : Pos} {t : Tg} {lo : Bool} {fw : Env → M Walk} {ft : Env → M Bool} {vs' : List Nat} {f' : Env → List D → M (List D)} {use : Option (Value → Sem Unit)} {Qf : Value → Shared → Prop}
    (hc : X.calm = true) (hN : X.N.Nodup) (I : Inv X pins σ H s) (hn : ∀ g', gs[0]? = some g' → g'.is_async = 0) (ok : BlkOk X.N X.env.scope scope own) (hi : PI X tg it0 (tI X.K X.mg W lo fw)) (hl : lo = true → ∃ is, t = .tup is) (hs : ∀ x, foldedSetIterable it0 X.env x = pure x)
    (hvs : ∀ i ∈ vs', i ∈ own.map (·.2)) (hts : ∀ i ∈ tgS t, i ∈ own.map (·.2))
    (ta : ∀ (s : Shared) (H : Hp) (C : Addr) (cl : List (Str × Addr)) (fp : List Addr), TgAt (X.blk s H scope (compEnvC scope cl C X.env) fp) tg t)
    (pt : ∀ (s : Shared) (H : Hp) (C : Addr) (cl : List (Str × Addr)) (fp : List Addr), PTs (X.blk s H scope (compEnvC scope cl C X.env) fp) ifs (tT X.K X.mg (fun _ _ _ => False) ft))
    (pc : ∀ (s : Shared) (H : Hp) (C : Addr) (cl : List (Str × Addr)) (fp : List Addr), PC (X.blk s H scope (compEnvC scope cl C X.env) fp) elt (⟨tg, it0, ifs, 0⟩ :: gs) scope pos 1 vs' f')
    (c : CH X.K X.mg H p h) (S : SL X.K X.mg H p env σ) (r : clauseF fw t ft f' (own.map (·.2)) env [] h = .ok acc' h')
    (post : ∀ L C s' m p' H', Inv X pins σ H' s' → CH X.K X.mg H' p' h' → Ext p H p' H' → Acc X.K X.mg H' p' L acc' → s'.heap.Ns C m → FpOk X pins H' C → compPost (model X.prog X.w) X.A X.xe use Qf (.ref L) C (.ok .next) s') :
    wpAny (model X.prog X.w) X.A (comprehension (.ListComp elt (⟨tg, it0, ifs, 0⟩ :: gs) scope pos) scope X.env pos' (newList []) false (eval it0 X.env) use) Qf X.xe s := by
  obtain ⟨w, h1, r1, r2⟩ := res_ok r
  have hfree : ∀ y ∈ scope.names, y.2 = .free → ∃ c, X.env.cells.lookup y.1 = some c := fun y hy e => by
    rcases ok.free y hy e with k | k
    · exact I.ok.has _ (.inl k)
    · exact I.ok.has _ (.inr k)
  refine wpAny_comprehension_free (use := use) rfl hs (closure_ok hfree) ok.kind (fun y hy e => by rw [ok.uniq y hy, e])
    (thn (hi.run pins s σ H (fun J H2 => ∃ p1, CH X.K X.mg H2 p1 h1 ∧ Ext p H p1 H2 ∧ still w.2 w.1 h1 = true ∧ Serves X.K X.mg lo J p1 H2 w.1 w.2) I ⟨p, h, env, ⟨c, S⟩, by
      rw [r1]
      exact fun p1 H1 c1 e1 J p2 c2 e2 st V => ⟨p2, c2, e1.trans e2, st, V⟩⟩) fun xv s1 hx => thn hx fun itv s2 h2 => ?_)
  obtain ⟨it, fp, tn, J, H2, e, I2, T, st2, f2, p2, c2, e2, hst, V⟩ := h2
  subst e
  refine wpAny_newObj_type (newEnv_comp ?_) (by show 0 ≤ sizeLine; decide)
  generalize hL : s2.heap.objs.size = L
  have hLn : H2 L = none := I2.hok.fresh (Nat.le_of_eq hL)
  generalize hs3 : ({ s2 with heap := s2.heap.push { cls := .type "list", data := .seq ([] : List Value).toArray } } : Shared) = s3
  have I3 : Inv X pins σ (upd H2 L (.lst [])) s3 := by
    rw [← hs3]
    refine I2.laid (t' := s2.toks) (fun b o e => Heap.get?_push_of_some _ e) (Nat.le_of_eq hL) ⟨Nat.zero_le _, [], 0, .nil, ?_⟩
    rw [← hL]
    exact Heap.get?_push_size _ rfl
  have h3 : s3.heap = s2.heap.push { cls := .type "list", data := .seq ([] : List Value).toArray } := by rw [← hs3]
  have sz : ∀ b ∈ fp, b < s2.heap.objs.size := fun b hb => by
    obtain ⟨o, e, _⟩ := T.obj _ _ st2 b hb
    exact Heap.lt_size e
  have f3 : ∀ b ∈ fp, FpOk X pins (upd H2 L (.lst [])) b ∧ b < s3.heap.objs.size := fun b hb => by
    have hlt := sz b hb
    refine ⟨⟨?_, (f2 b hb).2⟩, by rw [h3, Heap.size_push]; exact Nat.lt_succ_of_lt hlt⟩
    rw [upd_ne (by rw [← hL]; exact Nat.ne_of_lt hlt)]
    exact (f2 b hb).1
  have st3 : tn 0 s3.heap := T.keep _ _ _ st2 fun b _ o e => by rw [h3]; exact Heap.get?_push_of_some _ e
  obtain ⟨c3, e3, n1, n2⟩ := c2.new (o := .lst []) hLn
  have A3 : Acc X.K X.mg (upd H2 L (.lst [])) p2 L [] := ⟨[], upd_same, by simp [RepL], n1, n2⟩
  have I4 := block_start I3 ok hN f3
  have ta' := ta s3 (upd H2 L (.lst [])) s3.heap.objs.size (cellsFrom (s3.heap.objs.size + 1) scope.names (cloFrom X.env.cells scope.names [])) fp
  have pt' := pt s3 (upd H2 L (.lst [])) s3.heap.objs.size (cellsFrom (s3.heap.objs.size + 1) scope.names (cloFrom X.env.cells scope.names [])) fp
  have pc' := pc s3 (upd H2 L (.lst [])) s3.heap.objs.size (cellsFrom (s3.heap.objs.size + 1) scope.names (cloFrom X.env.cells scope.names [])) fp
  show codeAny _ _ (.compStart (.ListComp elt (⟨tg, it0, ifs, 0⟩ :: gs) scope pos) 0 (.ref it) (.ref L) (compEnvC scope (cellsFrom (s3.heap.objs.size + 1) scope.names (cloFrom X.env.cells scope.names [])) s3.heap.objs.size X.env)) (compPost (model X.prog X.w) X.A X.xe use Qf (.ref L) s3.heap.objs.size) { s3 with heap := pushCells (s3.heap.push { cls := .type "dict", data := .dict #[] }) scope.names }
  have nfp : ∀ b ∈ fp, (upd H2 L (.lst [])) b = none := fun b hb => (f3 b hb).1.1
  generalize hce : compEnvC scope (cellsFrom (s3.heap.objs.size + 1) scope.names (cloFrom X.env.cells scope.names [])) s3.heap.objs.size X.env = ce at I4 ta' pt' pc' ⊢
  have cL : ce.locals = s3.heap.objs.size := by subst hce; rfl
  generalize hH3 : upd H2 L (.lst []) = H3 at I3 I4 ta' pt' pc' nfp f3 c3 e3 A3
  generalize hs4 : ({ s3 with heap := pushCells (s3.heap.push { cls := .type "dict", data := .dict #[] }) scope.names } : Shared) = s4 at I4 ⊢
  have st4 : tn 0 s4.heap := T.keep _ _ _ st3 fun b _ o e => by rw [← hs4]; exact pushCells_keeps _ _ _ _ (Heap.get?_push_of_some _ e)
  have hf4 : ∀ b ∈ fp, FpOk (X.blk s3 H3 scope ce fp) [] H3 b := fun b hb =>
    ⟨nfp b hb, (I4.ok.exf b hb).1, I4.ok.exfs b hb, .inl hb, fun x c e => (I4.ok.exf b hb).2 x c e, fun p hp => absurd (show p ∈ ([] : List (Addr × Obj)) ++ [] from hp) (by simp)⟩
  have S3 : SL X.K X.mg H3 p2 env σ := (S.ext e2).ext e3
  have loop := clause_loop (B := X.blk s3 H3 scope ce fp) (pins := []) (own := own.map (·.2)) hc hN rfl (d := 0) rfl (fun g' hg => hn g' (by simpa using hg)) ta' hl pt' pc' hvs hts T st4 hf4 I4 S3 c3 A3 hst (V.mono (by
    exact e3.toExt0.trans (ext0_hold L))) r2
  have fin := codeAny_mono loop (R' := compPost (model X.prog X.w) X.A X.xe use Qf (.ref L) s3.heap.objs.size) fun r s6 hr => by
    cases r with
    | error e => exact hr.elim
    | ok fl =>
      obtain ⟨rfl, p', H', I6, q2, q3, q4, _⟩ := hr
      have I7 : Inv X pins σ H' s6 := I3.call' (ch := fp) I6.os I6.base I6.hok I6.bare fun b hb => ⟨(f3 b hb).1.2.2.2.1, (f3 b hb).1.2.1, (f3 b hb).1.2.2.2.2.1, (f3 b hb).1.2.2.2.2.2⟩
      obtain ⟨m, hm, _⟩ := I6.loc
      have hm : s6.heap.Ns ce.locals m := hm
      rw [cL] at hm
      have nC : H' s3.heap.objs.size = none := by
        have z : H' ce.locals = none := I6.free
        rw [cL] at z
        exact z
      exact post L s3.heap.objs.size s6 m p' H' I7 q2 ((e2.trans e3).trans q3) q4 hm (I3.fpOk (Nat.le_refl _) nC)
  exact codeAny_compStart_list fin (T.self X.A 0 _ _ _ st4 fin)
end
end Fz

set_option Elab.async false
set_option linter.all false
set_option maxRecDepth 100000
set_option maxHeartbeats 1000000
/-! Fz, part O: a comprehension as a value and as a store; statements. -/
namespace Fz
open PySem PySem.Spec PyProof.Rows L2
def compF (f : Env → List D → M (List D)) : Env → M DF := fun env => M.then (quiet (f env [])) fun xs => fun h => .ok (.lst xs, true) h
/-- the code of a comprehension -/
structure CompOk (X : Cx) (W : XK) (elt : Expr) (gs : List Comprehension) (scope : Scope) (pos : Pos) (own : List (Str × Nat)) (f : Env → List D → M (List D)) : Prop where
  run : ∀ (pins : List (Addr × Obj)) (s : Shared) (σ : L2.St) (H : Hp) (p : Mp) (h h' : LH) (env : Env) (acc' : List D) (pos' : Pos) (use : Option (Value → Sem Unit)) (Qf : Value → Shared → Prop), Inv X pins σ H s → CH X.K X.mg H p h → SL X.K X.mg H p env σ → f env [] h = .ok acc' h' →
    (∀ L C s' m p' H', Inv X pins σ H' s' → CH X.K X.mg H' p' h' → Ext p H p' H' → Acc X.K X.mg H' p' L acc' → s'.heap.Ns C m → FpOk X pins H' C → compPost (model X.prog X.w) X.A X.xe use Qf (.ref L) C (.ok .next) s') →
    wpAny (model X.prog X.w) X.A (comprehension (.ListComp elt gs scope pos) scope X.env pos' (newList []) (firstAsync gs) (firstIter gs X.env) use) Qf X.xe s
section
variable {X : Cx} {W : XK}
theorem s_comp {elt : Expr} {gs : List Comprehension} {scope : Scope} {pos : Pos} {own : List (Str × Nat)} {f : Env → List D → M (List D)} (C : CompOk X W elt gs scope pos own f) : PE X (.ListComp elt gs scope pos) (tE X.K X.mg W (compF f)) := by
  refine ⟨fun pins s σ H Q I ⟨p, h, env, k, q⟩ => ?_⟩
  rw [eval_ListComp]
  cases e : f env [] h with
  | exc c xs h1 =>
    simp only [compF, M.then, quiet, e, Res.next] at q
    exact q.elim
  | no =>
    simp only [compF, M.then, quiet, e, Res.next] at q
    exact q.elim
  | ok acc' h' =>
    simp only [compF, M.then, quiet, e, Res.next] at q
    refine C.run pins s σ H p h h' env acc' _ none _ I k.1 k.2 e fun L Ca s' m p' H' I' c' e' A' hn fp => ⟨m, hn, fun h'' sb => ?_⟩
    obtain ⟨f0, f1, f2, f3, f4, f5⟩ := fp
    obtain ⟨us, g1, g2, g3, g4⟩ := A'
    exact ⟨.ref L, H', I'.turned (t' := s'.toks) (fun b o hb e => (sb.2 b hb).trans e) f0 f1 f3 f4 f5, rfl, q p' H' c' e' (.ref L) ⟨acc', L, us, rfl, rfl, g1, g3, g4, g2⟩⟩

/-! ### statements' readings -/
def SK (K : PySem.W.Frag) (mg : Str → Option Value) (D : Ends) : Fl → LH → Mp → Hp → Prop := fun fl h' p' H' => match fl with
  | .nx e => ∀ σ', CH K mg H' p' h' → SL K mg H' p' e σ' → D.nx σ' H'
  | .rt d fr => ∀ v, RepF K mg H' p' d fr v → D.rt v H'
  | .bk e => ∀ σ', CH K mg H' p' h' → SL K mg H' p' e σ' → D.bk σ' H'
  | .ct e => ∀ σ', CH K mg H' p' h' → SL K mg H' p' e σ' → D.ct σ' H'
def tS (K : PySem.W.Frag) (mg : Str → Option Value) (W : XK) (f : Env → M Fl) : L2.TS := fun D σ H => ∃ p h env, Kn K mg H p h env σ ∧ Aft K mg W p H (f env h) (SK K mg D)
variable {e : Expr} {fe : Env → M DF} {pos : Pos} {f g : Env → M Fl}
theorem s_pass : PS X (.Pass pos) (tS X.K X.mg W fun env => M.ret (.nx env)) := PS.imp ps_pass fun D σ H ⟨p, h, env, k, q⟩ => q p H k.1 (Ext.refl _ _) σ k.1 k.2
theorem s_brk : PS X (.Break pos) (tS X.K X.mg W fun env => M.ret (.bk env)) := PS.imp ps_break fun D σ H ⟨p, h, env, k, q⟩ => q p H k.1 (Ext.refl _ _) σ k.1 k.2
theorem s_cont : PS X (.Continue pos) (tS X.K X.mg W fun env => M.ret (.ct env)) := PS.imp ps_continue fun D σ H ⟨p, h, env, k, q⟩ => q p H k.1 (Ext.refl _ _) σ k.1 k.2
theorem s_doc {x j pos'} : PS X (.Expr (.Constant (.str x) j pos) pos') (tS X.K X.mg W fun env => M.ret (.nx env)) := PS.imp ps_doc fun D σ H ⟨p, h, env, k, q⟩ => q p H k.1 (Ext.refl _ _) σ k.1 k.2
theorem s_retN : PS X (.Return none pos) (tS X.K X.mg W fun env => M.ret (.rt .non false)) := PS.imp ps_retN fun D σ H ⟨p, h, env, k, q⟩ => q p H k.1 (Ext.refl _ _) .non (by simp [RepF, Rep])
theorem s_expr (he : PE X e (tE X.K X.mg W fe)) (hs : swapsWith e none pos.line X.env = pure false) : PS X (.Expr e pos) (tS X.K X.mg W fun env => M.then (fe env) fun _ => M.ret (.nx env)) :=
  PS.imp (ps_expr (PE.z he) hs) fun D σ H ⟨p, h, env, k, q⟩ => ⟨p, h, env, k, (Aft.z q k.2).imp fun x h1 p1 H1 c1 e1 q1 v c1' r1 => q1.2 p1 H1 c1' (Ext.refl _ _) σ c1' q1.1.2⟩
theorem s_ret (he : PE X e (tE X.K X.mg W fe)) : PS X (.Return (some e) pos) (tS X.K X.mg W fun env => M.then (fe env) fun x => M.ret (.rt x.1 x.2)) :=
  PS.imp (ps_ret he) fun D σ H ⟨p, h, env, k, q⟩ => ⟨p, h, env, k, (Aft.bind q).imp fun x h1 p1 H1 c1 e1 q1 v r1 => q1 p1 H1 c1 (Ext.refl _ _) v r1⟩
/-- name = value -/
theorem s_asg {i : Nat} {x : Str} {pos' : Pos} (hN : X.N.Nodup) (st : Sto X i x) (he : PE X e (tE X.K X.mg W fe)) (hs : swapsWith e (some (.Name x pos')) pos.line X.env = pure false) :
    PS X (.Assign [.Name x pos'] e pos) (tS X.K X.mg W fun env => M.then (fe env) fun x => M.ret (.nx (env.set i (some x.1)))) :=
  PS.imp (ps_set hN st.1 st.2.1 (PE.z he) hs st.2.2) fun D σ H ⟨p, h, env, k, q⟩ => ⟨p, h, env, k, (Aft.z q k.2).imp fun x h1 p1 H1 c1 e1 q1 v c1' r1 =>
    q1.2 p1 H1 c1' (Ext.refl _ _) _ c1' (q1.1.2.set r1)⟩
/-- name = [..] on one line -/
theorem s_asgC {i : Nat} {y : Str} {py spos : Pos} {elt : Expr} {gs : List Comprehension} {scope : Scope} {own : List (Str × Nat)} {f : Env → List D → M (List D)} (hN : X.N.Nodup) (hy : X.N[i]? = some y) (hyl : X.env.scope.names.lookup y = some .local) (C : CompOk X W elt gs scope pos own f)
    (hsw : swapsWith (.ListComp elt gs scope pos) (some (.Name y py)) spos.line X.env = pure true) :
    PS X (.Assign [.Name y py] (.ListComp elt gs scope pos) spos) (tS X.K X.mg W fun env => M.then (compF f env) fun x => M.ret (.nx (env.set i (some x.1)))) := by
  refine ⟨fun pins s σ H D I ⟨p, h, env, k, q⟩ => ?_⟩
  rw [exec_Assign_Name_used _ _ _ _ hsw]
  refine wpAny_bind (wpAny_standAt (wpAny_bind ?_))
  show wpAny _ X.A (do let _ ← comprehension (.ListComp elt gs scope pos) scope X.env (firstIterPos gs pos) (newList []) (firstAsync gs) (firstIter gs X.env) (some (assign (.Name y py) X.env))) _ _ s
  cases e : f env [] h with
  | exc c xs h1 =>
    simp only [compF, M.then, quiet, e, Res.next] at q
    exact q.elim
  | no =>
    simp only [compF, M.then, quiet, e, Res.next] at q
    exact q.elim
  | ok acc' h' =>
    simp only [compF, M.then, quiet, e, Res.next] at q
    refine wpAny_bind (thn (C.run (Qf := fun _ s' => SP X pins D .next s') pins s σ H p h h' env acc' _ (some (assign (.Name y py) X.env)) I k.1 k.2 e fun L Ca s' m p' H' I' c' e' A' hn fp => ?_) fun _ s' hq => wpAny_pure (wpAny_pure hq))
    show wpAny _ _ (assign (.Name y py) X.env (.ref L)) _ _ _
    refine wpAny_assign_Name (store_ok2 (v := V.ref L) I' hN hy (.inl hyl) rfl (fun s2 I2 ⟨a, sb, ha⟩ => ?_) (.inr hyl))
    obtain ⟨f0, f1, f2, f3, f4, f5⟩ := fp
    have haC : Ca ≠ a := by
      rcases ha with z | z
      · rw [z]; exact f1
      · exact fun e => f4 y a z e.symm
    refine ⟨m, hn.sameBut sb haC, fun h3 sb3 => ?_⟩
    obtain ⟨us, g1, g2, g3, g4⟩ := A'
    obtain ⟨p2, c2, e2, r2⟩ := RepF.freeze (d := .lst acc') (fr := true) (v := .ref L) c' ⟨acc', L, us, rfl, rfl, g1, g3, g4, g2⟩
    exact ⟨_, H', I2.turned (t' := s2.toks) (fun b o hb e => (sb3.2 b hb).trans e) f0 f1 f3 f4 f5, q p2 H' c2 (e'.trans e2) _ c2 (((k.2.ext e').ext e2).set r2)⟩
/-- one after another -/
theorem s_snil : PSs X [] (tS X.K X.mg W fun env => M.ret (.nx env)) := PSs.imp pss_nil fun D σ H ⟨p, h, env, k, q⟩ => q p H k.1 (Ext.refl _ _) σ k.1 k.2
theorem s_scons {st : Stmt} {sts : List Stmt} (h1 : PS X st (tS X.K X.mg W f)) (h2 : PSs X sts (tS X.K X.mg W g)) : PSs X (st :: sts) (tS X.K X.mg W fun env => M.then (f env) fun fl => match fl with
    | .nx e => g e
    | fl => M.ret fl) :=
  PSs.imp (pss_cons h1 h2) fun D σ H ⟨p, h, env, k, q⟩ => ⟨p, h, env, k, (Aft.bind q).imp fun fl h1 p1 H1 c1 e1 q1 => by
    cases fl with
    | nx e => exact fun σ' c' s' => ⟨p1, h1, e, ⟨c', s'⟩, q1⟩
    | rt d fr => exact q1 p1 H1 c1 (Ext.refl _ _)
    | bk e => exact q1 p1 H1 c1 (Ext.refl _ _)
    | ct e => exact q1 p1 H1 c1 (Ext.refl _ _)⟩
/-- if -/
theorem s_if {c : Expr} {a b : List Stmt} {fc : Env → M Bool} (hc : PT X c (tT X.K X.mg W fc)) (ha : PSs X a (tS X.K X.mg W f)) (hb : PSs X b (tS X.K X.mg W g)) : PS X (.If c a b pos) (tS X.K X.mg W fun env => M.then (fc env) fun t => match t with
    | true => f env
    | false => g env) :=
  PS.imp (ps_if hc ha hb) fun D σ H ⟨p, h, env, k, q⟩ => ⟨p, h, env, k, (Aft.z q k.2).imp fun t h1 p1 H1 c1 e1 q1 c1' => by
    cases t with
    | true =>
      rw [if_pos rfl]
      exact ⟨p1, h1, env, ⟨c1', q1.1.2⟩, q1.2⟩
    | false =>
      rw [if_neg Bool.false_ne_true]
      exact ⟨p1, h1, env, ⟨c1', q1.1.2⟩, q1.2⟩⟩
theorem PS.as {st : Stmt} (h : PS X st (tS X.K X.mg W f)) (e : ∀ env, f env = g env) : PS X st (tS X.K X.mg W g) := by
  have : f = g := funext e
  exact this ▸ h
theorem PSs.as {st : List Stmt} (h : PSs X st (tS X.K X.mg W f)) (e : ∀ env, f env = g env) : PSs X st (tS X.K X.mg W g) := by
  have : f = g := funext e
  exact this ▸ h
/-- for -/
theorem s_for {tg it0 : Expr} {body : List Stmt} {t : Tg} {lo : Bool} {fw : Env → M Walk} (hp : PassesOwn (model X.prog X.w) X.A X.env X.xe) (hc : X.calm = true) (hN : X.N.Nodup) (hi : PI X tg it0 (tI X.K X.mg W lo fw)) (ta : TgAt X tg t) (hl : lo = true → ∃ is, t = .tup is)
    (hs : ∀ x, foldedSetIterable it0 X.env x = pure x) (hb : PSs X body (tS X.K X.mg W f)) : PS X (.For tg it0 body [] pos) (tS X.K X.mg W fun env => M.then (fw env) fun w => forM_ w.2 w.1 (fun x env => M.then (ofO (bindT t x env)) fun e => f e) w.1 env) := by
  refine PS.imp (ps_for hp hc hi (ta.pg hc hN) hb hs) fun D σ H ⟨p, h, env, k, q⟩ => ?_
  refine ⟨p, h, env, k, (Aft.z q k.2).imp fun w h1 p1 H1 c1 e1 q1 J p2 c2 e2 st V => ?_⟩
  obtain ⟨⟨_, S1⟩, q1⟩ := q1
  refine ⟨fun i m σ' H' => ∃ pi hi ei, m = w.1.length - i ∧ i ≤ w.1.length ∧ Kn X.K X.mg H' pi hi ei σ' ∧ Ext p2 H1 pi H' ∧ still w.2 w.1 hi = true ∧ Aft X.K X.mg W pi H' (forM_ w.2 w.1 (fun x env => M.then (ofO (bindT t x env)) fun e => f e) (w.1.drop i) ei hi) (SK X.K X.mg D),
    ⟨w.1.length, p2, h1, env, rfl, Nat.zero_le _, ⟨c2, S1.ext e2⟩, Ext.refl _ _, st, ?_⟩, ?_⟩
  · rw [List.drop_zero]
    refine (show ∀ r : Res Fl, Aft X.K X.mg W p1 H1 r (SK X.K X.mg D) → Aft X.K X.mg W p2 H1 r (SK X.K X.mg D) from fun r a => ?_) _ q1
    cases r with
    | ok fl h' => exact fun p' H' c' e' => a p' H' c' (e2.trans e')
    | exc c xs h' => exact fun cls dx p' H' c' e' => a cls dx p' H' c' (e2.trans e')
    | no => exact a
  · rintro i m σi Hi ⟨pi, hi', ei, rfl, hle, ⟨ci, Si⟩, exi, sti, ai⟩
    cases hxi : w.1[i]? with
    | none =>
      have hi2 : w.1.length ≤ i := by simpa using hxi
      rw [List.drop_eq_nil_of_le hi2] at ai
      exact .inl ⟨V.stop _ _ _ _ ci exi.toExt0 sti hi2, ai pi Hi ci (Ext.refl _ _) σi ci Si⟩
    | some x =>
      obtain ⟨hgo, hy⟩ := V.go _ _ _ _ _ ci exi.toExt0 sti hxi
      have hlt : i < w.1.length := (List.getElem?_eq_some_iff.mp hxi).1
      refine .inr ⟨hgo, fun σ' H' => ∃ pj hj ej, Kn X.K X.mg H' pj hj ej σ' ∧ Ext p2 H1 pj H' ∧ still w.2 w.1 hj = true ∧ Aft X.K X.mg W pj H' (forM_ w.2 w.1 (fun x env => M.then (ofO (bindT t x env)) fun e => f e) (w.1.drop (i + 1)) ej hj) (SK X.K X.mg D),
        fun σ' H' ⟨pj, hj, ej, k1, k2, k3, k4⟩ => ⟨w.1.length - (i + 1), by omega, pj, hj, ej, rfl, hlt, k1, k2, k3, k4⟩, fun v H' y => ?_⟩
      obtain ⟨c7, e7, v7⟩ := hy v H' y
      rw [drop_cons hxi] at ai
      unfold forM_ at ai
      have ab := Aft.bind ai
      simp only [M.then] at ab
      cases hb : bindT t x ei with
      | none =>
        rw [hb] at ab
        exact ab.elim
      | some env' =>
        rw [hb] at ab
        refine gT_ok hl (Si.ext e7) v7 hb fun σ8 S8 _ => ⟨pi, hi', env', ⟨c7, S8⟩, ?_⟩
        refine (show ∀ r : Res Fl, Aft X.K X.mg W pi Hi r _ → Aft X.K X.mg W pi H' r _ from fun r a => ?_) _ ab
        cases r with
        | no => exact a
        | exc c xs h' => exact fun cls dx p' H'' c' e' => a cls dx p' H'' c' (e7.trans e')
        | ok fl h' =>
          intro p' H'' c' e'
          have a := a p' H'' c' (e7.trans e')
          have go : ∀ e9, Aft X.K X.mg W p' H'' (match still w.2 w.1 h' with
              | true => forM_ w.2 w.1 (fun x env => M.then (ofO (bindT t x env)) fun e => f e) (w.1.drop (i + 1)) e9 h'
              | false => .no) (SK X.K X.mg D) → ∀ σ', CH X.K X.mg H'' p' h' → SL X.K X.mg H'' p' e9 σ' → ∃ pj hj ej, Kn X.K X.mg H'' pj hj ej σ' ∧ Ext p2 H1 pj H'' ∧ still w.2 w.1 hj = true ∧ Aft X.K X.mg W pj H'' (forM_ w.2 w.1 (fun x env => M.then (ofO (bindT t x env)) fun e => f e) (w.1.drop (i + 1)) ej hj) (SK X.K X.mg D) := by
            intro e9 a σ' c'' s''
            cases hst : still w.2 w.1 h' with
            | false =>
              rw [hst] at a
              exact a.elim
            | true =>
              rw [hst] at a
              exact ⟨p', h', e9, ⟨c'', s''⟩, (exi.trans e7).trans e', hst, a⟩
          cases fl with
          | rt d fr => exact a p' H'' c' (Ext.refl _ _)
          | bk e9 => exact a p' H'' c' (Ext.refl _ _)
          | nx e9 => exact go e9 a
          | ct e9 => exact go e9 a
end
end Fz

set_option Elab.async false
set_option linter.all false
set_option maxRecDepth 100000
set_option maxHeartbeats 1000000
/-! Fz, part P: while; stores of several, of items. -/
namespace Fz
open PySem PySem.Spec PyProof.Rows L2
section
variable {X : Cx} {W : XK} {e : Expr} {fe : Env → M DF} {pos : Pos} {f g : Env → M Fl}
theorem s_while {c : Expr} {body : List Stmt} {fc : Env → M Bool} (n : Nat) (hp : PassesOwn (model X.prog X.w) X.A X.env X.xe) (hc : PT X c (tT X.K X.mg W fc)) (hb : PSs X body (tS X.K X.mg W f)) : PS X (.While c body [] pos) (tS X.K X.mg W fun env => whileM fc f n env) :=
  PS.imp (ps_while hp hc hb) fun D σ H ⟨p, h, env, k, q⟩ => by
    refine ⟨fun m σ' H' => ∃ p h env, Kn X.K X.mg H' p h env σ' ∧ Aft X.K X.mg W p H' (whileM fc f m env h) (SK X.K X.mg D), ⟨n, p, h, env, k, q⟩, ?_⟩
    rintro m σ' H' ⟨p, h, env, k, q⟩
    cases m with
    | zero => exact q.elim
    | succ m =>
      refine ⟨p, h, env, k, (Aft.z q k.2).imp fun b h1 p1 H1 c1 e1 q1 c1' => ?_⟩
      cases b with
      | false =>
        rw [if_neg Bool.false_ne_true]
        exact q1.2 p1 H1 c1' (Ext.refl _ _) σ' c1' q1.1.2
      | true =>
        rw [if_pos rfl]
        refine ⟨fun σ2 H2 => ∃ p h env, Kn X.K X.mg H2 p h env σ2 ∧ Aft X.K X.mg W p H2 (whileM fc f m env h) (SK X.K X.mg D), fun σ2 H2 w => ⟨m, Nat.lt_succ_self m, w⟩, p1, h1, env, ⟨c1', q1.1.2⟩, (Aft.bind q1.2).imp fun fl h2 p2 H2 c2 e2 q2 => ?_⟩
        cases fl with
        | rt d fr => exact q2 p2 H2 c2 (Ext.refl _ _)
        | bk e9 => exact q2 p2 H2 c2 (Ext.refl _ _)
        | nx e9 => exact fun σ3 c3 s3 => ⟨p2, h2, e9, ⟨c3, s3⟩, q2⟩
        | ct e9 => exact fun σ3 c3 s3 => ⟨p2, h2, e9, ⟨c3, s3⟩, q2⟩
/-- a, b = x, y of plain names -/
theorem s_par2 {i j : Nat} {x y : Str} {a b : Expr} {fl : Env → M (List D)} {px py pt : Pos} {kt k2 pt2} (hc : X.calm = true) (hN : X.N.Nodup) (hi : X.N[i]? = some x) (hj : X.N[j]? = some y) (hij : i ≠ j)
    (hx : X.env.scope.names.lookup x = some .local) (hy : X.env.scope.names.lookup y = some .local) (ha : PA X [a, b] (tA X.K X.mg W fl))
    (hw : swappedStores [.Tuple [.Name x px, .Name y py] kt pt] (.Tuple [a, b] k2 pt2) X.env = pure (some [x, y])) :
    PS X (.Assign [.Tuple [.Name x px, .Name y py] kt pt] (.Tuple [a, b] k2 pt2) pos) (tS X.K X.mg W fun env => M.then (fl env) fun ds => if [i, j].length = ds.length then M.ret (.nx (setL ([i, j].zip ds) env)) else stop) :=
  PS.imp (ps_par hc hN hi hj hij hx hy ha hw) fun D σ H ⟨p, h, env, k, q⟩ => ⟨p, h, env, k, (Aft.z q k.2).imp fun ds h1 p1 H1 c1 e1 q1 vs c1' r1 => by
    obtain ⟨⟨_, S1⟩, q1⟩ := q1
    match ds with
    | [d, d'] =>
      simp only [RepL] at r1
      obtain ⟨v, r, rfl, rd, w, r', rfl, rd', rfl⟩ := r1
      rw [if_pos (show [i, j].length = [d, d'].length from rfl)] at q1
      exact ⟨v, w, rfl, q1 p1 H1 c1' (Ext.refl _ _) _ c1' ((S1.set rd).set rd')⟩
    | [] => exact q1.elim
    | [_] => exact q1.elim
    | _ :: _ :: _ :: _ => rw [if_neg (by simp)] at q1; exact q1.elim⟩
theorem s_par3 {i j l : Nat} {x y z : Str} {a b c : Expr} {fl : Env → M (List D)} {px py pz pt : Pos} {kt k2 pt2} (hc : X.calm = true) (hN : X.N.Nodup) (hi : X.N[i]? = some x) (hj : X.N[j]? = some y) (hl : X.N[l]? = some z) (hij : i ≠ j) (hil : i ≠ l) (hjl : j ≠ l)
    (hx : X.env.scope.names.lookup x = some .local) (hy : X.env.scope.names.lookup y = some .local) (hz : X.env.scope.names.lookup z = some .local) (ha : PA X [a, b, c] (tA X.K X.mg W fl))
    (hw : swappedStores [.Tuple [.Name x px, .Name y py, .Name z pz] kt pt] (.Tuple [a, b, c] k2 pt2) X.env = pure (some [x, y, z])) :
    PS X (.Assign [.Tuple [.Name x px, .Name y py, .Name z pz] kt pt] (.Tuple [a, b, c] k2 pt2) pos) (tS X.K X.mg W fun env => M.then (fl env) fun ds => if [i, j, l].length = ds.length then M.ret (.nx (setL ([i, j, l].zip ds) env)) else stop) :=
  PS.imp (ps_par3 hc hN hi hj hl hij hil hjl hx hy hz ha hw) fun D σ H ⟨p, h, env, k, q⟩ => ⟨p, h, env, k, (Aft.z q k.2).imp fun ds h1 p1 H1 c1 e1 q1 vs c1' r1 => by
    obtain ⟨⟨_, S1⟩, q1⟩ := q1
    match ds with
    | [d, d', d''] =>
      simp only [RepL] at r1
      obtain ⟨v, r, rfl, rd, w, r', rfl, rd', u, r'', rfl, rd'', rfl⟩ := r1
      rw [if_pos (show [i, j, l].length = [d, d', d''].length from rfl)] at q1
      exact ⟨v, w, u, rfl, q1 p1 H1 c1' (Ext.refl _ _) _ c1' (((S1.set rd).set rd').set rd'')⟩
    | [] => exact q1.elim
    | [_] => exact q1.elim
    | [_, _] => exact q1.elim
    | _ :: _ :: _ :: _ :: _ => rw [if_neg (by simp)] at q1; exact q1.elim⟩
theorem set_end {p : Mp} {h : LH} {H : Hp} {d i x : D} {o iv v : V} {Q : Hp → Prop} (c : CH X.K X.mg H p h) (ro : Rep X.K X.mg H p d o) (ri : Rep X.K X.mg H p i iv) (rx : Rep X.K X.mg H p x v)
    (q : Aft X.K X.mg W p H (setD d i x h) fun _ h' p' H' => CH X.K X.mg H' p' h' → Q H') : rSetL o iv v H Q := by
  cases d with
  | cell l =>
    cases i with
    | int k =>
      simp only [Rep] at ro ri
      obtain ⟨a, rfl, hm⟩ := ro
      subst ri
      simp only [setD] at q
      cases ho : h[l]? with
      | none => rw [ho] at q; exact q.elim
      | some ob =>
        cases ob with
        | dic _ _ => rw [ho] at q; exact q.elim
        | lst xs =>
          rw [ho] at q
          cases hj : ixN xs.length k with
          | none => simp only [hj] at q; exact q.elim
          | some j =>
            simp only [hj, putL] at q
            obtain ⟨b, m1, vs, g1, g2⟩ := c.ob l _ ho
            rw [hm] at m1
            cases m1
            cases hb : (belL l (xs.set j x) && decide ((xs.set j x).length ≤ sizeLine)) with
            | false => rw [hb] at q; exact q.elim
            | true =>
              rw [hb] at q
              rw [Bool.and_eq_true] at hb
              obtain ⟨c', e'⟩ := c.put ho hm g1 (g2.set rx j) hb.1
              exact ⟨a, vs, k, j, rfl, rfl, g1, by rw [← g2.len]; exact hj, q p _ c' e' c'⟩
    | _ => exact q.elim
  | _ => exact q.elim
variable {Φ : Str → List D → M DF}
/-- targets of a tuple: names, items -/
inductive TsAt (X : Cx) (W : XK) (Φ : Str → List D → M DF) : List Expr → List TS → Prop where
  | nil : TsAt X W Φ [] []
  | loc {x : Str} {pos : Pos} {i : Nat} {es : List Expr} {ts : List TS} (h : Sto X i x) (r : TsAt X W Φ es ts) : TsAt X W Φ (.Name x pos :: es) (.loc i :: ts)
  | sub {o i : Expr} {o' i' : E} {pos : Pos} {es : List Expr} {ts : List TS} (ho : PE X o (tE X.K X.mg W (ev Φ o'))) (hi : PE X i (tE X.K X.mg W (ev Φ i')))
      (ha : ∀ v, assign (.Subscript o i pos) X.env v = (do
        let ov ← holding [v] (eval o X.env)
        let iv ← holding [v, ov] (eval i X.env)
        standAt pos
        holding [v, ov, iv] (setItem ov iv v)
        release [v, ov, iv] [])) (r : TsAt X W Φ es ts) : TsAt X W Φ (.Subscript o i pos :: es) (.sub o' i' :: ts)
def gTS (K : PySem.W.Frag) (mg : Str → Option Value) (W : XK) (Φ : Str → List D → M DF) : TS → TG
  | .loc i => gName i
  | .sub o i => gSub (tZ K mg W (ev Φ o)) (tZ K mg W (ev Φ i)) rSetL
def gTSs (K : PySem.W.Frag) (mg : Str → Option Value) (W : XK) (Φ : Str → List D → M DF) : List TS → TGs
  | [] => gNil
  | t :: ts => gCons (gTS K mg W Φ t) (gTSs K mg W Φ ts)
theorem TsAt.pgs (hN : X.N.Nodup) {es : List Expr} {ts : List TS} (h : TsAt X W Φ es ts) : PGs X es (gTSs X.K X.mg W Φ ts) := by
  induction h with
  | nil => exact pgs_nil
  | loc h r ih => exact pgs_cons (pg_sto hN h) ih
  | sub ho hi ha r ih => exact pgs_cons (pg_sub (PE.z ho) (PE.z hi) set_list ha) ih
theorem TsAt.each {es : List Expr} {ts : List TS} (h : TsAt X W Φ es ts) (env : PySem.Env) : (assignEach es env).length = ts.length ∧ (assignEach es env).findIdx? (·.1) = none := by
  induction h with
  | nil => exact ⟨rfl, rfl⟩
  | @loc x pos i es ts h r ih =>
    have e : assignEach (.Name x pos :: es) env = (false, assign (.Name x pos) env) :: assignEach es env := rfl
    exact ⟨by rw [e]; simp [ih.1], by rw [e, List.findIdx?_cons]; simp [ih.2]⟩
  | @sub o i o' i' pos es ts ho hi ha r ih =>
    have e : assignEach (.Subscript o i pos :: es) env = (false, assign (.Subscript o i pos) env) :: assignEach es env := rfl
    exact ⟨by rw [e]; simp [ih.1], by rw [e, List.findIdx?_cons]; simp [ih.2]⟩
theorem gTS_ok {t : TS} {d : D} {v : V} {env : Env} {σ : L2.St} {H : Hp} {p : Mp} {h : LH} {Q : L2.St → Hp → Prop} (k : Kn X.K X.mg H p h env σ) (r : Rep X.K X.mg H p d v)
    (q : Aft X.K X.mg W p H (evTS Φ t d env h) fun e h' p' H' => ∀ σ', CH X.K X.mg H' p' h' → SL X.K X.mg H' p' e σ' → Q σ' H') : gTS X.K X.mg W Φ t v σ H Q := by
  cases t with
  | loc i => exact q p H k.1 (Ext.refl _ _) _ k.1 (k.2.set r)
  | sub o i =>
    exact ⟨p, h, env, k, (Aft.z q k.2).imp fun x h1 p1 H1 c1 e1 q1 ov c1' r1 => ⟨p1, h1, env, ⟨c1', q1.1.2⟩, (Aft.z q1.2 q1.1.2).imp fun y h2 p2 H2 c2 e2 q2 iv c2' r2 =>
      set_end c2' (Rep.ext e2 _ _ r1) r2 (Rep.ext (e1.trans e2) _ _ r) ((Aft.z q2.2 q2.1.2).imp fun _ h3 p3 H3 c3 e3 q3 c3' => q3.2 p3 H3 c3' (Ext.refl _ _) σ c3' q3.1.2)⟩⟩
theorem gTSs_ok : ∀ {ts : List TS} {ds : List D} {vs : List V} {env : Env} {σ : L2.St} {H : Hp} {p : Mp} {h : LH} {Q : L2.St → Hp → Prop}, Kn X.K X.mg H p h env σ → RepL X.K X.mg H p ds vs →
    (Aft X.K X.mg W p H (evTSs Φ ts ds env h) fun e h' p' H' => ∀ σ', CH X.K X.mg H' p' h' → SL X.K X.mg H' p' e σ' → Q σ' H') → gTSs X.K X.mg W Φ ts vs σ H Q
  | [], [], vs, env, σ, H, p, h, Q, k, r, q => by
    simp only [RepL] at r
    subst r
    exact ⟨rfl, q p H k.1 (Ext.refl _ _) σ k.1 k.2⟩
  | t :: ts, d :: ds, vs, env, σ, H, p, h, Q, k, r, q => by
    simp only [RepL] at r
    obtain ⟨v, vr, rfl, r1, r2⟩ := r
    refine ⟨v, vr, rfl, gTS_ok k r1 ((Aft.bind q).imp fun e h1 p1 H1 c1 e1 q1 σ' c' s' => gTSs_ok ⟨c', s'⟩ (RepL.ext e1 _ _ r2) q1)⟩
  | [], _ :: _, _, _, _, _, _, _, _, _, _, q => q.elim
  | _ :: _, [], _, _, _, _, _, _, _, _, _, q => q.elim
/-- (a, b[i], ..) = e -/
theorem s_asgT {es : List Expr} {ts : List TS} {k : Nat} {tpos : Pos} (hc : X.calm = true) (hN : X.N.Nodup) (he : PE X e (tE X.K X.mg W fe)) (ta : TsAt X W Φ es ts) (hs : swapsWithSole [.Tuple es k tpos] e pos.line X.env = pure false) (hw : swappedStores [.Tuple es k tpos] e X.env = pure none) :
    PS X (.Assign [.Tuple es k tpos] e pos) (tS X.K X.mg W fun env => M.then (fe env) fun x => match x.1 with
      | .tup ds => if ts.length = ds.length then M.then (evTSs Φ ts ds env) fun e => M.ret (.nx e) else stop
      | _ => stop) :=
  PS.imp (ps_asg (PE.z he) (pg_tup hc (ta.pgs hN) (ta.each _).1 (ta.each _).2) hs hw) fun D σ H ⟨p, h, env, k, q⟩ => ⟨p, h, env, k, (Aft.z q k.2).imp fun x h1 p1 H1 c1 e1 q1 v c1' r1 => by
    obtain ⟨⟨_, S1⟩, q1⟩ := q1
    obtain ⟨d, fr⟩ := x
    cases d with
    | tup ds =>
      simp only [Rep] at r1
      obtain ⟨a, vs, rfl, h2, h3⟩ := r1
      by_cases hl : ts.length = ds.length
      case neg =>
        simp only [if_neg hl] at q1
        exact q1.elim
      simp only [if_pos hl] at q1
      have q1 : Aft X.K X.mg W p1 H1 ((evTSs Φ ts ds env h1).next fun e => M.ret (.nx e)) (SK X.K X.mg D) := q1
      have hlen : vs.length = ts.length := by rw [← h3.len]; exact hl.symm
      exact ⟨a, vs, rfl, h2.sq, hlen, gTSs_ok ⟨c1', S1⟩ h3 ((Aft.bind q1).imp fun e h4 p4 H4 c4 e4 q4 σ' c' s' => q4 p4 H4 c' (Ext.refl _ _) σ' c' s')⟩
    | _ => exact q1.elim⟩
/-- o[i] = e -/
theorem s_asgS {o i : Expr} {o' i' : E} {tpos : Pos} (he : PE X e (tE X.K X.mg W fe)) (ho : PE X o (tE X.K X.mg W (ev Φ o'))) (hi : PE X i (tE X.K X.mg W (ev Φ i')))
    (ha : ∀ v, assign (.Subscript o i tpos) X.env v = (do
        let ov ← holding [v] (eval o X.env)
        let iv ← holding [v, ov] (eval i X.env)
        standAt tpos
        holding [v, ov, iv] (setItem ov iv v)
        release [v, ov, iv] [])) (hs : swapsWithSole [.Subscript o i tpos] e pos.line X.env = pure false) (hw : swappedStores [.Subscript o i tpos] e X.env = pure none) :
    PS X (.Assign [.Subscript o i tpos] e pos) (tS X.K X.mg W fun env => M.then (fe env) fun d => M.then (ev Φ o' env) fun x => M.then (ev Φ i' env) fun y => M.then (setD x.1 y.1 d.1) fun _ => M.ret (.nx env)) :=
  PS.imp (ps_asg (PE.z he) (pg_sub (PE.z ho) (PE.z hi) set_list ha) hs hw) fun D σ H ⟨p, h, env, k, q⟩ => ⟨p, h, env, k, (Aft.z q k.2).imp fun d h1 p1 H1 c1 e1 q1 v c1' r1 =>
    ⟨p1, h1, env, ⟨c1', q1.1.2⟩, (Aft.z q1.2 q1.1.2).imp fun x h2 p2 H2 c2 e2 q2 ov c2' r2 => ⟨p2, h2, env, ⟨c2', q2.1.2⟩, (Aft.z q2.2 q2.1.2).imp fun y h3 p3 H3 c3 e3 q3 iv c3' r3 =>
      set_end c3' (Rep.ext e3 _ _ r2) r3 (Rep.ext (e2.trans e3) _ _ r1) ((Aft.z q3.2 q3.1.2).imp fun _ h4 p4 H4 c4 e4 q4 c4' => q4.2 p4 H4 c4' (Ext.refl _ _) σ c4' q4.1.2)⟩⟩⟩
end
end Fz

set_option Elab.async false
set_option linter.all false
set_option maxRecDepth 100000
set_option maxHeartbeats 1000000
/-! Fz, part Q: the program's expressions as texts of the small language. -/
namespace Fz
open PySem PySem.Spec PyProof.Rows L2
/-- what is known where a text stands: the slots' names, the names' kinds, whose cells are made here, the module's constants, the defs (which arguments they change), the names whose lists change, calls by name -/
structure TC where
  N : List Str
  sc : Scope
  fnS : Option Scope
  gls : List (Str × D)
  fns : List (Str × List Bool)
  chg : List Str
  kws : KwT
def TC.fnB (tc : TC) (x : Str) : Bool := match tc.fnS with
  | none => true
  | some s => s.names.lookup x == some .cell
def TC.blk (tc : TC) (scope : Scope) : TC := { tc with sc := relS scope tc.sc, fnS := some scope }
def ixOf : List Str → Str → Option Nat
  | [], _ => none
  | y :: r, x => if y = x then some 0 else (ixOf r x).map (· + 1)
theorem ixOf_ok : ∀ {N : List Str} {x : Str} {i : Nat}, ixOf N x = some i → N[i]? = some x
  | y :: r, x, i, h => by
    unfold ixOf at h
    split at h
    · rename_i e
      cases h
      simp [e]
    · cases q : ixOf r x with
      | none => rw [q] at h; cases h
      | some j =>
        rw [q] at h
        cases h
        simpa using ixOf_ok q
def TC.glob (tc : TC) (x : Str) : Bool := decide (tc.sc.names.lookup x = some .globalImplicit)
def TC.loc (tc : TC) (x : Str) : Bool := decide (tc.sc.names.lookup x = some .local)
def TC.vis (tc : TC) (x : Str) : Bool := match tc.sc.names.lookup x with
  | some .local => true | some .cell => true | some .free => true | _ => false
def TC.sto (tc : TC) (x : Str) : Bool := tc.loc x || (decide (tc.sc.names.lookup x = some .cell) && tc.fnB x)
def plainName (x : Str) : Bool := !(x == ("__debug__" : Str)) && !(x == ("__classdict__" : Str))
def guardO {α : Type} (b : Bool) (x : Option α) : Option α := match b with
  | true => x
  | false => none
theorem guardO_ok {α : Type} {b : Bool} {x : Option α} {y : α} (h : guardO b x = some y) : b = true ∧ x = some y := by
  cases b with
  | true => exact ⟨rfl, h⟩
  | false => cases h
theorem bindO_ok {α β : Type} {x : Option α} {f : α → Option β} {y : β} (h : x.bind f = some y) : ∃ a, x = some a ∧ f a = some y := by
  cases x with
  | none => cases h
  | some a => exact ⟨a, rfl, h⟩
/-! ### what the context must keep -/
structure GX (X : Cx) (W : XK) (k : Nat) (Φ : Str → List D → M DF) (ar : Str → Nat) (tc : TC) : Prop where
  N : X.N = tc.N
  sc : X.env.scope = tc.sc
  fn : ∀ x, tc.fnB x = true → X.fn x = true
  nd : X.N.Nodup
  calm : X.calm = true
  room : Room k X.A
  gd : X.A.guards = some []
  tk : TakesW X W
  bt : ∀ b, X.mg (bn b) = none
  brange : X.mg "range" = none
  benum : X.mg "enumerate" = none
  bisi : X.mg "isinstance" = none
  bty : ∀ t, X.mg (Str.ofString (tyn t)) = none
  own : ∀ q ∈ tc.fns, Own X k Φ ar tc.kws q.1 ∧ q.2.length = ar q.1
  gls : ∀ q ∈ tc.gls, ∃ v u, X.mg q.1 = some u ∧ RelV v u ∧ ∀ H p, Rep X.K X.mg H p q.2 v
section
variable {X : Cx} {W : XK} {k : Nat} {Φ : Str → List D → M DF} {ar : Str → Nat} {tc : TC}
theorem GX.blk (g : GX X W k Φ ar tc) (scope : Scope) (s : Shared) (H : Hp) (C : Addr) (cl : List (Str × Addr)) (fp : List Addr) : GX (X.blk s H scope (compEnvC scope cl C X.env) fp) (fun _ _ _ => False) k Φ ar (tc.blk scope) where
  N := g.N
  sc := by
    show relS scope X.env.scope = relS scope tc.sc
    rw [g.sc]
  fn := fun x h => h
  nd := g.nd
  calm := g.calm
  room := g.room
  gd := g.gd
  tk := takesF
  bt := g.bt
  brange := g.brange
  benum := g.benum
  bisi := g.bisi
  bty := g.bty
  own := fun q hq => ⟨⟨(g.own q hq).1.ex⟩, (g.own q hq).2⟩
  gls := g.gls
theorem GX.gl (g : GX X W k Φ ar tc) {x : Str} (h : tc.glob x = true) : Gl X x := by
  show X.env.scope.names.lookup x = _
  rw [g.sc]
  exact of_decide_eq_true h
theorem GX.vis (g : GX X W k Φ ar tc) {x : Str} (h : tc.vis x = true) : Vis X.env.scope x := by
  unfold TC.vis at h
  unfold Vis
  rw [g.sc]
  split at h
  · exact .inl (by assumption)
  · exact .inr (.inl (by assumption))
  · exact .inr (.inr (by assumption))
  · cases h
theorem GX.loc (g : GX X W k Φ ar tc) {x : Str} (h : tc.loc x = true) : X.env.scope.names.lookup x = some .local := by
  rw [g.sc]
  exact of_decide_eq_true h
theorem GX.sto (g : GX X W k Φ ar tc) {x : Str} {i : Nat} (h : tc.sto x = true) (hi : ixOf tc.N x = some i) : Sto X i x := by
  refine ⟨by rw [g.N]; exact ixOf_ok hi, ?_⟩
  unfold TC.sto at h
  rw [Bool.or_eq_true, Bool.and_eq_true] at h
  rcases h with h | ⟨h, h2⟩
  · exact ⟨.inl (g.loc h), .inr (g.loc h)⟩
  · exact ⟨.inr (by rw [g.sc]; exact of_decide_eq_true h), .inl (g.fn x h2)⟩
theorem GX.un (g : GX X W k Φ ar tc) : X.A.units + 70 < cLine := by have := g.room.un; omega
theorem plainName_ok {x : Str} (h : plainName x = true) : (x == ("__debug__" : Str)) = false ∧ (x == ("__classdict__" : Str)) = false := by
  unfold plainName at h
  rw [Bool.and_eq_true, Bool.not_eq_true', Bool.not_eq_true'] at h
  exact h
end
/-! ### the translation -/
def noStarE : E → Bool
  | .star _ => false
  | _ => true
def genE : E → Bool
  | .range _ => false
  | .enum _ => false
  | _ => true
def mkIf (b : Bool) (e : E) : E := match b with
  | true => .mk e
  | false => e
def trName (tc : TC) (x : Str) : Option E := match tc.glob x with
  | true => (tc.gls.lookup x).bind fun d => guardO (plainName x) (some (.glob x d))
  | false => (ixOf tc.N x).bind fun i => guardO (tc.vis x && plainName x) (some (.loc i))
def opB : Operator → Option BOp
  | .Add => some .add | .Sub => some .sub | .Mult => some .mul | .FloorDiv => some .fdiv | .Mod => some .mod | .Pow => some .pow | _ => none
def opK : CmpOp → COp
  | .Eq => .eq | .NotEq => .ne | .Lt => .lt | .LtE => .le | .Gt => .gt | .GtE => .ge | .In => .isin | .NotIn => .notin | .Is => .same | .IsNot => .unlike
theorem opK_ok (o : CmpOp) : opC (opK o) = o := by cases o <;> rfl
theorem opB_ok {o : Operator} {b : BOp} (h : opB o = some b) : (b, o) ∈ [(BOp.add, Operator.Add), (.sub, .Sub), (.mul, .Mult), (.fdiv, .FloorDiv), (.mod, .Mod), (.pow, .Pow)] := by
  cases o <;> cases h <;> simp
def okIx : Expr → Bool
  | .Slice _ _ _ _ => false
  | _ => true
def okBase : Expr → Bool
  | .Call _ _ _ _ => false
  | _ => true
def notSet : Expr → Bool
  | .Set _ _ _ => false
  | _ => true
def notComp : Expr → Bool
  | .ListComp _ _ _ _ => false
  | .SetComp _ _ _ _ => false
  | .DictComp _ _ _ _ _ => false
  | _ => true
theorem okIx_ok {e : Expr} (h : okIx e = true) : PlainIx e := by
  intro o i
  cases e <;> first | rfl | cases h
theorem okBase_ok {o : Expr} {a : Str} {env : PySem.Env} {w : Sem Value} (h : okBase o = true) : attributeBase o a env w = w := by
  cases o <;> first | rfl | cases h
theorem notSet_ok {e : Expr} {env : PySem.Env} (h : notSet e = true) (x : Value) : foldedSetIterable e env x = pure x := by
  cases e <;> first | rfl | cases h
theorem notComp_ok {e : Expr} {t : Option Expr} {l : Nat} {env : PySem.Env} (h : notComp e = true) : swapsWith e t l env = pure false := by
  cases e <;> first | rfl | cases h
theorem okIx_set {o i : Expr} {pos : Pos} {env : PySem.Env} (h : okIx i = true) (v : Value) : assign (.Subscript o i pos) env v = (do
      let ov ← holding [v] (eval o env)
      let iv ← holding [v, ov] (eval i env)
      standAt pos
      holding [v, ov, iv] (setItem ov iv v)
      release [v, ov, iv] []) := by
  cases i <;> first | rfl | cases h
section
variable (tr : Expr → Option E)
def trL : List Bool → List Expr → Option (List E)
  | _, [] => some []
  | fs, e :: r => guardO (noStar e) ((tr e).bind fun e' => guardO (noStarE e') ((trL fs.tail r).bind fun r' => some (mkIf (fs.headD false) e' :: r')))
def trTs : List Expr → Option (List E)
  | [] => some []
  | e :: r => (tr e).bind fun e' => (trTs r).bind fun r' => some (e' :: r')
def trBo (op : BoolOp) : List Expr → Option E
  | [] => none
  | [a] => tr a
  | a :: b :: r => (tr a).bind fun a' => (trBo op (b :: r)).bind fun r' => some (match op with
    | .And => .and a' r'
    | .Or => .or a' r')
def trO : Option Expr → Option (Option E)
  | none => some none
  | some e => (tr e).bind fun e' => some (some e')
def trNs (tc : TC) : List Expr → Option (List Nat)
  | [] => some []
  | .Name x _ :: r => (ixOf tc.N x).bind fun i => guardO (tc.sto x) ((trNs tc r).bind fun is => some (i :: is))
  | _ => none
def trT (tc : TC) : Expr → Option Tg
  | .Name x _ => (ixOf tc.N x).bind fun i => guardO (tc.sto x) (some (.loc i))
  | .Tuple es _ _ => (trNs tc es).bind fun is => some (.tup is)
  | _ => none
def trGen (e : Expr) : Option (E × Bool) := (tr e).bind fun e' => guardO (genE e') (some (e', false))
/-- what stands behind «in»; true: for a tuple target alone -/
def trW (tc : TC) (e : Expr) : Option (E × Bool) := match e with
  | .Call (.Name f _) args [] _ =>
    if f = ("range" : Str) then guardO (tc.glob "range" && (decide (args.length = 1) || decide (args.length = 2))) ((trL tr [] args).bind fun rs => some (.range rs, false))
    else if f = ("enumerate" : Str) then match args with
      | [a] => guardO (tc.glob "enumerate" && noStar a) ((tr a).bind fun a' => some (.enum a', true))
      | _ => none
    else trGen tr e
  | _ => trGen tr e
def isTup : Tg → Bool
  | .tup _ => true
  | _ => false
def trG (trI : Expr → Option E) (tcI tcB : TC) : Comprehension → Option G
  | ⟨t, it, ifs, a⟩ => guardO (decide (a = 0) && notSet it) ((trT tcB t).bind fun t' => (trW trI tcI it).bind fun w => guardO (!w.2 || isTup t') ((trTs tr ifs).bind fun cs => some (.mk t' w.1 cs)))
def trGs (tcB : TC) : List Comprehension → Option (List G)
  | [] => some []
  | g :: r => (trG tr tr tcB tcB g).bind fun g' => (trGs tcB r).bind fun r' => some (g' :: r')
def ownOf (N : List Str) : List (Str × NameKind) → List (Str × Nat)
  | [] => []
  | (y, kd) :: r => match kd with
    | .local => (match ixOf N y with
      | some i => (y, i) :: ownOf N r
      | none => ownOf N r)
    | .cell => (match ixOf N y with
      | some i => (y, i) :: ownOf N r
      | none => ownOf N r)
    | _ => ownOf N r
def allIn (xs ys : List Nat) : Bool := xs.all fun x => ys.any fun y => decide (x = y)
theorem allIn_ok {xs ys : List Nat} (h : allIn xs ys = true) : ∀ i ∈ xs, i ∈ ys := by
  intro i hi
  unfold allIn at h
  rw [List.all_eq_true] at h
  have := h i hi
  rw [List.any_eq_true] at this
  obtain ⟨y, hy, e⟩ := this
  rw [of_decide_eq_true e]
  exact hy
/-- trB: within the block -/
def trC (trB : Expr → Option E) (tc : TC) (elt : Expr) (gs : List Comprehension) (scope : Scope) : Option E := match gs with
  | [] => none
  | g :: r => guardO (blkC tc.N tc.sc scope (ownOf tc.N scope.names)) ((trG trB tr tc (tc.blk scope) g).bind fun g' => (trGs trB (tc.blk scope) r).bind fun r' =>
    guardO (allIn (gsS (g' :: r')) ((ownOf tc.N scope.names).map (·.2))) ((trB elt).bind fun e' => some (.comp e' (g' :: r') ((ownOf tc.N scope.names).map (·.2)))))
def allBi : List Bi := [.len, .all, .any, .sorted, .min, .max, .sum, .int, .abs, .divmod, .list, .tuple, .repr]
def biOf (x : Str) : Option Bi := allBi.find? fun b => decide (bn b = x)
def allTy : List Ty := [.int, .bool, .str, .tup, .lst, .dic]
def tyOfN (x : Str) : Option Ty := allTy.find? fun t => decide (x = Str.ofString (tyn t))
def meOf (x : Str) : Option Me := [Me.append, .extend, .pop, .index].find? fun m => decide (mn m = x)
def isRange (e : Expr) : Bool := match e with
  | .Call (.Name f _) _ [] _ => decide (f = ("range" : Str))
  | _ => false
def trK (names : List Str) (kws : List Keyword) : Option (List E) := match names, kws with
  | [], [] => some []
  | y :: ys, ⟨some x, e, _⟩ :: r => guardO (decide (x = y)) ((tr e).bind fun e' => guardO (noStarE e') ((trK ys r).bind fun r' => some (e' :: r')))
  | _, _ => none
def knames : List Keyword → List Str
  | [] => []
  | ⟨some x, _, _⟩ :: r => x :: knames r
  | ⟨none, _, _⟩ :: r => knames r
def trCall (tc : TC) (f : Expr) (args : List Expr) (kws : List Keyword) (pos : Pos) : Option E := match f with
  | .Name x _ => guardO (tc.glob x && plainName x) (match kws with
    | [] => (match args with
      | [] => none
      | a :: as => (match biOf x with
        | some b => (match as, isRange a && decide (x = ("list" : Str)) with
          | [], true => (match a with
            | .Call (.Name _ _) [c] [] _ => guardO (tc.glob "range" && noStar c) ((tr c).bind fun c' => guardO (noStarE c') (some (.range [c'])))
            | .Call (.Name _ _) [c, d] [] _ => guardO (tc.glob "range" && noStar c && noStar d) ((tr c).bind fun c' => (tr d).bind fun d' => guardO (noStarE c' && noStarE d') (some (.range [c', d'])))
            | _ => none)
          | _, _ => (trL tr [] (a :: as)).bind fun rs => some (.bi b rs))
        | none => if x = ("isinstance" : Str) then (match as with
            | [.Name t _] => (tyOfN t).bind fun T => guardO (tc.glob t && noStar a) ((tr a).bind fun a' => some (.isi a' [T]))
            | _ => none)
          else (tc.fns.lookup x).bind fun fl => guardO (decide (fl.length = (a :: as).length)) ((trL tr fl (a :: as)).bind fun rs => some (.call x rs))))
    | _ :: _ => (match args with
      | [] => (tc.kws.find? fun q => decide (q.1 = x) && decide (q.2.1 = knames kws)).bind fun q => (tc.fns.lookup x).bind fun fl => guardO (decide (q.2.2.length = fl.length) && fl.all (!·)) ((trK tr q.2.1 kws).bind fun rs => some (.callk x q.2.2 rs))
      | _ :: _ => none))
  | .Attribute o m apos => (match kws, args with
    | [], a :: as => (meOf m).bind fun M => guardO (okBase o && (apos.endLine == pos.line) && decide (as.length < 20)) ((tr o).bind fun o' => (match M with
      | .append => (trL tr [] (a :: as)).bind fun rs => some (.meth .append o' rs)
      | .extend => (trL tr [] (a :: as)).bind fun rs => some (.meth .extend o' rs)
      | M => (match as with
        | [] => guardO (noStar a) ((tr a).bind fun a' => guardO (noStarE a') (some (.meth M o' [a'])))
        | _ => none)))
    | _, _ => none)
  | _ => none
end
def trE : Nat → TC → Expr → Option E
  | 0, _, _ => none
  | n + 1, tc, e => match e with
    | .Constant c _ _ => (match c with
      | .int i => some (.con (.int i))
      | .bool b => some (.con (.bl b))
      | .str x => some (.con (.str x))
      | .none => some (.con .non)
      | _ => none)
    | .Name x _ => trName tc x
    | .Tuple es _ _ => (trL (trE n tc) [] es).bind fun r => some (.tup r)
    | .List es _ => (trL (trE n tc) [] es).bind fun r => some (.lst r)
    | .BinOp a op b _ => (opB op).bind fun o => (trE n tc a).bind fun a' => (trE n tc b).bind fun b' => some (.bin o a' b')
    | .UnaryOp op a _ => (match op with
      | .USub => (trE n tc a).bind fun a' => some (.neg a')
      | .Not => (trE n tc a).bind fun a' => some (.not a')
      | _ => none)
    | .Compare a ops cs _ => (match ops, cs with
      | [o], [b] => guardO (!behindInMarks o b) ((trE n tc a).bind fun a' => (trE n tc b).bind fun b' => some (.cmp (opK o) a' b'))
      | [o, o'], [b, c] => guardO (!lastMarks [o, o'] [b, c]) ((trE n tc a).bind fun a' => (trE n tc b).bind fun b' => (trE n tc c).bind fun c' => some (.chain (opK o) (opK o') a' b' c'))
      | _, _ => none)
    | .BoolOp op vs _ => trBo (trE n tc) op vs
    | .IfExp c a b _ => (trE n tc c).bind fun c' => (trE n tc a).bind fun a' => (trE n tc b).bind fun b' => some (.ite c' a' b')
    | .Subscript a i _ => (match i with
      | .Slice lo hi st _ => (match st with
        | none => (trE n tc a).bind fun a' => (trO (trE n tc) lo).bind fun l => (trO (trE n tc) hi).bind fun h => some (.slc a' l h)
        | some _ => none)
      | i => guardO (okIx i) ((trE n tc a).bind fun a' => (trE n tc i).bind fun i' => some (.ix a' i')))
    | .ListComp elt gs scope _ => trC (trE n tc) (trE n (tc.blk scope)) tc elt gs scope
    | .Call f args kws pos => trCall (trE n tc) tc f args kws pos
    | _ => none
end Fz

set_option Elab.async false
set_option linter.all false
set_option maxRecDepth 100000
set_option maxHeartbeats 2000000
/-! Fz, part R: the translation is right: expressions. -/
namespace Fz
open PySem PySem.Spec PyProof.Rows L2
section
variable {X : Cx} {W : XK} {k : Nat} {Φ : Str → List D → M DF} {ar : Str → Nat} {tc : TC} {tr : Expr → Option E}
theorem evL_cons {e : E} (h : noStarE e = true) (r : List E) (env : Env) : evL Φ (e :: r) env = M.then (ev Φ e env) fun x => M.then (evL Φ r env) fun ys => M.ret (x.1 :: ys) := by
  cases e <;> first | (simp only [evL]; done) | cases h
theorem evL_nil (env : Env) : evL Φ [] env = M.ret [] := by simp only [evL]
theorem evL_len : ∀ {rs : List E} {env : Env} {h h' : LH} {ds : List D}, rs.all noStarE = true → evL Φ rs env h = .ok ds h' → ds.length = rs.length
  | [], env, h, h', ds, _, e => by
    rw [evL_nil] at e
    cases e
    rfl
  | r :: rs, env, h, h', ds, hs, e => by
    rw [List.all_cons, Bool.and_eq_true] at hs
    rw [evL_cons hs.1] at e
    obtain ⟨x, h1, e1, e2⟩ := res_ok e
    obtain ⟨ys, h2, e3, e4⟩ := res_ok e2
    cases e4
    simp [evL_len hs.2 e3]
theorem noStarE_mk {b : Bool} {e : E} (h : noStarE e = true) : noStarE (mkIf b e) = true := by cases b <;> first | exact h | rfl
theorem pe_mkIf {b : Bool} {e : Expr} {r : E} (h : PE X e (tE X.K X.mg W (ev Φ r))) : PE X e (tE X.K X.mg W (ev Φ (mkIf b r))) := by
  cases b with
  | false => exact h
  | true => exact PE.as (s_mk h) fun env => by simp only [mkIf, ev]
theorem s_trL (HE : ∀ e r, tr e = some r → PE X e (tE X.K X.mg W (ev Φ r))) : ∀ {es : List Expr} {fs : List Bool} {rs : List E}, trL tr fs es = some rs → PA X es (tA X.K X.mg W (evL Φ rs)) ∧ es.all noStar = true ∧ rs.all noStarE = true ∧ rs.length = es.length
  | [], fs, rs, h => by
    cases h
    refine ⟨?_, rfl, rfl, rfl⟩
    have := s_nil (X := X) (W := W)
    rw [show (evL Φ []) = fun _ => M.ret [] from funext fun env => evL_nil env]
    exact this
  | e :: es, fs, rs, h => by
    unfold trL at h
    obtain ⟨h1, h⟩ := guardO_ok h
    obtain ⟨e', h2, h⟩ := bindO_ok h
    obtain ⟨h3, h⟩ := guardO_ok h
    obtain ⟨r', h4, h⟩ := bindO_ok h
    cases h
    obtain ⟨a, b, c, d⟩ := s_trL HE h4
    refine ⟨?_, by simp [h1, b], by simp only [List.all_cons, noStarE_mk h3, c, Bool.and_self], by simp [d]⟩
    rw [show (evL Φ (mkIf (fs.headD false) e' :: r')) = fun env => M.then (ev Φ (mkIf (fs.headD false) e') env) fun x => M.then (evL Φ r' env) fun ys => M.ret (x.1 :: ys) from funext fun env => evL_cons (noStarE_mk h3) r' env]
    exact s_cons h1 (pe_mkIf (HE e e' h2)) a
theorem s_one1 (HE : ∀ e r, tr e = some r → PE X e (tE X.K X.mg W (ev Φ r))) {a : Expr} {a' : E} (ns : noStar a = true) (h : tr a = some a') : PA X [a] (tA X.K X.mg W fun env => M.then (ev Φ a' env) fun x => M.then (M.ret []) fun ys => M.ret (x.1 :: ys)) := s_cons ns (HE a a' h) s_nil
theorem s_trTs (HT : ∀ e r, tr e = some r → PT X e (tT X.K X.mg W (tru (ev Φ r)))) : ∀ {es : List Expr} {rs : List E}, trTs tr es = some rs → PTs X es (tT X.K X.mg W (evT Φ rs))
  | [], rs, h => by
    cases h
    exact PTs.as s_tnil fun env => by simp only [evT]
  | e :: es, rs, h => by
    unfold trTs at h
    obtain ⟨e', h2, h⟩ := bindO_ok h
    obtain ⟨r', h4, h⟩ := bindO_ok h
    cases h
    exact PTs.as (s_tcons (HT e e' h2) (s_trTs HT h4)) fun env => by
      rw [tru_tests]
      simp only [evT]
      try rfl
theorem s_trBo (HE : ∀ e r, tr e = some r → PE X e (tE X.K X.mg W (ev Φ r))) {pos : Pos} {op : BoolOp} : ∀ {es : List Expr} {r : E}, trBo tr op es = some r → PE X (.BoolOp op es pos) (tE X.K X.mg W (ev Φ r))
  | [], r, h => by cases h
  | [a], r, h => s_one (HE a r h)
  | a :: b :: es, r, h => by
    unfold trBo at h
    obtain ⟨a', h1, h⟩ := bindO_ok h
    obtain ⟨r', h2, h⟩ := bindO_ok h
    cases h
    have hr := s_trBo HE h2 (pos := pos)
    cases op with
    | And => exact PE.as (s_and (HE a a' h1) hr) fun env => by simp only [ev]; try rfl
    | Or => exact PE.as (s_or (HE a a' h1) hr) fun env => by simp only [ev]; try rfl
theorem s_trBoT (HT : ∀ e r, tr e = some r → PT X e (tT X.K X.mg W (tru (ev Φ r)))) {pos : Pos} {op : BoolOp} : ∀ {es : List Expr} {r : E}, trBo tr op es = some r → PW X (.BoolOp op es pos) (tT X.K X.mg W (tru (ev Φ r)))
  | [], r, h => by cases h
  | [a], r, h => by
    cases op with
    | And => exact pw_and1 (HT a r h)
    | Or => exact pw_or1 (HT a r h)
  | a :: b :: es, r, h => by
    unfold trBo at h
    obtain ⟨a', h1, h⟩ := bindO_ok h
    obtain ⟨r', h2, h⟩ := bindO_ok h
    cases h
    have hr := s_trBoT HT h2 (pos := pos)
    cases op with
    | And =>
      refine PW.as (s_andT (HT a a' h1) hr) fun env => ?_
      rw [tru_and]
      congr 1
      funext env
      simp only [ev]
      try rfl
    | Or =>
      refine PW.as (s_orT (HT a a' h1) hr) fun env => ?_
      rw [tru_or]
      congr 1
      funext env
      simp only [ev]
      try rfl
theorem s_trO (HE : ∀ e r, tr e = some r → PE X e (tE X.K X.mg W (ev Φ r))) {o : Option Expr} {r : Option E} (h : trO tr o = some r) : PO X o (tO X.K X.mg W (evO Φ r)) := by
  cases o with
  | none =>
    cases h
    rw [show evO Φ none = fun _ => M.ret none from funext fun env => by simp only [evO]]
    exact s_none
  | some e =>
    obtain ⟨e', h1, h⟩ := bindO_ok h
    cases h
    rw [show evO Φ (some e') = fun env => M.then (ev Φ e' env) fun x => intD x.1 from funext fun env => by simp only [evO]]
    exact s_some (HE e e' h1)
theorem s_trNs (g : GX X W k Φ ar tc) : ∀ {es : List Expr} {is : List Nat}, trNs tc es = some is → NamesAt X es is
  | [], is, h => by
    cases h
    exact .nil
  | e :: es, is, h => by
    cases e with
    | Name x pos =>
      unfold trNs at h
      obtain ⟨i, h1, h⟩ := bindO_ok h
      obtain ⟨h2, h⟩ := guardO_ok h
      obtain ⟨js, h3, h⟩ := bindO_ok h
      cases h
      exact .cons (g.sto h2 h1) (s_trNs g h3)
    | _ => simp [trNs] at h
theorem s_trT (g : GX X W k Φ ar tc) {e : Expr} {t : Tg} (h : trT tc e = some t) : TgAt X e t := by
  cases e with
  | Name x pos =>
    obtain ⟨i, h1, h⟩ := bindO_ok h
    obtain ⟨h2, h⟩ := guardO_ok h
    cases h
    exact .loc (g.sto h2 h1)
  | Tuple es kk pos =>
    obtain ⟨is, h1, h⟩ := bindO_ok h
    cases h
    exact .tup (s_trNs g h1)
  | _ => simp [trT] at h
theorem evW_gen {e : E} (h : genE e = true) (env : Env) : evW Φ e env = walkF (ev Φ e) env := by
  cases e <;> first | (simp only [evW]; rfl) | cases h
theorem PI.as {tg e : Expr} {lo : Bool} {f f' : Env → M Walk} (h : PI X tg e (tI X.K X.mg W lo f)) (e' : ∀ env, f env = f' env) : PI X tg e (tI X.K X.mg W lo f') := by
  have : f = f' := funext e'
  exact this ▸ h
theorem s_trGen {tg : Expr} (HE : ∀ e r, tr e = some r → PE X e (tE X.K X.mg W (ev Φ r))) {e : Expr} {w : E × Bool} (h : trGen tr e = some w) : w.2 = false ∧ PI X tg e (tI X.K X.mg W false (evW Φ w.1)) := by
  obtain ⟨e', h1, h⟩ := bindO_ok h
  obtain ⟨h2, h⟩ := guardO_ok h
  cases h
  exact ⟨rfl, PI.as (s_walk (HE e e' h1)) fun env => (evW_gen h2 env).symm⟩
theorem s_trW {tg : Expr} {t : Tg} (g : GX X W k Φ ar tc) (HE : ∀ e r, tr e = some r → PE X e (tE X.K X.mg W (ev Φ r))) {e : Expr} {w : E × Bool} (h : trW tr tc e = some w) (ht : (!w.2 || isTup t) = true) (tg' : ∀ is, t = .tup is → ∃ es kk pos, tg = .Tuple es kk pos) : PI X tg e (tI X.K X.mg W w.2 (evW Φ w.1)) := by
  have gen : trGen tr e = some w → PI X tg e (tI X.K X.mg W w.2 (evW Φ w.1)) := fun h => by
    obtain ⟨h1, h2⟩ := s_trGen (tg := tg) HE h
    rw [h1]
    exact h2
  unfold trW at h
  split at h
  case h_2 => exact gen h
  rename_i f p0 args pos
  split at h
  · rename_i hf
    subst hf
    obtain ⟨h1, h⟩ := guardO_ok h
    rw [Bool.and_eq_true, Bool.or_eq_true] at h1
    obtain ⟨rs, h2, h⟩ := bindO_ok h
    cases h
    obtain ⟨pa, ns, nse, hl⟩ := s_trL HE h2
    have hlen : ∀ env h ds h', evL Φ rs env h = .ok ds h' → ds.length = args.length := fun env h ds h' e => by rw [evL_len nse e, hl]
    have fin : PI X tg (.Call (.Name "range" p0) args [] pos) (tI X.K X.mg W false (rngF (evL Φ rs))) := by
      match args, ns, pa, hlen, h1 with
      | [a], ns, pa, hlen, _ => exact s_pirange1 (g.gl h1.1) g.brange (by simpa using ns) pa hlen
      | [a, b], ns, pa, hlen, _ =>
        simp only [List.all_cons, Bool.and_eq_true] at ns
        exact s_pirange2 (g.gl h1.1) g.brange ns.1 ns.2.1 pa hlen
      | [], _, _, _, h1 => simp at h1
      | _ :: _ :: _ :: _, _, _, _, h1 => simp at h1
    exact PI.as fin fun env => by simp only [evW]; rfl
  · split at h
    · rename_i hf
      subst hf
      split at h
      · rename_i a
        obtain ⟨h1, h⟩ := guardO_ok h
        rw [Bool.and_eq_true] at h1
        obtain ⟨a', h2, h⟩ := bindO_ok h
        cases h
        simp only [Bool.not_true, Bool.false_or] at ht
        cases t with
        | loc i => cases ht
        | tup is =>
          obtain ⟨es, kk, tp, rfl⟩ := tg' is rfl
          exact PI.as (s_pienum (g.gl h1.1) g.benum h1.2 (HE a a' h2)) fun env => by simp only [evW]; rfl
      · cases h
    · exact gen h
end
end Fz

set_option Elab.async false
set_option linter.all false
set_option maxRecDepth 100000
set_option maxHeartbeats 4000000
/-! Fz, part S: the translation is right: comprehensions, calls, all expressions. -/
namespace Fz
open PySem PySem.Spec PyProof.Rows L2
section
variable {X : Cx} {W : XK} {k : Nat} {Φ : Str → List D → M DF} {ar : Str → Nat} {tc : TC} {tr : Expr → Option E}
theorem isTup_of {t : Tg} {tg : Expr} (h : TgAt X tg t) : ∀ is, t = .tup is → ∃ es kk pos, tg = .Tuple es kk pos := by
  intro is e
  cases h with
  | loc h => cases e
  | tup h => exact ⟨_, _, _, rfl⟩
theorem isTup_ok {t : Tg} (h : isTup t = true) : ∃ is, t = .tup is := by
  cases t with
  | loc i => cases h
  | tup is => exact ⟨is, rfl⟩
theorem evG_nil (K : Env → List D → M (List D)) (own : List Nat) : evG Φ [] K own = K := by
  funext env acc
  simp only [evG]
theorem evG_cons (t : Tg) (it : E) (ifs : List E) (gs : List G) (K : Env → List D → M (List D)) (own : List Nat) : evG Φ (.mk t it ifs :: gs) K own = clauseF (evW Φ it) t (evT Φ ifs) (evG Φ gs K (gsS gs)) own := by
  funext env acc
  simp only [evG]
  rfl
/-- a clause's parts -/
theorem s_trG {trI : Expr → Option E} {tcI tcB : TC} {t it : Expr} {ifs : List Expr} {a : Int} {g' : G} (h : trG tr trI tcI tcB ⟨t, it, ifs, a⟩ = some g') :
    a = 0 ∧ notSet it = true ∧ ∃ t' w cs, trT tcB t = some t' ∧ trW trI tcI it = some w ∧ (!w.2 || isTup t') = true ∧ trTs tr ifs = some cs ∧ g' = .mk t' w.1 cs := by
  unfold trG at h
  obtain ⟨h1, h⟩ := guardO_ok h
  rw [Bool.and_eq_true] at h1
  obtain ⟨t', h2, h⟩ := bindO_ok h
  obtain ⟨w, h3, h⟩ := bindO_ok h
  obtain ⟨h4, h⟩ := guardO_ok h
  obtain ⟨cs, h5, h⟩ := bindO_ok h
  cases h
  exact ⟨of_decide_eq_true h1.1, h1.2, t', w, cs, h2, h3, h4, h5, rfl⟩
theorem lo_tup {w : E × Bool} {t : Tg} (h : (!w.2 || isTup t) = true) : w.2 = true → ∃ is, t = .tup is := fun e => by
  rw [e] at h
  exact isTup_ok (by simpa using h)
theorem async_of {gs : List Comprehension} {tcB : TC} {rs : List G} (h : trGs tr tcB gs = some rs) : ∀ g', gs[0]? = some g' → g'.is_async = 0 := by
  intro g' hg
  match gs, hg, h with
  | ⟨t, it, ifs, a⟩ :: r, hg, h =>
    cases hg
    unfold trGs at h
    obtain ⟨g1, h1, h⟩ := bindO_ok h
    exact (s_trG h1).1
theorem s_trGs {tcB : TC} (gB : GX X (fun _ _ _ => False) k Φ ar tcB) (hx : X.xe = fun _ _ => False) (HE : ∀ e r, tr e = some r → PE X e (tE X.K X.mg (fun _ _ _ => False) (ev Φ r))) (HT : ∀ e r, tr e = some r → PT X e (tT X.K X.mg (fun _ _ _ => False) (tru (ev Φ r))))
    {elt : Expr} {e' : E} (he : PE X elt (tE X.K X.mg (fun _ _ _ => False) (ev Φ e'))) {gs : List Comprehension} {scope : Scope} {pos : Pos} : ∀ (rest : List Comprehension) (d : Nat) (rs : List G), gs.drop d = rest → trGs tr tcB rest = some rs →
      PC X elt gs scope pos d (gsS rs) (evG Φ rs (eltF (ev Φ e')) (gsS rs))
  | [], d, rs, hd, h => by
    cases h
    rw [evG_nil]
    exact pc_elt hx (by simpa [List.drop_eq_nil_iff] using hd) he
  | c :: rest, d, rs, hd, h => by
    obtain ⟨t, it, ifs, a⟩ := c
    have hn := h
    unfold trGs at h
    obtain ⟨g1, h1, h⟩ := bindO_ok h
    obtain ⟨r', h2, h⟩ := bindO_ok h
    cases h
    obtain ⟨rfl, ns, t', w, cs, k1, k2, k3, k4, rfl⟩ := s_trG h1
    have hdl : d < gs.length := by
      refine Nat.lt_of_not_le fun z => ?_
      rw [List.drop_eq_nil_of_le z] at hd
      cases hd
    have hg : gs[d]? = some ⟨t, it, ifs, 0⟩ := by
      rw [List.drop_eq_getElem_cons hdl] at hd
      rw [List.getElem?_eq_getElem hdl]
      exact congrArg some (List.cons.inj hd).1
    have hr : gs.drop (d + 1) = rest := by
      rw [List.drop_eq_getElem_cons hdl] at hd
      exact (List.cons.inj hd).2
    have ih := s_trGs (scope := scope) (pos := pos) gB hx HE HT he rest (d + 1) r' hr h2
    have ta := s_trT gB k1
    rw [evG_cons]
    refine pc_clause gB.calm gB.nd hx hg (fun g' hg' => ?_) (notSet_ok ns) (s_trW gB HE k2 k3 (isTup_of ta)) ta (lo_tup k3) (s_trTs HT k4) ih (fun i hi => ?_) (fun i hi => ?_)
    · refine async_of h2 g' ?_
      rw [← hr, List.getElem?_drop]
      simpa using hg'
    · exact List.mem_append_right _ hi
    · exact List.mem_append_left _ hi
/-- a comprehension -/
theorem s_trC {trB : Expr → Option E} {elt : Expr} {gs : List Comprehension} {scope : Scope} {pos : Pos} {r : E} (g : GX X W k Φ ar tc) (HE : ∀ e r, tr e = some r → PE X e (tE X.K X.mg W (ev Φ r)))
    (HB : ∀ (Y : Cx) (V : XK), GX Y V k Φ ar (tc.blk scope) → (∀ e r, trB e = some r → PE Y e (tE Y.K Y.mg V (ev Φ r))) ∧ (∀ e r, trB e = some r → PT Y e (tT Y.K Y.mg V (tru (ev Φ r)))))
    (h : trC tr trB tc elt gs scope = some r) : ∃ f, CompOk X W elt gs scope pos (ownOf tc.N scope.names) f ∧ (∀ env, ev Φ r env = compF f env) := by
  cases gs with
  | nil => cases h
  | cons c rest =>
    obtain ⟨t, it, ifs, a⟩ := c
    unfold trC at h
    obtain ⟨h1, h⟩ := guardO_ok h
    obtain ⟨g1, h2, h⟩ := bindO_ok h
    obtain ⟨r', h3, h⟩ := bindO_ok h
    obtain ⟨h4, h⟩ := guardO_ok h
    obtain ⟨e', h5, h⟩ := bindO_ok h
    cases h
    obtain ⟨rfl, ns, t', w, cs, k1, k2, k3, k4, rfl⟩ := s_trG h2
    have ok : BlkOk X.N X.env.scope scope (ownOf tc.N scope.names) := by
      rw [g.N, g.sc]
      exact blkOk_by h1
    have hin := allIn_ok h4
    have tg' : ∀ is, t' = .tup is → ∃ es kk pos, t = .Tuple es kk pos := by
      intro is e
      cases t with
      | Tuple es kk pos => exact ⟨_, _, _, rfl⟩
      | Name x pos =>
        obtain ⟨i, q1, q⟩ := bindO_ok k1
        obtain ⟨q2, q⟩ := guardO_ok q
        cases q
        cases e
      | _ => simp [trT] at k1
    refine ⟨fun env acc => evG Φ (.mk t' w.1 cs :: r') (eltF (ev Φ e')) ((ownOf tc.N scope.names).map (·.2)) env acc, ⟨fun pins s σ H p h h' env acc' pos' use Qf I c S e post => ?_⟩, fun env => by simp only [ev]; rfl⟩
    rw [evG_cons] at e
    refine comp_core (fw := evW Φ w.1) (ft := evT Φ cs) (vs' := gsS r') g.calm g.nd I (async_of h3) ok (s_trW g HE k2 k3 tg') (lo_tup k3) (notSet_ok ns) (fun i hi => hin i (List.mem_append_right _ hi)) (fun i hi => hin i (List.mem_append_left _ hi))
      (fun s H C cl fp => s_trT (g.blk scope s H C cl fp) k1) (fun s H C cl fp => s_trTs (HB _ _ (g.blk scope s H C cl fp)).2 k4)
      (fun s H C cl fp => s_trGs (g.blk scope s H C cl fp) rfl (HB _ _ (g.blk scope s H C cl fp)).1 (HB _ _ (g.blk scope s H C cl fp)).2 ((HB _ _ (g.blk scope s H C cl fp)).1 _ _ h5) rest 1 r' rfl h3) c S e post
end
end Fz

set_option Elab.async false
set_option linter.all false
set_option maxRecDepth 100000
set_option maxHeartbeats 4000000
/-! Fz, part T: the translation is right: calls, all expressions. -/
namespace Fz
open PySem PySem.Spec PyProof.Rows L2
section
variable {X : Cx} {W : XK} {k : Nat} {Φ : Str → List D → M DF} {ar : Str → Nat} {tc : TC} {tr : Expr → Option E}
theorem biOf_ok {x : Str} {b : Bi} (h : biOf x = some b) : bn b = x := by
  have := List.find?_some h
  exact of_decide_eq_true this
theorem tyOfN_ok {x : Str} {t : Ty} (h : tyOfN x = some t) : x = Str.ofString (tyn t) := by
  have := List.find?_some h
  exact of_decide_eq_true this
theorem meOf_ok {x : Str} {m : Me} (h : meOf x = some m) : mn m = x := by
  have := List.find?_some h
  exact of_decide_eq_true this
theorem evL_one {e : E} (h : noStarE e = true) (env : Env) : evL Φ [e] env = M.then (ev Φ e env) fun x => M.then (M.ret []) fun ys => M.ret (x.1 :: ys) := by
  rw [evL_cons h, evL_nil]
theorem s_trK (HE : ∀ e r, tr e = some r → PE X e (tE X.K X.mg W (ev Φ r))) : ∀ {ks : List Str} {kws : List Keyword} {rs : List E}, trK tr ks kws = some rs → PK X kws (tA X.K X.mg W (evL Φ rs)) ∧ rs.all noStarE = true ∧ rs.length = ks.length ∧
    ∀ (pos : Pos) (env : PySem.Env), (backToKw pos (keywordEach kws env)).filterMap (·.1) = ks ∧ (backToKw pos (keywordEach kws env)).all (·.1.isSome) = true ∧ (backToKw pos (keywordEach kws env)).any (·.1.isNone) = false
  | [], [], rs, h => by
    cases h
    refine ⟨?_, rfl, rfl, fun _ _ => ⟨rfl, rfl, rfl⟩⟩
    rw [show (evL Φ []) = fun _ => M.ret [] from funext fun env => evL_nil env]
    exact s_knil
  | y :: ys, ⟨some x, e, kp⟩ :: r, rs, h => by
    unfold trK at h
    obtain ⟨h1, h⟩ := guardO_ok h
    obtain ⟨e', h2, h⟩ := bindO_ok h
    obtain ⟨h3, h⟩ := guardO_ok h
    obtain ⟨r', h4, h⟩ := bindO_ok h
    cases h
    have hxy := of_decide_eq_true h1
    subst hxy
    obtain ⟨a, b, c, d⟩ := s_trK HE h4
    refine ⟨?_, by simp only [List.all_cons, h3, b, Bool.and_self], by simp [c], fun pos env => ?_⟩
    · rw [show (evL Φ (e' :: r')) = fun env => M.then (ev Φ e' env) fun x => M.then (evL Φ r' env) fun ys => M.ret (x.1 :: ys) from funext fun env => evL_cons h3 r' env]
      exact s_kcons (HE e e' h2) a
    · obtain ⟨d1, d2, d3⟩ := d pos env
      have e1 : ∃ t, backToKw pos (keywordEach (⟨some x, e, kp⟩ :: r) env) = (some x, t) :: backToKw pos (keywordEach r env) := ⟨_, rfl⟩
      obtain ⟨t, e1⟩ := e1
      rw [e1]
      exact ⟨by simp [d1], by simp only [List.all_cons, Option.isSome_some, d2, Bool.and_self], by simp only [List.any_cons, Option.isNone_some, d3, Bool.or_self]⟩
  | [], ⟨none, _, _⟩ :: _, _, h => by simp [trK] at h
  | [], ⟨some _, _, _⟩ :: _, _, h => by simp [trK] at h
  | _ :: _, ⟨none, _, _⟩ :: _, _, h => by simp [trK] at h
  | _ :: _, [], _, h => by simp [trK] at h
theorem s_trName (g : GX X W k Φ ar tc) {x : Str} {pos : Pos} {r : E} (h : trName tc x = some r) : PE X (.Name x pos) (tE X.K X.mg W (ev Φ r)) := by
  unfold trName at h
  split at h
  · rename_i hg
    obtain ⟨d, h1, h⟩ := bindO_ok h
    obtain ⟨h2, h⟩ := guardO_ok h
    cases h
    obtain ⟨v, u, e1, e2, e3⟩ := g.gls _ (PySem.mem_of_lookup h1)
    exact PE.as (s_glob (g.gl hg) e1 e2 e3 (plainName_ok h2).1) fun env => by simp only [ev]
  · obtain ⟨i, h1, h⟩ := bindO_ok h
    obtain ⟨h2, h⟩ := guardO_ok h
    cases h
    rw [Bool.and_eq_true] at h2
    refine PE.as (s_var (W := W) (by rw [g.N]; exact ixOf_ok h1) (g.vis h2.1) (plainName_ok h2.2).1 (plainName_ok h2.2).2) fun env => ?_
    simp only [ev]
    rfl
theorem s_trCall (g : GX X W k Φ ar tc) (HE : ∀ e r, tr e = some r → PE X e (tE X.K X.mg W (ev Φ r))) {f : Expr} {args : List Expr} {kws : List Keyword} {pos : Pos} {r : E} (h : trCall tr tc f args kws pos = some r) : PE X (.Call f args kws pos) (tE X.K X.mg W (ev Φ r)) := by
  have un := g.un
  cases f with
  | Name x p0 =>
    unfold trCall at h
    obtain ⟨h0, h9⟩ := guardO_ok h
    clear h
    rw [Bool.and_eq_true] at h0
    have hgl := g.gl h0.1
    have hpn := plainName_ok h0.2
    match kws, args, h9 with
    | [], [], h => cases h
    | [], a :: as, h =>
      simp only at h
      cases hb : biOf x with
      | some b =>
        rw [hb] at h
        have hx := biOf_ok hb
        simp only at h
        split at h
        · rename_i hr
          rw [Bool.and_eq_true] at hr
          have hxl := of_decide_eq_true hr.2
          split at h
          · rename_i f1 p1 c pos1
            have hf1 : f1 = ("range" : Str) := of_decide_eq_true hr.1
            subst hf1
            subst hxl
            obtain ⟨h1, h⟩ := guardO_ok h
            rw [Bool.and_eq_true] at h1
            obtain ⟨c', h2, h⟩ := bindO_ok h
            obtain ⟨h3, h⟩ := guardO_ok h
            cases h
            exact PE.as (s_range1 g.calm hgl (g.bt .list) (g.gl h1.1) g.brange h1.2 (HE c c' h2)) fun env => by simp only [ev, evL_one h3]
          · rename_i f1 p1 c d pos1
            have hf1 : f1 = ("range" : Str) := of_decide_eq_true hr.1
            subst hf1
            subst hxl
            obtain ⟨h1, h⟩ := guardO_ok h
            rw [Bool.and_eq_true, Bool.and_eq_true] at h1
            obtain ⟨c', h2, h⟩ := bindO_ok h
            obtain ⟨d', h2', h⟩ := bindO_ok h
            obtain ⟨h3, h⟩ := guardO_ok h
            rw [Bool.and_eq_true] at h3
            cases h
            exact PE.as (s_range2 g.calm hgl (g.bt .list) (g.gl h1.1.1) g.brange h1.1.2 h1.2 (HE c c' h2) (HE d d' h2')) fun env => by simp only [ev, evL_cons h3.1, evL_one h3.2]
          · cases h
        · obtain ⟨rs, h1, h⟩ := bindO_ok h
          cases h
          subst hx
          obtain ⟨pa, ns, nse, hl⟩ := s_trL HE h1
          exact PE.as (s_bi g.calm un g.gd hgl (g.bt b) ns pa) fun env => by simp only [ev]
      | none =>
        rw [hb] at h
        simp only at h
        split at h
        · rename_i hx
          subst hx
          split at h
          · rename_i t p1
            obtain ⟨T, h1, h⟩ := bindO_ok h
            obtain ⟨h2, h⟩ := guardO_ok h
            rw [Bool.and_eq_true] at h2
            obtain ⟨a', h3, h⟩ := bindO_ok h
            cases h
            exact PE.as (s_isi (tyOfN_ok h1) hgl g.bisi (g.gl h2.1) (by rw [tyOfN_ok h1]; exact g.bty T) h2.2 (HE a a' h3)) fun env => by simp only [ev]
          · cases h
        · obtain ⟨fl, h1, h⟩ := bindO_ok h
          obtain ⟨h2, h⟩ := guardO_ok h
          obtain ⟨rs, h3, h⟩ := bindO_ok h
          cases h
          obtain ⟨pa, ns, nse, hl⟩ := s_trL HE h3
          obtain ⟨own, har⟩ := g.own _ (PySem.mem_of_lookup h1)
          have hlen := of_decide_eq_true h2
          exact PE.as (s_call own g.room g.gd g.tk hgl hpn.1 ns (by rw [← har]; exact hlen.symm) pa fun env h ds h' e => by rw [evL_len nse e, hl]) fun env => by simp only [ev]
    | kk :: ks, [], h =>
      simp only at h
      obtain ⟨q, h1, h⟩ := bindO_ok h
      obtain ⟨fl, h2, h⟩ := bindO_ok h
      obtain ⟨h3, h⟩ := guardO_ok h
      obtain ⟨rs, h4, h⟩ := bindO_ok h
      cases h
      have hq := List.find?_some h1
      have hmem := List.mem_of_find?_eq_some h1
      rw [Bool.and_eq_true] at hq h3
      have hx := of_decide_eq_true hq.1
      obtain ⟨own, har⟩ := g.own _ (PySem.mem_of_lookup h2)
      obtain ⟨pk, nse, hl, hk⟩ := s_trK HE h4
      have hin : (x, q.2.1, q.2.2) ∈ tc.kws := by
        rw [← hx]
        exact hmem
      exact PE.as (s_callk own g.room g.gd g.tk hgl hpn.1 hin (by rw [← har]; exact of_decide_eq_true h3.1) (fun pos => (hk pos X.env).1) (fun pos => (hk pos X.env).2.1) (fun pos => (hk pos X.env).2.2) pk fun env h ds h' e => by rw [evL_len nse e, hl]) fun env => by simp only [ev]
    | kk :: ks, _ :: _, h => cases h
  | Attribute o m apos =>
    unfold trCall at h
    have h9 := h
    clear h
    match kws, args, h9 with
    | [], [], h => cases h
    | _ :: _, _, h => cases h
    | [], a :: as, h =>
      simp only at h
      obtain ⟨M1, h1, g1⟩ := bindO_ok h
      clear h
      obtain ⟨h2, g2⟩ := guardO_ok g1
      clear g1
      obtain ⟨o', h3, h⟩ := bindO_ok g2
      clear g2
      rw [Bool.and_eq_true, Bool.and_eq_true] at h2
      have hm := meOf_ok h1
      subst hm
      have hl20 := of_decide_eq_true h2.2
      have ho := HE o o' h3
      cases M1 with
      | append =>
        obtain ⟨rs, h4, h⟩ := bindO_ok h
        cases h
        obtain ⟨pa, ns, nse, hl⟩ := s_trL HE h4
        exact PE.as (s_append ns hl20 (okBase_ok h2.1.1) h2.1.2 ho pa) fun env => by simp only [ev]; try rfl
      | extend =>
        obtain ⟨rs, h4, h⟩ := bindO_ok h
        cases h
        obtain ⟨pa, ns, nse, hl⟩ := s_trL HE h4
        exact PE.as (s_extend ns hl20 (okBase_ok h2.1.1) h2.1.2 ho pa) fun env => by simp only [ev]; try rfl
      | pop =>
        simp only at h
        split at h
        · obtain ⟨h4, h⟩ := guardO_ok h
          obtain ⟨a', h5, h⟩ := bindO_ok h
          obtain ⟨h6, h⟩ := guardO_ok h
          cases h
          exact PE.as (s_pop h4 (okBase_ok h2.1.1) h2.1.2 ho (s_one1 HE h4 h5)) fun env => by simp only [ev, evL_one h6]; try rfl
        · cases h
      | index =>
        simp only at h
        split at h
        · obtain ⟨h4, h⟩ := guardO_ok h
          obtain ⟨a', h5, h⟩ := bindO_ok h
          obtain ⟨h6, h⟩ := guardO_ok h
          cases h
          exact PE.as (s_index (by omega) h4 (okBase_ok h2.1.1) h2.1.2 ho (s_one1 HE h4 h5)) fun env => by simp only [ev, evL_one h6]; try rfl
        · cases h
  | _ => cases h
theorem cmpD_bl {o : COp} {x y : D} {h h' : LH} {z : DF} (e : cmpD o x y h = .ok z h') : ∃ b, z = (.bl b, false) := by
  unfold cmpD at e
  split at e <;> first
    | (cases e; exact ⟨_, rfl⟩)
    | cases e
    | (split at e <;> first | (cases e; exact ⟨_, rfl⟩) | cases e)
theorem tru_bl {f : Env → M DF} (hb : ∀ env h z h', f env h = .ok z h' → ∃ b, z = (.bl b, false)) {σ : L2.St} {H : Hp} {Q : Bool → Hp → Prop} (q : tT X.K X.mg W (tru f) σ H Q) : tE X.K X.mg W f σ H fun v H' => ∃ k, v = .bl k ∧ Q k H' := by
  obtain ⟨p, h, env, k, q⟩ := q
  refine ⟨p, h, env, k, ?_⟩
  have qb := Aft.bind q
  cases r : f env h with
  | no => rw [r] at qb; exact qb
  | exc c xs h1 => rw [r] at qb; exact qb
  | ok z h1 =>
    rw [r] at qb
    obtain ⟨b, rfl⟩ := hb _ _ _ _ r
    intro p1 H1 c1 e1 v rv
    have q2 : Aft X.K X.mg W p1 H1 (Res.ok b h1) (fun b h' p' H' => CH X.K X.mg H' p' h' → Q b H') := qb p1 H1 c1 e1
    exact ⟨b, by simpa [RepF, Rep] using rv, q2 p1 H1 c1 (Ext.refl _ _) c1⟩
variable {a b c : Expr} {pos : Pos} {fa fb fc : Env → M DF}
theorem s_cmpT {o : COp} (hu : X.A.units + 65 < cLine) (hm : behindInMarks (opC o) b = false) (ha : PE X a (tE X.K X.mg W fa)) (hb : PE X b (tE X.K X.mg W fb)) :
    PT X (.Compare a [opC o] [b] pos) (tT X.K X.mg W (tru fun env => M.then (fa env) fun x => M.then (fb env) fun y => cmpD o x.1 y.1)) :=
  PT.imp (pt_cmpR (op_cmp (W := W) hu) (PE.z ha) (PE.z hb) hm) fun σ H Q qq => by
    obtain ⟨p, h, env, k, q⟩ := tru_bl (fun env h z h' e => by
      obtain ⟨x, h1, e1, e2⟩ := res_ok e
      obtain ⟨y, h2, e3, e4⟩ := res_ok e2
      exact cmpD_bl e4) qq
    exact ⟨p, h, env, k, (Aft.z q k.2).imp fun x h1 p1 H1 c1 e1 q1 v c1' r1 => ⟨p1, h1, env, ⟨c1', q1.1.2⟩, (Aft.bind q1.2).imp fun y h2 p2 H2 c2 e2 q2 u c2' r2 => ⟨p2, h2, x.1, y.1, c2', Rep.ext e2 _ _ r1, r2, q2⟩⟩⟩
theorem chain_bl {o o' : COp} (env : Env) (h : LH) (z : DF) (h' : LH) (e : (M.then (fa env) fun x => M.then (fb env) fun y => M.then (cmpD o x.1 y.1) fun z => fun h => match z.1 with
      | .bl true => M.then (fc env) (fun w => cmpD o' y.1 w.1) h
      | .bl false => val (.bl false) h
      | _ => .no) h = .ok z h') : ∃ b, z = (.bl b, false) := by
  obtain ⟨x, h1, e1, e2⟩ := res_ok e
  obtain ⟨y, h2, e3, e4⟩ := res_ok e2
  obtain ⟨w, h3, e5, e6⟩ := res_ok e4
  split at e6
  · obtain ⟨u, h4, e7, e8⟩ := res_ok e6
    exact cmpD_bl e8
  · cases e6
    exact ⟨_, rfl⟩
  · cases e6
theorem s_chainT {o o' : COp} (hu : X.A.units + 65 < cLine) (hm : lastMarks [opC o, opC o'] [b, c] = false) (ha : PE X a (tE X.K X.mg W fa)) (hb : PE X b (tE X.K X.mg W fb)) (hc : PE X c (tE X.K X.mg W fc)) :
    PT X (.Compare a [opC o, opC o'] [b, c] pos) (tT X.K X.mg W (tru fun env => M.then (fa env) fun x => M.then (fb env) fun y => M.then (cmpD o x.1 y.1) fun z => fun h => match z.1 with
      | .bl true => M.then (fc env) (fun w => cmpD o' y.1 w.1) h
      | .bl false => val (.bl false) h
      | _ => .no)) :=
  PT.imp (pt_chain (op_cmp (W := W) hu) (op_cmp (W := W) hu) (PE.z ha) (PE.z hb) (PE.z hc) hm) fun σ H Q qq => by
    obtain ⟨p, h, env, k, q⟩ := tru_bl (chain_bl (fa := fa) (fb := fb) (fc := fc)) qq
    exact
    ⟨p, h, env, k, (Aft.z q k.2).imp fun x h1 p1 H1 c1 e1 q1 v c1' r1 => ⟨p1, h1, env, ⟨c1', q1.1.2⟩, (Aft.z q1.2 q1.1.2).imp fun y h2 p2 H2 c2 e2 q2 u c2' r2 =>
      ⟨p2, h2, x.1, y.1, c2', Rep.ext e2 _ _ r1, r2, (Aft.z q2.2 q2.1.2).imp fun z h3 p3 H3 c3 e3 q3 w r3 => by
        obtain ⟨k3, q3⟩ := q3
        obtain ⟨z, zf⟩ := z
        cases z with
        | bl t =>
          have ew : w = .bl t := by
            cases zf with
            | false => exact r3
            | true => obtain ⟨_, _, _, e0, _⟩ := r3; cases e0
          subst ew
          refine ⟨t, rfl, ?_⟩
          cases t with
          | true =>
            rw [if_pos rfl]
            exact ⟨p3, h3, env, k3, (Aft.bind q3).imp fun w' h4 p4 H4 c4 e4 q4 w2 c4' r4 => ⟨p4, h4, y.1, w'.1, c4', Rep.ext (e3.trans e4) _ _ r2, r4, q4⟩⟩
          | false =>
            rw [if_neg Bool.false_ne_true]
            exact end_val q3 c3 (by simp [Rep])
        | _ => exact q3.elim⟩⟩⟩
/-- what isTrue has no arm of its own for -/
def plainTest : Expr → Bool
  | .UnaryOp .Not _ _ => false
  | .IfExp _ _ _ _ => false
  | .BoolOp _ _ _ => false
  | .Compare _ _ _ _ => false
  | _ => true
theorem truthOf {e : Expr} {env : PySem.Env} (h : plainTest e = true) (whole : Sem Value) : isTrue e env whole = (do let v ← whole; standAt e.pos; holding [v] (truthy v)) := by
  cases e with
  | UnaryOp op a pos => cases op <;> first | rfl | cases h
  | IfExp => cases h
  | BoolOp => cases h
  | Compare => cases h
  | _ => rfl
/-- all expressions -/
theorem trE_ok : ∀ (n : Nat) (tc : TC) (X : Cx) (W : XK), GX X W k Φ ar tc → (∀ e r, trE n tc e = some r → PE X e (tE X.K X.mg W (ev Φ r))) ∧ (∀ e r, trE n tc e = some r → PT X e (tT X.K X.mg W (tru (ev Φ r))))
  | 0, tc, X, W, g => ⟨fun e r h => by simp [trE] at h, fun e r h => by simp [trE] at h⟩
  | n + 1, tc, X, W, g => by
    obtain ⟨HE, HT⟩ := trE_ok n tc X W g
    have un := g.un
    have main : ∀ e r, trE (n + 1) tc e = some r → PE X e (tE X.K X.mg W (ev Φ r)) := by
      intro e r h
      unfold trE at h
      cases e with
      | Constant c kk pos =>
        simp only at h
        cases c with
        | none => cases h; exact PE.as s_non fun env => by simp only [ev]
        | bool b => cases h; exact PE.as s_bl fun env => by simp only [ev]
        | int i => cases h; exact PE.as s_int fun env => by simp only [ev]
        | str x => cases h; exact PE.as s_str fun env => by simp only [ev]
        | _ => cases h
      | Name x pos => exact s_trName g h
      | Tuple es kk pos =>
        obtain ⟨rs, h1, h⟩ := bindO_ok h
        cases h
        exact PE.as (s_tup (s_trL HE h1).1) fun env => by simp only [ev]
      | List es pos =>
        obtain ⟨rs, h1, h⟩ := bindO_ok h
        cases h
        exact PE.as (s_lst (s_trL HE h1).1) fun env => by simp only [ev]
      | BinOp a op b pos =>
        obtain ⟨o, h1, h⟩ := bindO_ok h
        obtain ⟨a', h2, h⟩ := bindO_ok h
        obtain ⟨b', h3, h⟩ := bindO_ok h
        cases h
        exact PE.as (s_bin (opB_ok h1) (HE a a' h2) (HE b b' h3)) fun env => by simp only [ev]
      | UnaryOp op a pos =>
        simp only at h
        cases op with
        | USub =>
          obtain ⟨a', h2, h⟩ := bindO_ok h
          cases h
          exact PE.as (s_neg (HE a a' h2)) fun env => by simp only [ev]
        | Not =>
          obtain ⟨a', h2, h⟩ := bindO_ok h
          cases h
          exact PE.as (s_not (HE a a' h2)) fun env => by simp only [ev]; try rfl
        | _ => cases h
      | Compare a ops cs pos =>
        simp only at h
        split at h
        · rename_i o b
          obtain ⟨h1, h⟩ := guardO_ok h
          obtain ⟨a', h2, h⟩ := bindO_ok h
          obtain ⟨b', h3, h⟩ := bindO_ok h
          cases h
          have hc := s_cmp (o := opK o) (pos := pos) (by omega) (by rw [opK_ok]; simpa using h1) (HE a a' h2) (HE b b' h3)
          rw [opK_ok] at hc
          exact PE.as hc fun env => by simp only [ev]
        · rename_i o o' b c
          obtain ⟨h1, h⟩ := guardO_ok h
          obtain ⟨a', h2, h⟩ := bindO_ok h
          obtain ⟨b', h3, h⟩ := bindO_ok h
          obtain ⟨c', h4, h⟩ := bindO_ok h
          cases h
          have hc := s_chain (o := opK o) (o' := opK o') (pos := pos) (by omega) (by rw [opK_ok, opK_ok]; simpa using h1) (HE a a' h2) (HE b b' h3) (HE c c' h4)
          rw [opK_ok, opK_ok] at hc
          exact PE.as hc fun env => by simp only [ev]; try rfl
        · cases h
      | BoolOp op vs pos => exact s_trBo HE h
      | IfExp c a b pos =>
        obtain ⟨c', h1, h⟩ := bindO_ok h
        obtain ⟨a', h2, h⟩ := bindO_ok h
        obtain ⟨b', h3, h⟩ := bindO_ok h
        cases h
        refine PE.as (s_ite (HT c c' h1) (HE a a' h2) (HE b b' h3)) fun env => ?_
        rw [ite_val (ev Φ c') (ev Φ a') (ev Φ b') env]
        simp only [ev]
        try rfl
      | Subscript a i pos =>
        simp only at h
        split at h
        · rename_i lo hi st p2
          split at h
          · obtain ⟨a', h1, h⟩ := bindO_ok h
            obtain ⟨l, h2, h⟩ := bindO_ok h
            obtain ⟨hh, h3, h⟩ := bindO_ok h
            cases h
            exact PE.as (s_slc (HE a a' h1) (s_trO HE h2) (s_trO HE h3)) fun env => by simp only [ev]
          · cases h
        · obtain ⟨h1, h⟩ := guardO_ok h
          obtain ⟨a', h2, h⟩ := bindO_ok h
          obtain ⟨i', h3, h⟩ := bindO_ok h
          cases h
          exact PE.as (s_ix (okIx_ok h1) (HE a a' h2) (HE _ i' h3)) fun env => by simp only [ev]
      | ListComp elt gs scope pos =>
        obtain ⟨f, C, e⟩ := s_trC g HE (fun Y V gY => trE_ok n (tc.blk scope) Y V gY) h (pos := pos)
        exact PE.as (s_comp C) fun env => (e env).symm
      | Call f args kws pos => exact s_trCall g HE h
      | _ => cases h
    refine ⟨main, fun e r h => ?_⟩
    have dflt : plainTest e = true → PT X e (tT X.K X.mg W (tru (ev Φ r))) := fun z => s_truth (main e r h) (truthOf z)
    cases e with
    | UnaryOp op a pos =>
      cases op with
      | Not =>
        unfold trE at h
        obtain ⟨a', h2, h⟩ := bindO_ok h
        cases h
        refine PT.as (s_notT (HT a a' h2)) fun env => ?_
        rw [tru_not]
        congr 1
        funext env
        simp only [ev]
        try rfl
      | _ => exact dflt rfl
    | IfExp c a b pos =>
      unfold trE at h
      obtain ⟨c', h1, h⟩ := bindO_ok h
      obtain ⟨a', h2, h⟩ := bindO_ok h
      obtain ⟨b', h3, h⟩ := bindO_ok h
      cases h
      refine PT.as (s_iteT (HT c c' h1) (HT a a' h2) (HT b b' h3)) fun env => ?_
      rw [tru_ite]
      congr 1
      funext env
      simp only [ev]
      try rfl
    | BoolOp op vs pos =>
      unfold trE at h
      exact (s_trBoT HT h).pt
    | Compare a ops cs pos =>
      unfold trE at h
      simp only at h
      split at h
      · rename_i o b
        obtain ⟨h1, h⟩ := guardO_ok h
        obtain ⟨a', h2, h⟩ := bindO_ok h
        obtain ⟨b', h3, h⟩ := bindO_ok h
        cases h
        have hc := s_cmpT (o := opK o) (pos := pos) (by omega) (by rw [opK_ok]; simpa using h1) (HE a a' h2) (HE b b' h3)
        rw [opK_ok] at hc
        refine PT.as hc fun env => ?_
        congr 1
        funext env
        simp only [ev]
      · rename_i o o' b c
        obtain ⟨h1, h⟩ := guardO_ok h
        obtain ⟨a', h2, h⟩ := bindO_ok h
        obtain ⟨b', h3, h⟩ := bindO_ok h
        obtain ⟨c', h4, h⟩ := bindO_ok h
        cases h
        have hc := s_chainT (o := opK o) (o' := opK o') (pos := pos) (by omega) (by rw [opK_ok, opK_ok]; simpa using h1) (HE a a' h2) (HE b b' h3) (HE c c' h4)
        rw [opK_ok, opK_ok] at hc
        refine PT.as hc fun env => ?_
        congr 1
        funext env
        simp only [ev]
        try rfl
      · cases h
    | _ => exact dflt rfl
end
end Fz

set_option Elab.async false
set_option linter.all false
set_option maxRecDepth 100000
set_option maxHeartbeats 4000000
/-! Fz, part U: statements, translated. -/
namespace Fz
open PySem PySem.Spec PyProof.Rows L2
def TC.isChg (tc : TC) (x : Str) : Bool := tc.chg.any fun y => decide (y = x)
def swapB (tc : TC) (x : Str) (px cpos : Pos) (scope : Scope) : Bool := tc.loc x && (px.line == cpos.line) && !(scope.names.any fun (n, kd) => n == x && (kd == .local || kd == .cell))
/-- whether the stores of a pair, of a triple go from the right -/
def swD (sc : Scope) (ts vs : List Expr) : Option (Option (List Str)) :=
  if !(ts.length == 2 || ts.length == 3) || vs.length != ts.length then some none else
  if vs.any (fun | .Starred .. => true | _ => false) then some none else
  let line := (ts.head?.map (·.pos.line)).getD 0
  let names := ts.filterMap fun
    | .Name id pos => if sc.names.lookup id == some .local && pos.line == line then some id else none
    | _ => none
  if names.length != ts.length || names.eraseDups.length != names.length then some none else
  if vs.all (foldedForSure 8) then some none else
  if vs.all (constantsAlone 8) then none else some (some names)
section
variable (tr : Expr → Option E)
def trTSs (tc : TC) : List Expr → Option (List TS)
  | [] => some []
  | .Name x _ :: r => (ixOf tc.N x).bind fun i => guardO (tc.sto x) ((trTSs tc r).bind fun ts => some (.loc i :: ts))
  | .Subscript o i _ :: r => guardO (okIx i) ((tr o).bind fun o' => (tr i).bind fun i' => (trTSs tc r).bind fun ts => some (.sub o' i' :: ts))
  | _ => none
def flagsOf (tc : TC) : List Expr → List Bool
  | [] => []
  | .Name x _ :: r => tc.isChg x :: flagsOf tc r
  | _ :: r => false :: flagsOf tc r
def isTupE : Expr → Option (List Expr)
  | .Tuple vs _ _ => some vs
  | _ => none
def trAT (tc : TC) (ts : List Expr) (e : Expr) : Option S := match isTupE e with
  | some vs => (swD tc.sc ts vs).bind fun o => (trL tr (flagsOf tc ts) vs).bind fun rs => (match o with
    | none => (trTSs tr tc ts).bind fun us => some (.asgT us (.tup rs))
    | some ns => (match ts, vs, ns with
      | [.Name x _, .Name y _], [_, _], [x', y'] => (ixOf tc.N x).bind fun i => (ixOf tc.N y).bind fun j => guardO (tc.loc x && tc.loc y && decide (i ≠ j) && decide (x = x') && decide (y = y')) (some (.par [i, j] rs))
      | [.Name x _, .Name y _, .Name z _], [_, _, _], [x', y', z'] => (ixOf tc.N x).bind fun i => (ixOf tc.N y).bind fun j => (ixOf tc.N z).bind fun l =>
          guardO (tc.loc x && tc.loc y && tc.loc z && decide (i ≠ j) && decide (i ≠ l) && decide (j ≠ l) && decide (x = x') && decide (y = y') && decide (z = z')) (some (.par [i, j, l] rs))
      | _, _, _ => none))
  | none => (tr e).bind fun e' => (trTSs tr tc ts).bind fun us => some (.asgT us e')
def isLC : Expr → Option (Scope × Pos)
  | .ListComp _ _ scope pos => some (scope, pos)
  | _ => none
def trA (tc : TC) (tg e : Expr) : Option S := match tg with
  | .Name x px => (ixOf tc.N x).bind fun i => guardO (tc.sto x) ((tr e).bind fun e' => (match isLC e with
    | some (scope, cpos) => guardO (decide (tc.sc.kind = .function)) (match swapB tc x px cpos scope with
      | true => guardO (!tc.isChg x) (some (.asg i e'))
      | false => some (.asg i (mkIf (tc.isChg x) e')))
    | none => guardO (notComp e) (some (.asg i (mkIf (tc.isChg x) e')))))
  | .Tuple ts _ _ => guardO (decide (tc.sc.kind = .function)) (trAT tr tc ts e)
  | .Subscript o i _ => guardO (okIx i) ((tr e).bind fun e' => (tr o).bind fun o' => (tr i).bind fun i' => some (.asgS o' i' e'))
  | _ => none
end
def trSs (tr : Stmt → Option S) : List Stmt → Option (List S)
  | [] => some []
  | s :: r => (tr s).bind fun s' => (trSs tr r).bind fun r' => some (s' :: r')
def isDoc : Expr → Bool
  | .Constant (.str _) _ _ => true
  | _ => false
def trS : Nat → TC → Stmt → Option S
  | 0, _, _ => none
  | n + 1, tc, st => match st with
    | .Expr e _ => (match isDoc e with
      | true => some .pass
      | false => guardO (notComp e) ((trE n tc e).bind fun e' => some (.expr e')))
    | .Return o _ => (match o with
      | none => some .retN
      | some e => (trE n tc e).bind fun e' => some (.ret e'))
    | .Pass _ => some .pass
    | .Break _ => some .brk
    | .Continue _ => some .cont
    | .If c a b _ => (trE n tc c).bind fun c' => (trSs (trS n tc) a).bind fun a' => (trSs (trS n tc) b).bind fun b' => some (.ife c' a' b')
    | .For t it body orelse _ => (match orelse with
      | [] => guardO (notSet it) ((trT tc t).bind fun t' => (trW (trE n tc) tc it).bind fun w => guardO (!w.2 || isTup t') ((trSs (trS n tc) body).bind fun b => some (.for_ t' w.1 b)))
      | _ :: _ => none)
    | .While c body orelse _ => (match orelse with
      | [] => (trE n tc c).bind fun c' => (trSs (trS n tc) body).bind fun b => some (.whl c' b)
      | _ :: _ => none)
    | .Assign tgs e _ => (match tgs with
      | [tg] => trA (trE n tc) tc tg e
      | _ => none)
    | .Raise _ _ _ => some (.raise_ "" [])
    | _ => none
section
variable {X : Cx} {W : XK} {k : Nat} {Φ : Str → List D → M DF} {ar : Str → Nat} {tc : TC} {tr : Expr → Option E}
theorem sw_eq {elt : Expr} {gs : List Comprehension} {scope : Scope} {pos py : Pos} {y : Str} {l : Nat} (g : GX X W k Φ ar tc) (hk : tc.sc.kind = .function) :
    swapsWith (.ListComp elt gs scope pos) (some (.Name y py)) l X.env = pure (swapB tc y py pos scope) := by
  have hb : X.env.blockKind = .function := by unfold Env.blockKind; rw [g.sc, hk]; rfl
  have hky : (X.env.kindOf y == some NameKind.local) = tc.loc y := by
    show (X.env.scope.names.lookup y == some NameKind.local) = _
    rw [g.sc]
    unfold TC.loc
    cases h : tc.sc.names.lookup y with
    | none => rfl
    | some kd => cases kd <;> rfl
  unfold swapsWith swapB
  simp only [hb, hky, Expr.pos]
  rfl
theorem sole_tup {ts : List Expr} {kk : Nat} {tp : Pos} {e : Expr} {l : Nat} : swapsWithSole [.Tuple ts kk tp] e l X.env = pure false := by
  cases e <;> rfl
theorem sole_sub {o i : Expr} {tp : Pos} {e : Expr} {l : Nat} : swapsWithSole [.Subscript o i tp] e l X.env = pure false := by
  cases e <;> rfl
theorem stores_sub {o i : Expr} {tp : Pos} {e : Expr} : swappedStores [.Subscript o i tp] e X.env = pure none := by
  cases e <;> rfl
theorem stores_tup {ts : List Expr} {kk : Nat} {tp : Pos} {e : Expr} (h : isTupE e = none) : swappedStores [.Tuple ts kk tp] e X.env = pure none := by
  cases e <;> first | rfl | cases h
theorem stores_swD {ts vs : List Expr} {kk k2 : Nat} {tp p2 : Pos} {o : Option (List Str)} (g : GX X W k Φ ar tc) (hk : tc.sc.kind = .function) (h : swD tc.sc ts vs = some o) : swappedStores [.Tuple ts kk tp] (.Tuple vs k2 p2) X.env = pure o := by
  have hb : X.env.blockKind = .function := by unfold Env.blockKind; rw [g.sc, hk]; rfl
  unfold swD at h
  unfold swappedStores
  have hn : ∀ y, X.env.kindOf y = tc.sc.names.lookup y := fun y => by
    show X.env.scope.names.lookup y = _
    rw [g.sc]
  simp only [hb, hn]
  simp only [bne_self_eq_false, Bool.or_false]
  dsimp only at h
  split at h
  · rename_i h1
    cases h
    exact if_pos h1
  rename_i h1
  refine (if_neg h1).trans ?_
  split at h
  · rename_i h2
    cases h
    exact if_pos h2
  rename_i h2
  refine (if_neg h2).trans ?_
  split at h
  · rename_i h3
    cases h
    exact if_pos h3
  rename_i h3
  refine (if_neg h3).trans ?_
  split at h
  · rename_i h4
    cases h
    exact if_pos h4
  rename_i h4
  refine (if_neg h4).trans ?_
  split at h
  · cases h
  rename_i h5
  cases h
  exact if_neg h5
theorem s_trTSs (g : GX X W k Φ ar tc) (HE : ∀ e r, tr e = some r → PE X e (tE X.K X.mg W (ev Φ r))) : ∀ {es : List Expr} {ts : List TS}, trTSs tr tc es = some ts → TsAt X W Φ es ts
  | [], ts, h => by
    cases h
    exact .nil
  | e :: es, ts, h => by
    cases e with
    | Name x pos =>
      unfold trTSs at h
      obtain ⟨i, h1, h⟩ := bindO_ok h
      obtain ⟨h2, h⟩ := guardO_ok h
      obtain ⟨us, h3, h⟩ := bindO_ok h
      cases h
      exact .loc (g.sto h2 h1) (s_trTSs g HE h3)
    | Subscript o i pos =>
      unfold trTSs at h
      obtain ⟨h1, h⟩ := guardO_ok h
      obtain ⟨o', h2, h⟩ := bindO_ok h
      obtain ⟨i', h3, h⟩ := bindO_ok h
      obtain ⟨us, h4, h⟩ := bindO_ok h
      cases h
      exact .sub (HE o o' h2) (HE i i' h3) (okIx_set h1) (s_trTSs g HE h4)
    | _ => simp [trTSs] at h
theorem mkIf_ev {b : Bool} {e : Expr} {r : E} (h : PE X e (tE X.K X.mg W (ev Φ r))) : PE X e (tE X.K X.mg W (ev Φ (mkIf b r))) := pe_mkIf h
theorem evS_asg (i : Nat) (e : E) (env : Env) : evS Φ (.asg i e) env = M.then (ev Φ e env) fun x => M.ret (.nx (env.set i (some x.1))) := by simp only [evS]
theorem s_trA {n : Nat} (g : GX X W k Φ ar tc) {tg e : Expr} {pos : Pos} {s : S} (h : trA (trE n tc) tc tg e = some s) : PS X (.Assign [tg] e pos) (tS X.K X.mg W (evS Φ s)) := by
  obtain ⟨HE, HT⟩ := trE_ok n tc X W g
  cases tg with
  | Name x px =>
    obtain ⟨i, h1, h⟩ := bindO_ok h
    obtain ⟨h2, h⟩ := guardO_ok h
    obtain ⟨e', h3, h⟩ := bindO_ok h
    have st := g.sto h2 h1
    cases hl : isLC e with
    | none =>
      rw [hl] at h
      obtain ⟨h4, h⟩ := guardO_ok h
      cases h
      exact PS.as (s_asg g.nd st (pe_mkIf (HE e e' h3)) (notComp_ok h4)) fun env => (evS_asg _ _ env).symm
    | some sp =>
      rw [hl] at h
      obtain ⟨h4, h9⟩ := guardO_ok h
      clear h
      have hk := of_decide_eq_true h4
      cases e with
      | ListComp elt gs scope cpos =>
        cases hl
        cases hs : swapB tc x px cpos scope with
        | false =>
          dsimp only at h9
          rw [hs] at h9
          cases h9
          exact PS.as (s_asg g.nd st (pe_mkIf (HE _ e' h3)) (by rw [sw_eq g hk, hs])) fun env => (evS_asg _ _ env).symm
        | true =>
          dsimp only at h9
          rw [hs] at h9
          obtain ⟨h5, h8⟩ := guardO_ok h9
          cases h8
          have hloc : tc.loc x = true := by
            unfold swapB at hs
            rw [Bool.and_eq_true, Bool.and_eq_true] at hs
            exact hs.1.1
          cases n with
          | zero => simp [trE] at h3
          | succ n =>
            unfold trE at h3
            obtain ⟨HE', _⟩ := trE_ok n tc X W g
            obtain ⟨f, C, ef⟩ := s_trC g HE' (fun Y V gY => trE_ok n (tc.blk scope) Y V gY) h3 (pos := cpos)
            exact PS.as (s_asgC g.nd st.1 (g.loc hloc) C (by rw [sw_eq g hk, hs])) fun env => by rw [evS_asg, ← ef]
      | _ => cases hl
  | Tuple ts kk tp =>
    obtain ⟨h1, h⟩ := guardO_ok h
    have hk := of_decide_eq_true h1
    unfold trAT at h
    cases hv : isTupE e with
    | none =>
      rw [hv] at h
      obtain ⟨e', h2, h⟩ := bindO_ok h
      obtain ⟨us, h3, h⟩ := bindO_ok h
      cases h
      exact PS.as (s_asgT g.calm g.nd (HE e e' h2) (s_trTSs g HE h3) sole_tup (stores_tup hv)) fun env => by simp only [evS]; try rfl
    | some vs =>
      rw [hv] at h
      cases e with
      | Tuple vs' k2 p2 =>
        cases hv
        obtain ⟨o, h2, h⟩ := bindO_ok h
        obtain ⟨rs, h3, h⟩ := bindO_ok h
        have hsw := stores_swD (kk := kk) (k2 := k2) (tp := tp) (p2 := p2) g hk h2
        obtain ⟨pa, ns, nse, hlen⟩ := s_trL HE h3
        cases o with
        | none =>
          obtain ⟨us, h4, h⟩ := bindO_ok h
          cases h
          exact PS.as (s_asgT g.calm g.nd (s_tup pa) (s_trTSs g HE h4) sole_tup hsw) fun env => by simp only [evS, ev]; try rfl
        | some names =>
          simp only at h
          split at h
          · rename_i x px y py a b x' y'
            obtain ⟨i, h4, h⟩ := bindO_ok h
            obtain ⟨j, h5, h⟩ := bindO_ok h
            obtain ⟨h6, h⟩ := guardO_ok h
            cases h
            simp only [Bool.and_eq_true, decide_eq_true_eq] at h6
            obtain ⟨⟨⟨⟨k1, k2'⟩, k3⟩, k4⟩, k5⟩ := h6
            subst k4; subst k5
            exact PS.as (s_par2 g.calm g.nd (by rw [g.N]; exact ixOf_ok h4) (by rw [g.N]; exact ixOf_ok h5) k3 (g.loc k1) (g.loc k2') pa hsw) fun env => by simp only [evS]
          · rename_i x px y py z pz a b c x' y' z'
            obtain ⟨i, h4, h⟩ := bindO_ok h
            obtain ⟨j, h5, h⟩ := bindO_ok h
            obtain ⟨l, h5', h⟩ := bindO_ok h
            obtain ⟨h6, h⟩ := guardO_ok h
            cases h
            simp only [Bool.and_eq_true, decide_eq_true_eq] at h6
            obtain ⟨⟨⟨⟨⟨⟨⟨⟨k1, k2'⟩, k3⟩, k4⟩, k5⟩, k6⟩, k7⟩, k8⟩, k9⟩ := h6
            subst k7; subst k8; subst k9
            exact PS.as (s_par3 g.calm g.nd (by rw [g.N]; exact ixOf_ok h4) (by rw [g.N]; exact ixOf_ok h5) (by rw [g.N]; exact ixOf_ok h5') k4 k5 k6 (g.loc k1) (g.loc k2') (g.loc k3) pa hsw) fun env => by simp only [evS]
          · cases h
      | _ => cases hv
  | Subscript o i tp =>
    obtain ⟨h1, h⟩ := guardO_ok h
    obtain ⟨e', h2, h⟩ := bindO_ok h
    obtain ⟨o', h3, h⟩ := bindO_ok h
    obtain ⟨i', h4, h⟩ := bindO_ok h
    cases h
    exact PS.as (s_asgS (HE e e' h2) (HE o o' h3) (HE i i' h4) (okIx_set h1) sole_sub stores_sub) fun env => by simp only [evS]
  | _ => cases h
theorem evSs_nil (env : Env) : evSs Φ [] env = M.ret (.nx env) := by simp only [evSs]
theorem evSs_cons (s : S) (r : List S) (env : Env) : evSs Φ (s :: r) env = M.then (evS Φ s env) fun fl => match fl with
    | .nx e => evSs Φ r e
    | fl => M.ret fl := by
  simp only [evSs]
  try rfl
theorem s_trSs {tr : Stmt → Option S} (H : ∀ st s, tr st = some s → PS X st (tS X.K X.mg W (evS Φ s))) : ∀ {sts : List Stmt} {ss : List S}, trSs tr sts = some ss → PSs X sts (tS X.K X.mg W (evSs Φ ss))
  | [], ss, h => by
    cases h
    exact PSs.as s_snil fun env => (evSs_nil env).symm
  | st :: sts, ss, h => by
    unfold trSs at h
    obtain ⟨s', h1, h⟩ := bindO_ok h
    obtain ⟨r', h2, h⟩ := bindO_ok h
    cases h
    exact PSs.as (s_scons (H st s' h1) (s_trSs H h2)) fun env => (evSs_cons s' r' env).symm
theorem tru_sel {α : Type} (f : Env → M DF) (g1 g2 : Env → M α) (env : Env) : (M.then (tru f env) fun t => match t with
      | true => g1 env
      | false => g2 env) = (M.then (f env) fun x => fun h => match truthD (der h x.1) with
      | some true => g1 env h
      | some false => g2 env h
      | none => .no) := by
  funext h
  simp only [tru, M.then, Res.next]
  cases f env h with
  | ok x h1 =>
    simp only
    cases e : truthD (der h1 x.1) with
    | none => rfl
    | some b => cases b <;> rfl
  | exc _ _ _ => rfl
  | no => rfl
/-- all statements -/
theorem trS_ok (g : GX X W k Φ ar tc) (hp : PassesOwn (model X.prog X.w) X.A X.env X.xe) : ∀ (n : Nat) (st : Stmt) (s : S), trS n tc st = some s → PS X st (tS X.K X.mg W (evS Φ s))
  | 0, st, s, h => by simp [trS] at h
  | n + 1, st, s, h => by
    obtain ⟨HE, HT⟩ := trE_ok n tc X W g
    have IH := trS_ok g hp n
    unfold trS at h
    cases st with
    | Expr e pos =>
      simp only at h
      cases hd : isDoc e with
      | true =>
        rw [hd] at h
        cases h
        cases e with
        | Constant c kk p =>
          cases c with
          | str x => exact PS.as s_doc fun env => by simp only [evS]
          | _ => cases hd
        | _ => cases hd
      | false =>
        rw [hd] at h
        obtain ⟨h1, h⟩ := guardO_ok h
        obtain ⟨e', h2, h⟩ := bindO_ok h
        cases h
        exact PS.as (s_expr (HE e e' h2) (notComp_ok h1)) fun env => by simp only [evS]
    | Return o pos =>
      cases o with
      | none => cases h; exact PS.as s_retN fun env => by simp only [evS]
      | some e =>
        obtain ⟨e', h2, h⟩ := bindO_ok h
        cases h
        exact PS.as (s_ret (HE e e' h2)) fun env => by simp only [evS]
    | Pass pos => cases h; exact PS.as s_pass fun env => by simp only [evS]
    | Break pos => cases h; exact PS.as s_brk fun env => by simp only [evS]
    | Continue pos => cases h; exact PS.as s_cont fun env => by simp only [evS]
    | If c a b pos =>
      obtain ⟨c', h1, h⟩ := bindO_ok h
      obtain ⟨a', h2, h⟩ := bindO_ok h
      obtain ⟨b', h3, h⟩ := bindO_ok h
      cases h
      refine PS.as (s_if (HT c c' h1) (s_trSs IH h2) (s_trSs IH h3)) fun env => ?_
      refine (tru_sel (ev Φ c') (evSs Φ a') (evSs Φ b') env).trans ?_
      simp only [evS]
      try rfl
    | For t it body orelse pos =>
      cases orelse with
      | cons _ _ => cases h
      | nil =>
        obtain ⟨h1, h⟩ := guardO_ok h
        obtain ⟨t', h2, h⟩ := bindO_ok h
        obtain ⟨w, h3, h⟩ := bindO_ok h
        obtain ⟨h4, h⟩ := guardO_ok h
        obtain ⟨b, h5, h⟩ := bindO_ok h
        cases h
        have ta := s_trT g h2
        exact PS.as (s_for hp g.calm g.nd (s_trW g HE h3 h4 (isTup_of ta)) ta (lo_tup h4) (notSet_ok h1) (s_trSs IH h5)) fun env => by simp only [evS]
    | While c body orelse pos =>
      cases orelse with
      | cons _ _ => cases h
      | nil =>
        obtain ⟨c', h1, h⟩ := bindO_ok h
        obtain ⟨b, h5, h⟩ := bindO_ok h
        cases h
        exact PS.as (s_while whileFuel hp (HT c c' h1) (s_trSs IH h5)) fun env => by simp only [evS]; rfl
    | Assign tgs e pos =>
      simp only at h
      split at h
      · exact s_trA g h
      · cases h
    | Raise a b pos =>
      cases h
      exact PS.imp ps_never fun D σ H ⟨p, h, env, k, q⟩ => by
        simp only [evS] at q
        exact q
    | _ => cases h
end
end Fz

set_option Elab.async false
set_option linter.all false
set_option maxRecDepth 100000
set_option maxHeartbeats 4000000
/-! Fz, part V: defs by their bodies; a law's call. -/
namespace Fz
open PySem PySem.Spec PyProof.Rows L2
/-! ### the end of a call: its own cells are let go -/
section
variable {K : PySem.W.Frag} {mg : Str → Option Value} {H : Hp} {p : Mp} {h : LH}
/-- the cells below n alone -/
def Mp.cut (p : Mp) (n : Nat) : Mp := ⟨fun l => if l < n then p.m l else none, p.F, p.X⟩
theorem cut_m {n l : Nat} (hl : l < n) : (p.cut n).m l = p.m l := by
  show (if l < n then p.m l else none) = _
  rw [if_pos hl]
theorem cut_some {n l : Nat} {a : Addr} (q : (p.cut n).m l = some a) : l < n ∧ p.m l = some a := by
  have q : (if l < n then p.m l else none) = some a := q
  split at q
  · exact ⟨by assumption, q⟩
  · cases q
mutual
theorem Rep.cut {n : Nat} : ∀ (d : D) (v : V), d.bel n = true → Rep K mg H p d v → Rep K mg H (p.cut n) d v
  | .non, _, _, h => by simpa [Rep] using h
  | .bl _, _, _, h => by simpa [Rep] using h
  | .int _, _, _, h => by simpa [Rep] using h
  | .str _, _, _, h => by simpa [Rep] using h
  | .tup ds, v, hb, h => by
    simp only [Rep] at h ⊢
    simp only [D.bel] at hb
    obtain ⟨a, vs, e1, h1, h2⟩ := h
    exact ⟨a, vs, e1, h1, RepL.cut ds vs hb h2⟩
  | .lst ds, v, hb, h => by
    simp only [Rep] at h ⊢
    simp only [D.bel] at hb
    obtain ⟨a, vs, e1, h1, h2⟩ := h
    exact ⟨a, vs, e1, h1, RepL.cut ds vs hb h2⟩
  | .fix ds, v, hb, h => by
    simp only [Rep] at h ⊢
    simp only [D.bel] at hb
    obtain ⟨a, vs, e1, h1, h2⟩ := h
    exact ⟨a, vs, e1, h1, RepL.cut ds vs hb h2⟩
  | .dic _ _, _, _, h => by simp [Rep] at h
  | .cell l, v, hb, h => by
    simp only [Rep] at h ⊢
    simp only [D.bel] at hb
    obtain ⟨a, e1, h1⟩ := h
    exact ⟨a, e1, by rw [cut_m (of_decide_eq_true hb)]; exact h1⟩
  | .fn x, v, _, h => by simpa [Rep] using h
theorem RepL.cut {n : Nat} : ∀ (ds : List D) (vs : List V), belL n ds = true → RepL K mg H p ds vs → RepL K mg H (p.cut n) ds vs
  | [], _, _, h => by simpa [RepL] using h
  | d :: ds, vs, hb, h => by
    simp only [RepL] at h ⊢
    simp only [belL, Bool.and_eq_true] at hb
    obtain ⟨v, r, e1, h1, h2⟩ := h
    exact ⟨v, r, e1, Rep.cut d v hb.1 h1, RepL.cut ds r hb.2 h2⟩
end
theorem CH.cut {n : Nat} (c : CH K mg H p h) : CH K mg H (p.cut n) (h.take n) := by
  refine ⟨fun l hl => ?_, fun l l' a q q' => c.inj l l' a (cut_some q).2 (cut_some q').2, fun l a q => c.sep l a (cut_some q).2, c.fin, c.hld, fun l o ho => ?_, fun l o ho => ?_⟩
  · cases q : (p.cut n).m l with
    | none => rfl
    | some a =>
      obtain ⟨h1, h2⟩ := cut_some q
      rw [c.dom l (by simp at hl; omega)] at h2
      cases h2
  · rw [List.getElem?_take] at ho
    split at ho
    · rename_i hl
      obtain ⟨a, m1, m2⟩ := c.ob l o ho
      refine ⟨a, by rw [cut_m hl]; exact m1, ?_⟩
      have wf := c.wf l o ho
      cases o with
      | lst es =>
        obtain ⟨us, q1, q2⟩ := m2
        exact ⟨us, q1, RepL.cut es us (belL_mono (Nat.le_of_lt hl) es (by simpa [Ob.bel] using wf)) q2⟩
      | dic _ _ => exact m2
    · cases ho
  · rw [List.getElem?_take] at ho
    split at ho
    · exact c.wf l o ho
    · cases ho
theorem ext_cut {p0 : Mp} {H0 : Hp} {h0 : LH} (c0 : CH K mg H0 p0 h0) (e : Ext p0 H0 p H) : Ext p0 H0 (p.cut h0.length) H := by
  refine ⟨⟨e.f, e.s, e.z, fun l a q => ?_⟩, e.x⟩
  have hl : l < h0.length := by
    refine Nat.lt_of_not_le fun z => ?_
    rw [c0.dom l z] at q
    cases q
  rw [cut_m hl]
  exact e.m l a q
theorem fin_ok {W : XK} {p0 : Mp} {H0 : Hp} {h0 : LH} {d : D} {fr : Bool} {v : V} {Q : VK} (c0 : CH K mg H0 p0 h0) (e : Ext p0 H0 p H) (c : CH K mg H p h) (r : RepF K mg H p d fr v)
    (q : Aft K mg W p0 H0 (fin h0.length (d, fr) h) fun z _ p' H' => ∀ v, RepF K mg H' p' z.1 z.2 v → Q v H') : Q v H := by
  unfold fin at q
  simp only at q
  cases hb : d.bel h0.length with
  | true =>
    rw [hb] at q
    refine q (p.cut h0.length) H c.cut (ext_cut c0 e) v ?_
    cases fr with
    | false => exact Rep.cut d v hb r
    | true =>
      obtain ⟨ds, a, vs, rfl, rfl, h1, h2, h3, h4⟩ := r
      simp only [D.bel] at hb
      exact ⟨ds, a, vs, rfl, rfl, h1, h2, fun l z => h3 l (cut_some z).2, RepL.cut ds vs hb h4⟩
  | false =>
    rw [hb] at q
    cases d with
    | cell l =>
      have r : Rep K mg H p (.cell l) v := by
        cases fr with
        | false => exact r
        | true =>
          obtain ⟨ds, a, vs, e1, _⟩ := r
          cases e1
      simp only at q
      cases ho : h[l]? with
      | none =>
        rw [ho] at q
        exact q p H c e v r
      | some o =>
        cases o with
        | dic _ _ =>
          rw [ho] at q
          exact q p H c e v r
        | lst xs =>
          rw [ho] at q
          simp only at q
          split at q
          · rename_i hx
            rw [Bool.and_eq_true] at hx
            have hle := of_decide_eq_true hx.2
            simp only [Rep] at r
            obtain ⟨a, rfl, hm⟩ := r
            obtain ⟨b, m1, vs, g1, g2⟩ := c.ob l _ ho
            rw [hm] at m1
            cases m1
            refine q (p.cut h0.length) H c.cut (ext_cut c0 e) (.ref a) ⟨xs, a, vs, rfl, rfl, g1, c.sep l a hm, fun l' z => ?_, RepL.cut xs vs hx.1 g2⟩
            obtain ⟨z1, z2⟩ := cut_some z
            have := c.inj l l' a hm z2
            omega
          · exact q p H c e v r
    | _ => exact q.elim
end
/-! ### a def by its body -/
section
variable {P : Program} {w : World} {K : PySem.W.Frag} {mg : Str → Option Value} {base : Heap}
theorem fnG_of {k : Nat} {f : Addr} {name qual : Str} {params : Arguments} {body : List Stmt} {scope : Scope} {dV kV doc pm cdv ct oc : Value} {an od : Option Addr} {osl : Array (Option Value)} {N ps : List Str} {sp : Sp}
    (lk : K.lookup f = some ⟨oc, od, .func (PySem.W.fnOf name qual params body scope dV kV doc pm an cdv ct), osl⟩) (hcd : PySem.W.codeIn K cdv qual = true) (S : FnScope N ps scope) (len : ∀ vs H Q E, sp vs H Q E → vs.length = ps.length)
    (hbody : ∀ (A : Around) (outer : List PySem.Env) (s : Shared) (H : Hp) (vs : List V) (Q : VK) (E : XK), Room k (A.deeper (envOfC qual scope s.heap.objs.size f cdv)) → A.guards = some [] → sp vs H Q E →
      ∃ t, PSs (cxOf (L2.CX P w) P w K mg base N qual scope f cdv A outer s H E) body t ∧ t { nx := fun _ H' => Q .non H', rt := Q } (start N vs) H) :
    FnG P w K mg base (k + 1) f (PySem.W.fnOf name qual params body scope dV kV doc pm an cdv ct) ps sp := by
  refine ⟨len, fun A outer s H args us vs Q E hr hgd e0 hb r hsp => ?_⟩
  have hl := len _ _ _ _ hsp
  have KX : K.In s.heap := e0.mod.kin.keeps fun b o e => (e0.bs b o e).1
  have lim : s.heap.NoLimit := e0.mod.nolimit.keeps fun b o e => (e0.bs b o e).1
  have hkind : ∀ y ∈ ps.zip us, scope.names.lookup y.1 = some .local ∨ (scope.names.lookup y.1 = some .cell ∧ ((cellsFrom (s.heap.objs.size + 1) scope.names []).lookup y.1).isSome = true) := fun ⟨n, v⟩ hy => by
    rcases S.par n (List.of_mem_zip hy).1 with q | q
    · exact .inl q
    · exact .inr ⟨q, PySem.W.cellsFrom_some _ _ _ (.inl q)⟩
  refine codeAny_call_function hr.depth (KX _ _ lk) rfl S.co S.gen rfl (PySem.W.codeRec_of KX hcd) (hb _ _ _ _ ?_)
  refine wpAny_newFunctionEnv_cells S.kind hkind fun env he s1 x => ?_
  subst he
  refine ⟨lim.keeps x.toInCall.keep, codeAny_func ?_⟩
  obtain ⟨t, ht, hq⟩ := hbody A outer s H vs Q E (hr.deeper _) hgd hsp
  have I : L2.Inv (cxOf (L2.CX P w) P w K mg base N qual scope f cdv A outer s H E) [] (start N vs) H s1 := inv_start S hr.hd e0 hl r x
  refine wpAny_mono (ht.run [] s1 (start N vs) H _ I hq) (fun fl s' hs => ?_) fun e s' hs => hs
  have fin : ∀ {σ' : L2.St} {H' : Hp} {v : V} {u : Value}, L2.Inv (cxOf (L2.CX P w) P w K mg base N qual scope f cdv A outer s H E) [] σ' H' s' → L2.RelV v u → Q v H' → CE outer P w H s Q u s' :=
    fun {σ' H' v u} J rv q => ⟨v, H', J.os, J.bare, J.base, J.hok, rv, q⟩
  cases fl with
  | ret u =>
    obtain ⟨v, σ', H', J, rv, q⟩ := hs
    exact fin J rv q
  | next =>
    obtain ⟨σ', H', J, q⟩ := hs
    exact fin (v := V.non) (u := Value.none) J rfl q
  | brk =>
    obtain ⟨_, _, _, q⟩ := hs
    exact False.elim q
  | cont =>
    obtain ⟨_, _, _, q⟩ := hs
    exact False.elim q
end
/-! ### the defs of a law -/
structure Rec where
  name : Str
  st : Stmt
  ps : List Str
  N : List Str
  chg : List Str
  body : List S
/-- what a law's texts know -/
structure Lw where
  gls : List (Str × D)
  fns : List (Str × List Bool)
  kws : KwT
  recs : List Rec
def Lw.tab (l : Lw) : Tab := l.recs.map fun r => ⟨r.name, r.ps, r.N, r.body⟩
def Lw.tc (l : Lw) (r : Rec) : TC := ⟨r.N, defScope r.st, none, l.gls, l.fns, r.chg, l.kws⟩
/-- the module's facts -/
structure MF (K : PySem.W.Frag) (mg : Str → Option Value) (l : Lw) : Prop where
  bt : ∀ b, mg (bn b) = none
  brange : mg "range" = none
  benum : mg "enumerate" = none
  bisi : mg "isinstance" = none
  bty : ∀ t, mg (Str.ofString (tyn t)) = none
  gls : ∀ q ∈ l.gls, ∃ v u, mg q.1 = some u ∧ RelV v u ∧ ∀ H p, Rep K mg H p q.2 v
  defs : ∀ r ∈ l.recs, ∃ f fd, mg r.name = some (.ref f) ∧ FunD K r.name r.name (defArgs r.st) (defBody r.st) (defScope r.st) [] [] f fd ∧ L2.Binds K fd r.ps [] ∧ KwB l.kws r.name fd r.ps
/-- the texts' own facts -/
structure LF (n : Nat) (l : Lw) : Prop where
  sc : ∀ r ∈ l.recs, FnScope r.N r.ps (defScope r.st)
  lk : ∀ r ∈ l.recs, look l.tab r.name = some ⟨r.name, r.ps, r.N, r.body⟩
  tr : ∀ r ∈ l.recs, trSs (trS n (l.tc r)) (defBody r.st) = some r.body
  fns : ∀ q ∈ l.fns, ∃ r ∈ l.recs, r.name = q.1 ∧ q.2.length = r.ps.length
theorem sl_start {K : PySem.W.Frag} {mg : Str → Option Value} {H : Hp} {p : Mp} {N : List Str} {ds : List D} {vs : List V} (r : RepL K mg H p ds vs) : SL K mg H p (ds.map some ++ List.replicate (N.length - ds.length) none) (L2.start N vs) := by
  unfold L2.start
  refine ⟨by simp [r.len], fun i d q => ?_⟩
  by_cases hi : i < ds.length
  · rw [List.getElem?_append_left (by simpa using hi), List.getElem?_map] at q
    cases hd : ds[i]? with
    | none => rw [hd] at q; cases q
    | some d' =>
      rw [hd] at q
      cases q
      obtain ⟨v, hv, rv⟩ := r.get hd
      refine ⟨v, ?_, rv⟩
      rw [List.getElem?_append_left (by rw [List.length_map, ← r.len]; exact hi), List.getElem?_map, hv]
      rfl
  · rw [List.getElem?_append_right (by simpa using hi), List.getElem?_replicate] at q
    split at q <;> cases q
section
variable {P : Program} {w : World} {K : PySem.W.Frag} {mg : Str → Option Value} {base : Heap} {n : Nat} {l : Lw}
theorem call_succ {T : Tab} {k : Nat} {x : Str} {f : FnA} (h : look T x = some f) (ds : List D) : call_ T (k + 1) x ds = runF (call_ T k) f ds := by
  simp only [call_, h]
theorem arity_look {T : Tab} {x : Str} {f : FnA} (h : look T x = some f) : arity T x = f.ps.length := by
  simp only [arity, h]
/-- all defs keep their promises -/
theorem all_ok (F : MF K mg l) (L : LF n l) : ∀ (k : Nat) (r : Rec), r ∈ l.recs → ∀ (f : Addr) (fd : FuncData), mg r.name = some (.ref f) → FunD K r.name r.name (defArgs r.st) (defBody r.st) (defScope r.st) [] [] f fd →
    FnG P w K mg base k f fd r.ps (spF K mg r.ps.length (call_ l.tab k r.name))
  | 0, r, hr, f, fd, hm, FD => ⟨fun vs H Q E q => q.1, fun A outer s H args us vs Q E _ _ _ _ _ q => by
      obtain ⟨_, p, h, ds, _, _, a⟩ := q
      exact a.elim⟩
  | k + 1, r, hr, f, fd, hm, FD => by
    have IH := all_ok F L k
    obtain ⟨oc, od, dV, kV, doc, pm, an, cdv, ct, osl, rfl, lk, hcd, _, _⟩ := FD.ex
    refine fnG_of lk hcd (L.sc r hr) (fun vs H Q E q => q.1) fun A outer s H vs Q E hroom hgd hsp => ?_
    obtain ⟨hlv, p, h, ds, c, rl, a⟩ := hsp
    have g : GX (cxOf (L2.CX P w) P w K mg base r.N r.name (defScope r.st) f cdv A outer s H E) E k (call_ l.tab k) (arity l.tab) (l.tc r) := by
      refine ⟨rfl, rfl, fun _ _ => rfl, (L.sc r hr).nd, rfl, hroom, hgd, takes_of rfl rfl rfl rfl, F.bt, F.brange, F.benum, F.bisi, F.bty, fun q hq => ?_, F.gls⟩
      obtain ⟨r', hr', e1, e2⟩ := L.fns q hq
      obtain ⟨f', fd', m1, m2, m3, m4⟩ := F.defs r' hr'
      have ha := arity_look (L.lk r' hr')
      rw [e1] at ha m1 m4
      refine ⟨⟨f', fd', r'.ps, m1, m2.kp, m3, ha.symm, ?_, m4⟩, by rw [e2]; exact ha.symm⟩
      have := IH r' hr' f' fd' (by rw [e1]; exact m1) m2
      rw [e1] at this
      rw [ha]
      exact this
    refine ⟨_, s_trSs (trS_ok g (passes_of rfl) n) (L.tr r hr), ?_⟩
    rw [call_succ (L.lk r hr)] at a
    have hlen : ds.length = r.ps.length := by rw [rl.len, hlv]
    unfold runF at a
    simp only [if_pos hlen, M.then] at a
    refine ⟨p, h, _, ⟨c, sl_start rl⟩, ?_⟩
    revert a
    cases evSs (call_ l.tab k) r.body (ds.map some ++ List.replicate (r.N.length - ds.length) none) h with
    | no => exact fun a => a
    | exc cc xs h1 => exact fun a => a
    | ok fl h1 =>
      intro a p1 H1 c1 e1
      cases fl with
      | nx e => exact fun σ' c' s' => fin_ok (W := E) c e1 c1 (d := .non) (fr := false) (by simp [RepF, Rep]) a
      | rt d fr => exact fun v rv => fin_ok (W := E) c e1 c1 rv a
      | bk e => exact a.elim
      | ct e => exact a.elim
end
/-! ### the law's call -/
theorem law_callG {P : Program} {w : World} {K : PySem.W.Frag} {mg mb : Str → Option Value} {k : Nat} {fa a : Addr} {fd : FuncData} {x : Str} {sp : Sp} {s₁ : Shared} {vs : List Value} {ns : List Int}
    (KX : K.In s₁.heap) (hns : s₁.heap.Ns mainGlobals mg) (hb : s₁.heap.Ns builtinsNs mb) (hbb : ∀ x : Str, x ≠ "__name__" → mb x = bootBuiltins x) (hlim : s₁.heap.NoLimit) (hg : s₁.gens = #[])
    (ha : s₁.heap.get? a = some { cls := .type "list", data := .seq vs.toArray }) (hi : IntsAre vs ns) (hl : ns.length ≤ sizeLine) (hr : Room k callerA)
    (F : ∀ base : Heap, K.In base → base.Ns mainGlobals mg → FnG P w K mg base k fa fd [x] sp) (hbind : ∀ (s : Shared) (u : Value), BindsTo s fd ⟨[u], []⟩ [(x, u)])
    (hsp : ∀ H : Hp, Only H → FixL K H a (ns.map V.int) → sp [.ref a] H (fun v _ => v = .bl true) fun _ _ _ => False) :
    codeAny (model P w) callerA (.call (.ref fa) ⟨[.ref a], []⟩) (fun r s' => r = .ok (.ret (.bool true)) ∧ OldK s₁.heap s'.heap ∧ s'.os = s₁.os ∧ AllBare s'.gens) s₁ := by
  have rv := vals_ints hi
  have lenV := hi.length
  have core : ∀ H : Hp, Only H → FixL K H a (ns.map V.int) → HOk P w H s₁.heap → (∀ b, H b ≠ none → b = a) → (H a ≠ none → K.lookup a = none) →
      codeAny (model P w) callerA (.call (.ref fa) ⟨[.ref a], []⟩) (fun r s' => r = .ok (.ret (.bool true)) ∧ OldK s₁.heap s'.heap ∧ s'.os = s₁.os ∧ AllBare s'.gens) s₁ := by
    intro H hO hS hok hA hK
    have noA : ∀ {b : Addr} {o : Obj} {es : Array DictEntry} {ep : Nat}, s₁.heap.get? b = some o → o.data = .dict es ep → H b = none := fun {b o es ep} e d => by
      cases q : H b with
      | none => rfl
      | some u =>
        have e' : b = a := hA b (by rw [q]; simp)
        subst e'
        rw [ha] at e; cases e
        have d' : Data.seq vs.toArray _ = Data.dict es ep := d
        cases d'
    have nsK : ∀ {b : Addr} {m : Str → Option Value}, s₁.heap.Ns b m → (hidT s₁.heap H).Ns b m := fun {b m} ⟨o, es, ep, e, d, r⟩ => ⟨o, es, ep, hidT_get e (noA e d), d, r⟩
    have hKb : K.In (hidT s₁.heap H) := fun b o e => hidT_get (KX b o e) (by
      cases q : H b with
      | none => rfl
      | some u =>
        have e' : b = a := hA b (by rw [q]; simp)
        subst e'
        rw [hK (by rw [q]; simp)] at e; cases e)
    have hM : Mod K mg (hidT s₁.heap H) := ⟨hKb, nsK hns, ⟨mb, nsK hb, hbb⟩, let ⟨mc, h1, h2⟩ := hlim; ⟨mc, nsK h1, h2⟩⟩
    have e0 : Env0 P w K mg (hidT s₁.heap H) callerA [] s₁ H := ⟨rfl, hM, fun b o e => of_hidT e, Nat.le_of_eq (hidT_size _ _), trivial, fun b hb => absurd (show b ∈ ([] : List Addr) from hb) (by simp), hok, .of_eq hg⟩
    refine codeAny_mono ((F _ hKb (nsK hns)).run callerA [] s₁ H ⟨[.ref a], []⟩ [.ref a] [.ref a] _ _ hr rfl e0 (hbind s₁ (.ref a)) (.cons rfl .nil) (hsp H hO hS)) fun r s' h => ?_
    cases r with
    | error e =>
      obtain ⟨_, _, _, _, _, _, _, _, _, _, _, _, z⟩ := h
      exact z.elim
    | ok fl =>
      cases fl with
      | next => exact False.elim h
      | brk => exact False.elim h
      | cont => exact False.elim h
      | ret u =>
        obtain ⟨v, H', os, bare, un, hok', r', q⟩ := h
        have q' : v = .bl true := q
        subst q'
        obtain rfl : u = Value.bool true := r'
        refine ⟨rfl, OldK.of_keep fun b o e => ?_, os, bare⟩
        cases q : H b with
        | none => exact un.keep b o e q (by intro z; exact absurd (show b ∈ ([] : List Addr) from z) (by simp)) (by simp)
        | some u =>
          rcases hO b with z | ⟨ob, xs, z⟩
          · rw [q] at z; cases z
          · have z2 := un.frzs b ob _ z
            obtain ⟨e1, _⟩ := hok b _ z
            obtain ⟨e2, _⟩ := hok' b _ z2
            rw [e] at e1; cases e1
            exact e2
  cases hk : K.lookup a with
  | some o =>
    have e := KX a o hk
    rw [ha] at e
    cases e
    refine core (fun _ => none) (fun _ => .inl rfl) (.inr ⟨_, vs.toArray, _, hk, rfl, rfl, rfl, by rw [List.size_toArray, lenV]; exact hl, by simpa using rv⟩) (fun b u z => by have z' : (none : Option HO) = some u := z; cases z') (fun b z => absurd rfl z) fun z => absurd rfl z
  | none =>
    refine core (fun b => if b = a then some (.frz { cls := .type "list", data := .seq vs.toArray } (.lst (ns.map V.int))) else none) (fun b => ?_) (.inl ⟨{ cls := .type "list", data := .seq vs.toArray }, if_pos rfl⟩) (fun b u z => ?_) (fun b z => ?_) fun _ => hk
    · by_cases hb : b = a
      · exact .inr ⟨_, _, if_pos hb⟩
      · exact .inl (if_neg hb)
    · by_cases hb : b = a
      · have z' := (if_pos hb).symm.trans z
        cases z'
        subst hb
        exact ⟨ha, by rw [List.length_map]; exact hl, vs, _, rv, ha⟩
      · have z' := (if_neg hb).symm.trans z
        cases z'
    · by_cases hb : b = a
      · exact hb
      · exact absurd (if_neg hb) z
theorem walkG {l : PySem.W.OpenLaw} {n k : Nat} {q : Program} {loose : List Str} {XP : (Str → Option Value) → Heap → Prop} {YP : World → Heap → Prop} {d : DefRec} {x : Str}
    (hn : l.most = some n) (hn2 : n ≤ sizeLine) (hdf : d.params.defaults = []) (hr : Room k callerA)
    (F : ∀ (w : World) (mg : Str → Option Value) (fa : Addr) (h : Heap), YP w h → h.Ns mainGlobals mg → mg d.name = some (.ref fa) →
      ∃ (K : PySem.W.Frag) (fd : FuncData) (sp : Sp), K.In h ∧ (∀ (s : Shared) (u : Value), BindsTo s fd ⟨[u], []⟩ [(x, u)]) ∧
        (∀ (H : Hp) (a : Addr) (ns : List Int), ns.length ≤ n → Only H → FixL K H a (ns.map V.int) → sp [.ref a] H (fun v _ => v = .bl true) fun _ _ _ => False) ∧
        ∀ base : Heap, K.In base → base.Ns mainGlobals mg → FnG l.prog w K mg base k fa fd [x] sp) :
    PySem.W.WalkO q loose XP YP l.row.toRowW d [] (fun f vs => PySem.call f vs) := by
  refine Att.attach_call hn hdf fun w s₀ s₁ mg mb fa o pm cd doc a vs ns G Y ho hd hcd hmg hobj hints hlen hg => ?_
  obtain ⟨K, fd, sp, KX, hb, hsp, hF⟩ := F w mg fa _ Y G.T.g hmg
  exact law_callG KX G.T.g G.T.b G.T.builtins G.T.nolimit hg hobj hints (Nat.le_trans hlen hn2) hr hF hb fun H hO hS => hsp H a ns hlen hO hS
end Fz

set_option Elab.async false
set_option linter.all false
set_option maxRecDepth 100000
set_option maxHeartbeats 4000000
/-! Fz, part W: a law from its texts: what the head must tell, the end. -/
namespace Fz
open PySem PySem.Spec PyProof.Rows L2
def Rec.dd (r : Rec) : He.DefD := ⟨(r.name, none), r.name, r.name, defArgs r.st, defBody r.st, defScope r.st, [], []⟩
def freeNames : List Str := allBi.map bn ++ (["range", "enumerate", "isinstance"] : List Str) ++ allTy.map fun t => Str.ofString (tyn t)
def Lw.fn (l : Lw) : List He.DefD := l.recs.map Rec.dd
def Lw.fa (l : Lw) (gis : List (Str × Int)) : List He.Fa := l.recs.map (fun r => He.Fa.glo r.name) ++ (freeNames.map He.Fa.free ++ gis.map fun q => He.Fa.int q.1 q.2)
theorem bn_free (b : Bi) : bn b ∈ freeNames := by cases b <;> simp [freeNames, allBi]
theorem ty_free (t : Ty) : Str.ofString (tyn t) ∈ freeNames := by cases t <;> simp [freeNames, allTy]
def BindsR (r : Rec) : Prop := ∀ (kV doc pm : Value) (an : Option Addr) (cdv ct : Value) (us : List Value), us.length = r.ps.length → bindArgs (PySem.W.fnOf r.name r.name (defArgs r.st) (defBody r.st) (defScope r.st) .none kV doc pm an cdv ct) ⟨us, []⟩ = pure (r.ps.zip us)
def KwQ (r : Rec) (ks : List Str) (js : List Nat) : Prop := ∀ (kV doc pm : Value) (an : Option Addr) (cdv ct : Value) (us us' : List Value), us.length = ks.length → pick js us = some us' → us'.length = r.ps.length ∧ bindArgs (PySem.W.fnOf r.name r.name (defArgs r.st) (defBody r.st) (defScope r.st) .none kV doc pm an cdv ct) ⟨[], ks.zip us⟩ = pure (r.ps.zip us')
def KwR (kws : KwT) (r : Rec) : Prop := ∀ q ∈ kws, q.1 = r.name → KwQ r q.2.1 q.2.2
theorem kwR_none {kws : KwT} {r : Rec} (h : (kws.all fun q => !decide (q.1 = r.name)) = true) : KwR kws r := fun q hq e => by
  rw [List.all_eq_true] at h
  have := h q hq
  rw [decide_eq_true e] at this
  cases this
def scB (N P : List Str) (sc : Scope) : Bool := decide (sc.kind = .function) && (!sc.isCoroutine && (!sc.isGenerator && (decide N.Nodup && (decide (N.take P.length = P) && ((P.all fun x => decide (sc.names.lookup x = some .local) || decide (sc.names.lookup x = some .cell)) && sc.names.all fun y => !decide (y.2 = .free))))))
theorem scB_ok {N P : List Str} {sc : Scope} (h : scB N P sc = true) : FnScope N P sc := by
  unfold scB at h
  simp only [Bool.and_eq_true, decide_eq_true_eq, Bool.not_eq_true', List.all_eq_true, Bool.or_eq_true, decide_eq_false_iff_not] at h
  obtain ⟨h1, h2, h3, h4, h5, h6, h7⟩ := h
  exact ⟨h1, h2, h3, h4, h5, h6, h7⟩
theorem look_ok : ∀ {rs : List Rec} {r : Rec}, (rs.map (·.name)).Nodup → r ∈ rs → look (rs.map fun r => ⟨r.name, r.ps, r.N, r.body⟩) r.name = some ⟨r.name, r.ps, r.N, r.body⟩
  | s :: rs, r, nd, h => by
    rw [List.map_cons, List.nodup_cons] at nd
    unfold look
    rw [List.map_cons, List.find?_cons]
    rcases List.mem_cons.mp h with rfl | h
    · simp
    · have hne : s.name ≠ r.name := fun e => nd.1 (List.mem_map.mpr ⟨r, h, e.symm⟩)
      simp only [hne, decide_false]
      exact look_ok nd.2 h
theorem LF_of {n : Nat} {l : Lw} (h1 : (l.recs.all fun r => scB r.N r.ps (defScope r.st)) = true) (h2 : decide (l.recs.map (·.name)).Nodup = true) (h3 : (l.fns.all fun q => l.recs.any fun r => decide (r.name = q.1) && decide (q.2.length = r.ps.length)) = true)
    (tr : ∀ r ∈ l.recs, trSs (trS n (l.tc r)) (defBody r.st) = some r.body) : LF n l where
  sc := fun r hr => scB_ok (List.all_eq_true.mp h1 r hr)
  lk := fun r hr => look_ok (of_decide_eq_true h2) hr
  tr := tr
  fns := fun q hq => by
    have := List.all_eq_true.mp h3 q hq
    rw [List.any_eq_true] at this
    obtain ⟨r, hr, e⟩ := this
    rw [Bool.and_eq_true] at e
    exact ⟨r, hr, of_decide_eq_true e.1, of_decide_eq_true e.2⟩
theorem MF_of {K : PySem.W.Frag} {mg : Str → Option Value} {h : Heap} {l : Lw} {gis : List (Str × Int)} (X : K.In h) (G : h.Ns mainGlobals mg) (c : He.SaysD (l.fa gis) l.fn K) (hi : l.gls = gis.map fun q => (q.1, .int q.2)) (hb : ∀ r ∈ l.recs, BindsR r) (hk : ∀ r ∈ l.recs, KwR l.kws r) : MF K mg l := by
  have fr : ∀ x ∈ freeNames, mg x = none := fun x hx => He.free_ok X G (c.facts (List.mem_append_right _ (List.mem_append_left _ (List.mem_map.mpr ⟨x, hx, rfl⟩))))
  refine ⟨fun b => fr _ (bn_free b), fr _ (by simp [freeNames]), fr _ (by simp [freeNames]), fr _ (by simp [freeNames]), fun t => fr _ (ty_free t), fun q hq => ?_, fun r hr => ?_⟩
  · rw [hi] at hq
    obtain ⟨p, hp, rfl⟩ := List.mem_map.mp hq
    obtain ⟨t, e⟩ := He.int_ok X G (c.facts (f := .int p.1 p.2) (List.mem_append_right _ (List.mem_append_right _ (List.mem_map.mpr ⟨p, hp, rfl⟩))))
    exact ⟨.int p.2, _, e, ⟨t, rfl⟩, fun H q => by simp [Rep]⟩
  · obtain ⟨fd, F⟩ := c.defs (d := r.dd) (List.mem_map.mpr ⟨r, hr, rfl⟩)
    have F : FunD K r.name r.name (defArgs r.st) (defBody r.st) (defScope r.st) [] [] (He.fAd K (r.name, none)) fd := F
    refine ⟨_, fd, He.glo_ok X G (c.facts (List.mem_append_left _ (List.mem_map.mpr ⟨r, hr, rfl⟩))), F, FunD.bindsN F (hb r hr), fun ks js hm us us' h1 h2 => ?_⟩
    obtain ⟨oc, od, dV, kV, doc, pm, an, cdv, ct, osl, rfl, lk, hcd, hD, hK⟩ := F.ex
    rcases hD with ⟨_, rfl⟩ | ⟨e, _⟩
    · exact hk r hr (r.name, ks, js) hm rfl kV doc pm an cdv ct us us' h1 h2
    · exact absurd rfl e
/-- what the law's text is to answer -/
def Says (l : Lw) (k : Nat) : Prop := ∀ ns : List Int, ns.length ≤ 63 → ∃ h', call_ l.tab k "law" [.fix (ns.map .int)] [] = .ok (.bl true, false) h'
theorem rep_ints {K : PySem.W.Frag} {mg : Str → Option Value} {H : Hp} {p : Mp} : ∀ ns : List Int, RepL K mg H p (ns.map .int) (ns.map V.int)
  | [] => by simp [RepL]
  | n :: r => repL_cons (by simp [Rep]) (rep_ints r)
theorem says_sp {K : PySem.W.Frag} {mg : Str → Option Value} {l : Lw} {k : Nat} (S : Says l k) (H : Hp) (a : Addr) (ns : List Int) (hn : ns.length ≤ 63) (hf : FixL K H a (ns.map V.int)) : spF K mg 1 (call_ l.tab k "law") [.ref a] H (fun v _ => v = .bl true) fun _ _ _ => False := by
  obtain ⟨h', e⟩ := S ns hn
  refine ⟨rfl, ⟨fun _ => none, fun _ => False, fun _ => False⟩, [], [.fix (ns.map .int)], ?_, ?_, ?_⟩
  · exact ⟨fun _ _ => rfl, (fun _ _ _ q => nomatch q), (fun _ _ q => nomatch q), (fun _ q => q.elim), (fun _ q => q.elim), (fun _ _ q => by simp at q), (fun _ _ q => by simp at q)⟩
  · exact repL_cons (by simp only [Rep]; exact ⟨a, _, rfl, hf, rep_ints ns⟩) repL_nil
  · rw [e]
    exact fun p' H' _ _ v rv => by simpa [RepF, Rep] using rv
end Fz

set_option Elab.async false
set_option linter.all false
set_option maxRecDepth 100000
set_option maxHeartbeats 1000000
/-! Fz, part X: plain facts: numbers, rows, sorting; what the texts answer. -/
namespace Fz
open PySem PySem.Spec PyProof.Rows L2
/-! ### order of rows -/
def lexN : List Nat → List Nat → Bool
  | [], [] => false
  | [], _ :: _ => true
  | _ :: _, [] => false
  | a :: r, b :: q => decide (a < b) || (decide (a = b) && lexN r q)
theorem lexN_irrefl : ∀ a : List Nat, lexN a a = false
  | [] => rfl
  | a :: r => by simp [lexN, lexN_irrefl r]
theorem lexN_trans : ∀ a b c : List Nat, lexN a b = true → lexN b c = true → lexN a c = true
  | [], [], _, h, _ => by simp [lexN] at h
  | [], _ :: _, [], _, h => by simp [lexN] at h
  | [], _ :: _, _ :: _, _, _ => rfl
  | _ :: _, [], _, h, _ => by simp [lexN] at h
  | _ :: _, _ :: _, [], _, h => by simp [lexN] at h
  | a :: r, b :: q, c :: t, h1, h2 => by
    simp only [lexN, Bool.or_eq_true, decide_eq_true_eq, Bool.and_eq_true] at h1 h2 ⊢
    rcases h1 with h1 | ⟨h1, h1'⟩ <;> rcases h2 with h2 | ⟨h2, h2'⟩
    · left; omega
    · left; omega
    · left; omega
    · right; exact ⟨by omega, lexN_trans r q t h1' h2'⟩
theorem lexN_total : ∀ a b : List Nat, lexN a b = true ∨ a = b ∨ lexN b a = true
  | [], [] => .inr (.inl rfl)
  | [], _ :: _ => .inl rfl
  | _ :: _, [] => .inr (.inr rfl)
  | a :: r, b :: q => by
    simp only [lexN, Bool.or_eq_true, decide_eq_true_eq, Bool.and_eq_true]
    rcases Nat.lt_trichotomy a b with h | h | h
    · exact .inl (.inl h)
    · subst h
      rcases lexN_total r q with h | h | h
      · exact .inl (.inr ⟨rfl, h⟩)
      · exact .inr (.inl (by rw [h]))
      · exact .inr (.inr (.inr ⟨rfl, h⟩))
    · exact .inr (.inr (.inl h))
theorem lexN_asymm {a b : List Nat} (h : lexN a b = true) : lexN b a = false := by
  cases e : lexN b a with
  | false => rfl
  | true =>
    have := lexN_trans a b a h e
    rw [lexN_irrefl] at this
    cases this
def leN (a b : List Nat) : Bool := !lexN b a
def sortN (l : List (List Nat)) : List (List Nat) := l.mergeSort leN
theorem leN_trans (a b c : List Nat) (h1 : leN a b = true) (h2 : leN b c = true) : leN a c = true := by
  unfold leN at *
  rw [Bool.not_eq_true'] at *
  cases e : lexN c a with
  | false => rfl
  | true =>
    rcases lexN_total a b with h | h | h
    · have := lexN_trans c a b e h
      rw [h2] at this
      cases this
    · subst h
      rw [e] at h2
      cases h2
    · rw [h] at h1
      cases h1
theorem leN_total (a b : List Nat) : (leN a b || leN b a) = true := by
  unfold leN
  cases e : lexN b a with
  | false => rfl
  | true => rw [lexN_asymm e]; rfl
theorem strict_ext : ∀ {a b : List (List Nat)}, a.Pairwise (fun x y => lexN x y = true) → b.Pairwise (fun x y => lexN x y = true) → (∀ x, x ∈ a ↔ x ∈ b) → a = b
  | [], [], _, _, _ => rfl
  | [], y :: t, _, _, h => absurd ((h y).mpr List.mem_cons_self) (by simp)
  | x :: r, [], _, _, h => absurd ((h x).mp List.mem_cons_self) (by simp)
  | x :: r, y :: t, ha, hb, h => by
    have ha' := List.pairwise_cons.mp ha
    have hb' := List.pairwise_cons.mp hb
    have hxy : x = y := by
      rcases List.mem_cons.mp ((h x).mp List.mem_cons_self) with e | e
      · exact e
      · rcases List.mem_cons.mp ((h y).mpr List.mem_cons_self) with e' | e'
        · exact e'.symm
        · have h1 := hb'.1 x e
          have h2 := ha'.1 y e'
          rw [lexN_asymm h1] at h2
          cases h2
    subst hxy
    rw [strict_ext ha'.2 hb'.2 fun z => ?_]
    have hz := h z
    have n1 : x ∉ r := fun m => by
      have := ha'.1 x m
      rw [lexN_irrefl] at this
      cases this
    have n2 : x ∉ t := fun m => by
      have := hb'.1 x m
      rw [lexN_irrefl] at this
      cases this
    constructor
    · intro m
      rcases List.mem_cons.mp (hz.mp (List.mem_cons_of_mem _ m)) with e | e
      · exact absurd (e ▸ m) n1
      · exact e
    · intro m
      rcases List.mem_cons.mp (hz.mpr (List.mem_cons_of_mem _ m)) with e | e
      · exact absurd (e ▸ m) n2
      · exact e
theorem sortN_strict {l : List (List Nat)} (nd : l.Nodup) : (sortN l).Pairwise (fun x y => lexN x y = true) := by
  have s : (sortN l).Pairwise (fun x y => leN x y = true) := List.pairwise_mergeSort leN_trans leN_total l
  have n : (sortN l).Nodup := (List.mergeSort_perm l leN).nodup_iff.mpr nd
  have both := List.pairwise_and_iff.mpr ⟨s, n⟩
  refine both.imp fun {x y} h => ?_
  rcases lexN_total x y with e | e | e
  · exact e
  · exact absurd e h.2
  · have := h.1
    unfold leN at this
    rw [e] at this
    cases this
theorem mem_sortN {l : List (List Nat)} {x : List Nat} : x ∈ sortN l ↔ x ∈ l := (List.mergeSort_perm l leN).mem_iff
/-- two sortings of the same rows, each once, are one -/
theorem sortN_ext {a b : List (List Nat)} (na : a.Nodup) (nb : b.Nodup) (h : ∀ x, x ∈ a ↔ x ∈ b) : sortN a = sortN b :=
  strict_ext (sortN_strict na) (sortN_strict nb) fun x => by rw [mem_sortN, mem_sortN]; exact h x
end Fz

set_option Elab.async false
set_option linter.all false
set_option maxRecDepth 100000
set_option maxHeartbeats 1000000
/-! Fz, part Y: numbers and rows as values; how runs are reasoned about. -/
namespace Fz
open PySem PySem.Spec PyProof.Rows L2
def dN (n : Nat) : D := .int n
def tN (l : List Nat) : D := .tup (l.map dN)
theorem dN_inj {a b : Nat} : dN a = dN b ↔ a = b := by
  unfold dN
  rw [D.int.injEq]
  omega
theorem dN_map_inj : ∀ {a b : List Nat}, a.map dN = b.map dN ↔ a = b
  | [], [] => by simp
  | [], _ :: _ => by simp
  | _ :: _, [] => by simp
  | x :: r, y :: t => by simp [dN_inj, dN_map_inj (a := r) (b := t)]
theorem tN_inj {a b : List Nat} : tN a = tN b ↔ a = b := by
  unfold tN
  rw [D.tup.injEq]
  exact dN_map_inj
theorem plain_dN (n m : Nat) : plain m (dN n) = true := by unfold dN; cases m <;> rfl
theorem plainL_dN : ∀ (l : List Nat) (m : Nat), plainL m (l.map dN) = true
  | [], m => by cases m <;> rfl
  | x :: r, m => by simp only [List.map_cons, plainL, plain_dN, plainL_dN r m, Bool.and_self]
theorem plain_tN (l : List Nat) (m : Nat) : plain (m + 1) (tN l) = true := by unfold tN; simp only [plain]; exact plainL_dN l m
theorem plainL_tN : ∀ (l : List (List Nat)) (m : Nat), plainL (m + 1) (l.map tN) = true
  | [], m => rfl
  | x :: r, m => by simp only [List.map_cons, plainL, plain_tN, plainL_tN r m, Bool.and_self]
theorem eqD_dN (a b : Nat) : eqD (dN a) (dN b) = decide (a = b) := by
  unfold dN
  simp only [eqD]
  by_cases h : a = b
  · subst h; simp
  · have : ((a : Int) == (b : Int)) = false := by
      rw [beq_eq_false_iff_ne]
      omega
    rw [this]
    simp [h]
theorem eqDs_dN : ∀ a b : List Nat, eqDs (a.map dN) (b.map dN) = decide (a = b)
  | [], [] => by simp [eqDs]
  | [], _ :: _ => by simp [eqDs]
  | _ :: _, [] => by simp [eqDs]
  | x :: r, y :: t => by
    simp only [List.map_cons, eqDs, eqD_dN, eqDs_dN r t, List.cons.injEq]
    by_cases h : x = y <;> by_cases h' : r = t <;> simp [h, h']
theorem eqD_tN (a b : List Nat) : eqD (tN a) (tN b) = decide (a = b) := by
  unfold tN
  simp only [eqD]
  exact eqDs_dN a b
theorem eqDs_tN : ∀ a b : List (List Nat), eqDs (a.map tN) (b.map tN) = decide (a = b)
  | [], [] => by simp [eqDs]
  | [], _ :: _ => by simp [eqDs]
  | _ :: _, [] => by simp [eqDs]
  | x :: r, y :: t => by
    simp only [List.map_cons, eqDs, eqD_tN, eqDs_tN r t, List.cons.injEq]
    by_cases h : x = y <;> by_cases h' : r = t <;> simp [h, h']
theorem inD_dN (x : Nat) (l : List Nat) : inD (dN x) (l.map dN) = decide (x ∈ l) := by
  unfold inD
  induction l with
  | nil => simp
  | cons y r ih =>
    simp only [List.map_cons, List.any_cons, eqD_dN, ih, List.mem_cons]
    by_cases h : y = x
    · subst h; simp
    · have : ¬ x = y := fun e => h e.symm
      simp [h, this]
theorem inD_tN (x : List Nat) (l : List (List Nat)) : inD (tN x) (l.map tN) = decide (x ∈ l) := by
  unfold inD
  induction l with
  | nil => simp
  | cons y r ih =>
    simp only [List.map_cons, List.any_cons, eqD_tN, ih, List.mem_cons]
    by_cases h : y = x
    · subst h; simp
    · have : ¬ x = y := fun e => h e.symm
      simp [h, this]
/-! ### sorting -/
theorem toPyL_dN : ∀ l : List Nat, toPyL (l.map dN) = some (l.map fun n : Nat => PyData.int n)
  | [] => rfl
  | x :: r => by
    have e : toPy (dN x) = some (.int x) := rfl
    simp only [List.map_cons, toPyL, e, toPyL_dN r]
theorem pyOf_dN (n : Nat) : pyOf (dN n) = .int n := rfl
theorem pyOf_tN (l : List Nat) : pyOf (tN l) = .tuple (l.map fun n : Nat => PyData.int n) := by
  unfold pyOf tN
  simp only [toPy, toPyL_dN, Option.map_some, Option.getD_some]
theorem ltD_dN (a b : Nat) : ltD (dN a) (dN b) = decide (a < b) := by
  unfold ltD
  rw [pyOf_dN, pyOf_dN, PySem.W.dataLt_int]
  simp
theorem alike_ints : ∀ a b : List Nat, PySem.W.alikeAll (a.map fun n : Nat => PyData.int n) (b.map fun n : Nat => PyData.int n) = true
  | [], _ => by simp [PySem.W.alikeAll]
  | _ :: _, [] => by simp [PySem.W.alikeAll]
  | x :: r, y :: t => by simp [PySem.W.alikeAll, PySem.W.alike, alike_ints r t]
theorem lex_ints : ∀ a b : List Nat, PyProof.Rows.lexLt itemOrd (PySem.W.keyToksAll (a.map fun n : Nat => PyData.int n)) (PySem.W.keyToksAll (b.map fun n : Nat => PyData.int n)) = lexN a b
  | [], [] => PyProof.Rows.lex_irrefl (O := itemOrd) _
  | [], y :: t => by
    simp only [List.map_nil, List.map_cons, PySem.W.keyToksAll, lexN]
    rw [PyProof.Rows.lex_cons (O := itemOrd)]
    show (decide ((0 : Int) < 1) || _) = true
    simp
  | x :: r, [] => by
    simp only [List.map_nil, List.map_cons, PySem.W.keyToksAll, lexN]
    rw [PyProof.Rows.lex_cons (O := itemOrd)]
    show (decide ((1 : Int) < 0) || (!decide ((0 : Int) < 1) && _)) = false
    simp
  | x :: r, y :: t => by
    simp only [List.map_cons]
    rw [PySem.W.dataLt_cons (by simp [PySem.W.alike]), lex_ints r t, PySem.W.dataLt_int]
    by_cases h : x = y
    · subst h
      rw [if_pos (by simp [PyData.eqv])]
      simp [lexN]
    · rw [if_neg (by simp [PyData.eqv]; omega)]
      simp [lexN, h]
theorem ltD_tN (a b : List Nat) : ltD (tN a) (tN b) = lexN a b := by
  unfold ltD
  rw [pyOf_tN, pyOf_tN, PySem.W.dataLt_tuple]
  exact lex_ints a b
theorem sortD_tN (l : List (List Nat)) : sortD (l.map tN) = (sortN l).map tN := by
  unfold sortD sortN
  rw [List.map_mergeSort (s := fun a b => !ltD b a)]
  intro a _ b _
  rw [ltD_tN]
  rfl
theorem sortOk_tN {l : List (List Nat)} (h : ∀ x ∈ l, x ≠ []) : sortOk (l.map tN) = true := by
  unfold sortOk
  rw [Bool.and_eq_true, Bool.and_eq_true, Bool.or_eq_true]
  refine ⟨⟨plainL_tN l 29, ?_⟩, .inl ?_⟩
  · unfold alikeAllB
    simp only [List.all_map, List.all_eq_true, Function.comp]
    intro a _ b _
    rw [pyOf_tN, pyOf_tN]
    simp [PySem.W.alike, alike_ints]
  · simp only [List.all_map, List.all_eq_true, Function.comp]
    intro a ha
    have := h a ha
    cases a with
    | nil => exact absurd rfl this
    | cons x r => rfl
def leI (a b : Nat) : Bool := !decide (b < a)
theorem sortD_dN (l : List Nat) : sortD (l.map dN) = (l.mergeSort leI).map dN := by
  unfold sortD
  rw [List.map_mergeSort (s := fun a b => !ltD b a)]
  intro a _ b _
  rw [ltD_dN]
  rfl
theorem sortOk_dN (l : List Nat) : sortOk (l.map dN) = true := by
  unfold sortOk
  rw [Bool.and_eq_true, Bool.and_eq_true, Bool.or_eq_true]
  refine ⟨⟨plainL_dN l 30, ?_⟩, .inr ?_⟩
  · unfold alikeAllB
    simp only [List.all_map, List.all_eq_true, Function.comp]
    intro a _ b _
    rw [pyOf_dN, pyOf_dN]
    simp [PySem.W.alike]
  · simp only [List.all_map, List.all_eq_true, Function.comp]
    intro a _
    rfl
/-! ### index -/
theorem ixN_nat {n i : Nat} (h : i < n) : ixN n (i : Int) = some i := by
  unfold ixN
  rw [if_pos (by omega), if_pos (by omega)]
  simp
theorem atI_nat {α : Type} {xs : List α} {i : Nat} (h : i < xs.length) : atI xs (i : Int) = some xs[i] := by
  unfold atI
  rw [ixN_nat h]
  simp [h]
theorem rangeL_nat (n : Nat) : rangeL 0 (n : Int) = (List.range n).map dN := by
  unfold rangeL
  have e : ((n : Int) - 0).toNat = n := by omega
  rw [e]
  refine List.map_congr_left fun i _ => ?_
  unfold dN
  congr 1
  omega
end Fz

set_option Elab.async false
set_option linter.all false
set_option maxRecDepth 100000
set_option maxHeartbeats 1000000
/-! Fz, part Z: how runs of texts are reasoned about. -/
namespace Fz
open PySem PySem.Spec PyProof.Rows L2
def Res.Is {α : Type} (r : Res α) (P : α → LH → Prop) : Prop := ∃ a h, r = .ok a h ∧ P a h
section
variable {α β : Type} {h h' : LH}
theorem is_ok {a : α} {P : α → LH → Prop} (p : P a h) : (Res.ok a h).Is P := ⟨a, h, rfl, p⟩
theorem is_of {r : Res α} {a : α} {P : α → LH → Prop} (e : r = .ok a h) (p : P a h) : r.Is P := ⟨a, h, e, p⟩
theorem is_of_eq {r r' : Res α} {P : α → LH → Prop} (e : r = r') (i : r'.Is P) : r.Is P := by
  rw [e]
  exact i
theorem is_imp {r : Res α} {P Q : α → LH → Prop} (i : r.Is P) (f : ∀ a h, P a h → Q a h) : r.Is Q := by
  obtain ⟨a, h, e, p⟩ := i
  exact ⟨a, h, e, f a h p⟩
theorem is_next {r : Res α} {k : α → M β} {P : α → LH → Prop} {Q : β → LH → Prop} (i : r.Is P) (f : ∀ a h, P a h → (k a h).Is Q) : (r.next k).Is Q := by
  obtain ⟨a, h, rfl, p⟩ := i
  exact f a h p
theorem is_then {m : M α} {k : α → M β} {P : α → LH → Prop} {Q : β → LH → Prop} (i : (m h).Is P) (f : ∀ a h, P a h → (k a h).Is Q) : (M.then m k h).Is Q := is_next i f
theorem then_ok {m : M α} {k : α → M β} {a : α} (e : m h = .ok a h') : M.then m k h = k a h' := by
  unfold M.then
  rw [e]
  rfl
/-- a loop with an invariant by the turn -/
theorem loop_is {g : Option Nat} {all : List D} {k : D → α → M α} (I : Nat → α → LH → Prop) : ∀ (xs : List D) (n : Nat) (a : α) (h : LH), I n a h → (∀ i x a h, xs[i]? = some x → I (n + i) a h → (k x a h).Is fun a' h' => still g all h' = true ∧ I (n + i + 1) a' h') → (loopM g all k xs a h).Is (I (n + xs.length))
  | [], n, a, h, i0, _ => is_ok i0
  | x :: r, n, a, h, i0, st => by
    unfold loopM
    refine is_then (st 0 x a h rfl i0) fun a' h' ⟨s, i1⟩ => ?_
    rw [s]
    have := loop_is I r (n + 1) a' h' i1 fun i y b hb hy ib => by
      have := st (i + 1) y b hb (by simpa using hy) (by rw [show n + (i + 1) = n + 1 + i by omega]; exact ib)
      rw [show n + (i + 1) + 1 = n + 1 + i + 1 by omega] at this
      exact this
    rw [show n + (x :: r).length = n + 1 + r.length by simp; omega]
    exact this
/-- a for: Rt: what may be returned on the way -/
theorem for_is {g : Option Nat} {all : List D} {k : D → Env → M Fl} (I : Nat → Env → LH → Prop) (Rt : D → Bool → LH → Prop) : ∀ (xs : List D) (n : Nat) (a : Env) (h : LH), I n a h → (∀ i x a h, xs[i]? = some x → I (n + i) a h → (k x a h).Is fun fl h' => match fl with
      | .nx e => still g all h' = true ∧ I (n + i + 1) e h'
      | .ct e => still g all h' = true ∧ I (n + i + 1) e h'
      | .rt d fr => Rt d fr h'
      | .bk e => False) → (forM_ g all k xs a h).Is fun fl h' => match fl with
      | .nx e => I (n + xs.length) e h'
      | .rt d fr => Rt d fr h'
      | _ => False
  | [], n, a, h, i0, _ => is_ok i0
  | x :: r, n, a, h, i0, st => by
    unfold forM_
    refine is_then (st 0 x a h rfl i0) fun fl h' p => ?_
    have go : ∀ e, still g all h' = true → I (n + 0 + 1) e h' → (forM_ g all k r e h').Is fun fl h' => match fl with
      | .nx e => I (n + (x :: r).length) e h'
      | .rt d fr => Rt d fr h'
      | _ => False := fun e _ i1 => by
      have := for_is I Rt r (n + 1) e h' i1 fun i y b hb hy ib => by
        have := st (i + 1) y b hb (by simpa using hy) (by rw [show n + (i + 1) = n + 1 + i by omega]; exact ib)
        rw [show n + (i + 1) + 1 = n + 1 + i + 1 by omega] at this
        exact this
      rw [show n + (x :: r).length = n + 1 + r.length by simp; omega]
      exact this
    cases fl with
    | nx e =>
      simp only [p.1]
      exact go e p.1 p.2
    | ct e =>
      simp only [p.1]
      exact go e p.1 p.2
    | rt d fr => exact is_ok p
    | bk e => exact p.elim
end
/-! ### comprehensions that change nothing -/
section
variable {Φ : Str → List D → M DF} {h : LH} {env : Env}
theorem elt_pure {fe : Env → M DF} {acc : List D} {y : D} {fr : Bool} (e : fe env h = .ok (y, fr) h) (hl : acc.length < sizeLine) : eltF fe env acc h = .ok (acc ++ [y]) h := by
  unfold eltF
  refine (then_ok e).trans ?_
  simp only [decide_eq_true hl]
theorem loop_pure {k : D → List D → M (List D)} {all : List D} (F : D → List D) : ∀ (xs : List D) (acc : List D), (∀ x ∈ xs, ∀ acc, acc.length + (F x).length ≤ sizeLine → k x acc h = .ok (acc ++ F x) h) → acc.length + (xs.flatMap F).length ≤ sizeLine → loopM none all k xs acc h = .ok (acc ++ xs.flatMap F) h
  | [], acc, _, _ => by simp [loopM, M.ret]
  | x :: r, acc, st, hl => by
    rw [List.flatMap_cons, List.length_append] at hl
    unfold loopM
    refine (then_ok (st x List.mem_cons_self acc (by omega))).trans ?_
    show loopM none all k r (acc ++ F x) h = _
    rw [loop_pure F r (acc ++ F x) (fun y hy => st y (List.mem_cons_of_mem _ hy)) (by rw [List.length_append]; omega), List.flatMap_cons, List.append_assoc]
/-- a clause: what each turn adds -/
theorem clause_pure' {fw : Env → M Walk} {t : Tg} {ft : Env → M Bool} {f' : Env → List D → M (List D)} {own : List Nat} {xs acc : List D} (F : D → List D) (hw : fw env h = .ok (xs, none) h)
    (st : ∀ x ∈ xs, ∃ env' b, bindT t x (wipeE env own) = some env' ∧ ft env' h = .ok b h ∧ (b = false → F x = []) ∧ (b = true → ∀ acc, acc.length + (F x).length ≤ sizeLine → f' env' acc h = .ok (acc ++ F x) h)) (hl : acc.length + (xs.flatMap F).length ≤ sizeLine) :
    clauseF fw t ft f' own env acc h = .ok (acc ++ xs.flatMap F) h := by
  unfold clauseF
  refine (then_ok hw).trans ?_
  refine loop_pure F xs acc (fun x hx acc hla => ?_) hl
  obtain ⟨env', b, h1, h2, h3, h4⟩ := st x hx
  unfold turnF
  rw [h1]
  show M.then (ft env') _ h = _
  refine (then_ok h2).trans ?_
  cases b with
  | false => simp [h3 rfl, M.ret]
  | true => exact h4 rfl acc hla
theorem comp_ok {elt : E} {gs : List G} {own : List Nat} {xs : List D} {h' : LH} (e : evG Φ gs (eltF (ev Φ elt)) own env [] h = .ok xs h') : ev Φ (.comp elt gs own) env h = .ok (.lst xs, true) h' := by
  have : ev Φ (.comp elt gs own) env = compF (fun env acc => evG Φ gs (eltF (ev Φ elt)) own env acc) env := by simp only [ev]; rfl
  rw [this]
  unfold compF
  have q : quiet (evG Φ gs (eltF (ev Φ elt)) own env []) h = .ok xs h' := by
    unfold quiet
    rw [e]
  exact (then_ok q).trans rfl
theorem fm_toList {α β : Type} (f : α → Option β) : ∀ xs : List α, xs.filterMap f = xs.flatMap fun x => (f x).toList
  | [] => rfl
  | x :: r => by
    rw [List.filterMap_cons, List.flatMap_cons, fm_toList f r]
    cases f x <;> rfl
/-- [elt for t in it if ifs] -/
theorem comp1 {elt it : E} {t : Tg} {ifs : List E} {own : List Nat} {xs : List D} (f : D → Option D) (hw : evW Φ it env h = .ok (xs, none) h) (hx : xs.length ≤ sizeLine)
    (st : ∀ x ∈ xs, ∃ env', bindT t x (wipeE env own) = some env' ∧ evT Φ ifs env' h = .ok (f x).isSome h ∧ ∀ y, f x = some y → ∃ fr, ev Φ elt env' h = .ok (y, fr) h) :
    ev Φ (.comp elt [.mk t it ifs] own) env h = .ok (.lst (xs.filterMap f), true) h := by
  refine comp_ok ?_
  rw [evG_cons, evG_nil]
  have e : xs.filterMap f = xs.flatMap fun x => (f x).toList := fm_toList f xs
  have l : (xs.filterMap f).length ≤ xs.length := List.length_filterMap_le f xs
  have := clause_pure' (acc := []) (fw := evW Φ it) (t := t) (ft := evT Φ ifs) (f' := eltF (ev Φ elt)) (own := own) (fun x => (f x).toList) hw (fun x hx => by
    obtain ⟨env', h1, h2, h3⟩ := st x hx
    refine ⟨env', _, h1, h2, fun hb => ?_, fun hb acc hl => ?_⟩
    · cases q : f x with
      | none => rfl
      | some y => rw [q] at hb; cases hb
    · cases q : f x with
      | none => rw [q] at hb; cases hb
      | some y =>
        rw [q] at hl
        obtain ⟨fr, e⟩ := h3 y q
        exact elt_pure e (by simp at hl; omega)) (by rw [← e]; simp; omega)
  rw [this, ← e]
  rfl
end
/-! ### the ends -/
theorem fin_bl (b : Bool) (h : LH) (fr : Bool) : fin h.length (.bl b, fr) h = .ok (.bl b, fr) h := by
  unfold fin
  simp [D.bel]
theorem belL_dN (l : List Nat) (n : Nat) : belL n (l.map dN) = true := by
  induction l with
  | nil => rfl
  | cons x r ih => simp [belL, dN, D.bel]; exact ih
theorem bel_dN (x n : Nat) : (dN x).bel n = true := rfl
theorem bel_tN (l : List Nat) (n : Nat) : (tN l).bel n = true := by unfold tN; simp only [D.bel]; exact belL_dN l n
theorem belL_tN (l : List (List Nat)) (n : Nat) : belL n (l.map tN) = true := by
  induction l with
  | nil => rfl
  | cons x r ih => simp only [List.map_cons, belL, bel_tN, ih, Bool.and_self]
theorem fin_bel {d : D} {fr : Bool} {h : LH} (hb : ∀ n, d.bel n = true) : fin h.length (d, fr) h = .ok (d, fr) h := by
  unfold fin
  simp only [hb, List.take_length]
theorem fin_cut {d : D} {fr : Bool} {h : LH} {n : Nat} (hb : d.bel n = true) : fin n (d, fr) h = .ok (d, fr) (h.take n) := by
  unfold fin
  simp only [hb]
/-! ### calls -/
theorem call_ret {T : Tab} {k : Nat} {x : Str} {f : FnA} {ds : List D} {h h1 : LH} {d : D} {fr : Bool} (lk : look T x = some f) (hl : ds.length = f.ps.length)
    (e : evSs (call_ T k) f.body (ds.map some ++ List.replicate (f.N.length - ds.length) none) h = .ok (.rt d fr) h1) : call_ T (k + 1) x ds h = fin h.length (d, fr) h1 := by
  rw [call_succ lk]
  unfold runF
  rw [if_pos hl]
  exact (then_ok e).trans rfl
theorem call_nx {T : Tab} {k : Nat} {x : Str} {f : FnA} {ds : List D} {h h1 : LH} {env : Env} (lk : look T x = some f) (hl : ds.length = f.ps.length)
    (e : evSs (call_ T k) f.body (ds.map some ++ List.replicate (f.N.length - ds.length) none) h = .ok (.nx env) h1) : call_ T (k + 1) x ds h = fin h.length (.non, false) h1 := by
  rw [call_succ lk]
  unfold runF
  rw [if_pos hl]
  exact (then_ok e).trans rfl
theorem call_is {T : Tab} {k : Nat} {x : Str} {f : FnA} {ds : List D} {h : LH} {P : DF → LH → Prop} (lk : look T x = some f) (hl : ds.length = f.ps.length)
    (e : (evSs (call_ T k) f.body (ds.map some ++ List.replicate (f.N.length - ds.length) none) h).Is fun fl h1 => match fl with
      | .rt d fr => (fin h.length (d, fr) h1).Is P
      | .nx _ => (fin h.length (.non, false) h1).Is P
      | _ => False) : (call_ T (k + 1) x ds h).Is P := by
  rw [call_succ lk]
  unfold runF
  rw [if_pos hl]
  refine is_then e fun fl h1 p => ?_
  cases fl with
  | rt d fr => exact p
  | nx _ => exact p
  | bk _ => exact p.elim
  | ct _ => exact p.elim
/-! ### statements, one by one -/
section
variable {Φ : Str → List D → M DF} {h h' : LH} {env env' : Env} {s : S} {r : List S}
theorem ss_nx (e : evS Φ s env h = .ok (.nx env') h') : evSs Φ (s :: r) env h = evSs Φ r env' h' := by
  rw [evSs_cons]
  exact (then_ok e).trans rfl
theorem ss_rt {d : D} {fr : Bool} (e : evS Φ s env h = .ok (.rt d fr) h') : evSs Φ (s :: r) env h = .ok (.rt d fr) h' := by
  rw [evSs_cons]
  exact (then_ok e).trans rfl
theorem ss_is {P Q : Fl → LH → Prop} (e : (evS Φ s env h).Is P) (f : ∀ fl h', P fl h' → match fl with
    | .nx e => (evSs Φ r e h').Is Q
    | fl => Q fl h') : (evSs Φ (s :: r) env h).Is Q := by
  rw [evSs_cons]
  refine is_then e fun fl h' p => ?_
  have := f fl h' p
  cases fl with
  | nx e => exact this
  | rt d fr => exact is_ok this
  | bk e => exact is_ok this
  | ct e => exact is_ok this
theorem ife_t {c : E} {a b : List S} {fr : Bool} (e : ev Φ c env h = .ok (.bl true, fr) h') : evS Φ (.ife c a b) env h = evSs Φ a env h' := by
  simp only [evS]
  exact (then_ok e).trans rfl
theorem ife_f {c : E} {a b : List S} {fr : Bool} (e : ev Φ c env h = .ok (.bl false, fr) h') : evS Φ (.ife c a b) env h = evSs Φ b env h' := by
  simp only [evS]
  exact (then_ok e).trans rfl
theorem ret_ok {e : E} {d : D} {fr : Bool} (q : ev Φ e env h = .ok (d, fr) h') : evS Φ (.ret e) env h = .ok (.rt d fr) h' := by
  simp only [evS]
  exact (then_ok q).trans rfl
theorem asg_ok {i : Nat} {e : E} {d : D} {fr : Bool} (q : ev Φ e env h = .ok (d, fr) h') : evS Φ (.asg i e) env h = .ok (.nx (env.set i (some d))) h' := by
  simp only [evS]
  exact (then_ok q).trans rfl
theorem expr_ok {e : E} {d : DF} (q : ev Φ e env h = .ok d h') : evS Φ (.expr e) env h = .ok (.nx env) h' := by
  simp only [evS]
  exact (then_ok q).trans rfl
theorem ret_is {e : E} {P : DF → LH → Prop} {Q : Fl → LH → Prop} (q : (ev Φ e env h).Is P) (f : ∀ z h', P z h' → Q (.rt z.1 z.2) h') : (evS Φ (.ret e) env h).Is Q := by
  simp only [evS]
  exact is_then q fun z h' p => is_ok (f z h' p)
theorem asg_is {i : Nat} {e : E} {P : DF → LH → Prop} {Q : Fl → LH → Prop} (q : (ev Φ e env h).Is P) (f : ∀ z h', P z h' → Q (.nx (env.set i (some z.1))) h') : (evS Φ (.asg i e) env h).Is Q := by
  simp only [evS]
  exact is_then q fun z h' p => is_ok (f z h' p)
theorem for_run {t : Tg} {it : E} {body : List S} {w : Walk} (e : evW Φ it env h = .ok w h') : evS Φ (.for_ t it body) env h = forM_ w.2 w.1 (fun x env => M.then (ofO (bindT t x env)) fun e => evSs Φ body e) w.1 env h' := by
  simp only [evS]
  exact then_ok e
end
/-! ### expressions that may change the heap -/
section
variable {Φ : Str → List D → M DF} {h h1 h' : LH} {env : Env}
theorem ev_call_is {x : Str} {es : List E} {ds : List D} {P : DF → LH → Prop} (e : evL Φ es env h = .ok ds h1) (c : (Φ x ds h1).Is P) : (ev Φ (.call x es) env h).Is P := by
  simp only [ev]
  rw [show M.then (evL Φ es env) (fun ds => Φ x ds) h = Φ x ds h1 from then_ok e]
  exact c
theorem ev_call_ok {x : Str} {es : List E} {ds : List D} (e : evL Φ es env h = .ok ds h1) : ev Φ (.call x es) env h = Φ x ds h1 := by
  simp only [ev]
  exact then_ok e
theorem ev_ix_is {a i : E} {x : DF} {P Q : DF → LH → Prop} (e : ev Φ a env h = .ok x h1) (c : (ev Φ i env h1).Is P) (f : ∀ z h', P z h' → (ixD x.1 z.1 h').Is Q) : (ev Φ (.ix a i) env h).Is Q := by
  simp only [ev]
  rw [show M.then (ev Φ a env) (fun x => M.then (ev Φ i env) fun y => ixD x.1 y.1) h = M.then (ev Φ i env) (fun y => ixD x.1 y.1) h1 from then_ok e]
  exact is_then c f
theorem ev_bin_is {o : BOp} {a i : E} {x : DF} {P Q : DF → LH → Prop} (e : ev Φ a env h = .ok x h1) (c : (ev Φ i env h1).Is P) (f : ∀ z h', P z h' → (binD o x.1 z.1 h').Is Q) : (ev Φ (.bin o a i) env h).Is Q := by
  simp only [ev]
  rw [show M.then (ev Φ a env) (fun x => M.then (ev Φ i env) fun y => binD o x.1 y.1) h = M.then (ev Φ i env) (fun y => binD o x.1 y.1) h1 from then_ok e]
  exact is_then c f
theorem ev_tup_is {es : List E} {P : List D → LH → Prop} {Q : DF → LH → Prop} (c : (evL Φ es env h).Is P) (f : ∀ ds h', P ds h' → ds.length ≤ sizeLine ∧ Q (.tup ds, false) h') : (ev Φ (.tup es) env h).Is Q := by
  simp only [ev]
  refine is_then c fun ds h' p => ?_
  obtain ⟨hl, q⟩ := f ds h' p
  unfold newT
  rw [decide_eq_true hl]
  exact is_ok q
theorem evL_cons_is {e : E} {r : List E} {P : DF → LH → Prop} {Q : List D → LH → Prop} (ns : noStarE e = true) (c : (ev Φ e env h).Is P) (f : ∀ z h', P z h' → (evL Φ r env h').Is fun ds h'' => Q (z.1 :: ds) h'') : (evL Φ (e :: r) env h).Is Q := by
  rw [evL_cons ns]
  refine is_then c fun z h' p => is_then (f z h' p) fun ds h'' q => is_ok q
theorem evL_nil_is {Q : List D → LH → Prop} (q : Q [] h) : (evL Φ [] env h).Is Q := by
  rw [evL_nil]
  exact is_ok q
theorem comp_is {elt : E} {gs : List G} {own : List Nat} {P : List D → LH → Prop} {Q : DF → LH → Prop} (c : (evG Φ gs (eltF (ev Φ elt)) own env [] h).Is P) (f : ∀ xs h', P xs h' → Q (.lst xs, true) h') : (ev Φ (.comp elt gs own) env h).Is Q := by
  obtain ⟨xs, h', e, p⟩ := c
  exact ⟨_, _, comp_ok e, f xs h' p⟩
/-- one clause, with an invariant -/
theorem evG1_is {t : Tg} {it : E} {ifs : List E} {K : Env → List D → M (List D)} {own : List Nat} {xs : List D} {g : Option Nat} (I : Nat → List D → LH → Prop) (hw : evW Φ it env h = .ok (xs, g) h1) (i0 : I 0 [] h1)
    (st : ∀ i x acc h, xs[i]? = some x → I i acc h → (turnF t (evT Φ ifs) K (wipeE env own) x acc h).Is fun acc' h' => still g xs h' = true ∧ I (i + 1) acc' h') : (evG Φ [.mk t it ifs] K own env [] h).Is (I xs.length) := by
  rw [evG_cons, evG_nil]
  unfold clauseF
  rw [show M.then (evW Φ it env) (fun w => loopM w.2 w.1 (turnF t (evT Φ ifs) K (wipeE env own)) w.1 []) h = loopM g xs (turnF t (evT Φ ifs) K (wipeE env own)) xs [] h1 from then_ok hw]
  have := loop_is (g := g) (all := xs) (k := turnF t (evT Φ ifs) K (wipeE env own)) I xs 0 [] h1 i0 fun i x acc h hx ia => by
    have := st i x acc h hx (by simpa using ia)
    simpa using this
  simpa using this
end
section
variable {Φ : Str → List D → M DF} {h h1 h' : LH} {env : Env}
theorem ev_meth_is {m : Me} {o : E} {es : List E} {x : DF} {P : List D → LH → Prop} {Q : DF → LH → Prop} (e : ev Φ o env h = .ok x h1) (r : recv m (der h1 x.1) = true) (c : (evL Φ es env h1).Is P) (f : ∀ ds h', P ds h' → (methD m x.1 ds h').Is Q) : (ev Φ (.meth m o es) env h).Is Q := by
  simp only [ev]
  refine is_of_eq (then_ok e) ?_
  simp only [r]
  exact is_then c f
theorem for_ev_is {t : Tg} {it : E} {body : List S} {w : Walk} {Q : Fl → LH → Prop} (e : evW Φ it env h = .ok w h1) (c : (forM_ w.2 w.1 (fun x env => M.then (ofO (bindT t x env)) fun e => evSs Φ body e) w.1 env h1).Is Q) : (evS Φ (.for_ t it body) env h).Is Q := by
  rw [for_run e]
  exact c
theorem body_is {t : Tg} {body : List S} {x : D} {env' : Env} {Q : Fl → LH → Prop} (b : bindT t x env = some env') (c : (evSs Φ body env' h).Is Q) : (M.then (ofO (bindT t x env)) (fun e => evSs Φ body e) h).Is Q := by
  rw [b]
  exact c
theorem ss_last {s : S} {Q : Fl → LH → Prop} (c : (evS Φ s env h).Is Q) : (evSs Φ [s] env h).Is Q := by
  refine ss_is c fun fl h' p => ?_
  cases fl with
  | nx e =>
    show (evSs Φ [] e h').Is Q
    rw [evSs_nil]
    exact is_ok p
  | rt d fr => exact p
  | bk e => exact p
  | ct e => exact p
end
theorem erase_perm : ∀ (l : List Nat) (i : Nat) (h : i < l.length), l.Perm (l[i] :: l.eraseIdx i)
  | x :: r, 0, _ => List.Perm.refl _
  | x :: r, i + 1, h => by
    have := erase_perm r i (by simpa using h)
    simp only [List.getElem_cons_succ, List.eraseIdx_cons_succ]
    exact (this.cons x).trans (List.Perm.swap _ _ _)
section
variable {Φ : Str → List D → M DF} {h h1 h2 : LH} {env : Env}
theorem rangeD_nat {n : Nat} (hn : n ≤ 1000) : rangeD [D.int (n : Int)] = some ((List.range n).map dN) := by
  have h : -(2 ^ 62) ≤ (n : Int) ∧ (n : Int) < 2 ^ 62 := ⟨by omega, by omega⟩
  unfold rangeD
  split
  · rename_i j e
    cases e
    rw [if_pos h, rangeL_nat]
  · rename_i i j e
    cases e
  · rename_i e e2
    exact absurd rfl (e _)
theorem newL_ok {xs : List D} (hl : xs.length ≤ sizeLine) : newL xs h = .ok (.lst xs, true) h := by
  unfold newL
  rw [decide_eq_true hl]
theorem newT_ok {xs : List D} (hl : xs.length ≤ sizeLine) : newT xs h = .ok (.tup xs, false) h := by
  unfold newT
  rw [decide_eq_true hl]
theorem mkC_ok {xs : List D} (hb : belL h.length xs = true) : mkC (.lst xs, true) h = .ok (.cell h.length, false) (h ++ [.lst xs]) := by
  simp only [mkC, hb]
theorem evL_cons_ok {e : E} {r : List E} {z : DF} {ds : List D} (ns : noStarE e = true) (a : ev Φ e env h = .ok z h1) (b : evL Φ r env h1 = .ok ds h2) : evL Φ (e :: r) env h = .ok (z.1 :: ds) h2 := by
  rw [evL_cons ns]
  exact (then_ok a).trans ((then_ok b).trans rfl)
theorem evL_nil_ok : evL Φ [] env h = .ok [] h := by
  rw [evL_nil]
  rfl
theorem ev_mk_ok {e : E} {z z' : DF} (a : ev Φ e env h = .ok z h1) (b : mkC z h1 = .ok z' h2) : ev Φ (.mk e) env h = .ok z' h2 := by
  simp only [ev]
  exact (then_ok a).trans b
theorem thousand : 1000 ≤ sizeLine := by decide
theorem ev_range_ok {e : E} {n : Nat} {fr : Bool} (hn : n ≤ 1000) (ns : noStarE e = true) (a : ev Φ e env h = .ok (.int (n : Int), fr) h1) : ev Φ (.range [e]) env h = .ok (.lst ((List.range n).map dN), true) h1 := by
  simp only [ev]
  refine (then_ok (evL_cons_ok ns a evL_nil_ok)).trans ?_
  show M.then (ofO (rangeD [D.int (n : Int)])) newL h1 = _
  rw [rangeD_nat hn]
  exact newL_ok (by simpa using Nat.le_trans hn thousand)
theorem evW_range_ok {e : E} {n : Nat} {fr : Bool} (hn : n ≤ 1000) (ns : noStarE e = true) (a : ev Φ e env h = .ok (.int (n : Int), fr) h1) : evW Φ (.range [e]) env h = .ok ((List.range n).map dN, none) h1 := by
  simp only [evW]
  refine (then_ok (evL_cons_ok ns a evL_nil_ok)).trans ?_
  show M.then (ofO (rangeD [D.int (n : Int)])) (fun xs => M.ret (xs, none)) h1 = _
  rw [rangeD_nat hn]
  rfl
theorem par_ok {is : List Nat} {es : List E} {ds : List D} (a : evL Φ es env h = .ok ds h1) (hl : is.length = ds.length) : evS Φ (.par is es) env h = .ok (.nx (setL (is.zip ds) env)) h1 := by
  simp only [evS]
  refine (then_ok a).trans ?_
  rw [if_pos hl]
  rfl
theorem ev_loc_ok {i : Nat} {d : D} (a : env[i]? = some (some d)) : ev Φ (.loc i) env h = .ok (d, false) h := by
  simp only [ev, a]
  rfl
theorem ev_con_ok {d : D} : ev Φ (.con d) env h = .ok (d, false) h := by
  simp only [ev]
  rfl
theorem ev_tup_ok {es : List E} {ds : List D} (a : evL Φ es env h = .ok ds h1) (hl : ds.length ≤ sizeLine) : ev Φ (.tup es) env h = .ok (.tup ds, false) h1 := by
  simp only [ev]
  exact (then_ok a).trans (newT_ok hl)
theorem ev_lst_ok {es : List E} {ds : List D} (a : evL Φ es env h = .ok ds h1) (hl : ds.length ≤ sizeLine) : ev Φ (.lst es) env h = .ok (.lst ds, true) h1 := by
  simp only [ev]
  exact (then_ok a).trans (newL_ok hl)
theorem ev_bin_ok {o : BOp} {a b : E} {x y z : DF} (p : ev Φ a env h = .ok x h1) (q : ev Φ b env h1 = .ok y h2) (r : binD o x.1 y.1 h2 = .ok z h2) : ev Φ (.bin o a b) env h = .ok z h2 := by
  simp only [ev]
  exact (then_ok p).trans ((then_ok q).trans r)
theorem ev_cmp_ok {o : COp} {a b : E} {x y z : DF} (p : ev Φ a env h = .ok x h1) (q : ev Φ b env h1 = .ok y h2) (r : cmpD o x.1 y.1 h2 = .ok z h2) : ev Φ (.cmp o a b) env h = .ok z h2 := by
  simp only [ev]
  exact (then_ok p).trans ((then_ok q).trans r)
theorem ev_bi_ok {b : Bi} {es : List E} {ds : List D} {z : DF} (p : evL Φ es env h = .ok ds h1) (r : biD b ds h1 = .ok z h1) : ev Φ (.bi b es) env h = .ok z h1 := by
  simp only [ev]
  exact (then_ok p).trans r
theorem ev_ix_ok {a b : E} {x y z : DF} (p : ev Φ a env h = .ok x h1) (q : ev Φ b env h1 = .ok y h2) (r : ixD x.1 y.1 h2 = .ok z h2) : ev Φ (.ix a b) env h = .ok z h2 := by
  simp only [ev]
  exact (then_ok p).trans ((then_ok q).trans r)
theorem ev_and_ok {a b : E} {u v : Bool} {fa fb : Bool} (p : ev Φ a env h = .ok (.bl u, fa) h) (q : u = true → ev Φ b env h = .ok (.bl v, fb) h) : ∃ f, ev Φ (.and a b) env h = .ok (.bl (u && v), f) h := by
  simp only [ev]
  cases u with
  | true => exact ⟨fb, (then_ok p).trans (q rfl)⟩
  | false => exact ⟨false, (then_ok p).trans rfl⟩
theorem evT_nil_ok : evT Φ [] env h = .ok true h := by
  simp only [evT]
  rfl
theorem evT_one_ok {e : E} {u fr : Bool} (p : ev Φ e env h = .ok (.bl u, fr) h1) : evT Φ [e] env h = .ok u h1 := by
  simp only [evT]
  refine (then_ok p).trans ?_
  cases u <;> rfl
end
section
variable {h : LH} {d : D} {xs : List D}
theorem bi_len_lst (e : der h d = .lst xs) : biD .len [d] h = .ok (.int (xs.length : Nat), false) h := by
  simp only [biD, List.map_cons, List.map_nil, e]
  rfl
theorem bi_len_tup (e : der h d = .tup xs) : biD .len [d] h = .ok (.int (xs.length : Nat), false) h := by
  simp only [biD, List.map_cons, List.map_nil, e]
  rfl
theorem bi_tuple_lst (e : der h d = .lst xs) (hl : xs.length ≤ sizeLine) : biD .tuple [d] h = .ok (.tup xs, false) h := by
  simp only [biD, List.map_cons, List.map_nil, e]
  exact newT_ok hl
theorem bi_sorted_rows {l : List (List Nat)} (e : der h d = .lst (l.map tN)) (ne : ∀ x ∈ l, x ≠ []) (hl : l.length ≤ sizeLine) : biD .sorted [d] h = .ok (.lst ((sortN l).map tN), true) h := by
  simp only [biD, List.map_cons, List.map_nil, e, sortOk_tN ne, sortD_tN]
  refine newL_ok ?_
  rw [List.length_map]
  unfold sortN
  rw [List.length_mergeSort]
  exact hl
theorem bi_sorted_nums {l : List Nat} (e : der h d = .lst (l.map dN)) (hl : l.length ≤ sizeLine) : biD .sorted [d] h = .ok (.lst ((l.mergeSort leI).map dN), true) h := by
  simp only [biD, List.map_cons, List.map_nil, e, sortOk_dN, sortD_dN]
  refine newL_ok ?_
  rw [List.length_map, List.length_mergeSort]
  exact hl
end
section
variable {Φ : Str → List D → M DF} {h h1 : LH} {env : Env}
theorem asgT_is {ts : List TS} {e : E} {P : DF → LH → Prop} {Q : Fl → LH → Prop} (c : (ev Φ e env h).Is P) (f : ∀ z h', P z h' → ∃ ds, z.1 = .tup ds ∧ ts.length = ds.length ∧ (evTSs Φ ts ds env h').Is fun e h'' => Q (.nx e) h'') : (evS Φ (.asgT ts e) env h).Is Q := by
  simp only [evS]
  refine is_then c fun z h' p => ?_
  obtain ⟨ds, e1, e2, q⟩ := f z h' p
  rw [e1]
  simp only [if_pos e2]
  exact is_then q fun e h'' q => is_ok q
theorem turn_is {t : Tg} {ft : Env → M Bool} {K : Env → List D → M (List D)} {e0 env' : Env} {x : D} {acc : List D} {P : Bool → LH → Prop} {Q : List D → LH → Prop} (b : bindT t x e0 = some env') (c : (ft env' h).Is P) (f1 : ∀ h', P true h' → (K env' acc h').Is Q) (f2 : ∀ h', P false h' → Q acc h') : (turnF t ft K e0 x acc h).Is Q := by
  unfold turnF
  rw [b]
  refine is_then (m := ft env') c fun b h' p => ?_
  cases b with
  | true => exact f1 h' p
  | false => exact is_ok (f2 h' p)
theorem evT_one_is {e : E} {P : Bool → LH → Prop} (c : (ev Φ e env h).Is fun z h' => ∃ b, z.1 = .bl b ∧ P b h') : (evT Φ [e] env h).Is P := by
  simp only [evT]
  refine is_then c fun z h' p => ?_
  obtain ⟨b, e1, q⟩ := p
  rw [e1]
  cases b <;> exact is_ok q
theorem ev_and_is {a b : E} {u fr : Bool} {P : Bool → LH → Prop} (p : ev Φ a env h = .ok (.bl u, fr) h1) (q : u = true → (ev Φ b env h1).Is fun z h' => ∃ v, z.1 = .bl v ∧ P v h') (r : u = false → P false h1) : (ev Φ (.and a b) env h).Is fun z h' => ∃ v, z.1 = .bl v ∧ P v h' := by
  simp only [ev]
  refine is_of_eq (then_ok p) ?_
  cases u with
  | true => exact q rfl
  | false => exact is_ok ⟨false, rfl, r rfl⟩
theorem ev_cmp_is {o : COp} {a b : E} {P Q : DF → LH → Prop} {y : DF} (c : (ev Φ a env h).Is P) (f : ∀ z h', P z h' → ev Φ b env h' = .ok y h' ∧ (cmpD o z.1 y.1 h').Is Q) : (ev Φ (.cmp o a b) env h).Is Q := by
  simp only [ev]
  refine is_then c fun z h' p => ?_
  obtain ⟨e1, q⟩ := f z h' p
  exact is_of_eq (then_ok e1) q
theorem elt_is {fe : Env → M DF} {acc : List D} {P : DF → LH → Prop} {Q : List D → LH → Prop} (c : (fe env h).Is P) (hl : acc.length < sizeLine) (f : ∀ z h', P z h' → Q (acc ++ [z.1]) h') : (eltF fe env acc h).Is Q := by
  unfold eltF
  refine is_then c fun z h' p => ?_
  simp only [decide_eq_true hl]
  exact is_ok (f z h' p)
theorem ev_bi_is {b : Bi} {es : List E} {P : List D → LH → Prop} {Q : DF → LH → Prop} (c : (evL Φ es env h).Is P) (f : ∀ ds h', P ds h' → (biD b ds h').Is Q) : (ev Φ (.bi b es) env h).Is Q := by
  simp only [ev]
  exact is_then c f
end
section
variable {Φ : Str → List D → M DF} {h h1 h2 : LH} {env : Env}
theorem ev_not_ok {a : E} {u f : Bool} (p : ev Φ a env h = .ok (.bl u, f) h1) : ev Φ (.not a) env h = .ok (.bl (!u), false) h1 := by
  simp only [ev]
  exact (then_ok p).trans rfl
theorem ev_and_t {a b : E} {z : DF} {f : Bool} (p : ev Φ a env h = .ok (.bl true, f) h1) (q : ev Φ b env h1 = .ok z h2) : ev Φ (.and a b) env h = .ok z h2 := by
  simp only [ev]
  exact (then_ok p).trans q
theorem ev_and_f {a b : E} {f : Bool} (p : ev Φ a env h = .ok (.bl false, f) h1) : ev Φ (.and a b) env h = .ok (.bl false, false) h1 := by
  simp only [ev]
  exact (then_ok p).trans rfl
theorem ev_or_f {a b : E} {z : DF} {f : Bool} (p : ev Φ a env h = .ok (.bl false, f) h1) (q : ev Φ b env h1 = .ok z h2) : ev Φ (.or a b) env h = .ok z h2 := by
  simp only [ev]
  exact (then_ok p).trans q
theorem ev_or_t {a b : E} {f : Bool} (p : ev Φ a env h = .ok (.bl true, f) h1) : ev Φ (.or a b) env h = .ok (.bl true, false) h1 := by
  simp only [ev]
  exact (then_ok p).trans rfl
theorem ev_ite_t {c a b : E} {z : DF} {f : Bool} (p : ev Φ c env h = .ok (.bl true, f) h1) (q : ev Φ a env h1 = .ok z h2) : ev Φ (.ite c a b) env h = .ok z h2 := by
  simp only [ev]
  exact (then_ok p).trans q
theorem ev_ite_f {c a b : E} {z : DF} {f : Bool} (p : ev Φ c env h = .ok (.bl false, f) h1) (q : ev Φ b env h1 = .ok z h2) : ev Φ (.ite c a b) env h = .ok z h2 := by
  simp only [ev]
  exact (then_ok p).trans q
theorem ev_isi_ok {e : E} {ts : List Ty} {x z : DF} (p : ev Φ e env h = .ok x h1) (q : isiD ts x.1 h1 = .ok z h1) : ev Φ (.isi e ts) env h = .ok z h1 := by
  simp only [ev]
  exact (then_ok p).trans q
theorem ev_glob_ok {x : Str} {d : D} : ev Φ (.glob x d) env h = .ok (d, false) h := by
  simp only [ev]
  rfl
theorem ev_chain_ok {o o' : COp} {a b c : E} {x y w z : DF} {f : Bool} (p : ev Φ a env h = .ok x h) (q : ev Φ b env h = .ok y h) (r : cmpD o x.1 y.1 h = .ok (.bl true, f) h) (p3 : ev Φ c env h = .ok w h) (r2 : cmpD o' y.1 w.1 h = .ok z h) : ev Φ (.chain o o' a b c) env h = .ok z h := by
  simp only [ev]
  exact (then_ok p).trans ((then_ok q).trans ((then_ok r).trans ((then_ok p3).trans r2)))
theorem ev_chain_f {o o' : COp} {a b c : E} {x y : DF} {f : Bool} (p : ev Φ a env h = .ok x h) (q : ev Φ b env h = .ok y h) (r : cmpD o x.1 y.1 h = .ok (.bl false, f) h) : ev Φ (.chain o o' a b c) env h = .ok (.bl false, false) h := by
  simp only [ev]
  exact (then_ok p).trans ((then_ok q).trans ((then_ok r).trans rfl))
theorem evW_gen_ok {e : E} {w : Walk} {x : DF} (ge : genE e = true) (p : ev Φ e env h = .ok x h1) (q : walkD x.1 h1 = .ok w h1) : evW Φ e env h = .ok w h1 := by
  rw [evW_gen ge]
  exact (then_ok p).trans q
theorem evW_enum_ok {e : E} {xs : List D} {x : DF} (p : ev Φ e env h = .ok x h1) (q : walkD x.1 h1 = .ok (xs, none) h1) : evW Φ (.enum e) env h = .ok (enumL 0 xs, none) h1 := by
  simp only [evW]
  exact (then_ok p).trans ((then_ok q).trans rfl)
theorem cmp_int (o : COp) (i j : Int) : cmpD .le (.int i) (.int j) h = .ok (.bl (decide (i ≤ j)), false) h ∧ cmpD .lt (.int i) (.int j) h = .ok (.bl (decide (i < j)), false) h ∧ cmpD .gt (.int i) (.int j) h = .ok (.bl (decide (j < i)), false) h := ⟨rfl, rfl, rfl⟩
theorem rangeD_nat2 {m n : Nat} (hm : m ≤ 1000) (hn : n ≤ 1000) : rangeD [D.int (m : Int), D.int (n : Int)] = some ((List.range (n - m)).map fun i => dN (m + i)) := by
  have h : -(2 ^ 62) ≤ (m : Int) ∧ (m : Int) < 2 ^ 62 ∧ -(2 ^ 62) ≤ (n : Int) ∧ (n : Int) < 2 ^ 62 := ⟨by omega, by omega, by omega, by omega⟩
  unfold rangeD
  split
  · rename_i j e
    cases e
  · rename_i i j e
    cases e
    rw [if_pos h]
    unfold rangeL
    have e : ((n : Int) - (m : Int)).toNat = n - m := by omega
    rw [e]
    congr 1
  · rename_i e e2
    exact absurd rfl (e2 _ _)
theorem evW_range2_ok {e e2 : E} {m n : Nat} {fr fr2 : Bool} (hm : m ≤ 1000) (hn : n ≤ 1000) (ns : noStarE e = true) (ns2 : noStarE e2 = true) (a : ev Φ e env h = .ok (.int (m : Int), fr) h) (b : ev Φ e2 env h = .ok (.int (n : Int), fr2) h) : evW Φ (.range [e, e2]) env h = .ok ((List.range (n - m)).map fun i => dN (m + i), none) h := by
  simp only [evW]
  refine (then_ok (evL_cons_ok ns a (evL_cons_ok ns2 b evL_nil_ok))).trans ?_
  show M.then (ofO (rangeD [D.int (m : Int), D.int (n : Int)])) (fun xs => M.ret (xs, none)) h = _
  rw [rangeD_nat2 hm hn]
  rfl
end
theorem blsOf_map {α : Type} (f : α → Bool) : ∀ l : List α, blsOf (l.map fun x => D.bl (f x)) = some (l.map f)
  | [] => rfl
  | x :: r => by simp only [List.map_cons, blsOf, blsOf_map f r, Option.map_some]
theorem bi_all_map {α : Type} {h : LH} (f : α → Bool) (l : List α) : biD .all [.lst (l.map fun x => D.bl (f x))] h = .ok (.bl (l.all f), false) h := by
  have e : biD .all [.lst (l.map fun x => D.bl (f x))] h = (match blsOf (l.map fun x => D.bl (f x)) with
    | some bs => val (.bl (bs.all id)) h
    | none => .no) := rfl
  rw [e, blsOf_map]
  simp only [List.all_map]
  rfl
theorem enumL_map {α : Type} (f : α → D) : ∀ (l : List α) (k : Nat), enumL k (l.map f) = (l.zipIdx k).map fun p => .tup [dN p.2, f p.1]
  | [], _ => rfl
  | x :: r, k => by
    simp only [List.map_cons, enumL, List.zipIdx_cons, enumL_map f r (k + 1)]
    rfl
theorem size3 : 3 ≤ sizeLine := by decide
end Fz

set_option Elab.async false
set_option linter.all false
set_option maxRecDepth 100000
set_option maxHeartbeats 0
/-! k76: its defs as texts of the small language, its head. Printed by fzgen.py. -/
namespace Lk76
open PySem PySem.Spec PyProof.Rows L2 Fz
def top (i : Nat) : Stmt := PySem.Challenge.pw_wishpairs_k76_whole_rounds.main.body.getD i (.Pass ⟨0, 0, 0, 0⟩)
def b_is_whole : List S := [.ret (.and (.isi (.loc 0) [.int]) (.not (.isi (.loc 0) [.bool])))]
def r_is_whole : Rec := ⟨"is_whole", top 1, ["value"], ["value"], [], b_is_whole⟩
def b_is_between : List S := [.ret (.and (.call "is_whole" [(.loc 0)]) (.chain .le .le (.loc 1) (.loc 0) (.loc 2)))]
def r_is_between : Rec := ⟨"is_between", top 2, ["value", "low", "high"], ["value", "low", "high"], [], b_is_between⟩
def b_are_rising : List S := [.ret (.bi .all [(.comp (.cmp .lt (.ix (.loc 0) (.bin .sub (.loc 1) (.con (.int 1)))) (.ix (.loc 0) (.loc 1))) [.mk (.loc 1) (.range [(.con (.int 1)), (.bi .len [(.loc 0)])]) []] [1])])]
def r_are_rising : Rec := ⟨"are_rising", top 3, ["value"], ["value", "index"], [], b_are_rising⟩
def b_is_person : List S := [.ret (.call "is_between" [(.loc 1), (.con (.int 0)), (.bin .sub (.loc 0) (.con (.int 1)))])]
def r_is_person : Rec := ⟨"is_person", top 5, ["many", "value"], ["many", "value"], [], b_is_person⟩
def b_check_times : List S := [.ife (.not (.call "is_between" [(.loc 0), (.loc 1), (.loc 2)])) [.raise_ "" []] []]
def r_check_times : Rec := ⟨"check_times", top 11, ["value", "low", "high"], ["value", "low", "high"], [], b_check_times⟩
def b_is_gift_row : List S := [.ife (.or (.not (.isi (.loc 2) [.tup])) (.not (.bi .all [(.comp (.and (.call "is_person" [(.loc 0), (.loc 3)]) (.cmp .ne (.loc 3) (.loc 1))) [.mk (.loc 3) (.loc 2) []] [3])]))) [.ret (.con (.bl false))] [], .ret (.call "are_rising" [(.loc 2)])]
def r_is_gift_row : Rec := ⟨"is_gift_row", top 16, ["many", "own", "value"], ["many", "own", "value", "each"], [], b_is_gift_row⟩
def b_wrong_in_gifts : List S := [.ife (.or (.not (.isi (.loc 0) [.tup])) (.not (.chain .le .le (.con (.int 1)) (.bi .len [(.loc 0)]) (.glob "MOST_GIVERS" (.int 8))))) [.ret (.lst [(.con .non)])] [], .ret (.slc (.comp (.loc 1) [.mk (.tup [1, 2]) (.enum (.loc 0)) [(.not (.call "is_gift_row" [(.bi .len [(.loc 0)]), (.loc 1), (.loc 2)]))]] [1, 2]) none (some (.con (.int 1))))]
def r_wrong_in_gifts : Rec := ⟨"wrong_in_gifts", top 17, ["value"], ["value", "own", "row"], [], b_wrong_in_gifts⟩
def b_rounds_of_two : List S := [.ret (.comp (.tup [(.loc 1), (.loc 3)]) [.mk (.tup [1, 2]) (.enum (.loc 0)) [], .mk (.loc 3) (.loc 2) [(.and (.cmp .lt (.loc 1) (.loc 3)) (.cmp .isin (.loc 1) (.ix (.loc 0) (.loc 3))))]] [1, 2, 3])]
def r_rounds_of_two : Rec := ⟨"rounds_of_two", top 18, ["gifts"], ["gifts", "one", "row", "two"], [], b_rounds_of_two⟩
def b_rounds_of_three : List S := [.asg 1 (.comp (.tup [(.loc 2), (.loc 4), (.loc 5)]) [.mk (.tup [2, 3]) (.enum (.loc 0)) [], .mk (.loc 4) (.loc 3) [], .mk (.loc 5) (.ix (.loc 0) (.loc 4)) []] [2, 3, 4, 5]), .ret (.comp (.tup [(.loc 2), (.loc 4), (.loc 5)]) [.mk (.tup [2, 4, 5]) (.loc 1) [(.and (.cmp .lt (.loc 2) (.bi .min [(.loc 4), (.loc 5)])) (.cmp .isin (.loc 2) (.ix (.loc 0) (.loc 5))))]] [2, 4, 5])]
def r_rounds_of_three : Rec := ⟨"rounds_of_three", top 19, ["gifts"], ["gifts", "rows", "one", "row", "two", "three"], [], b_rounds_of_three⟩
def b_rounds_by : List S := [.asg 2 (.ite (.cmp .eq (.loc 1) (.glob "MOST_SIZE" (.int 3))) (.call "rounds_of_three" [(.loc 0)]) (.lst [])), .ret (.bi .tuple [(.bi .sorted [(.bin .add (.call "rounds_of_two" [(.loc 0)]) (.loc 2))])])]
def r_rounds_by : Rec := ⟨"rounds_by", top 20, ["gifts", "size"], ["gifts", "size", "more"], [], b_rounds_by⟩
def b_check_given : List S := [.for_ (.loc 2) (.call "wrong_in_gifts" [(.loc 0)]) [.raise_ "" []], .expr (.call "check_times" [(.loc 1), (.glob "LEAST_SIZE" (.int 2)), (.glob "MOST_SIZE" (.int 3))])]
def r_check_given : Rec := ⟨"check_given", top 22, ["gifts", "size"], ["gifts", "size", "index"], [], b_check_given⟩
def b_rounds : List S := [.expr (.call "check_given" [(.loc 0), (.loc 1)]), .ret (.call "rounds_by" [(.loc 0), (.loc 1)])]
def r_rounds : Rec := ⟨"rounds", top 23, ["gifts", "size"], ["gifts", "size"], [], b_rounds⟩
def b__law_pool : List S := [.par [2, 3] [(.ite (.cmp .lt (.loc 1) (.bi .len [(.loc 0)])) (.bi .int [(.ix (.loc 0) (.loc 1))]) (.bin .add (.bin .mul (.con (.int 70001)) (.loc 1)) (.con (.int 2488)))), (.bin .add (.con (.int 698943)) (.bin .mul (.con (.int 5087)) (.loc 1)))], .for_ (.loc 4) (.slc (.loc 0) none (some (.con (.int 63)))) [.asg 3 (.bin .mod (.bi .int [(.bin .add (.bin .add (.bin .mul (.loc 3) (.con (.int 48271))) (.bin .mod (.bi .int [(.loc 4)]) (.con (.int 2147483563)))) (.con (.int 441)))]) (.con (.int 2147483563)))], .ret (.lst [(.bin .mod (.bi .int [(.bin .add (.loc 3) (.bin .mul (.loc 2) (.con (.int 1013))))]) (.con (.int 2147483563))), (.ite (.or (.cmp .lt (.loc 2) (.con (.int 0))) (.cmp .ge (.loc 2) (.bin .pow (.con (.int 10)) (.con (.int 18))))) (.bi .abs [(.loc 2)]) (.con (.int 0))), (.con (.int 0))])]
def r__law_pool : Rec := ⟨"_law_pool", top 25, ["script", "turn"], ["script", "turn", "own", "stirred", "cell"], [], b__law_pool⟩
def b__law_draw : List S := [.ife (.cmp .gt (.ix (.loc 0) (.con (.int 1))) (.con (.int 0))) [.asgT [.sub (.loc 0) (.con (.int 1)), .loc 2] (.bi .divmod [(.ix (.loc 0) (.con (.int 1))), (.loc 1)]), .ret (.loc 2)] [], .asgS (.loc 0) (.con (.int 2)) (.bin .add (.ix (.loc 0) (.con (.int 2))) (.con (.int 1))), .asg 3 (.bi .int [(.ix (.loc 0) (.con (.int 0)))]), .asgS (.loc 0) (.con (.int 0)) (.bin .mod (.bi .int [(.bin .add (.bin .add (.bin .mul (.loc 3) (.bin .add (.bin .mod (.loc 3) (.con (.int 20011))) (.con (.int 30011)))) (.bin .mul (.con (.int 70001)) (.ix (.loc 0) (.con (.int 2))))) (.con (.int 9)))]) (.con (.int 2147483563))), .ret (.bin .mod (.bi .int [(.bin .fdiv (.ix (.loc 0) (.con (.int 0))) (.con (.int 128)))]) (.loc 1))]
def r__law_draw : Rec := ⟨"_law_draw", top 26, ["pool", "many"], ["pool", "many", "figure", "held"], ["pool"], b__law_draw⟩
def b__law_pick : List S := [.ret (.ix (.loc 1) (.call "_law_draw" [(.mk (.loc 0)), (.bi .len [(.loc 1)])]))]
def r__law_pick : Rec := ⟨"_law_pick", top 27, ["pool", "some"], ["pool", "some"], ["pool"], b__law_pick⟩
def b__law_order : List S := [.par [2, 3] [(.mk (.range [(.loc 1)])), (.tup [])], .for_ (.loc 4) (.range [(.loc 1)]) [.asg 3 (.bin .add (.loc 3) (.tup [(.meth .pop (.loc 2) [(.call "_law_draw" [(.mk (.loc 0)), (.bi .len [(.loc 2)])])])]))], .ret (.loc 3)]
def r__law_order : Rec := ⟨"_law_order", top 28, ["pool", "many"], ["pool", "many", "left", "found", "step"], ["left", "pool"], b__law_order⟩
def b__law_gifts : List S := [.asgT [.loc 3, .loc 4] (.tup [(.bin .add (.loc 1) (.call "_law_draw" [(.mk (.loc 0)), (.bin .add (.bin .sub (.loc 2) (.loc 1)) (.con (.int 1)))])), (.call "_law_pick" [(.mk (.loc 0)), (.lst [(.con (.int 2)), (.con (.int 4)), (.con (.int 7))])])]), .ret (.bi .tuple [(.comp (.bi .tuple [(.comp (.loc 6) [.mk (.loc 6) (.range [(.loc 3)]) [(.and (.cmp .ne (.loc 6) (.loc 5)) (.cmp .lt (.call "_law_draw" [(.mk (.loc 0)), (.con (.int 10))]) (.loc 4)))]] [6])]) [.mk (.loc 5) (.range [(.loc 3)]) []] [5])])]
def r__law_gifts : Rec := ⟨"_law_gifts", top 29, ["pool", "least", "most"], ["pool", "least", "most", "many", "share", "person", "other"], ["pool"], b__law_gifts⟩
def b__law_rounds : List S := [.asg 2 (.mk (.lst [])), .for_ (.loc 3) (.range [(.bi .len [(.loc 0)])]) [.for_ (.loc 4) (.comp (.loc 5) [.mk (.loc 5) (.ix (.loc 0) (.loc 3)) [(.cmp .gt (.loc 5) (.loc 3))]] [5]) [.ife (.cmp .isin (.loc 3) (.ix (.loc 0) (.loc 4))) [.expr (.meth .append (.loc 2) [(.tup [(.loc 3), (.loc 4)])])] [], .ife (.cmp .gt (.loc 1) (.con (.int 2))) [.asg 2 (.mk (.bin .add (.loc 2) (.comp (.tup [(.loc 3), (.loc 4), (.loc 6)]) [.mk (.loc 6) (.ix (.loc 0) (.loc 4)) [(.and (.cmp .gt (.loc 6) (.loc 3)) (.and (.cmp .ne (.loc 6) (.loc 4)) (.cmp .isin (.loc 3) (.ix (.loc 0) (.loc 6)))))]] [6])))] []]], .ret (.bi .tuple [(.bi .sorted [(.loc 2)])])]
def r__law_rounds : Rec := ⟨"_law_rounds", top 30, ["gifts", "size"], ["gifts", "size", "found", "one", "two", "each", "three"], ["found"], b__law_rounds⟩
def b__law_by_all : List S := [.par [2, 3] [(.bi .len [(.loc 0)]), (.mk (.lst []))], .for_ (.loc 4) (.range [(.loc 2)]) [.for_ (.loc 5) (.range [(.loc 2)]) [.asg 6 (.bin .add (.lst [(.tup [(.loc 4), (.loc 5)])]) (.ite (.cmp .gt (.loc 1) (.con (.int 2))) (.comp (.tup [(.loc 4), (.loc 5), (.loc 8)]) [.mk (.loc 8) (.range [(.loc 2)]) [(.cmp .notin (.loc 8) (.tup [(.loc 4), (.loc 5)]))]] [8]) (.lst []))), .for_ (.loc 7) (.loc 6) [.ife (.and (.cmp .ne (.loc 4) (.loc 5)) (.and (.cmp .eq (.bi .min [(.loc 7)]) (.loc 4)) (.cmp .eq (.comp (.loc 9) [.mk (.loc 9) (.range [(.bi .len [(.loc 7)])]) [(.cmp .notin (.ix (.loc 7) (.loc 9)) (.ix (.loc 0) (.ix (.loc 7) (.bin .sub (.loc 9) (.con (.int 1))))))]] [9]) (.lst [])))) [.expr (.meth .append (.loc 3) [(.loc 7)])] []]]], .ret (.bi .tuple [(.bi .sorted [(.loc 3)])])]
def r__law_by_all : Rec := ⟨"_law_by_all", top 31, ["gifts", "size"], ["gifts", "size", "many", "found", "one", "two", "rows", "row", "three", "k"], ["found"], b__law_by_all⟩
def b__law_renamed : List S := [.asg 2 (.comp (.ix (.loc 0) (.loc 4)) [.mk (.loc 4) (.loc 1) []] [4]), .asg 3 (.meth .index (.loc 2) [(.bi .min [(.loc 2)])]), .ret (.bi .tuple [(.bin .add (.slc (.loc 2) (some (.loc 3)) none) (.slc (.loc 2) none (some (.loc 3))))])]
def r__law_renamed : Rec := ⟨"_law_renamed", top 32, ["names", "row"], ["names", "row", "some", "k", "person"], [], b__law_renamed⟩
def b__law_gifts_right : List S := [.asg 2 (.bi .len [(.loc 1)]), .asg 3 (.call "_law_order" [(.mk (.loc 0)), (.loc 2)]), .asg 4 (.bi .tuple [(.comp (.bi .tuple [(.bi .sorted [(.comp (.ix (.loc 3) (.loc 10)) [.mk (.loc 10) (.ix (.loc 1) (.meth .index (.loc 3) [(.loc 9)])) []] [10])])]) [.mk (.loc 9) (.range [(.loc 2)]) []] [9])]), .for_ (.loc 5) (.lst [(.con (.int 2)), (.con (.int 3))]) [.asg 6 (.call "_law_rounds" [(.loc 1), (.loc 5)]), .ife (.or (.cmp .ne (.loc 6) (.call "_law_by_all" [(.loc 1), (.loc 5)])) (.cmp .ne (.bi .repr [(.lst [(.call "rounds" [(.loc 1), (.loc 5)]), (.callk "rounds" [1, 0] [(.loc 5), (.loc 1)])])]) (.bi .repr [(.lst [(.loc 6), (.loc 6)])]))) [.ret (.con (.bl false))] [], .ife (.cmp .ne (.call "rounds" [(.loc 4), (.loc 5)]) (.bi .tuple [(.bi .sorted [(.comp (.call "_law_renamed" [(.loc 3), (.loc 11)]) [.mk (.loc 11) (.loc 6) []] [11])])])) [.ret (.con (.bl false))] []], .ife (.cmp .ne (.call "rounds" [(.loc 1), (.con (.int 2))]) (.bi .tuple [(.comp (.loc 11) [.mk (.loc 11) (.call "rounds" [(.loc 1), (.con (.int 3))]) [(.cmp .eq (.bi .len [(.loc 11)]) (.con (.int 2)))]] [11])])) [.ret (.con (.bl false))] [], .asg 7 (.call "_law_draw" [(.mk (.loc 0)), (.loc 2)]), .asg 8 (.bin .add (.bin .add (.slc (.loc 1) none (some (.loc 7))) (.tup [(.bi .tuple [(.comp (.loc 10) [.mk (.loc 10) (.range [(.loc 2)]) [(.cmp .ne (.loc 10) (.loc 7))]] [10])])])) (.slc (.loc 1) (some (.bin .add (.loc 7) (.con (.int 1)))) none)), .ret (.cmp .eq (.comp (.loc 11) [.mk (.loc 11) (.call "rounds" [(.loc 1), (.con (.int 3))]) [(.cmp .notin (.loc 11) (.call "rounds" [(.loc 8), (.con (.int 3))]))]] [11]) (.lst []))]
def r__law_gifts_right : Rec := ⟨"_law_gifts_right", top 33, ["pool", "gifts"], ["pool", "gifts", "many", "names", "fresh", "size", "due", "one", "more", "person", "other", "row"], ["pool"], b__law_gifts_right⟩
def b__law_right : List S := [.for_ (.loc 1) (.range [(.con (.int 6))]) [.ife (.not (.call "_law_gifts_right" [(.mk (.loc 0)), (.call "_law_gifts" [(.mk (.loc 0)), (.con (.int 1)), (.con (.int 8))])])) [.ret (.con (.bl false))] []], .asg 2 (.bi .tuple [(.comp (.bi .tuple [(.comp (.loc 4) [.mk (.loc 4) (.range [(.con (.int 4))]) [(.cmp .ne (.loc 4) (.loc 3))]] [4])]) [.mk (.loc 3) (.range [(.con (.int 4))]) []] [3])]), .ret (.and (.cmp .eq (.call "rounds" [(.tup [(.tup [(.con (.int 1))]), (.tup [(.con (.int 0)), (.con (.int 2))]), (.tup [(.con (.int 0))])]), (.con (.int 3))]) (.tup [(.tup [(.con (.int 0)), (.con (.int 1))]), (.tup [(.con (.int 0)), (.con (.int 1)), (.con (.int 2))])])) (.and (.cmp .eq (.bi .len [(.call "rounds" [(.loc 2), (.con (.int 2))])]) (.con (.int 6))) (.cmp .eq (.bi .len [(.call "rounds" [(.loc 2), (.con (.int 3))])]) (.con (.int 14)))))]
def r__law_right : Rec := ⟨"_law_right", top 34, ["pool"], ["pool", "turn", "every", "person", "other"], ["pool"], b__law_right⟩
def b_law : List S := [.for_ (.loc 1) (.range [(.bi .max [(.con (.int 2)), (.bi .min [(.bi .len [(.loc 0)]), (.con (.int 3))])])]) [.ife (.not (.call "_law_right" [(.mk (.call "_law_pool" [(.loc 0), (.loc 1)]))])) [.ret (.con (.bl false))] []], .ret (.con (.bl true))]
def r_law : Rec := ⟨"law", top 35, ["script"], ["script", "turn"], [], b_law⟩
def lw : Lw := ⟨[("MOST_GIVERS", .int 8), ("LEAST_SIZE", .int 2), ("MOST_SIZE", .int 3)], [("is_whole", [false]), ("is_between", [false, false, false]), ("are_rising", [false]), ("is_person", [false, false]), ("check_times", [false, false, false]), ("is_gift_row", [false, false, false]), ("wrong_in_gifts", [false]), ("rounds_of_two", [false]), ("rounds_of_three", [false]), ("rounds_by", [false, false]), ("check_given", [false, false]), ("rounds", [false, false]), ("_law_pool", [false, false]), ("_law_draw", [true, false]), ("_law_pick", [true, false]), ("_law_order", [true, false]), ("_law_gifts", [true, false, false]), ("_law_rounds", [false, false]), ("_law_by_all", [false, false]), ("_law_renamed", [false, false]), ("_law_gifts_right", [true, false]), ("_law_right", [true]), ("law", [false])], [("rounds", ["size", "gifts"], [1, 0])], [r_is_whole, r_is_between, r_are_rising, r_is_person, r_check_times, r_is_gift_row, r_wrong_in_gifts, r_rounds_of_two, r_rounds_of_three, r_rounds_by, r_check_given, r_rounds, r__law_pool, r__law_draw, r__law_pick, r__law_order, r__law_gifts, r__law_rounds, r__law_by_all, r__law_renamed, r__law_gifts_right, r__law_right, r_law]⟩
def gis : List (Str × Int) := [("MOST_GIVERS", 8), ("LEAST_SIZE", 2), ("MOST_SIZE", 3)]
theorem t_is_whole : trSs (trS 60 (lw.tc r_is_whole)) (defBody r_is_whole.st) = some r_is_whole.body := by kernel_rfl
theorem t_is_between : trSs (trS 60 (lw.tc r_is_between)) (defBody r_is_between.st) = some r_is_between.body := by kernel_rfl
theorem t_are_rising : trSs (trS 60 (lw.tc r_are_rising)) (defBody r_are_rising.st) = some r_are_rising.body := by kernel_rfl
theorem t_is_person : trSs (trS 60 (lw.tc r_is_person)) (defBody r_is_person.st) = some r_is_person.body := by kernel_rfl
theorem t_check_times : trSs (trS 60 (lw.tc r_check_times)) (defBody r_check_times.st) = some r_check_times.body := by kernel_rfl
theorem t_is_gift_row : trSs (trS 60 (lw.tc r_is_gift_row)) (defBody r_is_gift_row.st) = some r_is_gift_row.body := by kernel_rfl
theorem t_wrong_in_gifts : trSs (trS 60 (lw.tc r_wrong_in_gifts)) (defBody r_wrong_in_gifts.st) = some r_wrong_in_gifts.body := by kernel_rfl
theorem t_rounds_of_two : trSs (trS 60 (lw.tc r_rounds_of_two)) (defBody r_rounds_of_two.st) = some r_rounds_of_two.body := by kernel_rfl
theorem t_rounds_of_three : trSs (trS 60 (lw.tc r_rounds_of_three)) (defBody r_rounds_of_three.st) = some r_rounds_of_three.body := by kernel_rfl
theorem t_rounds_by : trSs (trS 60 (lw.tc r_rounds_by)) (defBody r_rounds_by.st) = some r_rounds_by.body := by kernel_rfl
theorem t_check_given : trSs (trS 60 (lw.tc r_check_given)) (defBody r_check_given.st) = some r_check_given.body := by kernel_rfl
theorem t_rounds : trSs (trS 60 (lw.tc r_rounds)) (defBody r_rounds.st) = some r_rounds.body := by kernel_rfl
theorem t__law_pool : trSs (trS 60 (lw.tc r__law_pool)) (defBody r__law_pool.st) = some r__law_pool.body := by kernel_rfl
theorem t__law_draw : trSs (trS 60 (lw.tc r__law_draw)) (defBody r__law_draw.st) = some r__law_draw.body := by kernel_rfl
theorem t__law_pick : trSs (trS 60 (lw.tc r__law_pick)) (defBody r__law_pick.st) = some r__law_pick.body := by kernel_rfl
theorem t__law_order : trSs (trS 60 (lw.tc r__law_order)) (defBody r__law_order.st) = some r__law_order.body := by kernel_rfl
theorem t__law_gifts : trSs (trS 60 (lw.tc r__law_gifts)) (defBody r__law_gifts.st) = some r__law_gifts.body := by kernel_rfl
theorem t__law_rounds : trSs (trS 60 (lw.tc r__law_rounds)) (defBody r__law_rounds.st) = some r__law_rounds.body := by kernel_rfl
theorem t__law_by_all : trSs (trS 60 (lw.tc r__law_by_all)) (defBody r__law_by_all.st) = some r__law_by_all.body := by kernel_rfl
theorem t__law_renamed : trSs (trS 60 (lw.tc r__law_renamed)) (defBody r__law_renamed.st) = some r__law_renamed.body := by kernel_rfl
theorem t__law_gifts_right : trSs (trS 60 (lw.tc r__law_gifts_right)) (defBody r__law_gifts_right.st) = some r__law_gifts_right.body := by kernel_rfl
theorem t__law_right : trSs (trS 60 (lw.tc r__law_right)) (defBody r__law_right.st) = some r__law_right.body := by kernel_rfl
theorem t_law : trSs (trS 60 (lw.tc r_law)) (defBody r_law.st) = some r_law.body := by kernel_rfl
theorem bd_is_whole : BindsR r_is_whole := fun _ _ _ _ _ _ us hl => match us, hl with | [_], _ => rfl
theorem kw_is_whole : KwR lw.kws r_is_whole := kwR_none (by decide +kernel)
theorem bd_is_between : BindsR r_is_between := fun _ _ _ _ _ _ us hl => match us, hl with | [_, _, _], _ => rfl
theorem kw_is_between : KwR lw.kws r_is_between := kwR_none (by decide +kernel)
theorem bd_are_rising : BindsR r_are_rising := fun _ _ _ _ _ _ us hl => match us, hl with | [_], _ => rfl
theorem kw_are_rising : KwR lw.kws r_are_rising := kwR_none (by decide +kernel)
theorem bd_is_person : BindsR r_is_person := fun _ _ _ _ _ _ us hl => match us, hl with | [_, _], _ => rfl
theorem kw_is_person : KwR lw.kws r_is_person := kwR_none (by decide +kernel)
theorem bd_check_times : BindsR r_check_times := fun _ _ _ _ _ _ us hl => match us, hl with | [_, _, _], _ => rfl
theorem kw_check_times : KwR lw.kws r_check_times := kwR_none (by decide +kernel)
theorem bd_is_gift_row : BindsR r_is_gift_row := fun _ _ _ _ _ _ us hl => match us, hl with | [_, _, _], _ => rfl
theorem kw_is_gift_row : KwR lw.kws r_is_gift_row := kwR_none (by decide +kernel)
theorem bd_wrong_in_gifts : BindsR r_wrong_in_gifts := fun _ _ _ _ _ _ us hl => match us, hl with | [_], _ => rfl
theorem kw_wrong_in_gifts : KwR lw.kws r_wrong_in_gifts := kwR_none (by decide +kernel)
theorem bd_rounds_of_two : BindsR r_rounds_of_two := fun _ _ _ _ _ _ us hl => match us, hl with | [_], _ => rfl
theorem kw_rounds_of_two : KwR lw.kws r_rounds_of_two := kwR_none (by decide +kernel)
theorem bd_rounds_of_three : BindsR r_rounds_of_three := fun _ _ _ _ _ _ us hl => match us, hl with | [_], _ => rfl
theorem kw_rounds_of_three : KwR lw.kws r_rounds_of_three := kwR_none (by decide +kernel)
theorem bd_rounds_by : BindsR r_rounds_by := fun _ _ _ _ _ _ us hl => match us, hl with | [_, _], _ => rfl
theorem kw_rounds_by : KwR lw.kws r_rounds_by := kwR_none (by decide +kernel)
theorem bd_check_given : BindsR r_check_given := fun _ _ _ _ _ _ us hl => match us, hl with | [_, _], _ => rfl
theorem kw_check_given : KwR lw.kws r_check_given := kwR_none (by decide +kernel)
theorem bd_rounds : BindsR r_rounds := fun _ _ _ _ _ _ us hl => match us, hl with | [_, _], _ => rfl
theorem kw_rounds : KwR lw.kws r_rounds := by
  intro q hq e
  have h : q ∈ ([("rounds", ["size", "gifts"], [1, 0])] : KwT) := hq
  simp only [List.mem_cons, List.not_mem_nil, or_false] at h
  rcases h with rfl
  · exact fun _ _ _ _ _ _ us us' hl hp => match us, hl, hp with | [_, _], _, hp => by cases hp; exact ⟨rfl, rfl⟩
theorem bd__law_pool : BindsR r__law_pool := fun _ _ _ _ _ _ us hl => match us, hl with | [_, _], _ => rfl
theorem kw__law_pool : KwR lw.kws r__law_pool := kwR_none (by decide +kernel)
theorem bd__law_draw : BindsR r__law_draw := fun _ _ _ _ _ _ us hl => match us, hl with | [_, _], _ => rfl
theorem kw__law_draw : KwR lw.kws r__law_draw := kwR_none (by decide +kernel)
theorem bd__law_pick : BindsR r__law_pick := fun _ _ _ _ _ _ us hl => match us, hl with | [_, _], _ => rfl
theorem kw__law_pick : KwR lw.kws r__law_pick := kwR_none (by decide +kernel)
theorem bd__law_order : BindsR r__law_order := fun _ _ _ _ _ _ us hl => match us, hl with | [_, _], _ => rfl
theorem kw__law_order : KwR lw.kws r__law_order := kwR_none (by decide +kernel)
theorem bd__law_gifts : BindsR r__law_gifts := fun _ _ _ _ _ _ us hl => match us, hl with | [_, _, _], _ => rfl
theorem kw__law_gifts : KwR lw.kws r__law_gifts := kwR_none (by decide +kernel)
theorem bd__law_rounds : BindsR r__law_rounds := fun _ _ _ _ _ _ us hl => match us, hl with | [_, _], _ => rfl
theorem kw__law_rounds : KwR lw.kws r__law_rounds := kwR_none (by decide +kernel)
theorem bd__law_by_all : BindsR r__law_by_all := fun _ _ _ _ _ _ us hl => match us, hl with | [_, _], _ => rfl
theorem kw__law_by_all : KwR lw.kws r__law_by_all := kwR_none (by decide +kernel)
theorem bd__law_renamed : BindsR r__law_renamed := fun _ _ _ _ _ _ us hl => match us, hl with | [_, _], _ => rfl
theorem kw__law_renamed : KwR lw.kws r__law_renamed := kwR_none (by decide +kernel)
theorem bd__law_gifts_right : BindsR r__law_gifts_right := fun _ _ _ _ _ _ us hl => match us, hl with | [_, _], _ => rfl
theorem kw__law_gifts_right : KwR lw.kws r__law_gifts_right := kwR_none (by decide +kernel)
theorem bd__law_right : BindsR r__law_right := fun _ _ _ _ _ _ us hl => match us, hl with | [_], _ => rfl
theorem kw__law_right : KwR lw.kws r__law_right := kwR_none (by decide +kernel)
theorem bd_law : BindsR r_law := fun _ _ _ _ _ _ us hl => match us, hl with | [_], _ => rfl
theorem kw_law : KwR lw.kws r_law := kwR_none (by decide +kernel)
theorem tr_all : ∀ r ∈ lw.recs, trSs (trS 60 (lw.tc r)) (defBody r.st) = some r.body := by
  show ∀ r ∈ [r_is_whole, r_is_between, r_are_rising, r_is_person, r_check_times, r_is_gift_row, r_wrong_in_gifts, r_rounds_of_two, r_rounds_of_three, r_rounds_by, r_check_given, r_rounds, r__law_pool, r__law_draw, r__law_pick, r__law_order, r__law_gifts, r__law_rounds, r__law_by_all, r__law_renamed, r__law_gifts_right, r__law_right, r_law], _
  simp only [List.forall_mem_cons]
  exact ⟨t_is_whole, t_is_between, t_are_rising, t_is_person, t_check_times, t_is_gift_row, t_wrong_in_gifts, t_rounds_of_two, t_rounds_of_three, t_rounds_by, t_check_given, t_rounds, t__law_pool, t__law_draw, t__law_pick, t__law_order, t__law_gifts, t__law_rounds, t__law_by_all, t__law_renamed, t__law_gifts_right, t__law_right, t_law, fun _ h => nomatch h⟩
theorem bd_all : ∀ r ∈ lw.recs, BindsR r := by
  show ∀ r ∈ [r_is_whole, r_is_between, r_are_rising, r_is_person, r_check_times, r_is_gift_row, r_wrong_in_gifts, r_rounds_of_two, r_rounds_of_three, r_rounds_by, r_check_given, r_rounds, r__law_pool, r__law_draw, r__law_pick, r__law_order, r__law_gifts, r__law_rounds, r__law_by_all, r__law_renamed, r__law_gifts_right, r__law_right, r_law], _
  simp only [List.forall_mem_cons]
  exact ⟨bd_is_whole, bd_is_between, bd_are_rising, bd_is_person, bd_check_times, bd_is_gift_row, bd_wrong_in_gifts, bd_rounds_of_two, bd_rounds_of_three, bd_rounds_by, bd_check_given, bd_rounds, bd__law_pool, bd__law_draw, bd__law_pick, bd__law_order, bd__law_gifts, bd__law_rounds, bd__law_by_all, bd__law_renamed, bd__law_gifts_right, bd__law_right, bd_law, fun _ h => nomatch h⟩
theorem kw_all : ∀ r ∈ lw.recs, KwR lw.kws r := by
  show ∀ r ∈ [r_is_whole, r_is_between, r_are_rising, r_is_person, r_check_times, r_is_gift_row, r_wrong_in_gifts, r_rounds_of_two, r_rounds_of_three, r_rounds_by, r_check_given, r_rounds, r__law_pool, r__law_draw, r__law_pick, r__law_order, r__law_gifts, r__law_rounds, r__law_by_all, r__law_renamed, r__law_gifts_right, r__law_right, r_law], _
  simp only [List.forall_mem_cons]
  exact ⟨kw_is_whole, kw_is_between, kw_are_rising, kw_is_person, kw_check_times, kw_is_gift_row, kw_wrong_in_gifts, kw_rounds_of_two, kw_rounds_of_three, kw_rounds_by, kw_check_given, kw_rounds, kw__law_pool, kw__law_draw, kw__law_pick, kw__law_order, kw__law_gifts, kw__law_rounds, kw__law_by_all, kw__law_renamed, kw__law_gifts_right, kw__law_right, kw_law, fun _ h => nomatch h⟩
theorem lf : LF 60 lw := LF_of (by kernel_rfl) (by decide +kernel) (by kernel_rfl) tr_all
def loose : List PySem.Str := (["is_whole", "is_between", "are_rising", "is_person", "PairError", "InvalidNumber", "InvalidGifts", "check_times", "MOST_GIVERS", "LEAST_SIZE", "MOST_SIZE", "is_gift_row", "wrong_in_gifts", "rounds_of_two", "rounds_of_three", "rounds_by", "check_given", "rounds", "_law_pool", "_law_draw", "_law_pick", "_law_order", "_law_gifts", "_law_rounds", "_law_by_all", "_law_renamed", "_law_gifts_right", "_law_right"] : List String).map PySem.Str.ofString
abbrev R : PySem.W.OpenRow := PySem.W.OpenLaw.row PySem.Challenge.rw_wishpairs_k76_whole_rounds
abbrev hk : PySem.W.Hook := He.hookD 4 (lw.fa gis) lw.fn
def ob (s : PySem.W.SharedT) : He.AlD := He.obsDG 4 (lw.fa gis) lw.fn (HandSHeadRun.getT s)
theorem ob_eq (s : PySem.W.SharedT) : ob s = hk.obs s.abs := He.obsDG_eq (HandSHeadRun.getT_eq s)
theorem run (w : World) : HandSHeadRun.RunEq R (PySem.W.view R.prog [35]) hk ob 4000 loose w := by
  intro os
  kernel_rfl
theorem facts {k : Nat} {P : Program} {w : World} {K : PySem.W.Frag} {h : Heap} {mg : Str → Option Value} {f : Addr} (X : K.In h) (G : h.Ns mainGlobals mg) (hfa : mg ("law" : Str) = some (.ref f)) (c : He.SaysD (lw.fa gis) lw.fn K) :
    ∃ fd : FuncData, (∀ (s : Shared) (v : Value), BindsTo s fd ⟨[v], []⟩ [("script", v)]) ∧ ∀ base : Heap, K.In base → base.Ns mainGlobals mg → FnG P w K mg base k f fd ["script"] (spF K mg 1 (call_ lw.tab k "law")) := by
  have M : MF K mg lw := MF_of X G c rfl bd_all kw_all
  have hr : r_law ∈ lw.recs := by simp [lw]
  obtain ⟨fd, F⟩ := c.defs (d := r_law.dd) (List.mem_map.mpr ⟨_, hr, rfl⟩)
  have F : FunD K r_law.name r_law.name (defArgs r_law.st) (defBody r_law.st) (defScope r_law.st) [] [] (He.fAd K ("law", none)) fd := F
  have e := hfa.symm.trans (He.glo_ok (x := "law") X G (c.facts (List.mem_append_left _ (List.mem_map.mpr ⟨_, hr, rfl⟩))))
  cases e
  have b := FunD.bindsA (ps := ["script"]) F bd_law
  exact ⟨fd, fun s v => b s [v] rfl, fun base _ _ => all_ok M lf k r_law hr _ fd hfa F⟩
theorem says_holds (k : Nat) (hk1 : k ≤ 40) (S : Says lw k) : PySem.Challenge.rw_wishpairs_k76_whole_rounds.Holds := by
  w_on; o_law
  refine HandSHeadRun.head_any (r := PySem.W.OpenLaw.row PySem.Challenge.rw_wishpairs_k76_whole_rounds) (q := PySem.W.view (PySem.W.OpenLaw.row PySem.Challenge.rw_wishpairs_k76_whole_rounds).prog [35]) (H := hk) (ob := ob) (M := 4000) (loose := loose) (d := HandSHeadRun.topDef (PySem.W.OpenLaw.row PySem.Challenge.rw_wishpairs_k76_whole_rounds).prog 35) (kwd := []) ob_eq
    (by kernel_rfl) (fun s => by kernel_rfl) run (by kernel_rfl) (by kernel_rfl) (by kernel_rfl) (by rfl) (by first | assumption | decide +kernel) (by decide +kernel) ⟨rfl, rfl, rfl, rfl, rfl, by decide +kernel⟩ ?hw ?hc
  case hw => w_witness2
  case hc =>
    refine walkG (l := PySem.Challenge.rw_wishpairs_k76_whole_rounds) (n := 63) (k := k) (x := "script") rfl (by decide) (by kernel_rfl) ⟨rfl, by show 1 + PySem.claimMargin + 3 * k + 5 < PySem.recursionLimit; have : 1 + PySem.claimMargin + 3 * 40 + 5 < PySem.recursionLimit := (by decide); omega, by show 4 + 16 * k + 200 < PySem.cLine; have : 4 + 16 * 40 + 200 < PySem.cLine := (by decide); omega⟩ ?F
    intro w mg fa h Y G hmg0
    obtain ⟨K, KX, c⟩ := Y
    have hmg : mg ("law" : PySem.Str) = some (.ref fa) := by
      have e : (HandSHeadRun.topDef (PySem.W.OpenLaw.row PySem.Challenge.rw_wishpairs_k76_whole_rounds).prog 35).name = ("law" : PySem.Str) := by kernel_rfl
      rw [← e]
      exact hmg0
    obtain ⟨fd, hb, hF⟩ := facts (k := k) (P := (PySem.Challenge.rw_wishpairs_k76_whole_rounds).prog) (w := w) KX G hmg c
    exact ⟨K, fd, _, KX, hb, fun H a ns hl _ hS => says_sp S H a ns hl hS, hF⟩
end Lk76

set_option Elab.async false
set_option linter.all false
set_option maxRecDepth 100000
set_option maxHeartbeats 1000000
/-! k76: draws. -/
namespace Lk76
open PySem PySem.Spec PyProof.Rows L2 Fz
theorem lk_draw : look lw.tab "_law_draw" = some ⟨"_law_draw", ["pool", "many"], r__law_draw.N, b__law_draw⟩ := lf.lk r__law_draw (by simp [lw])
theorem lk_pick : look lw.tab "_law_pick" = some ⟨"_law_pick", ["pool", "some"], r__law_pick.N, b__law_pick⟩ := lf.lk r__law_pick (by simp [lw])
/-- the pool lies at l, all else as in base -/
def At (l : Nat) (base h : LH) : Prop := ∃ a b c : Int, h = base.set l (.lst [.int a, .int b, .int c])
theorem At.len {l : Nat} {base h : LH} (a : At l base h) : h.length = base.length := by
  obtain ⟨_, _, _, rfl⟩ := a
  simp
theorem At.set {l : Nat} {base h : LH} (a : At l base h) (x y z : Int) : At l base (h.set l (.lst [.int x, .int y, .int z])) := by
  obtain ⟨_, _, _, rfl⟩ := a
  exact ⟨x, y, z, by rw [List.set_set]⟩
theorem At.get {l : Nat} {base h : LH} (a : At l base h) (hl : l < base.length) : ∃ x y z : Int, h[l]? = some (.lst [.int x, .int y, .int z]) := by
  obtain ⟨x, y, z, rfl⟩ := a
  exact ⟨x, y, z, by rw [List.getElem?_set_self hl]⟩
theorem mulOk_l {i j : Int} (h : i.natAbs.log2 < 60) : mulOk i j = true := by
  unfold mulOk
  exact decide_eq_true (.inl h)
theorem mulOk_r {i j : Int} (h : j.natAbs.log2 < 60) : mulOk i j = true := by
  unfold mulOk
  exact decide_eq_true (.inr (.inl h))
theorem log2_small {n : Nat} (h : n < 2 ^ 60) : n.log2 < 60 := by
  by_cases h0 : n = 0
  · subst h0; decide
  · exact (Nat.log2_lt h0).mpr h
theorem e_draw (k : Nat) {l : Nat} {base h : LH} {many : Int} (hl : l < base.length) (a : At l base h) (h0 : 0 < many) (h1 : many < 1073741824) :
    (call_ lw.tab (k + 1) "_law_draw" [.cell l, .int many] h).Is fun z h' => At l base h' ∧ ∃ f : Nat, (f : Int) < many ∧ z = (.int f, false) := by
  obtain ⟨x, y, z, hg⟩ := a.get hl
  have hlh : l < h.length := by rw [a.len]; exact hl
  refine call_is lk_draw rfl ?_
  have i1 : atI [D.int x, D.int y, D.int z] 1 = some (.int y) := rfl
  have i0 : atI [D.int x, D.int y, D.int z] 0 = some (.int x) := rfl
  have i2 : atI [D.int x, D.int y, D.int z] 2 = some (.int z) := rfl
  have n1 : ixN 3 1 = some 1 := rfl
  have n0 : ixN 3 0 = some 0 := rfl
  have n2 : ixN 3 2 = some 2 := rfl
  by_cases hy : 0 < y
  · have hb : belL l [D.int x, D.int (y / many), D.int z] = true := rfl
    refine is_of (a := .rt (.int (y % many)) false) (h := h.set l (.lst [.int x, .int (y / many), .int z])) ?_ ?_
    · refine ss_rt ((ife_t (fr := false) (h' := h) ?_).trans ((ss_nx (env' := [some (.cell l), some (.int many), some (.int (y % many)), none]) (h' := h.set l (.lst [.int x, .int (y / many), .int z])) ?_).trans (ss_rt ?_)))
      · simp [evSs, evS, ev, evL, evO, M.then, Res.next, M.ret, val, der, truthD, cmpD, binD, ixD, ofO, hg, i1, hy, r__law_draw]
      · simp [evSs, evS, ev, evL, evO, M.then, Res.next, M.ret, val, der, truthD, cmpD, binD, ixD, ofO, hg, i1, biD, evTSs, evTS, setD, n1, putL, hb, h0, h1, size3, r__law_draw]
      · simp [evSs, evS, ev, evL, evO, M.then, Res.next, M.ret, val, der, truthD, cmpD, binD, ixD, ofO]
    · rw [fin_cut rfl]
      refine is_ok ⟨?_, (y % many).toNat, ?_, ?_⟩
      · rw [List.take_of_length_le (by simp)]
        exact a.set _ _ _
      · have := Int.emod_nonneg y (show many ≠ 0 by omega)
        have := Int.emod_lt_of_pos y h0
        omega
      · have := Int.emod_nonneg y (show many ≠ 0 by omega)
        congr 2
        omega
  · have hb : ∀ u v w : Int, belL l [D.int u, D.int v, D.int w] = true := fun _ _ _ => rfl
    have g1 : ∀ u v w : Int, (h.set l (.lst [.int u, .int v, .int w]))[l]? = some (.lst [.int u, .int v, .int w]) := fun _ _ _ => by rw [List.getElem?_set_self hlh]
    generalize hX : (x * (x % 20011 + 30011) + 70001 * (z + 1) + 9) % 2147483563 = X
    have m1 : mulOk x (x % 20011 + 30011) = true := mulOk_r (log2_small (by omega))
    have m2 : mulOk 70001 (z + 1) = true := mulOk_l (by decide)
    have j0 : ∀ u v w : Int, atI [D.int u, D.int v, D.int w] 0 = some (.int u) := fun _ _ _ => rfl
    have j2 : ∀ u v w : Int, atI [D.int u, D.int v, D.int w] 2 = some (.int w) := fun _ _ _ => rfl
    refine is_of (a := .rt (.int (X / 128 % many)) false) (h := h.set l (.lst [.int X, .int y, .int (z + 1)])) ?_ ?_
    · refine (ss_nx (env' := [some (.cell l), some (.int many), none, none]) (h' := h) ?_).trans ((ss_nx (env' := [some (.cell l), some (.int many), none, none]) (h' := h.set l (.lst [.int x, .int y, .int (z + 1)])) ?_).trans ((ss_nx (env' := [some (.cell l), some (.int many), none, some (.int x)]) (h' := h.set l (.lst [.int x, .int y, .int (z + 1)])) ?_).trans ((ss_nx (env' := [some (.cell l), some (.int many), none, some (.int x)]) (h' := h.set l (.lst [.int X, .int y, .int (z + 1)])) ?_).trans (ss_rt ?_))))
      · refine (ife_f (fr := false) (h' := h) ?_).trans ?_
        · simp [evSs, evS, ev, evL, evO, M.then, Res.next, M.ret, val, der, truthD, cmpD, binD, ixD, ofO, hg, i1, hy, r__law_draw]
        · simp [evSs, evS, ev, evL, evO, M.then, Res.next, M.ret, val, der, truthD, cmpD, binD, ixD, ofO, r__law_draw]
      · simp [evSs, evS, ev, evL, evO, M.then, Res.next, M.ret, val, der, truthD, cmpD, binD, ixD, ofO, hg, i2, setD, n2, putL, hb, size3]
      · simp [evSs, evS, ev, evL, evO, M.then, Res.next, M.ret, val, der, truthD, cmpD, binD, ixD, ofO, g1, j0, biD]
      · simp [evSs, evS, ev, evL, evO, M.then, Res.next, M.ret, val, der, truthD, cmpD, binD, ixD, ofO, g1, j0, j2, biD, m1, m2, hX, setD, n0, putL, hb, size3]
      · have hl2 : Nat.log2 128 < 9000 := by decide
        simp [evSs, evS, ev, evL, evO, M.then, Res.next, M.ret, val, der, truthD, cmpD, binD, ixD, ofO, g1, j0, biD, h0, hl2]
    · rw [fin_cut rfl]
      refine is_ok ⟨?_, (X / 128 % many).toNat, ?_, ?_⟩
      · rw [List.take_of_length_le (by simp)]
        exact a.set _ _ _
      · have := Int.emod_nonneg (X / 128) (show many ≠ 0 by omega)
        have := Int.emod_lt_of_pos (X / 128) h0
        omega
      · have := Int.emod_nonneg (X / 128) (show many ≠ 0 by omega)
        congr 2
        omega
theorem e_pick (k : Nat) {l : Nat} {base h : LH} {xs : List D} (hl : l < base.length) (a : At l base h) (h0 : 0 < xs.length) (h1 : xs.length < 1073741824) (hb : ∀ d ∈ xs, ∀ n, d.bel n = true) :
    (call_ lw.tab (k + 2) "_law_pick" [.cell l, .lst xs] h).Is fun z h' => At l base h' ∧ ∃ d ∈ xs, z = (d, false) := by
  refine call_is lk_pick rfl ?_
  refine ss_is (P := fun fl h' => At l base h' ∧ ∃ d ∈ xs, fl = .rt d false) (ret_is (P := fun z h' => At l base h' ∧ ∃ d ∈ xs, z = (d, false)) ?_ ?_) ?_
  · refine ev_ix_is (x := (.lst xs, false)) (h1 := h) (by simp [evSs, evS, ev, evL, evO, M.then, Res.next, M.ret, val, der, truthD, cmpD, binD, ixD, ofO, r__law_pick]) (ev_call_is (ds := [.cell l, .int (xs.length : Int)]) (h1 := h) ?_ (e_draw k hl a (many := (xs.length : Int)) (by omega) (by omega))) ?_
    · have c : mkC (D.cell l, false) = M.ret (D.cell l, false) := rfl
      simp [evSs, evS, ev, evL, evO, M.then, Res.next, M.ret, val, der, truthD, cmpD, binD, ixD, ofO, r__law_pick, mkC, biD]
    · rintro z h' ⟨a', f, hf, rfl⟩
      have hf' : f < xs.length := by omega
      simp only [ixD, der, atI_nat hf']
      exact is_ok ⟨a', xs[f], List.getElem_mem hf', rfl⟩
  · rintro z h' ⟨a', d, hd, rfl⟩
    exact ⟨a', d, hd, rfl⟩
  · rintro fl h' ⟨a', d, hd, rfl⟩
    show (fin h.length (d, false) h').Is _
    rw [fin_cut (hb d hd _)]
    refine is_ok ⟨?_, d, hd, rfl⟩
    rw [List.take_of_length_le (by rw [a'.len, a.len]; exact Nat.le_refl _)]
    exact a'
end Lk76

set_option Elab.async false
set_option linter.all false
set_option maxRecDepth 100000
set_option maxHeartbeats 1000000
/-! k76: orders, gifts drawn. -/
namespace Lk76
open PySem PySem.Spec PyProof.Rows L2 Fz
theorem lk_order : look lw.tab "_law_order" = some ⟨"_law_order", ["pool", "many"], r__law_order.N, b__law_order⟩ := lf.lk r__law_order (by simp [lw])
theorem At.app {l : Nat} {base h cs : LH} (a : At l base h) (hl : l < base.length) : At l (base ++ cs) (h ++ cs) := by
  obtain ⟨x, y, z, rfl⟩ := a
  exact ⟨x, y, z, by rw [List.set_append_left _ _ hl]⟩
theorem At.top {l : Nat} {base h : LH} {c c' : Ob} (a : At l (base ++ [c]) h) (hl : l < base.length) : h[base.length]? = some c ∧ At l (base ++ [c']) (h.set base.length c') ∧ At l base (h.take base.length) := by
  obtain ⟨x, y, z, rfl⟩ := a
  rw [List.set_append_left _ _ hl]
  refine ⟨?_, ⟨x, y, z, ?_⟩, ⟨x, y, z, ?_⟩⟩
  · rw [List.getElem?_append_right (by simp)]
    simp
  · rw [List.set_append_left _ _ hl, List.set_append_right _ _ (by simp)]
    simp
  · rw [List.take_append_of_le_length (by simp)]
    exact List.take_of_length_le (by simp)
theorem der_cell {h : LH} {l : Nat} {xs : List D} (e : h[l]? = some (.lst xs)) : der h (.cell l) = .lst xs := by
  simp only [der, e]
theorem eraseIdx_map' {α β : Type} (f : α → β) : ∀ (l : List α) (i : Nat), (l.map f).eraseIdx i = (l.eraseIdx i).map f
  | [], _ => rfl
  | _ :: _, 0 => rfl
  | x :: r, i + 1 => by simp [eraseIdx_map' f r i]
abbrev oEnv (l : Nat) (n : Nat) (L : Nat) (found : List Nat) (st : Option D) : Fz.Env := [some (.cell l), some (.int (n : Int)), some (.cell L), some (tN found), st]
theorem order_init (k : Nat) {l n : Nat} {h : LH} (hn : n ≤ 1000) : evS (call_ lw.tab (k + 1)) (.par [2, 3] [(.mk (.range [(.loc 1)])), (.tup [])]) [some (.cell l), some (.int (n : Int)), none, none, none] h = .ok (.nx (oEnv l n h.length [] none)) (h ++ [.lst ((List.range n).map dN)]) :=
  par_ok (evL_cons_ok rfl (ev_mk_ok (ev_range_ok hn rfl (ev_loc_ok rfl)) (mkC_ok (belL_dN _ _))) (evL_cons_ok rfl (ev_tup_ok evL_nil_ok (Nat.zero_le _)) evL_nil_ok)) rfl
theorem pop_ok {h : LH} {L f : Nat} {left : List Nat} (g : h[L]? = some (.lst (left.map dN))) (hf : f < left.length) (hz : left.length ≤ sizeLine) : methD .pop (.cell L) [.int (f : Int)] h = .ok (dN left[f], false) (h.set L (.lst ((left.eraseIdx f).map dN))) := by
  have hz2 : (left.eraseIdx f).length ≤ sizeLine := by
    rw [List.length_eraseIdx]
    split <;> omega
  have hfi : (0 : Int) ≤ (f : Int) ∧ (f : Int) < ((left.map dN).length : Int) ∧ (left.map dN).length ≤ sizeLine := ⟨by omega, by simp; omega, by simpa using hz⟩
  have e1 : (left.map dN)[(f : Int).toNat]? = some (dN left[f]) := by simp [hf]
  simp only [methD, g, decide_eq_true hfi, e1]
  have e2 : (left.map dN).eraseIdx (f : Int).toNat = (left.eraseIdx f).map dN := eraseIdx_map' dN left f
  rw [e2]
  refine (then_ok (h' := h.set L (.lst ((left.eraseIdx f).map dN))) (a := ()) ?_).trans rfl
  simp only [putL, belL_dN, Bool.true_and, List.length_map, decide_eq_true hz2]
theorem order_step (k : Nat) {l n : Nat} {base h' : LH} {left found : List Nat} {x : D} (hl : l < base.length) (hn : n ≤ 1000) (at' : At l (base ++ [.lst (left.map dN)]) h') (hpos : 0 < left.length) (hc : left.length + found.length = n) :
    (evS (call_ lw.tab (k + 1)) (.asg 3 (.bin .add (.loc 3) (.tup [(.meth .pop (.loc 2) [(.call "_law_draw" [(.mk (.loc 0)), (.bi .len [(.loc 2)])])])]))) (oEnv l n base.length found (some x)) h').Is fun fl h'' => ∃ f : Nat, ∃ hf : f < left.length, fl = .nx (oEnv l n base.length (found ++ [left[f]]) (some x)) ∧ At l (base ++ [.lst ((left.eraseIdx f).map dN)]) h'' := by
  have szl : 1000 ≤ sizeLine := by decide
  obtain ⟨g1, _, _⟩ := at'.top (c' := .lst []) hl
  have d1 := der_cell g1
  refine asg_is (P := fun z h'' => ∃ f : Nat, ∃ hf : f < left.length, z = (tN (found ++ [left[f]]), false) ∧ At l (base ++ [.lst ((left.eraseIdx f).map dN)]) h'') ?_ ?_
  · refine ev_bin_is (x := (tN found, false)) (h1 := h') (ev_loc_ok rfl) (P := fun z h'' => ∃ f : Nat, ∃ hf : f < left.length, z = (tN [left[f]], false) ∧ At l (base ++ [.lst ((left.eraseIdx f).map dN)]) h'') ?_ ?_
    · refine ev_tup_is (P := fun ds h'' => ∃ f : Nat, ∃ hf : f < left.length, ds = [dN left[f]] ∧ At l (base ++ [.lst ((left.eraseIdx f).map dN)]) h'') ?_ ?_
      · refine evL_cons_is rfl (P := fun z h'' => ∃ f : Nat, ∃ hf : f < left.length, z = (dN left[f], false) ∧ At l (base ++ [.lst ((left.eraseIdx f).map dN)]) h'') ?_ ?_
        · refine ev_meth_is (x := (.cell base.length, false)) (h1 := h') (ev_loc_ok rfl) (by rw [d1]; rfl) (P := fun ds h'' => ∃ f : Nat, f < left.length ∧ ds = [.int (f : Int)] ∧ At l (base ++ [.lst (left.map dN)]) h'') ?_ ?_
          · refine evL_cons_is rfl (P := fun z h'' => ∃ f : Nat, f < left.length ∧ z = (.int (f : Int), false) ∧ At l (base ++ [.lst (left.map dN)]) h'') ?_ ?_
            · refine ev_call_is (ds := [.cell l, .int (((left.map dN).length : Nat) : Int)]) (h1 := h') ?_ ?_
              · have e1 : ev (call_ lw.tab (k + 1)) (.bi .len [.loc 2]) (oEnv l n base.length found (some x)) h' = .ok (.int (((left.map dN).length : Nat) : Int), false) h' :=
                  ev_bi_ok (ds := [.cell base.length]) (evL_cons_ok (z := (.cell base.length, false)) rfl (ev_loc_ok rfl) evL_nil_ok) (bi_len_lst d1)
                have e2 : ev (call_ lw.tab (k + 1)) (.mk (.loc 0)) (oEnv l n base.length found (some x)) h' = .ok (.cell l, false) h' := ev_mk_ok (z := (.cell l, false)) (ev_loc_ok rfl) rfl
                exact evL_cons_ok rfl e2 (evL_cons_ok rfl e1 evL_nil_ok)
              · refine is_imp (e_draw k (base := base ++ [.lst (left.map dN)]) (by simp; omega) at' (many := (((left.map dN).length : Nat) : Int)) (by simp; omega) (by simp; omega)) ?_
                rintro z h'' ⟨a2, f, hf, rfl⟩
                exact ⟨f, by simp at hf; omega, rfl, a2⟩
            · rintro z h'' ⟨f, hf, rfl, a2⟩
              exact evL_nil_is ⟨f, hf, rfl, a2⟩
          · rintro ds h'' ⟨f, hf, rfl, a2⟩
            obtain ⟨g2, a3, _⟩ := a2.top (c' := .lst ((left.eraseIdx f).map dN)) hl
            exact is_of (pop_ok g2 hf (by omega)) ⟨f, hf, rfl, a3⟩
        · rintro z h'' ⟨f, hf, rfl, a2⟩
          exact evL_nil_is ⟨f, hf, rfl, a2⟩
      · rintro ds h'' ⟨f, hf, rfl, a2⟩
        exact ⟨by show 1 ≤ sizeLine; omega, f, hf, rfl, a2⟩
    · rintro z h'' ⟨f, hf, rfl, a2⟩
      have hz : (found.map dN ++ [dN left[f]]).length ≤ sizeLine := by
        simp
        omega
      refine is_of (a := (tN (found ++ [left[f]]), false)) (h := h'') ?_ ⟨f, hf, rfl, a2⟩
      simp only [binD, tN, der, newT, List.map_cons, List.map_nil, decide_eq_true hz, List.map_append, val, M.ret]
  · rintro z h'' ⟨f, hf, rfl, a2⟩
    exact ⟨f, hf, rfl, a2⟩
theorem e_order (k : Nat) {l n : Nat} {base h : LH} (hl : l < base.length) (a : At l base h) (hn : n ≤ 1000) :
    (call_ lw.tab (k + 2) "_law_order" [.cell l, .int (n : Int)] h).Is fun z h' => At l base h' ∧ ∃ names : List Nat, names.Perm (List.range n) ∧ z = (tN names, false) := by
  have hlen := a.len
  refine call_is lk_order rfl ?_
  have s1 := order_init k (l := l) (h := h) hn
  rw [hlen] at s1
  refine is_of_eq (ss_nx s1) ?_
  refine ss_is (P := fun fl h' => ∃ found : List Nat, ∃ st c, found.Perm (List.range n) ∧ fl = .nx (oEnv l n base.length found st) ∧ At l (base ++ [c]) h') ?_ ?_
  · refine for_ev_is (w := ((List.range n).map dN, none)) (h1 := h ++ [.lst ((List.range n).map dN)]) ?_ ?_
    · exact evW_range_ok hn rfl (ev_loc_ok rfl)
    · refine is_imp (for_is (g := none) (fun i env h' => ∃ left found : List Nat, ∃ st, env = oEnv l n base.length found st ∧ left.length + found.length = n ∧ found.length = i ∧ (found ++ left).Perm (List.range n) ∧ At l (base ++ [.lst (left.map dN)]) h') (fun _ _ _ => False)
        ((List.range n).map dN) 0 (oEnv l n base.length [] none) (h ++ [.lst ((List.range n).map dN)]) ⟨List.range n, [], none, rfl, by simp, rfl, by simp, a.app hl⟩ ?_) ?_
      · rintro i x env h' hx ⟨left, found, st, rfl, hc, hfi, hp, at'⟩
        have hi : i < n := by
          have := (List.getElem?_eq_some_iff.mp hx).1
          simpa using this
        refine body_is (env' := oEnv l n base.length found (some x)) rfl (ss_last ?_)
        refine is_imp (order_step k hl hn at' (by omega) hc) ?_
        rintro fl h'' ⟨f, hf, rfl, a2⟩
        refine ⟨rfl, left.eraseIdx f, found ++ [left[f]], some x, rfl, ?_, ?_, ?_, a2⟩
        · rw [List.length_eraseIdx, if_pos hf]
          simp
          omega
        · simp
          omega
        · rw [List.append_assoc]
          exact (List.Perm.append_left found (erase_perm left f hf).symm).trans hp
      · rintro fl h' p
        cases fl with
        | nx e =>
          obtain ⟨left, found, st, rfl, hc, hfi, hp, at'⟩ := p
          have : left = [] := by
            simp at hfi
            exact List.eq_nil_of_length_eq_zero (by omega)
          subst this
          exact ⟨found, st, _, by simpa using hp, rfl, at'⟩
        | rt d fr => exact p.elim
        | bk e => exact p.elim
        | ct e => exact p.elim
  · rintro fl h' ⟨found, st, c, hp, rfl, at'⟩
    refine ss_last (is_of (ret_ok (d := tN found) (fr := false) (h' := h') ?_) ?_)
    · exact ev_loc_ok rfl
    · show (fin h.length (tN found, false) h').Is _
      rw [fin_cut (bel_tN _ _), hlen]
      exact is_ok ⟨(at'.top (c' := c) hl).2.2, found, hp, rfl⟩
end Lk76

set_option Elab.async false
set_option linter.all false
set_option maxRecDepth 100000
set_option maxHeartbeats 1000000
/-! k76: gifts drawn. -/
namespace Lk76
open PySem PySem.Spec PyProof.Rows L2 Fz
theorem lk_gifts : look lw.tab "_law_gifts" = some ⟨"_law_gifts", ["pool", "least", "most"], r__law_gifts.N, b__law_gifts⟩ := lf.lk r__law_gifts (by simp [lw])
/-- a row of gifts of the person p among n -/
def RowOk (n p : Nat) (r : List Nat) : Prop := r.Pairwise (· < ·) ∧ ∀ x ∈ r, x < n ∧ x ≠ p
def GOk (g : List (List Nat)) : Prop := ∀ (j : Nat) (hj : j < g.length), RowOk g.length j g[j]
def tG (g : List (List Nat)) : D := .tup (g.map tN)
theorem bel_tG (g : List (List Nat)) (n : Nat) : (tG g).bel n = true := by
  unfold tG
  simp only [D.bel]
  exact belL_tN g n
abbrev gEnv (l n s : Nat) (p o : Option D) : Fz.Env := [some (.cell l), some (.int 1), some (.int 8), some (.int (n : Int)), some (.int (s : Int)), p, o]
abbrev inner : E := .comp (.loc 6) [.mk (.loc 6) (.range [(.loc 3)]) [(.and (.cmp .ne (.loc 6) (.loc 5)) (.cmp .lt (.call "_law_draw" [(.mk (.loc 0)), (.con (.int 10))]) (.loc 4)))]] [6]
theorem row_drawn (k : Nat) {l n s p : Nat} {base h : LH} (hl : l < base.length) (a : At l base h) (hn : n ≤ 8) :
    (ev (call_ lw.tab (k + 1)) inner (gEnv l n s (some (dN p)) none) h).Is fun z h' => At l base h' ∧ ∃ r, RowOk n p r ∧ r.length ≤ 8 ∧ z = (.lst (r.map dN), true) := by
  have t1 := thousand
  refine comp_is (P := fun xs h' => ∃ r : List Nat, xs = r.map dN ∧ r.Pairwise (· < ·) ∧ (∀ x ∈ r, x < n ∧ x ≠ p) ∧ r.length ≤ n ∧ At l base h') ?_ ?_
  · have := evG1_is (Φ := call_ lw.tab (k + 1)) (t := .loc 6) (it := .range [(.loc 3)]) (ifs := [(.and (.cmp .ne (.loc 6) (.loc 5)) (.cmp .lt (.call "_law_draw" [(.mk (.loc 0)), (.con (.int 10))]) (.loc 4)))]) (K := eltF (ev (call_ lw.tab (k + 1)) (.loc 6))) (own := [6]) (xs := (List.range n).map dN) (g := none) (h := h) (h1 := h) (env := gEnv l n s (some (dN p)) none)
      (fun i xs h' => ∃ r : List Nat, xs = r.map dN ∧ r.Pairwise (· < ·) ∧ (∀ x ∈ r, x < i ∧ x ≠ p) ∧ r.length ≤ i ∧ At l base h') (evW_range_ok (by omega) rfl (ev_loc_ok rfl)) ⟨[], rfl, .nil, by simp, by simp, a⟩ ?_
    · refine is_imp this ?_
      rintro xs h' ⟨r, e, r1, r2, r3, a'⟩
      rw [List.length_map, List.length_range] at r2 r3
      exact ⟨r, e, r1, r2, r3, a'⟩
    · rintro i x acc h' hx ⟨r, rfl, r1, r2, r3, a'⟩
      have hi : i < n := by
        have := (List.getElem?_eq_some_iff.mp hx).1
        simpa using this
      have hxi : x = dN i := by
        rw [List.getElem?_map, List.getElem?_range hi] at hx
        exact (Option.some.inj hx).symm
      subst hxi
      refine turn_is (env' := gEnv l n s (some (dN p)) (some (dN i))) (P := fun b h'' => (b = true → i ≠ p) ∧ At l base h'') rfl (evT_one_is ?_) ?_ ?_
      · have c1 : ev (call_ lw.tab (k + 1)) (.cmp .ne (.loc 6) (.loc 5)) (gEnv l n s (some (dN p)) (some (dN i))) h' = .ok (.bl (!decide (i = p)), false) h' := by
          refine ev_cmp_ok (x := (dN i, false)) (y := (dN p, false)) (ev_loc_ok rfl) (ev_loc_ok rfl) ?_
          show (match Fz.plain 30 (dN i) && Fz.plain 30 (dN p) with
            | true => val (.bl (!eqD (dN i) (dN p))) h'
            | false => Res.no) = _
          rw [plain_dN, plain_dN, eqD_dN]
          rfl
        refine ev_and_is c1 (fun hu => ?_) (fun _ => ⟨(fun z => nomatch z), a'⟩)
        have hip : i ≠ p := by simpa using hu
        refine ev_cmp_is (P := fun z h'' => At l base h'' ∧ ∃ f : Nat, z = (.int (f : Int), false)) (y := (.int (s : Int), false)) ?_ ?_
        · refine ev_call_is (ds := [.cell l, .int 10]) (h1 := h') (evL_cons_ok (z := (.cell l, false)) rfl (ev_mk_ok (z := (.cell l, false)) (ev_loc_ok rfl) rfl) (evL_cons_ok rfl ev_con_ok evL_nil_ok)) ?_
          refine is_imp (e_draw k hl a' (many := 10) (by omega) (by omega)) ?_
          rintro z h'' ⟨a2, f, hf, rfl⟩
          exact ⟨a2, f, rfl⟩
        · rintro z h'' ⟨a2, f, rfl⟩
          exact ⟨ev_loc_ok rfl, is_ok ⟨_, rfl, fun _ => hip, a2⟩⟩
      · rintro h'' ⟨hip, a2⟩
        refine elt_is (P := fun z h3 => z = (dN i, false) ∧ h3 = h'') (is_of (ev_loc_ok rfl) ⟨rfl, rfl⟩) (by simp; omega) ?_
        rintro z h3 ⟨rfl, rfl⟩
        refine ⟨rfl, r ++ [i], by simp, ?_, ?_, by simp; omega, a2⟩
        · rw [List.pairwise_append]
          refine ⟨r1, by simp, ?_⟩
          rintro x hxr y hy
          have hyi : y = i := by simpa using hy
          rw [hyi]
          exact (r2 x hxr).1
        · intro x hx
          rcases List.mem_append.mp hx with hx | hx
          · have := r2 x hx
            exact ⟨by omega, this.2⟩
          · have hyi : x = i := by simpa using hx
            rw [hyi]
            exact ⟨by omega, hip rfl⟩
      · rintro h'' ⟨_, a2⟩
        exact ⟨rfl, r, rfl, r1, fun x hx => ⟨by have := (r2 x hx).1; omega, (r2 x hx).2⟩, by omega, a2⟩
  · rintro xs h' ⟨r, rfl, r1, r2, r3, a'⟩
    exact ⟨a', r, ⟨r1, r2⟩, by omega, rfl⟩
theorem rows_drawn (k : Nat) {l n s : Nat} {base h : LH} (hl : l < base.length) (a : At l base h) (hn : n ≤ 8) :
    (ev (call_ lw.tab (k + 1)) (.comp (.bi .tuple [inner]) [.mk (.loc 5) (.range [(.loc 3)]) []] [5]) (gEnv l n s none none) h).Is fun z h' => At l base h' ∧ ∃ g, GOk g ∧ g.length = n ∧ z = (.lst (g.map tN), true) := by
  have t1 := thousand
  refine comp_is (P := fun xs h' => ∃ g : List (List Nat), xs = g.map tN ∧ g.length = n ∧ (∀ (j : Nat) (hj : j < g.length), RowOk n j g[j]) ∧ At l base h') ?_ ?_
  · have := evG1_is (Φ := call_ lw.tab (k + 1)) (t := .loc 5) (it := .range [(.loc 3)]) (ifs := []) (K := eltF (ev (call_ lw.tab (k + 1)) (.bi .tuple [inner]))) (own := [5]) (xs := (List.range n).map dN) (g := none) (h := h) (h1 := h) (env := gEnv l n s none none)
      (fun i xs h' => ∃ g : List (List Nat), xs = g.map tN ∧ g.length = i ∧ (∀ (j : Nat) (hj : j < g.length), RowOk n j g[j]) ∧ At l base h') (evW_range_ok (by omega) rfl (ev_loc_ok rfl)) ⟨[], rfl, rfl, fun j hj => absurd hj (by simp), a⟩ ?_
    · refine is_imp this ?_
      rintro xs h' ⟨g, e, g1, g2, a'⟩
      rw [List.length_map, List.length_range] at g1
      exact ⟨g, e, g1, g2, a'⟩
    · rintro i x acc h' hx ⟨g, rfl, g1, g2, a'⟩
      have hi : i < n := by
        have := (List.getElem?_eq_some_iff.mp hx).1
        simpa using this
      have hxi : x = dN i := by
        rw [List.getElem?_map, List.getElem?_range hi] at hx
        exact (Option.some.inj hx).symm
      subst hxi
      refine turn_is (env' := gEnv l n s (some (dN i)) none) (P := fun b h'' => b = true ∧ h'' = h') rfl (is_of evT_nil_ok ⟨rfl, rfl⟩) ?_ (fun _ z => by cases z.1)
      rintro h'' ⟨_, rfl⟩
      refine elt_is (P := fun z h3 => ∃ r, RowOk n i r ∧ z = (tN r, false) ∧ At l base h3) ?_ (by simp; omega) ?_
      · refine ev_bi_is (P := fun ds h3 => At l base h3 ∧ ∃ r, RowOk n i r ∧ r.length ≤ 8 ∧ ds = [.lst (r.map dN)]) ?_ ?_
        · refine evL_cons_is rfl (row_drawn k hl a' hn) ?_
          rintro z h3 ⟨a2, r, r1, r2, rfl⟩
          exact evL_nil_is ⟨a2, r, r1, r2, rfl⟩
        · rintro ds h3 ⟨a2, r, r1, r2, rfl⟩
          exact is_of (bi_tuple_lst rfl (by simp; omega)) ⟨r, r1, rfl, a2⟩
      · rintro z h3 ⟨r, r1, rfl, a2⟩
        refine ⟨rfl, g ++ [r], by simp, by simp [g1], fun j hj => ?_, a2⟩
        by_cases hjg : j < g.length
        · rw [List.getElem_append_left hjg]
          exact g2 j hjg
        · have hje : j = g.length := by
            simp at hj
            omega
          subst hje
          rw [List.getElem_append_right (by omega)]
          simp only [Nat.sub_self, List.getElem_cons_zero]
          rw [g1]
          exact r1
  · rintro xs h' ⟨g, rfl, g1, g2, a'⟩
    refine ⟨a', g, fun j hj => ?_, g1, rfl⟩
    rw [g1]
    exact g2 j hj
theorem e_gifts (k : Nat) {l : Nat} {base h : LH} (hl : l < base.length) (a : At l base h) :
    (call_ lw.tab (k + 3) "_law_gifts" [.cell l, .int 1, .int 8] h).Is fun z h' => At l base h' ∧ ∃ g, 1 ≤ g.length ∧ g.length ≤ 8 ∧ GOk g ∧ z = (tG g, false) := by
  have t1 := thousand
  have hlen := a.len
  refine call_is lk_gifts rfl ?_
  refine ss_is (P := fun fl h' => At l base h' ∧ ∃ n s : Nat, 1 ≤ n ∧ n ≤ 8 ∧ fl = .nx (gEnv l n s none none)) ?_ ?_
  · refine asgT_is (P := fun z h' => At l base h' ∧ ∃ n s : Nat, 1 ≤ n ∧ n ≤ 8 ∧ z = (.tup [.int (n : Int), .int (s : Int)], false)) ?_ ?_
    · refine ev_tup_is (P := fun ds h' => At l base h' ∧ ∃ n s : Nat, 1 ≤ n ∧ n ≤ 8 ∧ ds = [.int (n : Int), .int (s : Int)]) ?_ ?_
      · refine evL_cons_is rfl (P := fun z h' => At l base h' ∧ ∃ n : Nat, 1 ≤ n ∧ n ≤ 8 ∧ z = (.int (n : Int), false)) ?_ ?_
        · refine ev_bin_is (x := (.int 1, false)) (h1 := h) (ev_loc_ok rfl) (P := fun z h' => At l base h' ∧ ∃ f : Nat, f < 8 ∧ z = (.int (f : Int), false)) ?_ ?_
          · refine ev_call_is (ds := [.cell l, .int 8]) (h1 := h) (evL_cons_ok (z := (.cell l, false)) rfl (ev_mk_ok (z := (.cell l, false)) (ev_loc_ok rfl) rfl) (evL_cons_ok (z := (.int 8, false)) rfl (ev_bin_ok (x := (.int 7, false)) (y := (.int 1, false)) (ev_bin_ok (x := (.int 8, false)) (y := (.int 1, false)) (ev_loc_ok rfl) (ev_loc_ok rfl) rfl) ev_con_ok rfl) evL_nil_ok)) ?_
            refine is_imp (e_draw (k + 1) hl a (many := 8) (by omega) (by omega)) ?_
            rintro z h' ⟨a2, f, hf, rfl⟩
            exact ⟨a2, f, by omega, rfl⟩
          · rintro z h' ⟨a2, f, hf, rfl⟩
            refine is_ok ⟨a2, f + 1, by omega, by omega, ?_⟩
            congr 2
            omega
        · rintro z h' ⟨a2, n, n1, n2, rfl⟩
          refine evL_cons_is rfl (P := fun z h' => At l base h' ∧ ∃ s : Nat, z = (.int (s : Int), false)) ?_ ?_
          · refine ev_call_is (ds := [.cell l, .lst [.int 2, .int 4, .int 7]]) (h1 := h') (evL_cons_ok (z := (.cell l, false)) rfl (ev_mk_ok (z := (.cell l, false)) (ev_loc_ok rfl) rfl) (evL_cons_ok (z := (.lst [.int 2, .int 4, .int 7], true)) rfl (ev_lst_ok (evL_cons_ok rfl ev_con_ok (evL_cons_ok rfl ev_con_ok (evL_cons_ok rfl ev_con_ok evL_nil_ok))) size3) evL_nil_ok)) ?_
            refine is_imp (e_pick k hl a2 (xs := [.int 2, .int 4, .int 7]) (by decide) (by decide) (fun d hd n => ?_)) ?_
            · simp at hd
              rcases hd with rfl | rfl | rfl <;> rfl
            · rintro z h'' ⟨a3, d, hd, rfl⟩
              simp at hd
              rcases hd with rfl | rfl | rfl
              · exact ⟨a3, 2, rfl⟩
              · exact ⟨a3, 4, rfl⟩
              · exact ⟨a3, 7, rfl⟩
          · rintro z h'' ⟨a3, s, rfl⟩
            exact evL_nil_is ⟨a3, n, s, n1, n2, rfl⟩
      · rintro ds h' ⟨a2, n, s, n1, n2, rfl⟩
        exact ⟨by show 2 ≤ sizeLine; omega, a2, n, s, n1, n2, rfl⟩
    · rintro z h' ⟨a2, n, s, n1, n2, rfl⟩
      exact ⟨_, rfl, rfl, is_of (a := gEnv l n s none none) (h := h') rfl ⟨a2, n, s, n1, n2, rfl⟩⟩
  · rintro fl h' ⟨a2, n, s, n1, n2, rfl⟩
    refine ss_last (ret_is (P := fun z h'' => At l base h'' ∧ ∃ g, 1 ≤ g.length ∧ g.length ≤ 8 ∧ GOk g ∧ z = (tG g, false)) ?_ ?_)
    · refine ev_bi_is (P := fun ds h3 => At l base h3 ∧ ∃ g, GOk g ∧ g.length = n ∧ ds = [.lst (g.map tN)]) ?_ ?_
      · refine evL_cons_is rfl (rows_drawn (k + 1) hl a2 n2) ?_
        rintro z h3 ⟨a3, g, g1, g2, rfl⟩
        exact evL_nil_is ⟨a3, g, g1, g2, rfl⟩
      · rintro ds h3 ⟨a3, g, g1, g2, rfl⟩
        exact is_of (bi_tuple_lst rfl (by simp; omega)) ⟨a3, g, by omega, by omega, g1, rfl⟩
    · rintro z h'' ⟨a3, g, g1, g2, g3, rfl⟩
      show (fin h.length (tG g, false) h'').Is _
      rw [fin_cut (bel_tG _ _), hlen]
      refine is_ok ⟨?_, g, g1, g2, g3, rfl⟩
      rw [List.take_of_length_le (by rw [a3.len]; exact Nat.le_refl _)]
      exact a3
end Lk76

set_option Elab.async false
set_option linter.all false
set_option maxRecDepth 100000
set_option maxHeartbeats 1000000
/-! k76: what is checked. -/
namespace Lk76
open PySem PySem.Spec PyProof.Rows L2 Fz
theorem lk_is_whole : look lw.tab "is_whole" = some ⟨"is_whole", ["value"], ["value"], b_is_whole⟩ := lf.lk r_is_whole (by simp [lw])
theorem lk_is_between : look lw.tab "is_between" = some ⟨"is_between", ["value", "low", "high"], ["value", "low", "high"], b_is_between⟩ := lf.lk r_is_between (by simp [lw])
theorem lk_is_person : look lw.tab "is_person" = some ⟨"is_person", ["many", "value"], ["many", "value"], b_is_person⟩ := lf.lk r_is_person (by simp [lw])
theorem lk_are_rising : look lw.tab "are_rising" = some ⟨"are_rising", ["value"], r_are_rising.N, b_are_rising⟩ := lf.lk r_are_rising (by simp [lw])
theorem lk_is_gift_row : look lw.tab "is_gift_row" = some ⟨"is_gift_row", ["many", "own", "value"], r_is_gift_row.N, b_is_gift_row⟩ := lf.lk r_is_gift_row (by simp [lw])
theorem lk_wrong : look lw.tab "wrong_in_gifts" = some ⟨"wrong_in_gifts", ["value"], r_wrong_in_gifts.N, b_wrong_in_gifts⟩ := lf.lk r_wrong_in_gifts (by simp [lw])
theorem lk_check_times : look lw.tab "check_times" = some ⟨"check_times", ["value", "low", "high"], r_check_times.N, b_check_times⟩ := lf.lk r_check_times (by simp [lw])
theorem lk_check_given : look lw.tab "check_given" = some ⟨"check_given", ["gifts", "size"], r_check_given.N, b_check_given⟩ := lf.lk r_check_given (by simp [lw])
theorem e_is_whole (k : Nat) (v : Int) (h : LH) : call_ lw.tab (k + 1) "is_whole" [.int v] h = .ok (.bl true, false) h :=
  (call_ret lk_is_whole rfl (ss_rt (ret_ok (ev_and_t (f := false) (ev_isi_ok (x := (.int v, false)) (ev_loc_ok rfl) rfl) (ev_not_ok (f := false) (u := false) (ev_isi_ok (x := (.int v, false)) (ev_loc_ok rfl) rfl)))))).trans (fin_bl _ _ _)
theorem e_is_between (k : Nat) (v a b : Int) (h : LH) : call_ lw.tab (k + 2) "is_between" [.int v, .int a, .int b] h = .ok (.bl (decide (a ≤ v ∧ v ≤ b)), false) h := by
  refine (call_ret (h1 := h) (d := .bl (decide (a ≤ v ∧ v ≤ b))) (fr := false) lk_is_between rfl (ss_rt (ret_ok (ev_and_t (f := false) (h1 := h) ?_ ?_)))).trans (fin_bl _ _ _)
  · exact (ev_call_ok (evL_cons_ok (z := (.int v, false)) rfl (ev_loc_ok rfl) evL_nil_ok)).trans (e_is_whole k v h)
  · by_cases h1 : a ≤ v
    · have e1 : cmpD .le (.int a) (.int v) h = .ok (.bl true, false) h := by
        rw [(cmp_int .le a v).1, decide_eq_true h1]
      refine (ev_chain_ok (x := (.int a, false)) (y := (.int v, false)) (w := (.int b, false)) (z := (.bl (decide (v ≤ b)), false)) (ev_loc_ok rfl) (ev_loc_ok rfl) e1 (ev_loc_ok rfl) (cmp_int .le v b).1).trans ?_
      simp [h1]
    · have e1 : cmpD .le (.int a) (.int v) h = .ok (.bl false, false) h := by
        rw [(cmp_int .le a v).1, decide_eq_false h1]
      refine (ev_chain_f (x := (.int a, false)) (y := (.int v, false)) (ev_loc_ok rfl) (ev_loc_ok rfl) e1).trans ?_
      simp [h1]
theorem e_is_person (k : Nat) (many v : Int) (h : LH) : call_ lw.tab (k + 3) "is_person" [.int many, .int v] h = .ok (.bl (decide (0 ≤ v ∧ v ≤ many - 1)), false) h :=
  (call_ret lk_is_person rfl (ss_rt (ret_ok ((ev_call_ok (evL_cons_ok (z := (.int v, false)) rfl (ev_loc_ok rfl) (evL_cons_ok (z := (.int 0, false)) rfl ev_con_ok (evL_cons_ok (z := (.int (many - 1), false)) rfl (ev_bin_ok (x := (.int many, false)) (y := (.int 1, false)) (ev_loc_ok rfl) ev_con_ok rfl) evL_nil_ok)))).trans (e_is_between k v 0 (many - 1) h))))).trans (fin_bl _ _ _)
theorem get_rise {r : List Nat} (hr : r.Pairwise (· < ·)) {i : Nat} (h : i + 1 < r.length) : r[i] < r[i + 1] := List.pairwise_iff_getElem.mp hr i (i + 1) (by omega) h (by omega)
theorem e_are_rising (k : Nat) {r : List Nat} (hr : r.Pairwise (· < ·)) (hl : r.length ≤ 8) (h : LH) : call_ lw.tab (k + 1) "are_rising" [tN r] h = .ok (.bl true, false) h := by
  have t1 := thousand
  refine (call_ret (h1 := h) (d := .bl true) (fr := false) lk_are_rising rfl (ss_rt (ret_ok ?_))).trans (fin_bl _ _ _)
  have c : ev (call_ lw.tab k) (.comp (.cmp .lt (.ix (.loc 0) (.bin .sub (.loc 1) (.con (.int 1)))) (.ix (.loc 0) (.loc 1))) [.mk (.loc 1) (.range [(.con (.int 1)), (.bi .len [(.loc 0)])]) []] [1]) [some (tN r), none] h = .ok (.lst ((List.range (r.length - 1)).map fun _ => D.bl true), true) h := by
    have hn : ev (call_ lw.tab k) (.bi .len [(.loc 0)]) [some (tN r), none] h = .ok (.int (r.length : Int), false) h := by
      have := ev_bi_ok (Φ := call_ lw.tab k) (env := [some (tN r), none]) (h := h) (es := [.loc 0]) (evL_cons_ok rfl (ev_loc_ok rfl) evL_nil_ok) (bi_len_tup (h := h) (d := tN r) rfl)
      simpa using this
    have hw := evW_range2_ok (Φ := call_ lw.tab k) (env := [some (tN r), none]) (h := h) (e := .con (.int 1)) (e2 := .bi .len [(.loc 0)]) (m := 1) (n := r.length) (by omega) (by omega) rfl rfl ev_con_ok hn
    have := comp1 (Φ := call_ lw.tab k) (elt := .cmp .lt (.ix (.loc 0) (.bin .sub (.loc 1) (.con (.int 1)))) (.ix (.loc 0) (.loc 1))) (t := .loc 1) (ifs := []) (own := [1]) (fun _ => some (D.bl true)) hw (by simp; omega) ?_
    · rw [this, List.filterMap_map]
      congr 3
      induction List.range (r.length - 1) with
      | nil => rfl
      | cons x t ih => simpa using ih
    · intro x hx
      simp only [List.mem_map, List.mem_range] at hx
      obtain ⟨i, hi, rfl⟩ := hx
      refine ⟨[some (tN r), some (dN (1 + i))], rfl, evT_nil_ok, fun y hy => ⟨false, ?_⟩⟩
      cases hy
      have hi1 : i + 1 < r.length := by omega
      have a1 : ev (call_ lw.tab k) (.ix (.loc 0) (.bin .sub (.loc 1) (.con (.int 1)))) [some (tN r), some (dN (1 + i))] h = .ok (dN r[i], false) h := by
        refine ev_ix_ok (x := (tN r, false)) (y := (.int (i : Int), false)) (ev_loc_ok rfl) (ev_bin_ok (x := (dN (1 + i), false)) (y := (.int 1, false)) (ev_loc_ok rfl) ev_con_ok ?_) ?_
        · show val (.int (((1 + i : Nat) : Int) - 1)) h = _
          have : ((1 + i : Nat) : Int) - 1 = (i : Int) := by omega
          rw [this]
          rfl
        · show (match atI (r.map dN) (i : Int) with
            | some d => val d h
            | none => Res.no) = _
          rw [Fz.atI_nat (by simp; omega)]
          simp
          rfl
      have a2 : ev (call_ lw.tab k) (.ix (.loc 0) (.loc 1)) [some (tN r), some (dN (1 + i))] h = .ok (dN r[i + 1], false) h := by
        refine ev_ix_ok (x := (tN r, false)) (y := (dN (1 + i), false)) (ev_loc_ok rfl) (ev_loc_ok rfl) ?_
        show (match atI (r.map dN) ((1 + i : Nat) : Int) with
            | some d => val d h
            | none => Res.no) = _
        rw [Fz.atI_nat (by simp; omega)]
        simp [Nat.add_comm 1 i]
        rfl
      refine ev_cmp_ok a1 a2 ?_
      have := get_rise hr hi1
      show val (.bl (decide ((r[i] : Int) < (r[i + 1] : Int)))) h = _
      have h3 : (r[i] : Int) < (r[i + 1] : Int) := by omega
      rw [decide_eq_true h3]
      rfl
  refine ev_bi_ok (evL_cons_ok rfl c evL_nil_ok) ?_
  refine (bi_all_map (fun _ => true) _).trans ?_
  simp
end Lk76

set_option Elab.async false
set_option linter.all false
set_option maxRecDepth 100000
set_option maxHeartbeats 1000000
/-! k76: what is checked of gifts. -/
namespace Lk76
open PySem PySem.Spec PyProof.Rows L2 Fz
theorem ne_num {h : LH} (a b : Nat) : cmpD .ne (dN a) (dN b) h = .ok (.bl (!decide (a = b)), false) h := by
  show (match Fz.plain 30 (dN a) && Fz.plain 30 (dN b) with
    | true => val (.bl (!eqD (dN a) (dN b))) h
    | false => Res.no) = _
  rw [plain_dN, plain_dN, eqD_dN]
  rfl
theorem fm_const {α β γ : Type} (f : α → β) (c : γ) : ∀ l : List α, (l.map f).filterMap (fun _ => some c) = l.map fun _ => c
  | [] => rfl
  | x :: t => by simp only [List.map_cons, List.filterMap_cons, fm_const f c t]
theorem e_gift_row (k n p : Nat) {r : List Nat} (hr : RowOk n p r) (hl : r.length ≤ 8) (h : LH) : call_ lw.tab (k + 4) "is_gift_row" [.int (n : Int), dN p, tN r] h = .ok (.bl true, false) h := by
  have t1 := thousand
  refine (call_ret (h1 := h) (d := .bl true) (fr := false) lk_is_gift_row rfl ((ss_nx (env' := [some (.int (n : Int)), some (dN p), some (tN r), none]) (h' := h) ((ife_f (fr := false) ?_).trans rfl)).trans (ss_rt (ret_ok ?_)))).trans (fin_bl _ _ _)
  · refine ev_or_f (f := false) (ev_not_ok (f := false) (u := true) (ev_isi_ok (x := (tN r, false)) (ev_loc_ok rfl) rfl)) (ev_not_ok (f := false) (u := true) ?_)
    have c : ev (call_ lw.tab (k + 3)) (.comp (.and (.call "is_person" [(.loc 0), (.loc 3)]) (.cmp .ne (.loc 3) (.loc 1))) [.mk (.loc 3) (.loc 2) []] [3]) [some (.int (n : Int)), some (dN p), some (tN r), none] h = .ok (.lst ((r.map dN).filterMap fun _ => some (.bl true)), true) h := by
      refine comp1 (xs := r.map dN) (fun _ => some (D.bl true)) (evW_gen_ok (x := (tN r, false)) rfl (ev_loc_ok rfl) rfl) (by simp; omega) ?_
      intro x hx
      simp only [List.mem_map] at hx
      obtain ⟨i, hi, rfl⟩ := hx
      refine ⟨[some (.int (n : Int)), some (dN p), some (tN r), some (dN i)], rfl, evT_nil_ok, fun y hy => ⟨false, ?_⟩⟩
      cases hy
      have hi2 := hr.2 i hi
      refine ev_and_t (f := false) (h1 := h) ((ev_call_ok (evL_cons_ok (z := (.int (n : Int), false)) rfl (ev_loc_ok rfl) (evL_cons_ok (z := (dN i, false)) rfl (ev_loc_ok rfl) evL_nil_ok))).trans ((e_is_person k n i h).trans ?_)) (ev_cmp_ok (x := (dN i, false)) (y := (dN p, false)) (ev_loc_ok rfl) (ev_loc_ok rfl) ((ne_num i p).trans ?_))
      · have : (0 : Int) ≤ (i : Int) ∧ (i : Int) ≤ (n : Int) - 1 := ⟨by omega, by omega⟩
        rw [decide_eq_true this]
      · simp [hi2.2]
    refine ev_bi_ok (evL_cons_ok rfl c evL_nil_ok) ?_
    rw [fm_const]
    refine (bi_all_map (fun _ => true) _).trans ?_
    simp
  · exact (ev_call_ok (evL_cons_ok (z := (tN r, false)) rfl (ev_loc_ok rfl) evL_nil_ok)).trans (e_are_rising (k + 2) hr.1 hl h)
theorem rows_short {n p : Nat} {r : List Nat} (hr : RowOk n p r) : r.length ≤ n := by
  have key : ∀ (r : List Nat) (a : Nat), r.Pairwise (· < ·) → (∀ x ∈ r, a ≤ x ∧ x < n) → r.length + a ≤ n ∨ r = [] := by
    intro r
    induction r with
    | nil => intros; exact .inr rfl
    | cons x t ih =>
      intro a hp hm
      left
      have hx := hm x List.mem_cons_self
      rcases ih (x + 1) (List.pairwise_cons.mp hp).2 (fun y hy => ⟨(List.pairwise_cons.mp hp).1 y hy, (hm y (List.mem_cons_of_mem _ hy)).2⟩) with h | h
      · simp; omega
      · subst h; simp; omega
  rcases key r 0 hr.1 (fun x hx => ⟨by omega, (hr.2 x hx).1⟩) with h | h
  · omega
  · subst h; simp
structure GV (g : List (List Nat)) : Prop where
  one : 1 ≤ g.length
  most : g.length ≤ 8
  ok : GOk g
theorem GV.row {g : List (List Nat)} (v : GV g) {j : Nat} (hj : j < g.length) : g[j].length ≤ 8 := Nat.le_trans (rows_short (v.ok j hj)) v.most
theorem e_wrong (k : Nat) {g : List (List Nat)} (v : GV g) (h : LH) : call_ lw.tab (k + 5) "wrong_in_gifts" [tG g] h = .ok (.lst [], true) h := by
  have t1 := thousand
  have v1 := v.one
  have v8 := v.most
  refine (call_ret (h1 := h) (d := .lst []) (fr := true) lk_wrong rfl ((ss_nx (env' := [some (tG g), none, none]) (h' := h) ((ife_f (fr := false) ?_).trans rfl)).trans (ss_rt (ret_ok ?_)))).trans (fin_bel fun n => rfl)
  · refine ev_or_f (f := false) (ev_not_ok (f := false) (u := true) (ev_isi_ok (x := (tG g, false)) (ev_loc_ok rfl) rfl)) (ev_not_ok (f := false) (u := true) ?_)
    have hn : ev (call_ lw.tab (k + 4)) (.bi .len [(.loc 0)]) [some (tG g), none, none] h = .ok (.int ((g.map tN).length : Nat), false) h := ev_bi_ok (ds := [tG g]) (evL_cons_ok (z := (tG g, false)) rfl (ev_loc_ok rfl) evL_nil_ok) (bi_len_tup rfl)
    rw [List.length_map] at hn
    refine ev_chain_ok (f := false) (x := (.int 1, false)) (y := (.int (g.length : Nat), false)) (w := (.int 8, false)) ev_con_ok hn ?_ ev_glob_ok ?_
    · rw [(cmp_int .le 1 (g.length : Nat)).1, decide_eq_true (by omega)]
    · rw [(cmp_int .le (g.length : Nat) 8).1, decide_eq_true (by omega)]
  · have c : ev (call_ lw.tab (k + 4)) (.comp (.loc 1) [.mk (.tup [1, 2]) (.enum (.loc 0)) [(.not (.call "is_gift_row" [(.bi .len [(.loc 0)]), (.loc 1), (.loc 2)]))]] [1, 2]) [some (tG g), none, none] h = .ok (.lst ((enumL 0 (g.map tN)).filterMap fun _ => none), true) h := by
      refine comp1 (xs := enumL 0 (g.map tN)) (fun _ => none) (evW_enum_ok (x := (tG g, false)) (ev_loc_ok rfl) rfl) (by rw [enumL_len]; simp; omega) ?_
      intro x hx
      obtain ⟨i, hi, e⟩ := List.mem_iff_getElem.mp hx
      have hx' : (enumL 0 (g.map tN))[i]? = some x := by rw [List.getElem?_eq_getElem hi, e]
      obtain ⟨y, hy, rfl⟩ := enumL_get hx'
      rw [enumL_len, List.length_map] at hi
      have hy2 : y = tN g[i] := by
        rw [List.getElem?_map, List.getElem?_eq_getElem hi] at hy
        exact (Option.some.inj hy).symm
      subst hy2
      refine ⟨[some (tG g), some (.int ((0 + i : Nat) : Int)), some (tN g[i])], rfl, ?_, (fun y hy => nomatch hy)⟩
      have hn : ev (call_ lw.tab (k + 4)) (.bi .len [(.loc 0)]) [some (tG g), some (.int ((0 + i : Nat) : Int)), some (tN g[i])] h = .ok (.int ((g.map tN).length : Nat), false) h := ev_bi_ok (ds := [tG g]) (evL_cons_ok (z := (tG g, false)) rfl (ev_loc_ok rfl) evL_nil_ok) (bi_len_tup rfl)
      rw [List.length_map] at hn
      have hz : (0 + i : Nat) = i := by omega
      refine evT_one_ok (fr := false) (ev_not_ok (f := false) (u := true) ((ev_call_ok (evL_cons_ok rfl hn (evL_cons_ok (z := (dN (0 + i), false)) rfl (ev_loc_ok rfl) (evL_cons_ok (z := (tN g[i], false)) rfl (ev_loc_ok rfl) evL_nil_ok)))).trans ?_))
      rw [hz]
      exact e_gift_row k g.length i (v.ok i hi) (v.row hi) h
    have e : (enumL 0 (g.map tN)).filterMap (fun _ => (none : Option D)) = [] := by simp
    rw [e] at c
    have : ev (call_ lw.tab (k + 4)) (.slc (.comp (.loc 1) [.mk (.tup [1, 2]) (.enum (.loc 0)) [(.not (.call "is_gift_row" [(.bi .len [(.loc 0)]), (.loc 1), (.loc 2)]))]] [1, 2]) none (some (.con (.int 1)))) [some (tG g), none, none] = fun h => M.then (ev (call_ lw.tab (k + 4)) (.comp (.loc 1) [.mk (.tup [1, 2]) (.enum (.loc 0)) [(.not (.call "is_gift_row" [(.bi .len [(.loc 0)]), (.loc 1), (.loc 2)]))]] [1, 2]) [some (tG g), none, none]) (fun x => M.then (M.ret none) fun y => M.then (M.then (val (.int 1)) fun x => intD x.1) fun z => slcD x.1 y z) h := by
      simp only [ev, evO]
    rw [this]
    exact (then_ok c).trans rfl
theorem e_check_times (k : Nat) (s : Int) (h2 : 2 ≤ s) (h3 : s ≤ 3) (h : LH) : call_ lw.tab (k + 3) "check_times" [.int s, .int 2, .int 3] h = .ok (.non, false) h := by
  refine (call_nx (h1 := h) (env := [some (.int s), some (.int 2), some (.int 3)]) lk_check_times rfl ((ss_nx (env' := [some (.int s), some (.int 2), some (.int 3)]) (h' := h) ((ife_f (fr := false) ?_).trans rfl)).trans rfl)).trans (fin_bel fun n => rfl)
  refine ev_not_ok (f := false) (u := true) ((ev_call_ok (evL_cons_ok (z := (.int s, false)) rfl (ev_loc_ok rfl) (evL_cons_ok (z := (.int 2, false)) rfl (ev_loc_ok rfl) (evL_cons_ok (z := (.int 3, false)) rfl (ev_loc_ok rfl) evL_nil_ok)))).trans ((e_is_between k s 2 3 h).trans ?_))
  rw [decide_eq_true ⟨h2, h3⟩]
theorem e_check_given (k : Nat) {g : List (List Nat)} (v : GV g) (s : Int) (h2 : 2 ≤ s) (h3 : s ≤ 3) (h : LH) : call_ lw.tab (k + 6) "check_given" [tG g, .int s] h = .ok (.non, false) h := by
  refine (call_nx (h1 := h) (env := [some (tG g), some (.int s), none]) lk_check_given rfl ((ss_nx (env' := [some (tG g), some (.int s), none]) (h' := h) ((for_run (w := ([], none)) (h' := h) (evW_gen_ok (x := (.lst [], true)) rfl ((ev_call_ok (evL_cons_ok (z := (tG g, false)) rfl (ev_loc_ok rfl) evL_nil_ok)).trans (e_wrong k v h)) rfl)).trans rfl)).trans ((ss_nx (env' := [some (tG g), some (.int s), none]) (h' := h) (expr_ok (d := (.non, false)) ?_)).trans rfl))).trans (fin_bel fun n => rfl)
  exact (ev_call_ok (evL_cons_ok (z := (.int s, false)) rfl (ev_loc_ok rfl) (evL_cons_ok (z := (.int 2, false)) rfl ev_glob_ok (evL_cons_ok (z := (.int 3, false)) rfl ev_glob_ok evL_nil_ok)))).trans (e_check_times (k + 2) s h2 h3 h)
end Lk76

set_option Elab.async false
set_option linter.all false
set_option maxRecDepth 100000
set_option maxHeartbeats 1000000
/-! k76: the rounds told. -/
namespace Lk76
open PySem PySem.Spec PyProof.Rows L2 Fz
section
variable {Φ : Str → List D → M DF} {h : LH} {env : Fz.Env}
/-- the last clause -/
theorem clause_last {elt it : E} {t : Tg} {ifs : List E} {own : List Nat} {ys acc : List D} (f : D → Option D) (hw : evW Φ it env h = .ok (ys, none) h)
    (st : ∀ y ∈ ys, ∃ env', bindT t y (wipeE env own) = some env' ∧ evT Φ ifs env' h = .ok (f y).isSome h ∧ ∀ z, f y = some z → ∃ fr, ev Φ elt env' h = .ok (z, fr) h) (hl : acc.length + (ys.filterMap f).length ≤ sizeLine) :
    evG Φ [.mk t it ifs] (eltF (ev Φ elt)) own env acc h = .ok (acc ++ ys.filterMap f) h := by
  rw [evG_cons, evG_nil]
  rw [fm_toList] at hl ⊢
  refine clause_pure' (fun x => (f x).toList) hw (fun x hx => ?_) hl
  obtain ⟨env', h1, h2, h3⟩ := st x hx
  refine ⟨env', _, h1, h2, fun hb => ?_, fun hb acc hl => ?_⟩
  · cases q : f x with
    | none => rfl
    | some y => rw [q] at hb; cases hb
  · cases q : f x with
    | none => rw [q] at hb; cases hb
    | some y =>
      rw [q] at hl
      obtain ⟨fr, e⟩ := h3 y q
      exact elt_pure e (by simp at hl; omega)
/-- a clause ahead of others, without tests -/
theorem clause_ahead {it : E} {t : Tg} {gs : List G} {K : Fz.Env → List D → M (List D)} {own : List Nat} {xs acc : List D} (F : D → List D) (hw : evW Φ it env h = .ok (xs, none) h)
    (st : ∀ x ∈ xs, ∃ env', bindT t x (wipeE env own) = some env' ∧ ∀ acc, acc.length + (F x).length ≤ sizeLine → evG Φ gs K (gsS gs) env' acc h = .ok (acc ++ F x) h) (hl : acc.length + (xs.flatMap F).length ≤ sizeLine) :
    evG Φ (.mk t it [] :: gs) K own env acc h = .ok (acc ++ xs.flatMap F) h := by
  rw [evG_cons]
  refine clause_pure' F hw (fun x hx => ?_) hl
  obtain ⟨env', h1, h2⟩ := st x hx
  exact ⟨env', true, h1, evT_nil_ok, (fun z => nomatch z), fun _ acc hl => h2 acc hl⟩
end
theorem fm_congr {α β : Type} {f g : α → List β} : ∀ {l : List α}, (∀ x ∈ l, f x = g x) → l.flatMap f = l.flatMap g
  | [], _ => rfl
  | x :: r, h => by rw [List.flatMap_cons, List.flatMap_cons, h x List.mem_cons_self, fm_congr fun y hy => h y (List.mem_cons_of_mem _ hy)]
theorem fmap_congr {α β : Type} {f g : α → Option β} : ∀ {l : List α}, (∀ x ∈ l, f x = g x) → l.filterMap f = l.filterMap g
  | [], _ => rfl
  | x :: r, h => by rw [List.filterMap_cons, List.filterMap_cons, h x List.mem_cons_self, fmap_congr fun y hy => h y (List.mem_cons_of_mem _ hy)]
theorem flatMap_le {α β : Type} {f : α → List β} {m : Nat} : ∀ {l : List α}, (∀ x ∈ l, (f x).length ≤ m) → (l.flatMap f).length ≤ l.length * m
  | [], _ => by simp
  | x :: r, h => by
    rw [List.flatMap_cons, List.length_append, List.length_cons]
    have h1 := h x List.mem_cons_self
    have h2 := flatMap_le (l := r) fun y hy => h y (List.mem_cons_of_mem _ hy)
    rw [Nat.add_mul]
    omega
def row (g : List (List Nat)) (i : Nat) : List Nat := g.getD i []
theorem row_eq {g : List (List Nat)} {i : Nat} (hi : i < g.length) : row g i = g[i] := by
  unfold row
  simp [hi]
theorem GV.rowOk {g : List (List Nat)} (v : GV g) {i : Nat} (hi : i < g.length) : RowOk g.length i (Lk76.row g i) := by
  rw [row_eq hi]
  exact v.ok i hi
theorem GV.rowLen {g : List (List Nat)} (v : GV g) (i : Nat) : (Lk76.row g i).length ≤ 8 := by
  by_cases hi : i < g.length
  · rw [row_eq hi]
    exact v.row hi
  · unfold Lk76.row
    simp [hi]
/-- (one, its row) -/
def idx (g : List (List Nat)) : List Nat := List.range g.length
def r2 (g : List (List Nat)) : List (List Nat) := (idx g).flatMap fun a => (row g a).filterMap fun b => if a < b ∧ a ∈ row g b then some [a, b] else none
def rows3 (g : List (List Nat)) : List (List Nat) := (idx g).flatMap fun a => (row g a).flatMap fun b => (row g b).map fun c => [a, b, c]
def r3 (g : List (List Nat)) : List (List Nat) := (idx g).flatMap fun a => (row g a).flatMap fun b => (row g b).filterMap fun c => if (a < b ∧ a < c) ∧ a ∈ row g c then some [a, b, c] else none
theorem enum_idx (g : List (List Nat)) : enumL 0 (g.map tN) = (idx g).map fun a => .tup [dN a, tN (row g a)] := by
  refine List.ext_getElem? fun i => ?_
  by_cases hi : i < g.length
  · have h1 : i < (enumL 0 (g.map tN)).length := by rw [enumL_len]; simpa using hi
    obtain ⟨y, hy, e⟩ := enumL_get (xs := g.map tN) (k := 0) (i := i) (x := (enumL 0 (g.map tN))[i]) (List.getElem?_eq_getElem h1)
    rw [List.getElem?_eq_getElem h1, e]
    have hy2 : y = tN g[i] := by
      rw [List.getElem?_map, List.getElem?_eq_getElem hi] at hy
      exact (Option.some.inj hy).symm
    subst hy2
    unfold idx
    rw [List.getElem?_map, List.getElem?_range hi]
    simp only [Option.map_some, row_eq hi]
    congr 4
    omega
  · have h1 : ¬ i < (enumL 0 (g.map tN)).length := by rw [enumL_len]; simpa using hi
    rw [List.getElem?_eq_none (by omega), List.getElem?_eq_none (by unfold idx; simp; omega)]
theorem ix_row {h : LH} {g : List (List Nat)} {i : Nat} (hi : i < g.length) : ixD (tG g) (dN i) h = .ok (tN (row g i), false) h := by
  show (match atI (g.map tN) (i : Int) with
    | some d => val d h
    | none => Res.no) = _
  rw [Fz.atI_nat (by simpa using hi)]
  simp [row_eq hi]
  rfl
theorem in_row {h : LH} (a : Nat) (r : List Nat) : cmpD .isin (dN a) (tN r) h = .ok (.bl (decide (a ∈ r)), false) h := by
  show (match Fz.plain 30 (dN a) && plainL 30 (r.map dN) with
    | true => val (.bl (inD (dN a) (r.map dN))) h
    | false => Res.no) = _
  rw [plain_dN, plainL_dN, inD_dN]
  rfl
theorem lt_num {h : LH} (a b : Nat) : cmpD .lt (dN a) (dN b) h = .ok (.bl (decide (a < b)), false) h := by
  show val (.bl (decide ((a : Int) < (b : Int)))) h = _
  have : decide ((a : Int) < (b : Int)) = decide (a < b) := by
    by_cases q : a < b
    · rw [decide_eq_true q, decide_eq_true (by omega)]
    · rw [decide_eq_false q, decide_eq_false (by omega)]
  rw [this]
  rfl
theorem gt_num {h : LH} (a b : Nat) : cmpD .gt (dN a) (dN b) h = .ok (.bl (decide (b < a)), false) h := by
  show val (.bl (decide ((b : Int) < (a : Int)))) h = _
  have : decide ((b : Int) < (a : Int)) = decide (b < a) := by
    by_cases q : b < a
    · rw [decide_eq_true q, decide_eq_true (by omega)]
    · rw [decide_eq_false q, decide_eq_false (by omega)]
  rw [this]
  rfl
theorem lk_r2 : look lw.tab "rounds_of_two" = some ⟨"rounds_of_two", ["gifts"], r_rounds_of_two.N, b_rounds_of_two⟩ := lf.lk r_rounds_of_two (by simp [lw])
theorem lk_r3 : look lw.tab "rounds_of_three" = some ⟨"rounds_of_three", ["gifts"], r_rounds_of_three.N, b_rounds_of_three⟩ := lf.lk r_rounds_of_three (by simp [lw])
theorem map_flatMap' {α β γ : Type} (f : β → γ) (F : α → List β) (l : List α) : (l.flatMap F).map f = l.flatMap fun a => (F a).map f := List.map_flatMap
theorem r2_len {g : List (List Nat)} (v : GV g) : (r2 g).length ≤ 64 := by
  have := flatMap_le (l := idx g) (f := fun a => (row g a).filterMap fun b => if a < b ∧ a ∈ row g b then some [a, b] else none) (m := 8) fun a _ => Nat.le_trans (List.length_filterMap_le _ _) (v.rowLen a)
  have h2 : (idx g).length ≤ 8 := by unfold idx; simpa using v.most
  have h3 : (idx g).length * 8 ≤ 64 := by omega
  exact Nat.le_trans this h3
theorem e_r2 (k : Nat) {g : List (List Nat)} (v : GV g) (h : LH) : call_ lw.tab (k + 1) "rounds_of_two" [tG g] h = .ok (.lst ((r2 g).map tN), true) h := by
  have t1 := thousand
  refine (call_ret (h1 := h) (d := .lst ((r2 g).map tN)) (fr := true) lk_r2 rfl (ss_rt (ret_ok ?_))).trans (fin_bel fun n => belL_tN _ n)
  refine comp_ok ?_
  have e : (r2 g).map tN = ((idx g).map fun a => D.tup [dN a, tN (row g a)]).flatMap fun x => match x with
      | .tup [.int a, .tup bs] => bs.filterMap fun y => match y with
        | .int b => if a.toNat < b.toNat ∧ a.toNat ∈ row g b.toNat then some (tN [a.toNat, b.toNat]) else none
        | _ => none
      | _ => [] := by
    unfold r2
    rw [map_flatMap', List.flatMap_map]
    refine fm_congr fun a _ => ?_
    show _ = ((row g a).map dN).filterMap _
    rw [List.filterMap_map, List.map_filterMap]
    refine fmap_congr fun b _ => ?_
    show Option.map tN (if a < b ∧ a ∈ row g b then some [a, b] else none) = (if ((a : Int).toNat < (b : Int).toNat ∧ (a : Int).toNat ∈ row g (b : Int).toNat) then some (tN [(a : Int).toNat, (b : Int).toNat]) else none)
    simp only [Int.toNat_natCast]
    split <;> rfl
  have hlen : (r2 g).length ≤ 64 := r2_len v
  have hw : evW (call_ lw.tab k) (.enum (.loc 0)) [some (tG g), none, none, none] h = .ok ((idx g).map fun a => .tup [dN a, tN (row g a)], none) h := by
    rw [← enum_idx]
    exact evW_enum_ok (x := (tG g, false)) (ev_loc_ok rfl) rfl
  have main := clause_ahead (Φ := call_ lw.tab k) (t := .tup [1, 2]) (gs := [.mk (.loc 3) (.loc 2) [(.and (.cmp .lt (.loc 1) (.loc 3)) (.cmp .isin (.loc 1) (.ix (.loc 0) (.loc 3))))]]) (K := eltF (ev (call_ lw.tab k) (.tup [(.loc 1), (.loc 3)]))) (own := [1, 2, 3]) (acc := []) _ hw (fun x hx => ?_) (by rw [← e]; simp; omega)
  · rw [← e] at main
    exact main
  · simp only [List.mem_map] at hx
    obtain ⟨a, ha, rfl⟩ := hx
    have ha' : a < g.length := by unfold idx at ha; simpa using ha
    refine ⟨[some (tG g), some (dN a), some (tN (row g a)), none], rfl, fun acc hl => ?_⟩
    refine clause_last (ys := (row g a).map dN) _ (evW_gen_ok (x := (tN (row g a), false)) rfl (ev_loc_ok rfl) rfl) (fun y hy => ?_) hl
    simp only [List.mem_map] at hy
    obtain ⟨b, hb, rfl⟩ := hy
    have hb' : b < g.length := ((v.rowOk ha').2 b hb).1
    refine ⟨[some (tG g), some (dN a), some (tN (row g a)), some (dN b)], rfl, ?_, fun z hz => ⟨false, ?_⟩⟩
    · show _ = Res.ok (if ((a : Int).toNat < (b : Int).toNat ∧ (a : Int).toNat ∈ row g (b : Int).toNat) then some (tN [(a : Int).toNat, (b : Int).toNat]) else none).isSome h
      simp only [Int.toNat_natCast]
      have c1 : ev (call_ lw.tab k) (.cmp .lt (.loc 1) (.loc 3)) [some (tG g), some (dN a), some (tN (row g a)), some (dN b)] h = .ok (.bl (decide (a < b)), false) h := ev_cmp_ok (x := (dN a, false)) (y := (dN b, false)) (ev_loc_ok rfl) (ev_loc_ok rfl) (lt_num a b)
      have c2 : ev (call_ lw.tab k) (.cmp .isin (.loc 1) (.ix (.loc 0) (.loc 3))) [some (tG g), some (dN a), some (tN (row g a)), some (dN b)] h = .ok (.bl (decide (a ∈ row g b)), false) h :=
        ev_cmp_ok (x := (dN a, false)) (y := (tN (row g b), false)) (ev_loc_ok rfl) (ev_ix_ok (x := (tG g, false)) (y := (dN b, false)) (ev_loc_ok rfl) (ev_loc_ok rfl) (ix_row hb')) (in_row a _)
      obtain ⟨f, c3⟩ := ev_and_ok c1 (fun _ => c2)
      rw [evT_one_ok c3]
      congr 1
      by_cases h1 : a < b <;> by_cases h2 : a ∈ row g b <;> simp [h1, h2]
    · have hz : (if ((a : Int).toNat < (b : Int).toNat ∧ (a : Int).toNat ∈ row g (b : Int).toNat) then some (tN [(a : Int).toNat, (b : Int).toNat]) else none) = some z := hz
      simp only [Int.toNat_natCast] at hz
      split at hz
      · cases hz
        exact ev_tup_ok (ds := [dN a, dN b]) (evL_cons_ok (z := (dN a, false)) rfl (ev_loc_ok rfl) (evL_cons_ok (z := (dN b, false)) rfl (ev_loc_ok rfl) evL_nil_ok)) (by show 2 ≤ sizeLine; omega)
      · cases hz
end Lk76

set_option Elab.async false
set_option linter.all false
set_option maxRecDepth 100000
set_option maxHeartbeats 1000000
/-! k76: rounds of three; all rounds. -/
namespace Lk76
open PySem PySem.Spec PyProof.Rows L2 Fz
section
variable {Φ : Str → List D → M DF} {h : LH} {env : Fz.Env} {α : Type}
theorem loop_pureM {k : D → List D → M (List D)} {all : List D} (enc : α → D) (F : α → List D) : ∀ (l : List α) (acc : List D), (∀ a ∈ l, ∀ acc, acc.length + (F a).length ≤ sizeLine → k (enc a) acc h = .ok (acc ++ F a) h) → acc.length + (l.flatMap F).length ≤ sizeLine → loopM none all k (l.map enc) acc h = .ok (acc ++ l.flatMap F) h
  | [], acc, _, _ => by simp [loopM, M.ret]
  | x :: r, acc, st, hl => by
    rw [List.flatMap_cons, List.length_append] at hl
    rw [List.map_cons]
    unfold loopM
    refine (then_ok (st x List.mem_cons_self acc (by omega))).trans ?_
    show loopM none all k (r.map enc) (acc ++ F x) h = _
    rw [loop_pureM enc F r (acc ++ F x) (fun y hy => st y (List.mem_cons_of_mem _ hy)) (by rw [List.length_append]; omega), List.flatMap_cons, List.append_assoc]
theorem ahead {it : E} {t : Tg} {gs : List G} {K : Fz.Env → List D → M (List D)} {own : List Nat} {l : List α} {acc : List D} (enc : α → D) (F : α → List D) (hw : evW Φ it env h = .ok (l.map enc, none) h)
    (st : ∀ a ∈ l, ∃ env', bindT t (enc a) (wipeE env own) = some env' ∧ ∀ acc, acc.length + (F a).length ≤ sizeLine → evG Φ gs K (gsS gs) env' acc h = .ok (acc ++ F a) h) (hl : acc.length + (l.flatMap F).length ≤ sizeLine) :
    evG Φ (.mk t it [] :: gs) K own env acc h = .ok (acc ++ l.flatMap F) h := by
  rw [evG_cons]
  unfold clauseF
  refine (then_ok hw).trans ?_
  refine loop_pureM enc F l acc (fun a ha acc hla => ?_) hl
  obtain ⟨env', h1, h2⟩ := st a ha
  unfold turnF
  rw [h1]
  show M.then (evT Φ [] env') _ h = _
  refine (then_ok evT_nil_ok).trans ?_
  exact h2 acc hla
theorem lastM {elt it : E} {t : Tg} {ifs : List E} {own : List Nat} {l : List α} {acc : List D} (enc : α → D) (f : α → Option D) (hw : evW Φ it env h = .ok (l.map enc, none) h)
    (st : ∀ a ∈ l, ∃ env', bindT t (enc a) (wipeE env own) = some env' ∧ evT Φ ifs env' h = .ok (f a).isSome h ∧ ∀ z, f a = some z → ∃ fr, ev Φ elt env' h = .ok (z, fr) h) (hl : acc.length + (l.filterMap f).length ≤ sizeLine) :
    evG Φ [.mk t it ifs] (eltF (ev Φ elt)) own env acc h = .ok (acc ++ l.filterMap f) h := by
  rw [evG_cons, evG_nil]
  rw [fm_toList] at hl ⊢
  unfold clauseF
  refine (then_ok hw).trans ?_
  refine loop_pureM enc (fun a => (f a).toList) l acc (fun a ha acc hla => ?_) hl
  obtain ⟨env', h1, h2, h3⟩ := st a ha
  unfold turnF
  rw [h1]
  show M.then (evT Φ ifs env') _ h = _
  refine (then_ok h2).trans ?_
  cases q : f a with
  | none => simp [M.ret]
  | some y =>
    rw [q] at hla
    obtain ⟨fr, e⟩ := h3 y q
    exact elt_pure e (by simp at hla; omega)
theorem comp1M {elt it : E} {t : Tg} {ifs : List E} {own : List Nat} {l : List α} (enc : α → D) (f : α → Option D) (hw : evW Φ it env h = .ok (l.map enc, none) h) (hl : l.length ≤ sizeLine)
    (st : ∀ a ∈ l, ∃ env', bindT t (enc a) (wipeE env own) = some env' ∧ evT Φ ifs env' h = .ok (f a).isSome h ∧ ∀ z, f a = some z → ∃ fr, ev Φ elt env' h = .ok (z, fr) h) :
    ev Φ (.comp elt [.mk t it ifs] own) env h = .ok (.lst (l.filterMap f), true) h :=
  comp_ok ((lastM (acc := []) enc f hw st (Nat.le_trans (by simp; exact List.length_filterMap_le _ _) hl)).trans (by simp))
end
/-- (a, b, c) along two gifts -/
def tri (g : List (List Nat)) : List (Nat × Nat × Nat) := (idx g).flatMap fun a => (row g a).flatMap fun b => (row g b).map fun c => (a, b, c)
theorem tri_mem {g : List (List Nat)} {a b c : Nat} : (a, b, c) ∈ tri g ↔ a < g.length ∧ b ∈ row g a ∧ c ∈ row g b := by
  unfold tri idx
  simp only [List.mem_flatMap, List.mem_range, List.mem_map, Prod.mk.injEq]
  constructor
  · rintro ⟨a', ha, b', hb, c', hc, rfl, rfl, rfl⟩
    exact ⟨ha, hb, hc⟩
  · rintro ⟨ha, hb, hc⟩
    exact ⟨a, ha, b, hb, c, hc, rfl, rfl, rfl⟩
def r3t (g : List (List Nat)) : List (List Nat) := (tri g).filterMap fun t => if t.1 < min t.2.1 t.2.2 ∧ t.1 ∈ row g t.2.2 then some [t.1, t.2.1, t.2.2] else none
theorem tri_len {g : List (List Nat)} (v : GV g) : (tri g).length ≤ 512 := by
  have h1 : ∀ a ∈ idx g, ((row g a).flatMap fun b => (row g b).map fun c => (a, b, c)).length ≤ 64 := fun a _ => by
    have := flatMap_le (l := row g a) (f := fun b => (row g b).map fun c => (a, b, c)) (m := 8) fun b _ => by simpa using v.rowLen b
    have h2 := v.rowLen a
    have h3 : (row g a).length * 8 ≤ 64 := by omega
    exact Nat.le_trans this h3
  have := flatMap_le (l := idx g) h1
  have h2 : (idx g).length ≤ 8 := by unfold idx; simpa using v.most
  have h3 : (idx g).length * 64 ≤ 512 := by omega
  exact Nat.le_trans this h3
theorem min_num {h : LH} (a b : Nat) : biD .min [dN a, dN b] h = .ok (dN (min a b), false) h := by
  show val (.int (if (b : Int) < (a : Int) then (b : Int) else (a : Int))) h = _
  have : (if (b : Int) < (a : Int) then (b : Int) else (a : Int)) = ((min a b : Nat) : Int) := by
    split <;> omega
  rw [this]
  rfl
theorem e_r3 (k : Nat) {g : List (List Nat)} (v : GV g) (h : LH) : call_ lw.tab (k + 1) "rounds_of_three" [tG g] h = .ok (.lst ((r3t g).map tN), true) h := by
  have t1 := thousand
  have tl := tri_len v
  have hw : ∀ o : Option D, evW (call_ lw.tab k) (.enum (.loc 0)) [some (tG g), o, none, none, none, none] h = .ok ((idx g).map fun a => .tup [dN a, tN (row g a)], none) h := fun o => by
    rw [← enum_idx]
    exact evW_enum_ok (x := (tG g, false)) (ev_loc_ok rfl) rfl
  have c1 : ev (call_ lw.tab k) (.comp (.tup [(.loc 2), (.loc 4), (.loc 5)]) [.mk (.tup [2, 3]) (.enum (.loc 0)) [], .mk (.loc 4) (.loc 3) [], .mk (.loc 5) (.ix (.loc 0) (.loc 4)) []] [2, 3, 4, 5]) [some (tG g), none, none, none, none, none] h = .ok (.lst ((tri g).map fun t => tN [t.1, t.2.1, t.2.2]), true) h := by
    refine comp_ok ?_
    have e : (tri g).map (fun t => tN [t.1, t.2.1, t.2.2]) = (idx g).flatMap fun a => (row g a).flatMap fun b => (row g b).filterMap fun c => some (tN [a, b, c]) := by
      unfold tri
      rw [map_flatMap']
      refine fm_congr fun a _ => ?_
      rw [map_flatMap']
      refine fm_congr fun b _ => ?_
      rw [List.map_map]
      induction row g b with
      | nil => rfl
      | cons x t ih => simp only [List.map_cons, List.filterMap_cons, ih]; rfl
    have main := ahead (Φ := call_ lw.tab k) (env := [some (tG g), none, none, none, none, none]) (h := h) (l := idx g) (acc := []) (t := .tup [2, 3]) (it := .enum (.loc 0)) (own := [2, 3, 4, 5]) (gs := [.mk (.loc 4) (.loc 3) [], .mk (.loc 5) (.ix (.loc 0) (.loc 4)) []]) (K := eltF (ev (call_ lw.tab k) (.tup [(.loc 2), (.loc 4), (.loc 5)])))
      (fun a => .tup [dN a, tN (row g a)]) (fun a => (row g a).flatMap fun b => (row g b).filterMap fun c => some (tN [a, b, c])) (hw none) (fun a ha => ?_) (by rw [← e]; simp; omega)
    · rw [e]
      exact main
    · have ha' : a < g.length := by unfold idx at ha; simpa using ha
      refine ⟨[some (tG g), none, some (dN a), some (tN (row g a)), none, none], rfl, fun acc hl => ?_⟩
      refine ahead (l := row g a) dN (fun b => (row g b).filterMap fun c => some (tN [a, b, c])) (evW_gen_ok (x := (tN (row g a), false)) rfl (ev_loc_ok rfl) rfl) (fun b hb => ?_) hl
      have hb' : b < g.length := ((v.rowOk ha').2 b hb).1
      refine ⟨[some (tG g), none, some (dN a), some (tN (row g a)), some (dN b), none], rfl, fun acc hl => ?_⟩
      refine lastM (l := row g b) dN (fun c => some (tN [a, b, c])) (evW_gen_ok (x := (tN (row g b), false)) rfl (ev_ix_ok (x := (tG g, false)) (y := (dN b, false)) (ev_loc_ok rfl) (ev_loc_ok rfl) (ix_row hb')) rfl) (fun c hc => ?_) hl
      refine ⟨[some (tG g), none, some (dN a), some (tN (row g a)), some (dN b), some (dN c)], rfl, evT_nil_ok, fun z hz => ⟨false, ?_⟩⟩
      cases hz
      exact ev_tup_ok (ds := [dN a, dN b, dN c]) (evL_cons_ok (z := (dN a, false)) rfl (ev_loc_ok rfl) (evL_cons_ok (z := (dN b, false)) rfl (ev_loc_ok rfl) (evL_cons_ok (z := (dN c, false)) rfl (ev_loc_ok rfl) evL_nil_ok))) size3
  refine (call_ret (h1 := h) (d := .lst ((r3t g).map tN)) (fr := true) lk_r3 rfl ((ss_nx (env' := [some (tG g), some (.lst ((tri g).map fun t => tN [t.1, t.2.1, t.2.2])), none, none, none, none]) (h' := h) (asg_ok c1)).trans (ss_rt (ret_ok ?_)))).trans (fin_bel fun n => belL_tN _ n)
  have e2 : (r3t g).map tN = (tri g).filterMap fun t => if t.1 < min t.2.1 t.2.2 ∧ t.1 ∈ row g t.2.2 then some (tN [t.1, t.2.1, t.2.2]) else none := by
    unfold r3t
    rw [List.map_filterMap]
    refine fmap_congr fun t _ => ?_
    split <;> rfl
  rw [e2]
  refine comp1M (l := tri g) (fun t => tN [t.1, t.2.1, t.2.2]) _ (evW_gen_ok (x := (.lst ((tri g).map fun t => tN [t.1, t.2.1, t.2.2]), false)) rfl (ev_loc_ok rfl) rfl) (by omega) ?_
  rintro ⟨a, b, c⟩ ht
  obtain ⟨ha, hb, hc⟩ := tri_mem.mp ht
  have hb' : b < g.length := ((v.rowOk ha).2 b hb).1
  have hc' : c < g.length := ((v.rowOk hb').2 c hc).1
  refine ⟨[some (tG g), some (.lst ((tri g).map fun t => tN [t.1, t.2.1, t.2.2])), some (dN a), none, some (dN b), some (dN c)], rfl, ?_, fun z hz => ⟨false, ?_⟩⟩
  · have c2 : ev (call_ lw.tab k) (.cmp .lt (.loc 2) (.bi .min [(.loc 4), (.loc 5)])) [some (tG g), some (.lst ((tri g).map fun t => tN [t.1, t.2.1, t.2.2])), some (dN a), none, some (dN b), some (dN c)] h = .ok (.bl (decide (a < min b c)), false) h :=
      ev_cmp_ok (x := (dN a, false)) (y := (dN (min b c), false)) (ev_loc_ok rfl) (ev_bi_ok (ds := [dN b, dN c]) (evL_cons_ok (z := (dN b, false)) rfl (ev_loc_ok rfl) (evL_cons_ok (z := (dN c, false)) rfl (ev_loc_ok rfl) evL_nil_ok)) (min_num b c)) (lt_num a _)
    have c3 : ev (call_ lw.tab k) (.cmp .isin (.loc 2) (.ix (.loc 0) (.loc 5))) [some (tG g), some (.lst ((tri g).map fun t => tN [t.1, t.2.1, t.2.2])), some (dN a), none, some (dN b), some (dN c)] h = .ok (.bl (decide (a ∈ row g c)), false) h :=
      ev_cmp_ok (x := (dN a, false)) (y := (tN (row g c), false)) (ev_loc_ok rfl) (ev_ix_ok (x := (tG g, false)) (y := (dN c, false)) (ev_loc_ok rfl) (ev_loc_ok rfl) (ix_row hc')) (in_row a _)
    obtain ⟨f, c4⟩ := ev_and_ok c2 (fun _ => c3)
    rw [evT_one_ok c4]
    congr 1
    show (decide (a < min b c) && decide (a ∈ row g c)) = (if a < min b c ∧ a ∈ row g c then some (tN [a, b, c]) else none).isSome
    by_cases h1 : a < min b c
    · by_cases h2 : a ∈ row g c
      · rw [if_pos ⟨h1, h2⟩, decide_eq_true h1, decide_eq_true h2]; rfl
      · rw [if_neg (fun z => h2 z.2), decide_eq_false h2, Bool.and_false]; rfl
    · rw [if_neg (fun z => h1 z.1), decide_eq_false h1, Bool.false_and]; rfl
  · have hz : (if a < min b c ∧ a ∈ row g c then some (tN [a, b, c]) else none) = some z := hz
    split at hz
    · cases hz
      exact ev_tup_ok (ds := [dN a, dN b, dN c]) (evL_cons_ok (z := (dN a, false)) rfl (ev_loc_ok rfl) (evL_cons_ok (z := (dN b, false)) rfl (ev_loc_ok rfl) (evL_cons_ok (z := (dN c, false)) rfl (ev_loc_ok rfl) evL_nil_ok))) size3
    · cases hz
end Lk76

set_option Elab.async false
set_option linter.all false
set_option maxRecDepth 100000
set_option maxHeartbeats 1000000
/-! k76: rounds as they are asked for. -/
namespace Lk76
open PySem PySem.Spec PyProof.Rows L2 Fz
theorem lk_by : look lw.tab "rounds_by" = some ⟨"rounds_by", ["gifts", "size"], r_rounds_by.N, b_rounds_by⟩ := lf.lk r_rounds_by (by simp [lw])
theorem lk_rounds : look lw.tab "rounds" = some ⟨"rounds", ["gifts", "size"], r_rounds.N, b_rounds⟩ := lf.lk r_rounds (by simp [lw])
def more (g : List (List Nat)) (s : Nat) : List (List Nat) := if s = 3 then r3t g else []
def rd (g : List (List Nat)) (s : Nat) : List (List Nat) := sortN (r2 g ++ more g s)
theorem r2_mem {g : List (List Nat)} {x : List Nat} : x ∈ r2 g ↔ ∃ a b, x = [a, b] ∧ a < g.length ∧ b ∈ row g a ∧ a < b ∧ a ∈ row g b := by
  unfold r2 idx
  simp only [List.mem_flatMap, List.mem_range, List.mem_filterMap]
  constructor
  · rintro ⟨a, ha, b, hb, e⟩
    split at e
    · rename_i hc
      cases e
      exact ⟨a, b, rfl, ha, hb, hc.1, hc.2⟩
    · cases e
  · rintro ⟨a, b, rfl, ha, hb, h1, h2⟩
    exact ⟨a, ha, b, hb, by rw [if_pos ⟨h1, h2⟩]⟩
theorem r3_mem {g : List (List Nat)} {x : List Nat} : x ∈ r3t g ↔ ∃ a b c, x = [a, b, c] ∧ a < g.length ∧ b ∈ row g a ∧ c ∈ row g b ∧ a < b ∧ a < c ∧ a ∈ row g c := by
  unfold r3t
  simp only [List.mem_filterMap]
  constructor
  · rintro ⟨⟨a, b, c⟩, ht, e⟩
    obtain ⟨ha, hb, hc⟩ := tri_mem.mp ht
    split at e
    · rename_i hc'
      cases e
      have h1 : a < min b c := hc'.1
      exact ⟨a, b, c, rfl, ha, hb, hc, by omega, by omega, hc'.2⟩
    · cases e
  · rintro ⟨a, b, c, rfl, ha, hb, hc, h1, h2, h3⟩
    refine ⟨(a, b, c), tri_mem.mpr ⟨ha, hb, hc⟩, ?_⟩
    have h4 : a < min b c := by omega
    exact if_pos ⟨h4, h3⟩
theorem rd_ne {g : List (List Nat)} {s : Nat} : ∀ x ∈ r2 g ++ more g s, x ≠ [] := by
  intro x hx
  rcases List.mem_append.mp hx with h | h
  · obtain ⟨a, b, rfl, _⟩ := r2_mem.mp h
    simp
  · unfold more at h
    split at h
    · obtain ⟨a, b, c, rfl, _⟩ := r3_mem.mp h
      simp
    · simp at h
theorem more_len {g : List (List Nat)} (v : GV g) (s : Nat) : (more g s).length ≤ 512 := by
  unfold more
  split
  · refine Nat.le_trans ?_ (tri_len v)
    unfold r3t
    exact List.length_filterMap_le _ _
  · simp
theorem e_by (k : Nat) {g : List (List Nat)} (v : GV g) (s : Nat) (h : LH) : call_ lw.tab (k + 2) "rounds_by" [tG g, dN s] h = .ok (tG (rd g s), false) h := by
  have t1 := thousand
  have l2 := r2_len v
  have l3 := more_len v s
  have c0 : ev (call_ lw.tab (k + 1)) (.cmp .eq (.loc 1) (.glob "MOST_SIZE" (.int 3))) [some (tG g), some (dN s), none] h = .ok (.bl (decide (s = 3)), false) h := by
    refine ev_cmp_ok (x := (dN s, false)) (y := (dN 3, false)) (ev_loc_ok rfl) ev_glob_ok ?_
    show (match Fz.plain 30 (dN s) && Fz.plain 30 (dN 3) with
      | true => val (.bl (eqD (dN s) (dN 3))) h
      | false => Res.no) = _
    rw [plain_dN, plain_dN, eqD_dN]
    rfl
  have c1 : ∃ fr, ev (call_ lw.tab (k + 1)) (.ite (.cmp .eq (.loc 1) (.glob "MOST_SIZE" (.int 3))) (.call "rounds_of_three" [(.loc 0)]) (.lst [])) [some (tG g), some (dN s), none] h = .ok (.lst ((more g s).map tN), fr) h := by
    unfold more
    by_cases hs : s = 3
    · rw [decide_eq_true hs] at c0
      rw [if_pos hs]
      exact ⟨true, ev_ite_t c0 ((ev_call_ok (evL_cons_ok (z := (tG g, false)) rfl (ev_loc_ok rfl) evL_nil_ok)).trans (e_r3 k v h))⟩
    · rw [decide_eq_false hs] at c0
      rw [if_neg hs]
      exact ⟨true, ev_ite_f c0 (ev_lst_ok evL_nil_ok (Nat.zero_le _))⟩
  obtain ⟨fr, c1⟩ := c1
  refine (call_ret (h1 := h) (d := tG (rd g s)) (fr := false) lk_by rfl ((ss_nx (env' := [some (tG g), some (dN s), some (.lst ((more g s).map tN))]) (h' := h) (asg_ok c1)).trans (ss_rt (ret_ok ?_)))).trans (fin_bel fun n => bel_tG _ n)
  have c2 : ev (call_ lw.tab (k + 1)) (.bin .add (.call "rounds_of_two" [(.loc 0)]) (.loc 2)) [some (tG g), some (dN s), some (.lst ((more g s).map tN))] h = .ok (.lst ((r2 g ++ more g s).map tN), true) h := by
    refine ev_bin_ok (x := (.lst ((r2 g).map tN), true)) (y := (.lst ((more g s).map tN), false)) ((ev_call_ok (evL_cons_ok (z := (tG g, false)) rfl (ev_loc_ok rfl) evL_nil_ok)).trans (e_r2 k v h)) (ev_loc_ok rfl) ?_
    show newL ((r2 g).map tN ++ (more g s).map tN) h = _
    rw [List.map_append]
    exact newL_ok (by simp; omega)
  have c3 : ev (call_ lw.tab (k + 1)) (.bi .sorted [(.bin .add (.call "rounds_of_two" [(.loc 0)]) (.loc 2))]) [some (tG g), some (dN s), some (.lst ((more g s).map tN))] h = .ok (.lst ((rd g s).map tN), true) h :=
    ev_bi_ok (ds := [.lst ((r2 g ++ more g s).map tN)]) (evL_cons_ok rfl c2 evL_nil_ok) (bi_sorted_rows rfl rd_ne (by simp; omega))
  refine ev_bi_ok (ds := [.lst ((rd g s).map tN)]) (evL_cons_ok rfl c3 evL_nil_ok) (bi_tuple_lst rfl ?_)
  have : (rd g s).length = (r2 g ++ more g s).length := by
    unfold rd sortN
    rw [List.length_mergeSort]
  simp at this ⊢
  omega
theorem e_rounds (k : Nat) {g : List (List Nat)} (v : GV g) (s : Nat) (h2 : 2 ≤ s) (h3 : s ≤ 3) (h : LH) : call_ lw.tab (k + 7) "rounds" [tG g, dN s] h = .ok (tG (rd g s), false) h := by
  have a : evL (call_ lw.tab (k + 6)) [(.loc 0), (.loc 1)] [some (tG g), some (dN s)] h = .ok [tG g, dN s] h := evL_cons_ok (z := (tG g, false)) rfl (ev_loc_ok rfl) (evL_cons_ok (z := (dN s, false)) rfl (ev_loc_ok rfl) evL_nil_ok)
  exact (call_ret (h1 := h) (d := tG (rd g s)) (fr := false) lk_rounds rfl ((ss_nx (env' := [some (tG g), some (dN s)]) (h' := h) (expr_ok (d := (.non, false)) ((ev_call_ok a).trans (e_check_given k v (s : Int) (by omega) (by omega) h)))).trans (ss_rt (ret_ok ((ev_call_ok a).trans (e_by (k + 4) v s h)))))).trans (fin_bel fun n => bel_tG _ n)
end Lk76

set_option Elab.async false
set_option linter.all false
set_option maxRecDepth 100000
set_option maxHeartbeats 1000000
/-! k76: the law's own rounds. -/
namespace Lk76
open PySem PySem.Spec PyProof.Rows L2 Fz
/-- rows gathered in a cell made behind h0 -/
structure FS (h0 h' : LH) (L : Nat) (acc : List (List Nat)) : Prop where
  at_ : h'[L]? = some (.lst (acc.map tN))
  le : h0.length ≤ L
  tk : h'.take h0.length = h0
theorem FS.lt {h0 h' : LH} {L : Nat} {acc : List (List Nat)} (f : FS h0 h' L acc) : L < h'.length := (List.getElem?_eq_some_iff.mp f.at_).1
theorem FS.put {h0 h' : LH} {L : Nat} {acc acc' : List (List Nat)} (f : FS h0 h' L acc) : FS h0 (h'.set L (.lst (acc'.map tN))) L acc' :=
  ⟨by rw [List.getElem?_set_self f.lt], f.le, by rw [List.take_set_of_le f.le]; exact f.tk⟩
theorem FS.new {h0 h' : LH} {L : Nat} {acc acc' : List (List Nat)} (f : FS h0 h' L acc) : FS h0 (h' ++ [.lst (acc'.map tN)]) h'.length acc' :=
  ⟨by rw [List.getElem?_append_right (Nat.le_refl _)]; simp, Nat.le_trans f.le (Nat.le_of_lt f.lt), by rw [List.take_append_of_le_length (Nat.le_trans f.le (Nat.le_of_lt f.lt))]; exact f.tk⟩
theorem FS.first (h0 : LH) (acc : List (List Nat)) : FS h0 (h0 ++ [.lst (acc.map tN)]) h0.length acc :=
  ⟨by rw [List.getElem?_append_right (Nat.le_refl _)]; simp, Nat.le_refl _, by rw [List.take_append_of_le_length (Nat.le_refl _), List.take_length]⟩
theorem append_ok {h0 h' : LH} {L : Nat} {acc : List (List Nat)} {r : List Nat} (f : FS h0 h' L acc) (hl : acc.length + 1 ≤ sizeLine) : methD .append (.cell L) [tN r] h' = .ok (.non, false) (h'.set L (.lst ((acc ++ [r]).map tN))) := by
  have hz : (acc.map tN ++ [tN r]).length ≤ sizeLine := by simpa using hl
  have hb : belL L (acc.map tN ++ [tN r]) = true := by
    have := belL_tN (acc ++ [r]) L
    simpa using this
  have e : putL L (acc.map tN ++ [tN r]) h' = .ok () (h'.set L (.lst (acc.map tN ++ [tN r]))) := by
    unfold putL
    rw [hb, decide_eq_true hz]
    rfl
  simp only [methD, f.at_]
  refine (then_ok e).trans ?_
  rw [List.map_append]
  rfl
theorem ev_meth_ok {Φ : Str → List D → M DF} {h h1 h2 h3 : LH} {env : Fz.Env} {m : Me} {o : E} {es : List E} {x z : DF} {ds : List D} (e : ev Φ o env h = .ok x h1) (r : recv m (der h1 x.1) = true) (a : evL Φ es env h1 = .ok ds h2) (q : methD m x.1 ds h2 = .ok z h3) : ev Φ (.meth m o es) env h = .ok z h3 := by
  simp only [ev]
  refine (then_ok e).trans ?_
  simp only [r]
  exact (then_ok a).trans q
theorem bin_add_lst {h : LH} {a b : D} {xs ys : List D} (e1 : der h a = .lst xs) (e2 : der h b = .lst ys) (hl : xs.length + ys.length ≤ sizeLine) : binD .add a b h = .ok (.lst (xs ++ ys), true) h := by
  unfold binD
  rw [e1, e2]
  exact newL_ok (by simpa using hl)
theorem lk_lr : look lw.tab "_law_rounds" = some ⟨"_law_rounds", ["gifts", "size"], r__law_rounds.N, b__law_rounds⟩ := lf.lk r__law_rounds (by simp [lw])
abbrev lE (g : List (List Nat)) (s L : Nat) (o3 o4 o5 o6 : Option D) : Fz.Env := [some (tG g), some (dN s), some (.cell L), o3, o4, o5, o6]
/-- what two persons give -/
def T2 (g : List (List Nat)) (a b : Nat) : List (List Nat) := if a ∈ row g b then [[a, b]] else []
def T3 (g : List (List Nat)) (s a b : Nat) : List (List Nat) := if 2 < s then (row g b).filterMap fun c => if a < c ∧ c ≠ b ∧ a ∈ row g c then some [a, b, c] else none else []
theorem T2_len (g : List (List Nat)) (a b : Nat) : (T2 g a b).length ≤ 1 := by unfold T2; split <;> simp
theorem T3_len {g : List (List Nat)} (v : GV g) (s a b : Nat) : (T3 g s a b).length ≤ 8 := by
  unfold T3
  split
  · exact Nat.le_trans (List.length_filterMap_le _ _) (v.rowLen b)
  · simp
theorem step2 (k : Nat) {g : List (List Nat)} {s a b L : Nat} {o5 o6 : Option D} {h0 h' : LH} {acc : List (List Nat)} (hb : b < g.length) (f : FS h0 h' L acc) (hl : acc.length + 1 ≤ sizeLine) :
    ∃ h'', evS (call_ lw.tab k) (.ife (.cmp .isin (.loc 3) (.ix (.loc 0) (.loc 4))) [.expr (.meth .append (.loc 2) [(.tup [(.loc 3), (.loc 4)])])] []) (lE g s L (some (dN a)) (some (dN b)) o5 o6) h' = .ok (.nx (lE g s L (some (dN a)) (some (dN b)) o5 o6)) h'' ∧ FS h0 h'' L (acc ++ T2 g a b) := by
  have t1 := thousand
  have c : ev (call_ lw.tab k) (.cmp .isin (.loc 3) (.ix (.loc 0) (.loc 4))) (lE g s L (some (dN a)) (some (dN b)) o5 o6) h' = .ok (.bl (decide (a ∈ row g b)), false) h' :=
    ev_cmp_ok (x := (dN a, false)) (y := (tN (row g b), false)) (ev_loc_ok rfl) (ev_ix_ok (x := (tG g, false)) (y := (dN b, false)) (ev_loc_ok rfl) (ev_loc_ok rfl) (ix_row hb)) (in_row a _)
  unfold T2
  by_cases hm : a ∈ row g b
  · rw [decide_eq_true hm] at c
    rw [if_pos hm]
    refine ⟨_, (ife_t c).trans ((ss_nx (env' := lE g s L (some (dN a)) (some (dN b)) o5 o6) (h' := h'.set L (.lst ((acc ++ [[a, b]]).map tN))) (expr_ok (d := (.non, false)) ?_)).trans rfl), f.put⟩
    have e0 : evL (call_ lw.tab k) [(.tup [(.loc 3), (.loc 4)])] (lE g s L (some (dN a)) (some (dN b)) o5 o6) h' = .ok [tN [a, b]] h' :=
      evL_cons_ok (z := (tN [a, b], false)) rfl (ev_tup_ok (ds := [dN a, dN b]) (evL_cons_ok (z := (dN a, false)) rfl (ev_loc_ok rfl) (evL_cons_ok (z := (dN b, false)) rfl (ev_loc_ok rfl) evL_nil_ok)) (by show 2 ≤ sizeLine; omega)) evL_nil_ok
    have e1 : ev (call_ lw.tab k) (.loc 2) (lE g s L (some (dN a)) (some (dN b)) o5 o6) h' = .ok (.cell L, false) h' := ev_loc_ok rfl
    exact ev_meth_ok e1 (by rw [der_cell f.at_]; rfl) e0 (append_ok f hl)
  · rw [decide_eq_false hm] at c
    rw [if_neg hm, List.append_nil]
    exact ⟨h', (ife_f c).trans rfl, f⟩
theorem step3 (k : Nat) {g : List (List Nat)} (v : GV g) {s a b L : Nat} {o5 : Option D} {h0 h' : LH} {acc : List (List Nat)} (hb : b < g.length) (f : FS h0 h' L acc) (hl : acc.length + 8 ≤ sizeLine) :
    ∃ h'' L', evS (call_ lw.tab k) (.ife (.cmp .gt (.loc 1) (.con (.int 2))) [.asg 2 (.mk (.bin .add (.loc 2) (.comp (.tup [(.loc 3), (.loc 4), (.loc 6)]) [.mk (.loc 6) (.ix (.loc 0) (.loc 4)) [(.and (.cmp .gt (.loc 6) (.loc 3)) (.and (.cmp .ne (.loc 6) (.loc 4)) (.cmp .isin (.loc 3) (.ix (.loc 0) (.loc 6)))))]] [6])))] []) (lE g s L (some (dN a)) (some (dN b)) o5 none) h' = .ok (.nx (lE g s L' (some (dN a)) (some (dN b)) o5 none)) h'' ∧ FS h0 h'' L' (acc ++ T3 g s a b) := by
  have t1 := thousand
  have c : ev (call_ lw.tab k) (.cmp .gt (.loc 1) (.con (.int 2))) (lE g s L (some (dN a)) (some (dN b)) o5 none) h' = .ok (.bl (decide (2 < s)), false) h' :=
    ev_cmp_ok (x := (dN s, false)) (y := (dN 2, false)) (ev_loc_ok rfl) ev_con_ok (gt_num s 2)
  unfold T3
  by_cases hs : 2 < s
  · rw [decide_eq_true hs] at c
    rw [if_pos hs]
    have cc : ev (call_ lw.tab k) (.comp (.tup [(.loc 3), (.loc 4), (.loc 6)]) [.mk (.loc 6) (.ix (.loc 0) (.loc 4)) [(.and (.cmp .gt (.loc 6) (.loc 3)) (.and (.cmp .ne (.loc 6) (.loc 4)) (.cmp .isin (.loc 3) (.ix (.loc 0) (.loc 6)))))]] [6]) (lE g s L (some (dN a)) (some (dN b)) o5 none) h' = .ok (.lst (((row g b).filterMap fun c => if a < c ∧ c ≠ b ∧ a ∈ row g c then some [a, b, c] else none).map tN), true) h' := by
      have e : (((row g b).filterMap fun c => if a < c ∧ c ≠ b ∧ a ∈ row g c then some [a, b, c] else none).map tN) = (row g b).filterMap fun c => if a < c ∧ c ≠ b ∧ a ∈ row g c then some (tN [a, b, c]) else none := by
        rw [List.map_filterMap]
        refine fmap_congr fun t _ => ?_
        split <;> rfl
      rw [e]
      refine comp1M (l := row g b) dN _ (evW_gen_ok (x := (tN (row g b), false)) rfl (ev_ix_ok (x := (tG g, false)) (y := (dN b, false)) (ev_loc_ok rfl) (ev_loc_ok rfl) (ix_row hb)) rfl) (by have := v.rowLen b; omega) ?_
      intro c hc
      have hc' : c < g.length := ((v.rowOk hb).2 c hc).1
      refine ⟨lE g s L (some (dN a)) (some (dN b)) o5 (some (dN c)), rfl, ?_, fun z hz => ⟨false, ?_⟩⟩
      · have c1 : ev (call_ lw.tab k) (.cmp .gt (.loc 6) (.loc 3)) (lE g s L (some (dN a)) (some (dN b)) o5 (some (dN c))) h' = .ok (.bl (decide (a < c)), false) h' := ev_cmp_ok (x := (dN c, false)) (y := (dN a, false)) (ev_loc_ok rfl) (ev_loc_ok rfl) (gt_num c a)
        have c2 : ev (call_ lw.tab k) (.cmp .ne (.loc 6) (.loc 4)) (lE g s L (some (dN a)) (some (dN b)) o5 (some (dN c))) h' = .ok (.bl (!decide (c = b)), false) h' := ev_cmp_ok (x := (dN c, false)) (y := (dN b, false)) (ev_loc_ok rfl) (ev_loc_ok rfl) (ne_num c b)
        have c3 : ev (call_ lw.tab k) (.cmp .isin (.loc 3) (.ix (.loc 0) (.loc 6))) (lE g s L (some (dN a)) (some (dN b)) o5 (some (dN c))) h' = .ok (.bl (decide (a ∈ row g c)), false) h' :=
          ev_cmp_ok (x := (dN a, false)) (y := (tN (row g c), false)) (ev_loc_ok rfl) (ev_ix_ok (x := (tG g, false)) (y := (dN c, false)) (ev_loc_ok rfl) (ev_loc_ok rfl) (ix_row hc')) (in_row a _)
        obtain ⟨f1, c4⟩ := ev_and_ok c2 (fun _ => c3)
        obtain ⟨f2, c5⟩ := ev_and_ok c1 (fun _ => c4)
        rw [evT_one_ok c5]
        congr 1
        by_cases h1 : a < c <;> by_cases h2 : c = b <;> by_cases h3 : a ∈ row g c <;> simp [h1, h2, h3]
      · split at hz
        · cases hz
          exact ev_tup_ok (ds := [dN a, dN b, dN c]) (evL_cons_ok (z := (dN a, false)) rfl (ev_loc_ok rfl) (evL_cons_ok (z := (dN b, false)) rfl (ev_loc_ok rfl) (evL_cons_ok (z := (dN c, false)) rfl (ev_loc_ok rfl) evL_nil_ok))) size3
        · cases hz
    generalize hX : ((row g b).filterMap fun c => if a < c ∧ c ≠ b ∧ a ∈ row g c then some [a, b, c] else none) = X at cc ⊢
    have hX8 : X.length ≤ 8 := by rw [← hX]; exact Nat.le_trans (List.length_filterMap_le _ _) (v.rowLen b)
    have cb : ev (call_ lw.tab k) (.bin .add (.loc 2) (.comp (.tup [(.loc 3), (.loc 4), (.loc 6)]) [.mk (.loc 6) (.ix (.loc 0) (.loc 4)) [(.and (.cmp .gt (.loc 6) (.loc 3)) (.and (.cmp .ne (.loc 6) (.loc 4)) (.cmp .isin (.loc 3) (.ix (.loc 0) (.loc 6)))))]] [6])) (lE g s L (some (dN a)) (some (dN b)) o5 none) h' = .ok (.lst ((acc ++ X).map tN), true) h' := by
      refine ev_bin_ok (x := (.cell L, false)) (y := (.lst (X.map tN), true)) (ev_loc_ok rfl) cc ?_
      rw [List.map_append]
      exact bin_add_lst (der_cell f.at_) rfl (by simp; omega)
    exact ⟨_, h'.length, (ife_t c).trans ((ss_nx (asg_ok (ev_mk_ok cb (mkC_ok (belL_tN _ _))))).trans rfl), f.new⟩
  · rw [decide_eq_false hs] at c
    rw [if_neg hs, List.append_nil]
    exact ⟨h', L, (ife_f c).trans rfl, f⟩
end Lk76

set_option Elab.async false
set_option linter.all false
set_option maxRecDepth 100000
set_option maxHeartbeats 1000000
/-! k76: the law's own rounds, whole. -/
namespace Lk76
open PySem PySem.Spec PyProof.Rows L2 Fz
def TT (g : List (List Nat)) (s a b : Nat) : List (List Nat) := T2 g a b ++ T3 g s a b
theorem TT_len {g : List (List Nat)} (v : GV g) (s a b : Nat) : (TT g s a b).length ≤ 9 := by
  have h1 := T2_len g a b
  have h2 := T3_len v s a b
  unfold TT
  rw [List.length_append]
  omega
def later (g : List (List Nat)) (a : Nat) : List Nat := (row g a).filter fun b => decide (a < b)
def lr (g : List (List Nat)) (s : Nat) : List (List Nat) := (idx g).flatMap fun a => (later g a).flatMap fun b => TT g s a b
theorem forM_cons {all : List D} {k : D → Fz.Env → M Fl} {x : D} {r : List D} {env env' : Fz.Env} {h h' : LH} (e : k x env h = .ok (.nx env') h') : forM_ none all k (x :: r) env h = forM_ none all k r env' h' := by
  show M.then (k x env) _ h = _
  exact (then_ok e).trans rfl
abbrev body2 : List S := [.ife (.cmp .isin (.loc 3) (.ix (.loc 0) (.loc 4))) [.expr (.meth .append (.loc 2) [(.tup [(.loc 3), (.loc 4)])])] [], .ife (.cmp .gt (.loc 1) (.con (.int 2))) [.asg 2 (.mk (.bin .add (.loc 2) (.comp (.tup [(.loc 3), (.loc 4), (.loc 6)]) [.mk (.loc 6) (.ix (.loc 0) (.loc 4)) [(.and (.cmp .gt (.loc 6) (.loc 3)) (.and (.cmp .ne (.loc 6) (.loc 4)) (.cmp .isin (.loc 3) (.ix (.loc 0) (.loc 6)))))]] [6])))] []]
theorem inner_loop (k : Nat) {g : List (List Nat)} (v : GV g) {s a : Nat} {o5 : Option D} {h0 : LH} {all : List D} : ∀ (ys : List Nat) (L : Nat) (o4 : Option D) (acc : List (List Nat)) (h' : LH), (∀ b ∈ ys, b < g.length) → acc.length + 9 * ys.length ≤ 1000 → FS h0 h' L acc →
    ∃ h'' L' o4', forM_ none all (fun x env => M.then (ofO (bindT (.loc 4) x env)) fun e => evSs (call_ lw.tab k) body2 e) (ys.map dN) (lE g s L (some (dN a)) o4 o5 none) h' = .ok (.nx (lE g s L' (some (dN a)) o4' o5 none)) h'' ∧ FS h0 h'' L' (acc ++ ys.flatMap fun b => TT g s a b)
  | [], L, o4, acc, h', _, _, f => ⟨h', L, o4, rfl, by simpa using f⟩
  | b :: ys, L, o4, acc, h', hm, hl, f => by
    have t1 := thousand
    rw [List.length_cons] at hl
    have hb := hm b List.mem_cons_self
    obtain ⟨h1, e1, f1⟩ := step2 k (s := s) (a := a) (o5 := o5) (o6 := none) hb f (by omega)
    have l2 := T2_len g a b
    obtain ⟨h2, L2, e2, f2⟩ := step3 k v (s := s) (a := a) (o5 := o5) hb f1 (by rw [List.length_append]; omega)
    have lT := TT_len v s a b
    obtain ⟨h3, L3, o4', e3, f3⟩ := inner_loop k v (s := s) (a := a) (o5 := o5) (h0 := h0) (all := all) ys L2 (some (dN b)) (acc ++ TT g s a b) h2 (fun y hy => hm y (List.mem_cons_of_mem _ hy)) (by rw [List.length_append]; omega) (by unfold TT; rw [← List.append_assoc]; exact f2)
    refine ⟨h3, L3, o4', ?_, by rw [List.flatMap_cons, ← List.append_assoc]; exact f3⟩
    rw [List.map_cons]
    refine (forM_cons (env' := lE g s L2 (some (dN a)) (some (dN b)) o5 none) (h' := h2) ?_).trans e3
    show evSs (call_ lw.tab k) body2 (lE g s L (some (dN a)) (some (dN b)) o5 none) h' = _
    exact (ss_nx e1).trans ((ss_nx e2).trans rfl)
abbrev body1 : List S := [.for_ (.loc 4) (.comp (.loc 5) [.mk (.loc 5) (.ix (.loc 0) (.loc 3)) [(.cmp .gt (.loc 5) (.loc 3))]] [5]) body2]
theorem later_len {g : List (List Nat)} (v : GV g) (a : Nat) : (later g a).length ≤ 8 := Nat.le_trans (List.length_filter_le _ _) (v.rowLen a)
theorem flat_len {g : List (List Nat)} (v : GV g) (s a : Nat) : ((later g a).flatMap fun b => TT g s a b).length ≤ 72 := by
  have h1 := flatMap_le (l := later g a) (f := fun b => TT g s a b) (m := 9) fun b _ => TT_len v s a b
  have h2 := later_len v a
  omega
theorem outer_loop (k : Nat) {g : List (List Nat)} (v : GV g) {s : Nat} {h0 : LH} {all : List D} : ∀ (as : List Nat) (L : Nat) (o3 o4 : Option D) (acc : List (List Nat)) (h' : LH), (∀ a ∈ as, a < g.length) → acc.length + 72 * as.length ≤ 800 → FS h0 h' L acc →
    ∃ h'' L' o3' o4', forM_ none all (fun x env => M.then (ofO (bindT (.loc 3) x env)) fun e => evSs (call_ lw.tab k) body1 e) (as.map dN) (lE g s L o3 o4 none none) h' = .ok (.nx (lE g s L' o3' o4' none none)) h'' ∧ FS h0 h'' L' (acc ++ as.flatMap fun a => (later g a).flatMap fun b => TT g s a b)
  | [], L, o3, o4, acc, h', _, _, f => ⟨h', L, o3, o4, rfl, by simpa using f⟩
  | a :: as, L, o3, o4, acc, h', hm, hl, f => by
    have t1 := thousand
    rw [List.length_cons] at hl
    have ha := hm a List.mem_cons_self
    have c : ev (call_ lw.tab k) (.comp (.loc 5) [.mk (.loc 5) (.ix (.loc 0) (.loc 3)) [(.cmp .gt (.loc 5) (.loc 3))]] [5]) (lE g s L (some (dN a)) o4 none none) h' = .ok (.lst ((later g a).map dN), true) h' := by
      have e : (later g a).map dN = (row g a).filterMap fun b => if a < b then some (dN b) else none := by
        unfold later
        induction row g a with
        | nil => rfl
        | cons x t ih =>
          rw [List.filter_cons, List.filterMap_cons]
          by_cases hx : a < x
          · simp only [decide_eq_true hx, if_true, List.map_cons, ih, if_pos hx]
          · simp only [decide_eq_false hx, if_neg hx, Bool.false_eq_true, if_false, ih]
      rw [e]
      refine comp1M (l := row g a) dN _ (evW_gen_ok (x := (tN (row g a), false)) rfl (ev_ix_ok (x := (tG g, false)) (y := (dN a, false)) (ev_loc_ok rfl) (ev_loc_ok rfl) (ix_row ha)) rfl) (by have := v.rowLen a; omega) ?_
      intro b hb
      refine ⟨lE g s L (some (dN a)) o4 (some (dN b)) none, rfl, ?_, fun z hz => ⟨false, ?_⟩⟩
      · rw [evT_one_ok (ev_cmp_ok (x := (dN b, false)) (y := (dN a, false)) (ev_loc_ok rfl) (ev_loc_ok rfl) (gt_num b a))]
        congr 1
        by_cases h1 : a < b <;> simp [h1]
      · split at hz
        · cases hz
          exact ev_loc_ok rfl
        · cases hz
    have lt := later_len v a
    have lf' := flat_len v s a
    obtain ⟨h2, L2, o4', e2, f2⟩ := inner_loop k v (s := s) (a := a) (o5 := none) (h0 := h0) (all := (later g a).map dN) (later g a) L o4 acc h' (fun b hb => ((v.rowOk ha).2 b (List.mem_filter.mp hb).1).1) (by omega) f
    obtain ⟨h3, L3, o3'', o4'', e3, f3⟩ := outer_loop k v (s := s) (h0 := h0) (all := all) as L2 (some (dN a)) o4' (acc ++ (later g a).flatMap fun b => TT g s a b) h2 (fun y hy => hm y (List.mem_cons_of_mem _ hy)) (by rw [List.length_append]; omega) f2
    refine ⟨h3, L3, o3'', o4'', ?_, by rw [List.flatMap_cons, ← List.append_assoc]; exact f3⟩
    rw [List.map_cons]
    refine (forM_cons (env' := lE g s L2 (some (dN a)) o4' none none) (h' := h2) ?_).trans e3
    show evSs (call_ lw.tab k) body1 (lE g s L (some (dN a)) o4 none none) h' = _
    exact (ss_nx ((for_run (w := ((later g a).map dN, none)) (evW_gen_ok rfl c rfl)).trans e2)).trans rfl
theorem lr_len {g : List (List Nat)} (v : GV g) (s : Nat) : (lr g s).length ≤ 576 := by
  have h1 := flatMap_le (l := idx g) (f := fun a => (later g a).flatMap fun b => TT g s a b) (m := 72) fun a _ => flat_len v s a
  have h2 : (idx g).length ≤ 8 := by unfold idx; simpa using v.most
  have h3 : (idx g).length * 72 ≤ 576 := by omega
  exact Nat.le_trans h1 h3
theorem lr_mem {g : List (List Nat)} (v : GV g) {s : Nat} (hs : 2 ≤ s) (hs3 : s ≤ 3) {x : List Nat} : x ∈ lr g s ↔ x ∈ r2 g ++ more g s := by
  rw [List.mem_append, r2_mem]
  unfold lr idx TT
  simp only [List.mem_flatMap, List.mem_range, List.mem_append]
  constructor
  · rintro ⟨a, ha, b, hb, h⟩
    unfold later at hb
    obtain ⟨hb1, hb2⟩ := List.mem_filter.mp hb
    have hab := of_decide_eq_true hb2
    rcases h with h | h
    · unfold T2 at h
      split at h
      · rename_i hm
        have : x = [a, b] := by simpa using h
        exact .inl ⟨a, b, this, ha, hb1, hab, hm⟩
      · simp at h
    · unfold T3 at h
      split at h
      · rename_i h2
        simp only [List.mem_filterMap] at h
        obtain ⟨c, hc, e⟩ := h
        split at e
        · rename_i hcc
          cases e
          right
          unfold more
          rw [if_pos (by omega), r3_mem]
          exact ⟨a, b, c, rfl, ha, hb1, hc, hab, hcc.1, hcc.2.2⟩
        · cases e
      · simp at h
  · rintro (⟨a, b, rfl, ha, hb, h1, h2⟩ | h)
    · exact ⟨a, ha, b, List.mem_filter.mpr ⟨hb, decide_eq_true h1⟩, .inl (by unfold T2; rw [if_pos h2]; simp)⟩
    · unfold more at h
      split at h
      · rename_i h3
        obtain ⟨a, b, c, rfl, ha, hb, hc, h1, h2, h4⟩ := r3_mem.mp h
        have hb' : b < g.length := ((v.rowOk ha).2 b hb).1
        have hcb : c ≠ b := ((v.rowOk hb').2 c hc).2
        refine ⟨a, ha, b, List.mem_filter.mpr ⟨hb, decide_eq_true h1⟩, .inr ?_⟩
        unfold T3
        rw [if_pos (by omega), List.mem_filterMap]
        exact ⟨c, hc, by rw [if_pos ⟨h2, hcb, h4⟩]⟩
      · simp at h
theorem e_lr (k : Nat) {g : List (List Nat)} (v : GV g) {s : Nat} (hs : 2 ≤ s) (hs3 : s ≤ 3) (h : LH) : call_ lw.tab (k + 1) "_law_rounds" [tG g, dN s] h = .ok (tG (sortN (lr g s)), false) h := by
  have t1 := thousand
  have v8 := v.most
  have ll := lr_len v s
  have hn : ev (call_ lw.tab k) (.bi .len [(.loc 0)]) (lE g s h.length none none none none) (h ++ [.lst (([] : List (List Nat)).map tN)]) = .ok (.int ((g.map tN).length : Nat), false) (h ++ [.lst (([] : List (List Nat)).map tN)]) := ev_bi_ok (ds := [tG g]) (evL_cons_ok (z := (tG g, false)) rfl (ev_loc_ok rfl) evL_nil_ok) (bi_len_tup rfl)
  rw [List.length_map] at hn
  have s1 : evS (call_ lw.tab k) (.asg 2 (.mk (.lst []))) [some (tG g), some (dN s), none, none, none, none, none] h = .ok (.nx (lE g s h.length none none none none)) (h ++ [.lst (([] : List (List Nat)).map tN)]) :=
    asg_ok (ev_mk_ok (z := (.lst [], true)) (ev_lst_ok evL_nil_ok (Nat.zero_le _)) (mkC_ok rfl))
  obtain ⟨h2, L, o3, o4, e2, f2⟩ := outer_loop k v (s := s) (h0 := h) (all := (List.range g.length).map dN) (List.range g.length) h.length none none [] (h ++ [.lst (([] : List (List Nat)).map tN)]) (fun a ha => by simpa using ha) (by simp; omega) (FS.first h [])
  have s2 := for_run (Φ := call_ lw.tab k) (t := .loc 3) (body := body1) (evW_range_ok (by omega) rfl hn)
  have e3 := s2.trans e2
  rw [List.nil_append] at f2
  have f2 : FS h h2 L (lr g s) := f2
  have c3 : ev (call_ lw.tab k) (.bi .sorted [(.loc 2)]) (lE g s L o3 o4 none none) h2 = .ok (.lst ((sortN (lr g s)).map tN), true) h2 :=
    ev_bi_ok (ds := [.cell L]) (evL_cons_ok (z := (.cell L, false)) rfl (ev_loc_ok rfl) evL_nil_ok) (bi_sorted_rows (der_cell f2.at_) (fun x hx => rd_ne x ((lr_mem v hs hs3).mp hx)) (by omega))
  refine (call_ret (h1 := h2) (d := tG (sortN (lr g s))) (fr := false) lk_lr rfl ((ss_nx s1).trans ((ss_nx e3).trans (ss_rt (ret_ok (ev_bi_ok (ds := [.lst ((sortN (lr g s)).map tN)]) (evL_cons_ok rfl c3 evL_nil_ok) (bi_tuple_lst rfl ?_))))))).trans ?_
  · have : (sortN (lr g s)).length = (lr g s).length := by unfold sortN; rw [List.length_mergeSort]
    simp
    omega
  · rw [fin_cut (bel_tG _ _), f2.tk]
end Lk76

set_option Elab.async false
set_option linter.all false
set_option maxRecDepth 100000
set_option maxHeartbeats 1000000
/-! k76: each round once; the law's own rounds are the rounds told. -/
namespace Lk76
open PySem PySem.Spec PyProof.Rows L2 Fz
theorem nodup_fm {α β κ : Type} (f : α → List β) (key : β → κ) (kk : α → κ) : ∀ (l : List α), (∀ a ∈ l, ∀ b ∈ l, kk a = kk b → a = b) → l.Nodup → (∀ a ∈ l, (f a).Nodup ∧ ∀ x ∈ f a, key x = kk a) → (l.flatMap f).Nodup
  | [], _, _, _ => by simp
  | x :: r, inj, nd, each => by
    rw [List.flatMap_cons, List.nodup_append]
    have nd' := List.nodup_cons.mp nd
    refine ⟨(each x List.mem_cons_self).1, nodup_fm f key kk r (fun a ha b hb => inj a (List.mem_cons_of_mem _ ha) b (List.mem_cons_of_mem _ hb)) nd'.2 fun a ha => each a (List.mem_cons_of_mem _ ha), ?_⟩
    intro y hy z hz e
    subst e
    obtain ⟨b, hb, hyb⟩ := List.mem_flatMap.mp hz
    have e1 := (each x List.mem_cons_self).2 y hy
    have e2 := (each b (List.mem_cons_of_mem _ hb)).2 y hyb
    have := inj x List.mem_cons_self b (List.mem_cons_of_mem _ hb) (e1.symm.trans e2)
    subst this
    exact nd'.1 hb
theorem nodup_fmap {α β : Type} (f : α → Option β) {l : List α} (nd : l.Nodup) (inj : ∀ a ∈ l, ∀ b ∈ l, ∀ x, f a = some x → f b = some x → a = b) : (l.filterMap f).Nodup := by
  induction l with
  | nil => simp
  | cons x r ih =>
    have nd' := List.nodup_cons.mp nd
    have ih := ih nd'.2 fun a ha b hb => inj a (List.mem_cons_of_mem _ ha) b (List.mem_cons_of_mem _ hb)
    rw [List.filterMap_cons]
    cases e : f x with
    | none => exact ih
    | some y =>
      refine List.nodup_cons.mpr ⟨fun m => ?_, ih⟩
      obtain ⟨b, hb, eb⟩ := List.mem_filterMap.mp m
      have := inj x List.mem_cons_self b (List.mem_cons_of_mem _ hb) y e eb
      subst this
      exact nd'.1 hb
theorem rising_nodup {l : List Nat} (h : l.Pairwise (· < ·)) : l.Nodup := h.imp fun {a b} hab => Nat.ne_of_lt hab
theorem GV.rowNodup {g : List (List Nat)} (v : GV g) (i : Nat) : (Lk76.row g i).Nodup := by
  by_cases hi : i < g.length
  · exact rising_nodup (v.rowOk hi).1
  · unfold Lk76.row
    simp [hi]
theorem idx_nodup (g : List (List Nat)) : (idx g).Nodup := List.nodup_range
theorem r2_nodup {g : List (List Nat)} (v : GV g) : (r2 g).Nodup := by
  unfold r2
  refine nodup_fm _ (fun x => x.head?) some _ (fun a _ b _ e => Option.some.inj e) (idx_nodup g) fun a _ => ⟨?_, fun x hx => ?_⟩
  · refine nodup_fmap _ (v.rowNodup a) fun b _ c _ x e1 e2 => ?_
    split at e1
    · split at e2
      · cases e1
        cases e2
        rfl
      · cases e2
    · cases e1
  · obtain ⟨b, _, e⟩ := List.mem_filterMap.mp hx
    split at e
    · cases e
      rfl
    · cases e
theorem tri_nodup {g : List (List Nat)} (v : GV g) : (tri g).Nodup := by
  unfold tri
  refine nodup_fm _ (fun t => t.1) id _ (fun a _ b _ e => e) (idx_nodup g) fun a _ => ⟨?_, fun x hx => ?_⟩
  · refine nodup_fm _ (fun t => t.2.1) id _ (fun a _ b _ e => e) (v.rowNodup a) fun b _ => ⟨?_, fun x hx => ?_⟩
    · have : (row g b).map (fun c => (a, b, c)) = (row g b).filterMap fun c => some (a, b, c) := by rw [List.filterMap_eq_map']
      rw [this]
      refine nodup_fmap _ (v.rowNodup b) fun c _ c' _ x e1 e2 => ?_
      cases e1
      cases e2
      rfl
    · obtain ⟨c, _, rfl⟩ := List.mem_map.mp hx
      rfl
  · obtain ⟨b, _, hb⟩ := List.mem_flatMap.mp hx
    obtain ⟨c, _, rfl⟩ := List.mem_map.mp hb
    rfl
theorem r3_nodup {g : List (List Nat)} (v : GV g) : (r3t g).Nodup := by
  unfold r3t
  refine nodup_fmap _ (tri_nodup v) ?_
  rintro ⟨a, b, c⟩ _ ⟨a', b', c'⟩ _ x e1 e2
  split at e1
  · split at e2
    · cases e1
      cases e2
      rfl
    · cases e2
  · cases e1
theorem told_nodup {g : List (List Nat)} (v : GV g) (s : Nat) : (r2 g ++ more g s).Nodup := by
  unfold more
  split
  · rw [List.nodup_append]
    refine ⟨r2_nodup v, r3_nodup v, fun x hx y hy e => ?_⟩
    obtain ⟨a, b, rfl, _⟩ := r2_mem.mp hx
    obtain ⟨a', b', c', rfl, _⟩ := r3_mem.mp hy
    cases e
  · rw [List.append_nil]
    exact r2_nodup v
theorem lr_nodup {g : List (List Nat)} (v : GV g) (s : Nat) : (lr g s).Nodup := by
  have m2 : ∀ a b x, x ∈ T2 g a b → x = [a, b] := fun a b x hx => by
    unfold T2 at hx
    split at hx
    · simpa using hx
    · simp at hx
  have m3 : ∀ a b x, x ∈ T3 g s a b → ∃ c, x = [a, b, c] := fun a b x hx => by
    unfold T3 at hx
    split at hx
    · obtain ⟨c, _, e⟩ := List.mem_filterMap.mp hx
      split at e
      · cases e
        exact ⟨c, rfl⟩
      · cases e
    · simp at hx
  unfold lr
  refine nodup_fm _ (fun x => x.head?) some _ (fun a _ b _ e => Option.some.inj e) (idx_nodup g) fun a _ => ⟨?_, fun x hx => ?_⟩
  · refine nodup_fm _ (fun x => x[1]?) some _ (fun a _ b _ e => Option.some.inj e) ((v.rowNodup a).filter _) fun b _ => ⟨?_, fun x hx => ?_⟩
    · unfold TT
      rw [List.nodup_append]
      refine ⟨?_, ?_, fun x hx y hy e => ?_⟩
      · unfold T2
        split <;> simp
      · unfold T3
        split
        · refine nodup_fmap _ (v.rowNodup b) fun c _ c' _ x e1 e2 => ?_
          split at e1
          · split at e2
            · cases e1
              cases e2
              rfl
            · cases e2
          · cases e1
        · simp
      · have h1 := m2 a b x hx
        obtain ⟨c, h2⟩ := m3 a b y hy
        rw [h1, h2] at e
        cases e
    · unfold TT at hx
      rcases List.mem_append.mp hx with h | h
      · rw [m2 a b x h]; rfl
      · obtain ⟨c, h2⟩ := m3 a b x h
        rw [h2]; rfl
  · obtain ⟨b, _, hb⟩ := List.mem_flatMap.mp hx
    unfold TT at hb
    rcases List.mem_append.mp hb with h | h
    · rw [m2 a b x h]; rfl
    · obtain ⟨c, h2⟩ := m3 a b x h
      rw [h2]; rfl
theorem lr_eq {g : List (List Nat)} (v : GV g) {s : Nat} (hs : 2 ≤ s) (hs3 : s ≤ 3) : sortN (lr g s) = rd g s := sortN_ext (lr_nodup v s) (told_nodup v s) fun x => lr_mem v hs hs3
theorem e_due (k : Nat) {g : List (List Nat)} (v : GV g) {s : Nat} (hs : 2 ≤ s) (hs3 : s ≤ 3) (h : LH) : call_ lw.tab (k + 1) "_law_rounds" [tG g, dN s] h = .ok (tG (rd g s), false) h := by
  rw [← lr_eq v hs hs3]
  exact e_lr k v hs hs3 h
end Lk76

set_option Elab.async false
set_option linter.all false
set_option maxRecDepth 100000
set_option maxHeartbeats 1000000
/-! k76: all rows gone through. -/
namespace Lk76
open PySem PySem.Spec PyProof.Rows L2 Fz
theorem lk_ba : look lw.tab "_law_by_all" = some ⟨"_law_by_all", ["gifts", "size"], r__law_by_all.N, b__law_by_all⟩ := lf.lk r__law_by_all (by simp [lw])
abbrev aE (g : List (List Nat)) (s n L : Nat) (o4 o5 o6 o7 : Option D) (o9 : Option D) : Fz.Env := [some (tG g), some (dN s), some (dN n), some (.cell L), o4, o5, o6, o7, none, o9]
/-- the rows that begin with a, b -/
def AB (n s a b : Nat) : List (List Nat) := [a, b] :: if 2 < s then (List.range n).filterMap fun c => if c = a ∨ c = b then none else some [a, b, c] else []
def prev (r : List Nat) (i : Nat) : Nat := r.getD (if i = 0 then r.length - 1 else i - 1) 0
def bad (g : List (List Nat)) (r : List Nat) : List Nat := (List.range r.length).filter fun i => decide (r.getD i 0 ∉ row g (prev r i))
theorem eq_num {h : LH} (a b : Nat) : cmpD .eq (dN a) (dN b) h = .ok (.bl (decide (a = b)), false) h := by
  show (match Fz.plain 30 (dN a) && Fz.plain 30 (dN b) with
    | true => val (.bl (eqD (dN a) (dN b))) h
    | false => Res.no) = _
  rw [plain_dN, plain_dN, eqD_dN]
  rfl
theorem notin_row {h : LH} (a : Nat) (r : List Nat) : cmpD .notin (dN a) (tN r) h = .ok (.bl (!decide (a ∈ r)), false) h := by
  show (match Fz.plain 30 (dN a) && plainL 30 (r.map dN) with
    | true => val (.bl (!inD (dN a) (r.map dN))) h
    | false => Res.no) = _
  rw [plain_dN, plainL_dN, inD_dN]
  rfl
theorem ix_num {h : LH} {r : List Nat} {i : Nat} (hi : i < r.length) : ixD (tN r) (dN i) h = .ok (dN (r.getD i 0), false) h := by
  show (match atI (r.map dN) (i : Int) with
    | some d => val d h
    | none => Res.no) = _
  rw [Fz.atI_nat (by simpa using hi)]
  simp [hi]
  rfl
theorem ix_prev {h : LH} {r : List Nat} {i : Nat} (hi : i < r.length) : ixD (tN r) (.int ((i : Int) - 1)) h = .ok (dN (prev r i), false) h := by
  unfold prev
  by_cases h0 : i = 0
  · subst h0
    rw [if_pos rfl]
    show (match atI (r.map dN) (((0 : Nat) : Int) - 1) with
      | some d => val d h
      | none => Res.no) = _
    have e : atI (r.map dN) (((0 : Nat) : Int) - 1) = some (dN (r.getD (r.length - 1) 0)) := by
      unfold atI ixN
      have e1 : (((0 : Nat) : Int) - 1) = -1 := by omega
      rw [e1, if_neg (by omega), if_pos (by simp; omega)]
      have e2 : ((-1 : Int) + ((r.map dN).length : Nat)).toNat = r.length - 1 := by simp; omega
      rw [e2]
      have : r.length - 1 < r.length := by omega
      simp [this]
    rw [e]
    rfl
  · rw [if_neg h0]
    have e1 : ((i : Int) - 1) = ((i - 1 : Nat) : Int) := by omega
    rw [e1]
    exact ix_num (by omega)
theorem prev_mem {r : List Nat} {i : Nat} (hi : i < r.length) : prev r i ∈ r := by
  unfold prev
  split
  · have : r.length - 1 < r.length := by omega
    simp only [List.getD_eq_getElem?_getD, List.getElem?_eq_getElem this, Option.getD_some]
    exact List.getElem_mem this
  · have : i - 1 < r.length := by omega
    simp only [List.getD_eq_getElem?_getD, List.getElem?_eq_getElem this, Option.getD_some]
    exact List.getElem_mem this
abbrev badE : E := .comp (.loc 9) [.mk (.loc 9) (.range [(.bi .len [(.loc 7)])]) [(.cmp .notin (.ix (.loc 7) (.loc 9)) (.ix (.loc 0) (.ix (.loc 7) (.bin .sub (.loc 9) (.con (.int 1))))))]] [9]
theorem e_bad (k : Nat) {g : List (List Nat)} {s n L : Nat} {o4 o5 o6 : Option D} {r : List Nat} {h : LH} (hr : ∀ x ∈ r, x < g.length) (hl : r.length ≤ 8) :
    ev (call_ lw.tab k) badE (aE g s n L o4 o5 o6 (some (tN r)) none) h = .ok (.lst ((bad g r).map dN), true) h := by
  have t1 := thousand
  have hn : ev (call_ lw.tab k) (.bi .len [(.loc 7)]) (aE g s n L o4 o5 o6 (some (tN r)) none) h = .ok (.int ((r.map dN).length : Nat), false) h := ev_bi_ok (ds := [tN r]) (evL_cons_ok (z := (tN r, false)) rfl (ev_loc_ok rfl) evL_nil_ok) (bi_len_tup rfl)
  rw [List.length_map] at hn
  have e : (bad g r).map dN = (List.range r.length).filterMap fun i => if r.getD i 0 ∉ row g (prev r i) then some (dN i) else none := by
    unfold bad
    induction List.range r.length with
    | nil => rfl
    | cons x t ih =>
      rw [List.filter_cons, List.filterMap_cons]
      by_cases hx : r.getD x 0 ∉ row g (prev r x)
      · simp only [decide_eq_true hx, if_true, List.map_cons, ih, if_pos hx]
      · simp only [decide_eq_false hx, if_neg hx, Bool.false_eq_true, if_false, ih]
  rw [e]
  refine comp1M (l := List.range r.length) dN _ (evW_range_ok (by omega) rfl hn) (by simp; omega) ?_
  intro i hi
  have hi' : i < r.length := by simpa using hi
  refine ⟨aE g s n L o4 o5 o6 (some (tN r)) (some (dN i)), rfl, ?_, fun z hz => ⟨false, ?_⟩⟩
  · have a1 : ev (call_ lw.tab k) (.ix (.loc 7) (.loc 9)) (aE g s n L o4 o5 o6 (some (tN r)) (some (dN i))) h = .ok (dN (r.getD i 0), false) h := ev_ix_ok (x := (tN r, false)) (y := (dN i, false)) (ev_loc_ok rfl) (ev_loc_ok rfl) (ix_num hi')
    have a2 : ev (call_ lw.tab k) (.ix (.loc 7) (.bin .sub (.loc 9) (.con (.int 1)))) (aE g s n L o4 o5 o6 (some (tN r)) (some (dN i))) h = .ok (dN (prev r i), false) h := ev_ix_ok (x := (tN r, false)) (y := (.int ((i : Int) - 1), false)) (ev_loc_ok rfl) (ev_bin_ok (x := (dN i, false)) (y := (.int 1, false)) (ev_loc_ok rfl) ev_con_ok rfl) (ix_prev hi')
    have a3 : ev (call_ lw.tab k) (.ix (.loc 0) (.ix (.loc 7) (.bin .sub (.loc 9) (.con (.int 1))))) (aE g s n L o4 o5 o6 (some (tN r)) (some (dN i))) h = .ok (tN (row g (prev r i)), false) h := ev_ix_ok (x := (tG g, false)) (y := (dN (prev r i), false)) (ev_loc_ok rfl) a2 (ix_row (hr _ (prev_mem hi')))
    rw [evT_one_ok (ev_cmp_ok a1 a3 (notin_row _ _))]
    congr 1
    by_cases h1 : r.getD i 0 ∈ row g (prev r i)
    · rw [decide_eq_true h1, if_neg (fun z => z h1)]
      rfl
    · rw [decide_eq_false h1, if_pos h1]
      rfl
  · split at hz
    · cases hz
      exact ev_loc_ok rfl
    · cases hz
/-- min of a row -/
def mn1 (r : List Nat) : Nat := match r with
  | [] => 0
  | x :: t => t.foldl min x
theorem minL_dN : ∀ (t : List Nat) (x : Nat), minL (dN x) (t.map dN) = dN (t.foldl min x)
  | [], _ => rfl
  | y :: t, x => by
    have e : (if ltD (dN y) (dN x) = true then dN y else dN x) = dN (min x y) := by
      rw [ltD_dN]
      by_cases h : y < x
      · rw [decide_eq_true h, if_pos rfl]
        congr 1
        omega
      · rw [decide_eq_false h, if_neg Bool.false_ne_true]
        congr 1
        omega
    show minL (if ltD (dN y) (dN x) = true then dN y else dN x) (t.map dN) = _
    rw [e]
    exact minL_dN t (min x y)
theorem ordOk_dN (l : List Nat) : ordOk (l.map dN) = true := by
  unfold ordOk
  rw [Bool.and_eq_true, Bool.and_eq_true]
  refine ⟨⟨plainL_dN l 30, ?_⟩, ?_⟩
  · unfold alikeAllB
    simp only [List.all_map, List.all_eq_true, Function.comp]
    intro a _ b _
    rw [pyOf_dN, pyOf_dN]
    simp [PySem.W.alike]
  · simp only [List.all_map, List.all_eq_true, Function.comp]
    intro a _
    rfl
theorem bi_min_row {h : LH} {r : List Nat} (hr : r ≠ []) : biD .min [tN r] h = .ok (dN (mn1 r), false) h := by
  cases r with
  | nil => exact absurd rfl hr
  | cons x t =>
    show (match ordOk ((x :: t).map dN) with
      | true => val (minL (dN x) (t.map dN)) h
      | false => Res.no) = _
    rw [ordOk_dN, minL_dN]
    rfl
theorem bi_min_lst {h : LH} {r : List Nat} (hr : r ≠ []) : biD .min [.lst (r.map dN)] h = .ok (dN (mn1 r), false) h := by
  cases r with
  | nil => exact absurd rfl hr
  | cons x t =>
    show (match ordOk ((x :: t).map dN) with
      | true => val (minL (dN x) (t.map dN)) h
      | false => Res.no) = _
    rw [ordOk_dN, minL_dN]
    rfl
theorem eq_nil {h : LH} (l : List Nat) : cmpD .eq (.lst (l.map dN)) (.lst []) h = .ok (.bl (decide (l = [])), false) h := by
  show (match Fz.plain 30 (.lst (l.map dN)) && Fz.plain 30 (.lst []) with
    | true => val (.bl (eqD (.lst (l.map dN)) (.lst []))) h
    | false => Res.no) = _
  have e1 : Fz.plain 30 (.lst (l.map dN)) = true := plainL_dN l 29
  have e2 : Fz.plain 30 (.lst []) = true := rfl
  rw [e1, e2]
  have e3 : eqD (.lst (l.map dN)) (.lst []) = decide (l = []) := by
    cases l with
    | nil => rfl
    | cons x t => simp [eqD, eqDs]
  rw [e3]
  rfl
/-- whether a row that begins with a, b is a round -/
def okR (g : List (List Nat)) (a b : Nat) (r : List Nat) : Bool := !decide (a = b) && (decide (mn1 r = a) && decide (bad g r = []))
abbrev condE : E := .and (.cmp .ne (.loc 4) (.loc 5)) (.and (.cmp .eq (.bi .min [(.loc 7)]) (.loc 4)) (.cmp .eq badE (.lst [])))
theorem e_cond (k : Nat) {g : List (List Nat)} {s n L a b : Nat} {o6 : Option D} {r : List Nat} {h : LH} (hr : ∀ x ∈ r, x < g.length) (hl : r.length ≤ 8) (hne : r ≠ []) :
    ∃ f, ev (call_ lw.tab k) condE (aE g s n L (some (dN a)) (some (dN b)) o6 (some (tN r)) none) h = .ok (.bl (okR g a b r), f) h := by
  have c1 : ev (call_ lw.tab k) (.cmp .ne (.loc 4) (.loc 5)) (aE g s n L (some (dN a)) (some (dN b)) o6 (some (tN r)) none) h = .ok (.bl (!decide (a = b)), false) h := ev_cmp_ok (x := (dN a, false)) (y := (dN b, false)) (ev_loc_ok rfl) (ev_loc_ok rfl) (ne_num a b)
  have c2 : ev (call_ lw.tab k) (.cmp .eq (.bi .min [(.loc 7)]) (.loc 4)) (aE g s n L (some (dN a)) (some (dN b)) o6 (some (tN r)) none) h = .ok (.bl (decide (mn1 r = a)), false) h := ev_cmp_ok (x := (dN (mn1 r), false)) (y := (dN a, false)) (ev_bi_ok (ds := [tN r]) (evL_cons_ok (z := (tN r, false)) rfl (ev_loc_ok rfl) evL_nil_ok) (bi_min_row hne)) (ev_loc_ok rfl) (eq_num _ _)
  have c3 : ev (call_ lw.tab k) (.cmp .eq badE (.lst [])) (aE g s n L (some (dN a)) (some (dN b)) o6 (some (tN r)) none) h = .ok (.bl (decide (bad g r = [])), false) h := ev_cmp_ok (x := (.lst ((bad g r).map dN), true)) (y := (.lst [], true)) (e_bad k hr hl) (ev_lst_ok evL_nil_ok (Nat.zero_le _)) (eq_nil _)
  obtain ⟨f1, c4⟩ := ev_and_ok c2 (fun _ => c3)
  exact ev_and_ok c1 (fun _ => c4)
end Lk76

set_option Elab.async false
set_option linter.all false
set_option maxRecDepth 100000
set_option maxHeartbeats 1000000
/-! k76: all rows gone through, whole. -/
namespace Lk76
open PySem PySem.Spec PyProof.Rows L2 Fz
abbrev bodyR : List S := [.ife condE [.expr (.meth .append (.loc 3) [(.loc 7)])] []]
theorem loopR (k : Nat) {g : List (List Nat)} {s n L a b : Nat} {o6 : Option D} {h0 : LH} {all : List D} : ∀ (rs : List (List Nat)) (o7 : Option D) (acc : List (List Nat)) (h' : LH), (∀ r ∈ rs, (∀ x ∈ r, x < g.length) ∧ r.length ≤ 8 ∧ r ≠ []) → acc.length + rs.length ≤ 1000 → FS h0 h' L acc →
    ∃ h'' o7', forM_ none all (fun x env => M.then (ofO (bindT (.loc 7) x env)) fun e => evSs (call_ lw.tab k) bodyR e) (rs.map tN) (aE g s n L (some (dN a)) (some (dN b)) o6 o7 none) h' = .ok (.nx (aE g s n L (some (dN a)) (some (dN b)) o6 o7' none)) h'' ∧ FS h0 h'' L (acc ++ rs.filter (okR g a b))
  | [], o7, acc, h', _, _, f => ⟨h', o7, rfl, by simpa using f⟩
  | r :: rs, o7, acc, h', hm, hl, f => by
    have t1 := thousand
    rw [List.length_cons] at hl
    obtain ⟨q1, q2, q3⟩ := hm r List.mem_cons_self
    obtain ⟨fr, c⟩ := e_cond k (s := s) (n := n) (L := L) (a := a) (b := b) (o6 := o6) (h := h') q1 q2 q3
    have one : ∃ h1 acc1, evSs (call_ lw.tab k) bodyR (aE g s n L (some (dN a)) (some (dN b)) o6 (some (tN r)) none) h' = .ok (.nx (aE g s n L (some (dN a)) (some (dN b)) o6 (some (tN r)) none)) h1 ∧ FS h0 h1 L acc1 ∧ acc1.length ≤ acc.length + 1 ∧ acc1 ++ rs.filter (okR g a b) = acc ++ (r :: rs).filter (okR g a b) := by
      cases ho : okR g a b r with
      | true =>
        rw [ho] at c
        refine ⟨_, acc ++ [r], (ss_nx ((ife_t c).trans ((ss_nx (expr_ok (ev_meth_ok (x := (.cell L, false)) (z := (.non, false)) (ds := [tN r]) (ev_loc_ok rfl) (by rw [der_cell f.at_]; rfl) (evL_cons_ok (z := (tN r, false)) rfl (ev_loc_ok rfl) evL_nil_ok) (append_ok f (by omega))))).trans rfl))).trans rfl, f.put, by simp, ?_⟩
        rw [List.filter_cons, ho]
        simp
      | false =>
        rw [ho] at c
        refine ⟨h', acc, (ss_nx ((ife_f c).trans rfl)).trans rfl, f, by omega, ?_⟩
        rw [List.filter_cons, ho]
        simp
    obtain ⟨h1, acc1, e1, f1, l1, e2⟩ := one
    obtain ⟨h2, o7', e3, f3⟩ := loopR k (g := g) (s := s) (n := n) (a := a) (b := b) (o6 := o6) (h0 := h0) (all := all) rs (some (tN r)) acc1 h1 (fun y hy => hm y (List.mem_cons_of_mem _ hy)) (by omega) f1
    refine ⟨h2, o7', ?_, by rw [← e2]; exact f3⟩
    rw [List.map_cons]
    exact (forM_cons e1).trans e3
abbrev rowsE : E := .bin .add (.lst [(.tup [(.loc 4), (.loc 5)])]) (.ite (.cmp .gt (.loc 1) (.con (.int 2))) (.comp (.tup [(.loc 4), (.loc 5), (.loc 8)]) [.mk (.loc 8) (.range [(.loc 2)]) [(.cmp .notin (.loc 8) (.tup [(.loc 4), (.loc 5)]))]] [8]) (.lst []))
theorem AB_len (n s a b : Nat) (hn : n ≤ 8) : (AB n s a b).length ≤ 9 := by
  unfold AB
  rw [List.length_cons]
  split
  · have := List.length_filterMap_le (fun c => if c = a ∨ c = b then none else some [a, b, c]) (List.range n)
    simp at this
    omega
  · simp
theorem e_AB (k : Nat) {g : List (List Nat)} {s n L a b : Nat} {o6 o7 : Option D} {h : LH} (hn : n ≤ 8) : ev (call_ lw.tab k) rowsE (aE g s n L (some (dN a)) (some (dN b)) o6 o7 none) h = .ok (.lst ((AB n s a b).map tN), true) h := by
  have t1 := thousand
  have hab := AB_len n s a b hn
  have p : ev (call_ lw.tab k) (.lst [(.tup [(.loc 4), (.loc 5)])]) (aE g s n L (some (dN a)) (some (dN b)) o6 o7 none) h = .ok (.lst [tN [a, b]], true) h :=
    ev_lst_ok (ds := [tN [a, b]]) (evL_cons_ok (z := (tN [a, b], false)) rfl (ev_tup_ok (ds := [dN a, dN b]) (evL_cons_ok (z := (dN a, false)) rfl (ev_loc_ok rfl) (evL_cons_ok (z := (dN b, false)) rfl (ev_loc_ok rfl) evL_nil_ok)) (by show 2 ≤ sizeLine; omega)) evL_nil_ok) (by show 1 ≤ sizeLine; omega)
  have c : ev (call_ lw.tab k) (.cmp .gt (.loc 1) (.con (.int 2))) (aE g s n L (some (dN a)) (some (dN b)) o6 o7 none) h = .ok (.bl (decide (2 < s)), false) h := ev_cmp_ok (x := (dN s, false)) (y := (dN 2, false)) (ev_loc_ok rfl) ev_con_ok (gt_num s 2)
  have q : ev (call_ lw.tab k) (.ite (.cmp .gt (.loc 1) (.con (.int 2))) (.comp (.tup [(.loc 4), (.loc 5), (.loc 8)]) [.mk (.loc 8) (.range [(.loc 2)]) [(.cmp .notin (.loc 8) (.tup [(.loc 4), (.loc 5)]))]] [8]) (.lst [])) (aE g s n L (some (dN a)) (some (dN b)) o6 o7 none) h = .ok (.lst ((if 2 < s then (List.range n).filterMap fun c => if c = a ∨ c = b then none else some [a, b, c] else []).map tN), true) h := by
    by_cases hs : 2 < s
    · rw [decide_eq_true hs] at c
      rw [if_pos hs]
      refine ev_ite_t c ?_
      have e : ((List.range n).filterMap fun c => if c = a ∨ c = b then none else some [a, b, c]).map tN = (List.range n).filterMap fun c => if c = a ∨ c = b then none else some (tN [a, b, c]) := by
        rw [List.map_filterMap]
        refine fmap_congr fun t _ => ?_
        split <;> rfl
      rw [e]
      refine comp1M (l := List.range n) dN _ (evW_range_ok (by omega) rfl (ev_loc_ok rfl)) (by simp; omega) ?_
      intro i hi
      refine ⟨[some (tG g), some (dN s), some (dN n), some (.cell L), some (dN a), some (dN b), o6, o7, some (dN i), none], rfl, ?_, fun z hz => ⟨false, ?_⟩⟩
      · have c2 : ev (call_ lw.tab k) (.cmp .notin (.loc 8) (.tup [(.loc 4), (.loc 5)])) [some (tG g), some (dN s), some (dN n), some (.cell L), some (dN a), some (dN b), o6, o7, some (dN i), none] h = .ok (.bl (!decide (i ∈ [a, b])), false) h :=
          ev_cmp_ok (x := (dN i, false)) (y := (tN [a, b], false)) (ev_loc_ok rfl) (ev_tup_ok (ds := [dN a, dN b]) (evL_cons_ok (z := (dN a, false)) rfl (ev_loc_ok rfl) (evL_cons_ok (z := (dN b, false)) rfl (ev_loc_ok rfl) evL_nil_ok)) (by show 2 ≤ sizeLine; omega)) (notin_row i [a, b])
        rw [evT_one_ok c2]
        congr 1
        by_cases h1 : i = a ∨ i = b
        · rw [if_pos h1, decide_eq_true (by simpa using h1)]
          rfl
        · rw [if_neg h1, decide_eq_false (by simpa using h1)]
          rfl
      · split at hz
        · cases hz
        · cases hz
          exact ev_tup_ok (ds := [dN a, dN b, dN i]) (evL_cons_ok (z := (dN a, false)) rfl (ev_loc_ok rfl) (evL_cons_ok (z := (dN b, false)) rfl (ev_loc_ok rfl) (evL_cons_ok (z := (dN i, false)) rfl (ev_loc_ok rfl) evL_nil_ok))) size3
    · rw [decide_eq_false hs] at c
      rw [if_neg hs]
      exact ev_ite_f c (ev_lst_ok evL_nil_ok (Nat.zero_le _))
  refine ev_bin_ok p q ?_
  have : (AB n s a b).map tN = [tN [a, b]] ++ (if 2 < s then (List.range n).filterMap fun c => if c = a ∨ c = b then none else some [a, b, c] else []).map tN := rfl
  rw [this]
  refine bin_add_lst rfl rfl ?_
  have h2 : (AB n s a b).length = 1 + (if 2 < s then (List.range n).filterMap fun c => if c = a ∨ c = b then none else some [a, b, c] else []).length := by unfold AB; simp; omega
  simp only [List.length_cons, List.length_nil, List.length_map]
  omega
theorem AB_ok {n s a b : Nat} (ha : a < n) (hb : b < n) : ∀ r ∈ AB n s a b, (∀ x ∈ r, x < n) ∧ r.length ≤ 8 ∧ r ≠ [] := by
  intro r hr
  unfold AB at hr
  rcases List.mem_cons.mp hr with rfl | hr
  · refine ⟨fun x hx => ?_, by simp, by simp⟩
    simp at hx
    rcases hx with rfl | rfl
    · exact ha
    · exact hb
  · split at hr
    · obtain ⟨c, hc, e⟩ := List.mem_filterMap.mp hr
      have hc' : c < n := by simpa using hc
      split at e
      · cases e
      · cases e
        refine ⟨fun x hx => ?_, by simp, by simp⟩
        simp at hx
        rcases hx with rfl | rfl | rfl
        · exact ha
        · exact hb
        · exact hc'
    · simp at hr
abbrev bodyB : List S := [.asg 6 rowsE, .for_ (.loc 7) (.loc 6) bodyR]
theorem loopB (k : Nat) {g : List (List Nat)} (v : GV g) {s L a : Nat} (ha : a < g.length) {h0 : LH} {all : List D} : ∀ (bs : List Nat) (o5 o6 o7 : Option D) (acc : List (List Nat)) (h' : LH), (∀ b ∈ bs, b < g.length) → acc.length + 9 * bs.length ≤ 1000 → FS h0 h' L acc →
    ∃ h'' o5' o6' o7', forM_ none all (fun x env => M.then (ofO (bindT (.loc 5) x env)) fun e => evSs (call_ lw.tab k) bodyB e) (bs.map dN) (aE g s g.length L (some (dN a)) o5 o6 o7 none) h' = .ok (.nx (aE g s g.length L (some (dN a)) o5' o6' o7' none)) h'' ∧ FS h0 h'' L (acc ++ bs.flatMap fun b => (AB g.length s a b).filter (okR g a b))
  | [], o5, o6, o7, acc, h', _, _, f => ⟨h', o5, o6, o7, rfl, by simpa using f⟩
  | b :: bs, o5, o6, o7, acc, h', hm, hl, f => by
    rw [List.length_cons] at hl
    have hb := hm b List.mem_cons_self
    have v8 := v.most
    have lAB := AB_len g.length s a b v8
    obtain ⟨h1, o7', e1, f1⟩ := loopR k (g := g) (s := s) (n := g.length) (a := a) (b := b) (o6 := some (.lst ((AB g.length s a b).map tN))) (h0 := h0) (all := (AB g.length s a b).map tN) (AB g.length s a b) o7 acc h' (AB_ok ha hb) (by omega) f
    have lf' : ((AB g.length s a b).filter (okR g a b)).length ≤ 9 := Nat.le_trans (List.length_filter_le _ _) lAB
    obtain ⟨h2, p5, p6, p7, e2, f2⟩ := loopB k v (s := s) ha (h0 := h0) (all := all) bs (some (dN b)) (some (.lst ((AB g.length s a b).map tN))) o7' (acc ++ (AB g.length s a b).filter (okR g a b)) h1 (fun y hy => hm y (List.mem_cons_of_mem _ hy)) (by rw [List.length_append]; omega) f1
    refine ⟨h2, p5, p6, p7, ?_, by rw [List.flatMap_cons, ← List.append_assoc]; exact f2⟩
    rw [List.map_cons]
    refine (forM_cons (env' := aE g s g.length L (some (dN a)) (some (dN b)) (some (.lst ((AB g.length s a b).map tN))) o7' none) (h' := h1) ?_).trans e2
    show evSs (call_ lw.tab k) bodyB (aE g s g.length L (some (dN a)) (some (dN b)) o6 o7 none) h' = _
    exact (ss_nx (asg_ok (e_AB k v8))).trans ((ss_nx ((for_run (w := ((AB g.length s a b).map tN, none)) (evW_gen_ok (x := (.lst ((AB g.length s a b).map tN), false)) rfl (ev_loc_ok rfl) rfl)).trans e1)).trans rfl)
end Lk76

set_option Elab.async false
set_option linter.all false
set_option maxRecDepth 100000
set_option maxHeartbeats 1000000
/-! k76: all rows gone through: they are the rounds told. -/
namespace Lk76
open PySem PySem.Spec PyProof.Rows L2 Fz
abbrev bodyA : List S := [.for_ (.loc 5) (.range [(.loc 2)]) bodyB]
def okB (g : List (List Nat)) (s a : Nat) : List (List Nat) := (idx g).flatMap fun b => (AB g.length s a b).filter (okR g a b)
def ba (g : List (List Nat)) (s : Nat) : List (List Nat) := (idx g).flatMap fun a => okB g s a
theorem okB_len {g : List (List Nat)} (v : GV g) (s a : Nat) : (okB g s a).length ≤ 72 := by
  have h1 := flatMap_le (l := idx g) (f := fun b => (AB g.length s a b).filter (okR g a b)) (m := 9) fun b _ => Nat.le_trans (List.length_filter_le _ _) (AB_len g.length s a b v.most)
  have h2 : (idx g).length ≤ 8 := by unfold idx; simpa using v.most
  have h3 : (idx g).length * 9 ≤ 72 := by omega
  exact Nat.le_trans h1 h3
theorem loopA (k : Nat) {g : List (List Nat)} (v : GV g) {s L : Nat} {h0 : LH} {all : List D} : ∀ (as : List Nat) (o4 o5 o6 o7 : Option D) (acc : List (List Nat)) (h' : LH), (∀ a ∈ as, a < g.length) → acc.length + 72 * as.length ≤ 800 → FS h0 h' L acc →
    ∃ h'' o4' o5' o6' o7', forM_ none all (fun x env => M.then (ofO (bindT (.loc 4) x env)) fun e => evSs (call_ lw.tab k) bodyA e) (as.map dN) (aE g s g.length L o4 o5 o6 o7 none) h' = .ok (.nx (aE g s g.length L o4' o5' o6' o7' none)) h'' ∧ FS h0 h'' L (acc ++ as.flatMap fun a => okB g s a)
  | [], o4, o5, o6, o7, acc, h', _, _, f => ⟨h', o4, o5, o6, o7, rfl, by simpa using f⟩
  | a :: as, o4, o5, o6, o7, acc, h', hm, hl, f => by
    rw [List.length_cons] at hl
    have ha := hm a List.mem_cons_self
    have v8 := v.most
    have lB := okB_len v s a
    obtain ⟨h1, p5, p6, p7, e1, f1⟩ := loopB k v (s := s) (L := L) ha (h0 := h0) (all := (List.range g.length).map dN) (List.range g.length) o5 o6 o7 acc h' (fun b hb => by simpa using hb) (by simp; omega) f
    obtain ⟨h2, q4, q5, q6, q7, e2, f2⟩ := loopA k v (s := s) (L := L) (h0 := h0) (all := all) as (some (dN a)) p5 p6 p7 (acc ++ okB g s a) h1 (fun y hy => hm y (List.mem_cons_of_mem _ hy)) (by rw [List.length_append]; omega) f1
    refine ⟨h2, q4, q5, q6, q7, ?_, by rw [List.flatMap_cons, ← List.append_assoc]; exact f2⟩
    rw [List.map_cons]
    refine (forM_cons (env' := aE g s g.length L (some (dN a)) p5 p6 p7 none) (h' := h1) ?_).trans e2
    show evSs (call_ lw.tab k) bodyA (aE g s g.length L (some (dN a)) o5 o6 o7 none) h' = _
    exact (ss_nx ((for_run (evW_range_ok (by omega) rfl (ev_loc_ok rfl))).trans e1)).trans rfl
theorem ba_mem {g : List (List Nat)} (v : GV g) {s : Nat} (hs : 2 ≤ s) (hs3 : s ≤ 3) {x : List Nat} : x ∈ ba g s ↔ x ∈ r2 g ++ more g s := by
  have bad2 : ∀ a b, bad g [a, b] = [] ↔ a ∈ row g b ∧ b ∈ row g a := fun a b => by
    unfold bad
    rw [List.filter_eq_nil_iff]
    have e : List.range [a, b].length = [0, 1] := rfl
    rw [e]
    simp [prev]
  have bad3 : ∀ a b c, bad g [a, b, c] = [] ↔ a ∈ row g c ∧ b ∈ row g a ∧ c ∈ row g b := fun a b c => by
    unfold bad
    rw [List.filter_eq_nil_iff]
    have e : List.range [a, b, c].length = [0, 1, 2] := rfl
    rw [e]
    simp [prev]
  rw [List.mem_append, r2_mem]
  unfold ba okB idx
  simp only [List.mem_flatMap, List.mem_range, List.mem_filter]
  have key : ∀ a b r, okR g a b r = true ↔ a ≠ b ∧ mn1 r = a ∧ bad g r = [] := fun a b r => by
    unfold okR
    simp
  constructor
  · rintro ⟨a, ha, b, hb, hx, ho⟩
    obtain ⟨k1, k2, k3⟩ := (key a b x).mp ho
    unfold AB at hx
    rcases List.mem_cons.mp hx with rfl | hx
    · obtain ⟨h1, h2⟩ := (bad2 a b).mp k3
      have k2 : min a b = a := k2
      exact .inl ⟨a, b, rfl, ha, h2, by omega, h1⟩
    · split at hx
      · rename_i h2
        obtain ⟨c, hc, e⟩ := List.mem_filterMap.mp hx
        split at e
        · cases e
        · rename_i hne
          cases e
          have hne' : c ≠ a ∧ c ≠ b := ⟨fun z => hne (.inl z), fun z => hne (.inr z)⟩
          obtain ⟨q1, q2, q3⟩ := (bad3 a b c).mp k3
          have k2 : min (min a b) c = a := k2
          right
          unfold more
          rw [if_pos (by omega), r3_mem]
          exact ⟨a, b, c, rfl, ha, q2, q3, by omega, by omega, q1⟩
      · simp at hx
  · rintro (⟨a, b, rfl, ha, hb, h1, h2⟩ | h)
    · have hb' : b < g.length := ((v.rowOk ha).2 b hb).1
      refine ⟨a, ha, b, hb', List.mem_cons_self, (key a b _).mpr ⟨by omega, ?_, (bad2 a b).mpr ⟨h2, hb⟩⟩⟩
      show min a b = a
      omega
    · unfold more at h
      split at h
      · rename_i h3
        obtain ⟨a, b, c, rfl, ha, hb, hc, h1, h2, h4⟩ := r3_mem.mp h
        have hb' : b < g.length := ((v.rowOk ha).2 b hb).1
        have hcb := (v.rowOk hb').2 c hc
        refine ⟨a, ha, b, hb', ?_, (key a b _).mpr ⟨by omega, ?_, (bad3 a b c).mpr ⟨h4, hb, hc⟩⟩⟩
        · unfold AB
          refine List.mem_cons_of_mem _ ?_
          rw [if_pos (by omega), List.mem_filterMap]
          exact ⟨c, by simpa using hcb.1, by rw [if_neg (by omega)]⟩
        · show min (min a b) c = a
          omega
      · simp at h
theorem AB_head {n s a b : Nat} {x : List Nat} (h : x ∈ AB n s a b) : x.head? = some a ∧ x[1]? = some b := by
  unfold AB at h
  rcases List.mem_cons.mp h with rfl | h
  · exact ⟨rfl, rfl⟩
  · split at h
    · obtain ⟨c, _, e⟩ := List.mem_filterMap.mp h
      split at e
      · cases e
      · cases e
        exact ⟨rfl, rfl⟩
    · simp at h
theorem AB_nodup (n s a b : Nat) : (AB n s a b).Nodup := by
  unfold AB
  refine List.nodup_cons.mpr ⟨fun m => ?_, ?_⟩
  · split at m
    · obtain ⟨c, _, e⟩ := List.mem_filterMap.mp m
      split at e <;> cases e
    · simp at m
  · split
    · refine nodup_fmap _ List.nodup_range fun c _ c' _ x e1 e2 => ?_
      split at e1
      · cases e1
      · split at e2
        · cases e2
        · cases e1
          cases e2
          rfl
    · simp
theorem ba_nodup (g : List (List Nat)) (s : Nat) : (ba g s).Nodup := by
  unfold ba
  refine nodup_fm _ (fun x => x.head?) some _ (fun a _ b _ e => Option.some.inj e) (idx_nodup g) fun a _ => ⟨?_, fun x hx => ?_⟩
  · unfold okB
    refine nodup_fm _ (fun x => x[1]?) some _ (fun a _ b _ e => Option.some.inj e) (idx_nodup g) fun b _ => ⟨(AB_nodup _ _ _ _).filter _, fun x hx => ?_⟩
    exact (AB_head (List.mem_filter.mp hx).1).2
  · unfold okB at hx
    obtain ⟨b, _, hb⟩ := List.mem_flatMap.mp hx
    exact (AB_head (List.mem_filter.mp hb).1).1
theorem ba_eq {g : List (List Nat)} (v : GV g) {s : Nat} (hs : 2 ≤ s) (hs3 : s ≤ 3) : sortN (ba g s) = rd g s := sortN_ext (ba_nodup g s) (told_nodup v s) fun x => ba_mem v hs hs3
theorem e_ba (k : Nat) {g : List (List Nat)} (v : GV g) {s : Nat} (hs : 2 ≤ s) (hs3 : s ≤ 3) (h : LH) : call_ lw.tab (k + 1) "_law_by_all" [tG g, dN s] h = .ok (tG (rd g s), false) h := by
  have t1 := thousand
  have v8 := v.most
  have ll : (ba g s).length ≤ 576 := by
    have h1 := flatMap_le (l := idx g) (f := fun a => okB g s a) (m := 72) fun a _ => okB_len v s a
    have h2 : (idx g).length ≤ 8 := by unfold idx; simpa using v.most
    have h3 : (idx g).length * 72 ≤ 576 := by omega
    exact Nat.le_trans h1 h3
  have hn : ev (call_ lw.tab k) (.bi .len [(.loc 0)]) [some (tG g), some (dN s), none, none, none, none, none, none, none, none] h = .ok (.int ((g.map tN).length : Nat), false) h := ev_bi_ok (ds := [tG g]) (evL_cons_ok (z := (tG g, false)) rfl (ev_loc_ok rfl) evL_nil_ok) (bi_len_tup rfl)
  rw [List.length_map] at hn
  have s1 : evS (call_ lw.tab k) (.par [2, 3] [(.bi .len [(.loc 0)]), (.mk (.lst []))]) [some (tG g), some (dN s), none, none, none, none, none, none, none, none] h = .ok (.nx (aE g s g.length h.length none none none none none)) (h ++ [.lst (([] : List (List Nat)).map tN)]) :=
    par_ok (evL_cons_ok rfl hn (evL_cons_ok rfl (ev_mk_ok (z := (.lst [], true)) (ev_lst_ok evL_nil_ok (Nat.zero_le _)) (mkC_ok rfl)) evL_nil_ok)) rfl
  obtain ⟨h2, o4, o5, o6, o7, e2, f2⟩ := loopA k v (s := s) (h0 := h) (L := h.length) (all := (List.range g.length).map dN) (List.range g.length) none none none none [] (h ++ [.lst (([] : List (List Nat)).map tN)]) (fun a ha => by simpa using ha) (by simp; omega) (FS.first h [])
  have e3 := (for_run (Φ := call_ lw.tab k) (t := .loc 4) (body := bodyA) (h := h ++ [.lst (([] : List (List Nat)).map tN)]) (env := aE g s g.length h.length none none none none none) (evW_range_ok (e := .loc 2) (n := g.length) (fr := false) (by omega) rfl (ev_loc_ok rfl))).trans e2
  rw [List.nil_append] at f2
  have f2 : FS h h2 h.length (ba g s) := f2
  have c3 : ev (call_ lw.tab k) (.bi .sorted [(.loc 3)]) (aE g s g.length h.length o4 o5 o6 o7 none) h2 = .ok (.lst ((rd g s).map tN), true) h2 := by
    rw [← ba_eq v hs hs3]
    exact ev_bi_ok (ds := [.cell h.length]) (evL_cons_ok (z := (.cell h.length, false)) rfl (ev_loc_ok rfl) evL_nil_ok) (bi_sorted_rows (der_cell f2.at_) (fun x hx => rd_ne x ((ba_mem v hs hs3).mp hx)) (by omega))
  refine (call_ret (h1 := h2) (d := tG (rd g s)) (fr := false) lk_ba rfl ((ss_nx s1).trans ((ss_nx e3).trans (ss_rt (ret_ok (ev_bi_ok (ds := [.lst ((rd g s).map tN)]) (evL_cons_ok rfl c3 evL_nil_ok) (bi_tuple_lst rfl ?_))))))).trans ?_
  · have : (rd g s).length = (ba g s).length := by rw [← ba_eq v hs hs3]; unfold sortN; rw [List.length_mergeSort]
    simp
    omega
  · rw [fin_cut (bel_tG _ _), f2.tk]
end Lk76

set_option Elab.async false
set_option linter.all false
set_option maxRecDepth 100000
set_option maxHeartbeats 1000000
/-! k76: persons told by other numbers. -/
namespace Lk76
open PySem PySem.Spec PyProof.Rows L2 Fz
theorem lk_ren : look lw.tab "_law_renamed" = some ⟨"_law_renamed", ["names", "row"], r__law_renamed.N, b__law_renamed⟩ := lf.lk r__law_renamed (by simp [lw])
def nm (names : List Nat) (p : Nat) : Nat := names.getD p 0
def turnTo (sm : List Nat) : List Nat := sm.drop (sm.idxOf (mn1 sm)) ++ sm.take (sm.idxOf (mn1 sm))
def ren (names r : List Nat) : List Nat := turnTo (r.map (nm names))
theorem idxOf_ne {x y : Nat} {l : List Nat} (e : ¬ y = x) : (y :: l).idxOf x = l.idxOf x + 1 := by
  rw [List.idxOf_cons]
  have : (y == x) = false := by simpa using e
  rw [this]
  rfl
theorem map_fmap {α β : Type} (f : α → β) : ∀ l : List α, l.map f = l.filterMap fun p => some (f p)
  | [] => rfl
  | x :: r => by rw [List.map_cons, List.filterMap_cons, map_fmap f r]
theorem idxOf_dN (x : Nat) : ∀ l : List Nat, x ∈ l → Fz.idxOf (dN x) (l.map dN) = some (l.idxOf x)
  | y :: r, h => by
    simp only [List.map_cons, Fz.idxOf, eqD_dN]
    by_cases e : y = x
    · subst e
      simp
    · have hx : x ∈ r := by
        rcases List.mem_cons.mp h with z | z
        · exact absurd z.symm e
        · exact z
      rw [decide_eq_false e]
      simp only [Bool.false_eq_true, if_false, idxOf_dN x r hx, Option.map_some]
      rw [idxOf_ne e]
theorem foldl_min_mem : ∀ (t : List Nat) (x : Nat), t.foldl min x = x ∨ t.foldl min x ∈ t
  | [], x => .inl rfl
  | y :: t, x => by
    rw [List.foldl_cons]
    rcases foldl_min_mem t (min x y) with h | h
    · rw [h]
      rcases Nat.le_total x y with z | z
      · left; omega
      · right
        have : min x y = y := by omega
        rw [this]
        exact List.mem_cons_self
    · exact .inr (List.mem_cons_of_mem _ h)
theorem mn1_mem {r : List Nat} (h : r ≠ []) : mn1 r ∈ r := by
  cases r with
  | nil => exact absurd rfl h
  | cons x t =>
    show t.foldl min x ∈ x :: t
    rcases foldl_min_mem t x with e | e
    · rw [e]; exact List.mem_cons_self
    · exact List.mem_cons_of_mem _ e
theorem index_lst {h : LH} {o : D} {l : List Nat} {x : Nat} (e : der h o = .lst (l.map dN)) (hx : x ∈ l) : methD .index o [dN x] h = .ok (dN (l.idxOf x), false) h := by
  simp only [methD, e, plain_dN, plainL_dN, Bool.and_self, idxOf_dN x l hx]
  rfl
theorem index_tup {h : LH} {o : D} {l : List Nat} {x : Nat} (e : der h o = .tup (l.map dN)) (hx : x ∈ l) : methD .index o [dN x] h = .ok (dN (l.idxOf x), false) h := by
  simp only [methD, e, plain_dN, plainL_dN, Bool.and_self, idxOf_dN x l hx]
  rfl
theorem ev_slc_ok {Φ : Str → List D → M DF} {h h1 h2 h3 : LH} {env : Fz.Env} {a : E} {lo hi : Option E} {x z : DF} {u w : Option Int} (p : ev Φ a env h = .ok x h1) (q : evO Φ lo env h1 = .ok u h2) (r : evO Φ hi env h2 = .ok w h3) (t : slcD x.1 u w h3 = .ok z h3) : ev Φ (.slc a lo hi) env h = .ok z h3 := by
  simp only [ev]
  exact (then_ok p).trans ((then_ok q).trans ((then_ok r).trans t))
theorem evO_none_ok {Φ : Str → List D → M DF} {h : LH} {env : Fz.Env} : evO Φ none env h = .ok none h := by
  simp only [evO]
  rfl
theorem evO_some_ok {Φ : Str → List D → M DF} {h h1 : LH} {env : Fz.Env} {e : E} {i : Int} {f : Bool} (p : ev Φ e env h = .ok (.int i, f) h1) : evO Φ (some e) env h = .ok (some i) h1 := by
  simp only [evO]
  exact (then_ok p).trans rfl
theorem cut_from (l : List D) (i : Nat) (hi : i ≤ l.length) : Fz.cutD l (some (i : Int)) none = l.drop i := by
  unfold Fz.cutD
  rw [HT.sIx_nat, HT.sIx_none]
  have : min i l.length = i := by omega
  rw [this]
  exact List.take_of_length_le (by simp)
theorem cut_to (l : List D) (i : Nat) (hi : i ≤ l.length) : Fz.cutD l none (some (i : Int)) = l.take i := by
  unfold Fz.cutD
  rw [HT.sIx_nat, HT.sIx_none]
  have : min i l.length = i := by omega
  rw [this]
  simp
theorem e_ren (k : Nat) {names r : List Nat} (hr : ∀ x ∈ r, x < names.length) (hne : r ≠ []) (hl : r.length ≤ 8) (h : LH) : call_ lw.tab (k + 1) "_law_renamed" [tN names, tN r] h = .ok (tN (ren names r), false) h := by
  have t1 := thousand
  generalize hsm : r.map (nm names) = sm
  have sl : sm.length ≤ 8 := by rw [← hsm]; simpa using hl
  have sne : sm ≠ [] := by rw [← hsm]; simpa using hne
  have c1 : ev (call_ lw.tab k) (.comp (.ix (.loc 0) (.loc 4)) [.mk (.loc 4) (.loc 1) []] [4]) [some (tN names), some (tN r), none, none, none] h = .ok (.lst (sm.map dN), true) h := by
    have e : sm.map dN = r.filterMap fun p => some (dN (nm names p)) := by
      rw [← hsm, List.map_map]
      exact map_fmap _ r
    rw [e]
    refine comp1M (l := r) dN _ (evW_gen_ok (x := (tN r, false)) rfl (ev_loc_ok rfl) rfl) (by omega) ?_
    intro p hp
    refine ⟨[some (tN names), some (tN r), none, none, some (dN p)], rfl, evT_nil_ok, fun z hz => ⟨false, ?_⟩⟩
    cases hz
    exact ev_ix_ok (x := (tN names, false)) (y := (dN p, false)) (ev_loc_ok rfl) (ev_loc_ok rfl) (ix_num (hr p hp))
  generalize hk : sm.idxOf (mn1 sm) = i
  have hi : i ≤ sm.length := by rw [← hk]; exact List.idxOf_le_length
  have c2 : ev (call_ lw.tab k) (.meth .index (.loc 2) [(.bi .min [(.loc 2)])]) [some (tN names), some (tN r), some (.lst (sm.map dN)), none, none] h = .ok (dN i, false) h := by
    rw [← hk]
    exact ev_meth_ok (x := (.lst (sm.map dN), false)) (ds := [dN (mn1 sm)]) (ev_loc_ok rfl) rfl (evL_cons_ok (z := (dN (mn1 sm), false)) rfl (ev_bi_ok (ds := [.lst (sm.map dN)]) (evL_cons_ok (z := (.lst (sm.map dN), false)) rfl (ev_loc_ok rfl) evL_nil_ok) (bi_min_lst sne)) evL_nil_ok) (index_lst rfl (mn1_mem sne))
  have hl' : (sm.map dN).length = sm.length := List.length_map ..
  have c3 : ev (call_ lw.tab k) (.slc (.loc 2) (some (.loc 3)) none) [some (tN names), some (tN r), some (.lst (sm.map dN)), some (dN i), none] h = .ok (.lst ((sm.drop i).map dN), true) h := by
    refine ev_slc_ok (x := (.lst (sm.map dN), false)) (ev_loc_ok rfl) (evO_some_ok (f := false) (i := (i : Int)) (ev_loc_ok rfl)) evO_none_ok ?_
    show newL (Fz.cutD (sm.map dN) (some (i : Int)) none) h = _
    rw [cut_from _ i (by omega), List.map_drop]
    exact newL_ok (by simp; omega)
  have c4 : ev (call_ lw.tab k) (.slc (.loc 2) none (some (.loc 3))) [some (tN names), some (tN r), some (.lst (sm.map dN)), some (dN i), none] h = .ok (.lst ((sm.take i).map dN), true) h := by
    refine ev_slc_ok (x := (.lst (sm.map dN), false)) (ev_loc_ok rfl) evO_none_ok (evO_some_ok (f := false) (i := (i : Int)) (ev_loc_ok rfl)) ?_
    show newL (Fz.cutD (sm.map dN) none (some (i : Int))) h = _
    rw [cut_to _ i (by omega), List.map_take]
    exact newL_ok (by simp; omega)
  have c5 : ev (call_ lw.tab k) (.bin .add (.slc (.loc 2) (some (.loc 3)) none) (.slc (.loc 2) none (some (.loc 3)))) [some (tN names), some (tN r), some (.lst (sm.map dN)), some (dN i), none] h = .ok (.lst ((sm.drop i ++ sm.take i).map dN), true) h := by
    refine ev_bin_ok c3 c4 ?_
    rw [List.map_append]
    exact bin_add_lst rfl rfl (by simp; omega)
  have er : ren names r = sm.drop i ++ sm.take i := by unfold ren turnTo; rw [hsm, hk]
  rw [er]
  refine (call_ret (h1 := h) (d := tN (sm.drop i ++ sm.take i)) (fr := false) lk_ren rfl ((ss_nx (asg_ok c1)).trans ((ss_nx (asg_ok c2)).trans (ss_rt (ret_ok (ev_bi_ok (ds := [.lst ((sm.drop i ++ sm.take i).map dN)]) (evL_cons_ok rfl c5 evL_nil_ok) (bi_tuple_lst rfl ?_))))))).trans (fin_bel fun n => bel_tN _ n)
  simp
  omega
end Lk76

set_option Elab.async false
set_option linter.all false
set_option maxRecDepth 100000
set_option maxHeartbeats 1000000
/-! k76: gifts told by other numbers: the plain part. -/
namespace Lk76
open PySem PySem.Spec PyProof.Rows L2 Fz
structure PN (names : List Nat) (n : Nat) : Prop where
  p : names.Perm (List.range n)
theorem PN.len {names : List Nat} {n : Nat} (q : PN names n) : names.length = n := by rw [q.p.length_eq, List.length_range]
theorem PN.nd {names : List Nat} {n : Nat} (q : PN names n) : names.Nodup := q.p.nodup_iff.mpr List.nodup_range
theorem PN.mem {names : List Nat} {n : Nat} (q : PN names n) {x : Nat} : x ∈ names ↔ x < n := by rw [q.p.mem_iff, List.mem_range]
theorem nm_eq {names : List Nat} {i : Nat} (hi : i < names.length) : nm names i = names[i] := by
  unfold nm
  simp [hi]
theorem PN.nm_lt {names : List Nat} {n i : Nat} (q : PN names n) (hi : i < n) : nm names i < n := by
  have hl := q.len
  rw [nm_eq (by omega)]
  exact q.mem.mp (List.getElem_mem _)
theorem PN.inj {names : List Nat} {n i j : Nat} (q : PN names n) (hi : i < n) (hj : j < n) (e : nm names i = nm names j) : i = j := by
  have hl := q.len
  rw [nm_eq (by omega), nm_eq (by omega)] at e
  have nd := List.pairwise_iff_getElem.mp q.nd
  rcases Nat.lt_trichotomy i j with z | z | z
  · exact absurd e (nd i j (by omega) (by omega) z)
  · exact z
  · exact absurd e.symm (nd j i (by omega) (by omega) z)
theorem PN.ix_lt {names : List Nat} {n p : Nat} (q : PN names n) (hp : p < n) : names.idxOf p < n := by
  rw [← q.len]
  exact List.idxOf_lt_length_of_mem (q.mem.mpr hp)
theorem PN.nm_ix {names : List Nat} {n p : Nat} (q : PN names n) (hp : p < n) : nm names (names.idxOf p) = p := by
  have h := q.ix_lt hp
  have hl := q.len
  rw [nm_eq (by omega)]
  exact List.getElem_idxOf _
theorem PN.ix_nm {names : List Nat} {n i : Nat} (q : PN names n) (hi : i < n) : names.idxOf (nm names i) = i :=
  q.inj (q.ix_lt (q.nm_lt hi)) hi (q.nm_ix (q.nm_lt hi))
def frRow (names : List Nat) (g : List (List Nat)) (p : Nat) : List Nat := ((row g (names.idxOf p)).map (nm names)).mergeSort leI
def fr (names : List Nat) (g : List (List Nat)) : List (List Nat) := (List.range g.length).map (frRow names g)
theorem fr_len (names : List Nat) (g : List (List Nat)) : (fr names g).length = g.length := by simp [fr]
theorem row_fr {names : List Nat} {g : List (List Nat)} {p : Nat} (hp : p < g.length) : row (fr names g) p = frRow names g p := by
  rw [row_eq (by rw [fr_len]; exact hp)]
  simp [fr]
theorem mem_frRow {names : List Nat} {g : List (List Nat)} {p y : Nat} : y ∈ frRow names g p ↔ ∃ x ∈ row g (names.idxOf p), nm names x = y := by
  unfold frRow
  rw [List.mem_mergeSort, List.mem_map]
theorem pairwise_le_lt {l : List Nat} (h : l.Pairwise fun a b => leI a b = true) (nd : l.Nodup) : l.Pairwise (· < ·) := by
  refine (h.and nd).imp fun {a b} z => ?_
  have z1 := z.1
  have z2 := z.2
  unfold leI at z1
  simp only [Bool.not_eq_true', decide_eq_false_iff_not] at z1
  omega
theorem leI_sorted (l : List Nat) : (l.mergeSort leI).Pairwise fun a b => leI a b = true := by
  apply List.pairwise_mergeSort
  · intro a b c h1 h2
    unfold leI at *
    simp only [Bool.not_eq_true', decide_eq_false_iff_not] at *
    omega
  · intro a b
    unfold leI
    simp only [Bool.or_eq_true, Bool.not_eq_true', decide_eq_false_iff_not]
    omega
theorem fr_GV {names : List Nat} {g : List (List Nat)} (v : GV g) (q : PN names g.length) : GV (fr names g) := by
  refine ⟨by rw [fr_len]; exact v.one, by rw [fr_len]; exact v.most, ?_⟩
  intro j hj
  have hj' : j < g.length := by rw [fr_len] at hj; exact hj
  rw [← row_eq hj, row_fr hj', fr_len]
  have hi := q.ix_lt hj'
  have ro := v.rowOk hi
  refine ⟨pairwise_le_lt (leI_sorted _) ?_, fun x hx => ?_⟩
  · unfold frRow
    refine (List.mergeSort_perm _ _).nodup_iff.mpr ?_
    refine List.pairwise_map.mpr ((v.rowNodup (names.idxOf j)).imp_of_mem fun {a b} ha hb hab e => hab ?_)
    exact q.inj (ro.2 a ha).1 (ro.2 b hb).1 e
  · obtain ⟨y, hy, rfl⟩ := mem_frRow.mp hx
    have := ro.2 y hy
    refine ⟨q.nm_lt this.1, fun e => this.2 ?_⟩
    rw [← e, q.ix_nm this.1]
theorem in_fr {names : List Nat} {g : List (List Nat)} (v : GV g) (q : PN names g.length) {a b : Nat} (ha : a < g.length) (hb : b < g.length) : nm names b ∈ row (fr names g) (nm names a) ↔ b ∈ row g a := by
  rw [row_fr (q.nm_lt ha), mem_frRow, q.ix_nm ha]
  constructor
  · rintro ⟨x, hx, e⟩
    rw [← q.inj ((v.rowOk ha).2 x hx).1 hb e]
    exact hx
  · intro h
    exact ⟨b, h, rfl⟩
theorem turn2 {x y : Nat} (h : x ≠ y) : turnTo [x, y] = if x < y then [x, y] else [y, x] := by
  unfold turnTo mn1
  simp only [List.foldl_cons, List.foldl_nil]
  split
  · rename_i l
    have : min x y = x := by omega
    rw [this]
    simp
  · rename_i l
    have : min x y = y := by omega
    rw [this, idxOf_ne h]
    simp
theorem turn3 {x y z : Nat} (h1 : x ≠ y) (h2 : x ≠ z) (h3 : y ≠ z) : turnTo [x, y, z] = if x < y ∧ x < z then [x, y, z] else if y < z then [y, z, x] else [z, x, y] := by
  unfold turnTo mn1
  simp only [List.foldl_cons, List.foldl_nil]
  split
  · have : min (min x y) z = x := by omega
    rw [this]
    simp
  · split
    · have : min (min x y) z = y := by omega
      rw [this, idxOf_ne h1]
      simp
    · have : min (min x y) z = z := by omega
      rw [this, idxOf_ne h2, idxOf_ne h3]
      simp
end Lk76

set_option Elab.async false
set_option linter.all false
set_option maxRecDepth 100000
set_option maxHeartbeats 1000000
/-! k76: the rounds of gifts told by other numbers. -/
namespace Lk76
open PySem PySem.Spec PyProof.Rows L2 Fz
def told (g : List (List Nat)) (s : Nat) : List (List Nat) := r2 g ++ more g s
theorem GV.lt {g : List (List Nat)} (v : GV g) {a b : Nat} (ha : a < g.length) (h : b ∈ Lk76.row g a) : b < g.length := ((v.rowOk ha).2 b h).1
theorem GV.ne {g : List (List Nat)} (v : GV g) {a b : Nat} (ha : a < g.length) (h : b ∈ Lk76.row g a) : b ≠ a := ((v.rowOk ha).2 b h).2
theorem PN.from {names : List Nat} {n p : Nat} (q : PN names n) (hp : p < n) : ∃ a, a < n ∧ nm names a = p := ⟨_, q.ix_lt hp, q.nm_ix hp⟩
theorem PN.ne {names : List Nat} {n i j : Nat} (q : PN names n) (hi : i < n) (hj : j < n) (h : i ≠ j) : nm names i ≠ nm names j := fun e => h (q.inj hi hj e)
theorem rn2 {names : List Nat} {g : List (List Nat)} (v : GV g) (q : PN names g.length) {x : List Nat} : x ∈ r2 (fr names g) ↔ ∃ r ∈ r2 g, ren names r = x := by
  have w := fr_GV v q
  constructor
  · intro h
    obtain ⟨a', b', rfl, ha, hb, hab, hba⟩ := r2_mem.mp h
    have hb' := w.lt ha hb
    rw [fr_len] at ha hb'
    obtain ⟨a, la, rfl⟩ := q.from ha
    obtain ⟨b, lb, rfl⟩ := q.from hb'
    rw [in_fr v q la lb] at hb
    rw [in_fr v q lb la] at hba
    have ne := v.ne la hb
    by_cases l : a < b
    · refine ⟨[a, b], r2_mem.mpr ⟨a, b, rfl, la, hb, l, hba⟩, ?_⟩
      show turnTo [nm names a, nm names b] = _
      rw [turn2 (by omega), if_pos hab]
    · refine ⟨[b, a], r2_mem.mpr ⟨b, a, rfl, lb, hba, by omega, hb⟩, ?_⟩
      show turnTo [nm names b, nm names a] = _
      rw [turn2 (by omega), if_neg (by omega)]
  · rintro ⟨r, hr, rfl⟩
    obtain ⟨a, b, rfl, la, hb, hab, hba⟩ := r2_mem.mp hr
    have lb := v.lt la hb
    have ne := q.ne la lb (by omega)
    show turnTo [nm names a, nm names b] ∈ _
    rw [turn2 ne]
    split
    · rename_i l
      exact r2_mem.mpr ⟨_, _, rfl, by rw [fr_len]; exact q.nm_lt la, (in_fr v q la lb).mpr hb, l, (in_fr v q lb la).mpr hba⟩
    · rename_i l
      exact r2_mem.mpr ⟨_, _, rfl, by rw [fr_len]; exact q.nm_lt lb, (in_fr v q lb la).mpr hba, by omega, (in_fr v q la lb).mpr hb⟩
theorem rn3 {names : List Nat} {g : List (List Nat)} (v : GV g) (q : PN names g.length) {x : List Nat} : x ∈ r3t (fr names g) ↔ ∃ r ∈ r3t g, ren names r = x := by
  have w := fr_GV v q
  constructor
  · intro h
    obtain ⟨a', b', c', rfl, ha, hb, hc, hab, hac, hca⟩ := r3_mem.mp h
    have hb' := w.lt ha hb
    have hc' := w.lt hb' hc
    rw [fr_len] at ha hb' hc'
    obtain ⟨a, la, rfl⟩ := q.from ha
    obtain ⟨b, lb, rfl⟩ := q.from hb'
    obtain ⟨c, lc, rfl⟩ := q.from hc'
    rw [in_fr v q la lb] at hb
    rw [in_fr v q lb lc] at hc
    rw [in_fr v q lc la] at hca
    have n1 := v.ne la hb
    have n2 := v.ne lb hc
    have n3 := v.ne lc hca
    have m1 := q.ne la lb (by omega)
    have m2 := q.ne lb lc (by omega)
    have m3 := q.ne la lc (by omega)
    by_cases l : a < b ∧ a < c
    · refine ⟨[a, b, c], r3_mem.mpr ⟨a, b, c, rfl, la, hb, hc, l.1, l.2, hca⟩, ?_⟩
      show turnTo [nm names a, nm names b, nm names c] = _
      rw [turn3 m1 m3 m2, if_pos ⟨hab, hac⟩]
    · by_cases l2 : b < c
      · refine ⟨[b, c, a], r3_mem.mpr ⟨b, c, a, rfl, lb, hc, hca, l2, by omega, hb⟩, ?_⟩
        show turnTo [nm names b, nm names c, nm names a] = _
        rw [turn3 m2 m1.symm m3.symm, if_neg (by omega), if_neg (by omega)]
      · refine ⟨[c, a, b], r3_mem.mpr ⟨c, a, b, rfl, lc, hca, hb, by omega, by omega, hc⟩, ?_⟩
        show turnTo [nm names c, nm names a, nm names b] = _
        rw [turn3 m3.symm m2.symm m1, if_neg (by omega), if_pos (by omega)]
  · rintro ⟨r, hr, rfl⟩
    obtain ⟨a, b, c, rfl, la, hb, hc, hab, hac, hca⟩ := r3_mem.mp hr
    have lb := v.lt la hb
    have lc := v.lt lb hc
    have n2 := v.ne lb hc
    have m1 := q.ne la lb (by omega)
    have m2 := q.ne lb lc (by omega)
    have m3 := q.ne la lc (by omega)
    have e1 := (in_fr v q la lb).mpr hb
    have e2 := (in_fr v q lb lc).mpr hc
    have e3 := (in_fr v q lc la).mpr hca
    show turnTo [nm names a, nm names b, nm names c] ∈ _
    rw [turn3 m1 m3 m2]
    split
    · rename_i l
      exact r3_mem.mpr ⟨_, _, _, rfl, by rw [fr_len]; exact q.nm_lt la, e1, e2, l.1, l.2, e3⟩
    · split
      · rename_i l1 l2
        exact r3_mem.mpr ⟨_, _, _, rfl, by rw [fr_len]; exact q.nm_lt lb, e2, e3, l2, by omega, e1⟩
      · rename_i l1 l2
        exact r3_mem.mpr ⟨_, _, _, rfl, by rw [fr_len]; exact q.nm_lt lc, e3, e1, by omega, by omega, e2⟩
theorem rn {names : List Nat} {g : List (List Nat)} (v : GV g) (q : PN names g.length) {s : Nat} {x : List Nat} : x ∈ told (fr names g) s ↔ x ∈ (told g s).map (ren names) := by
  unfold told
  rw [List.map_append, List.mem_append, List.mem_append, rn2 v q, List.mem_map]
  refine or_congr Iff.rfl ?_
  unfold more
  split
  · rw [rn3 v q, List.mem_map]
  · simp
theorem ren_len {names r : List Nat} : (ren names r).length = r.length := by
  unfold ren turnTo
  rw [List.length_append, List.length_drop, List.length_take]
  have : (r.map (nm names)).idxOf (mn1 (r.map (nm names))) ≤ (r.map (nm names)).length := List.idxOf_le_length
  simp only [List.length_map] at *
  omega
theorem ren_inj {names : List Nat} {g : List (List Nat)} (v : GV g) (q : PN names g.length) {s : Nat} {x y : List Nat} (hx : x ∈ told g s) (hy : y ∈ told g s) (e : ren names x = ren names y) : x = y := by
  have el : x.length = y.length := by rw [← ren_len (names := names), e, ren_len]
  have key : ∀ {x}, x ∈ told g s → (∃ a b, x = [a, b] ∧ a < b ∧ a < g.length ∧ b < g.length) ∨ (∃ a b c, x = [a, b, c] ∧ a < b ∧ a < c ∧ b ≠ c ∧ a < g.length ∧ b < g.length ∧ c < g.length) := by
    intro x hx
    rcases List.mem_append.mp hx with h | h
    · obtain ⟨a, b, rfl, la, hb, hab, hba⟩ := r2_mem.mp h
      exact .inl ⟨a, b, rfl, hab, la, v.lt la hb⟩
    · unfold more at h
      split at h
      · obtain ⟨a, b, c, rfl, la, hb, hc, hab, hac, hca⟩ := r3_mem.mp h
        have lb := v.lt la hb
        exact .inr ⟨a, b, c, rfl, hab, hac, (v.ne lb hc).symm, la, lb, v.lt lb hc⟩
      · cases h
  rcases key hx with ⟨a, b, rfl, l1, l2, l3⟩ | ⟨a, b, c, rfl, l1, l2, l3, l4, l5, l6⟩
  · rcases key hy with ⟨d, f, rfl, k1, k2, k3⟩ | ⟨d, f, i, rfl, k1, k2, k3, k4, k5, k6⟩
    · have e' : turnTo [nm names a, nm names b] = turnTo [nm names d, nm names f] := e
      rw [turn2 (q.ne l2 l3 (by omega)), turn2 (q.ne k2 k3 (by omega))] at e'
      have i1 := fun z => q.inj (i := a) (j := d) l2 k2 z
      have i2 := fun z => q.inj (i := b) (j := f) l3 k3 z
      have i3 := fun z => q.inj (i := a) (j := f) l2 k3 z
      have i4 := fun z => q.inj (i := b) (j := d) l3 k2 z
      split at e' <;> split at e' <;> simp only [List.cons.injEq, and_true] at e' <;> obtain ⟨e1, e2⟩ := e' <;>
        first
        | (rw [i1 e1, i2 e2])
        | (rw [i2 e1, i1 e2])
        | (have := i3 e1; have := i4 e2; omega)
        | (have := i4 e1; have := i3 e2; omega)
    · simp at el
  · rcases key hy with ⟨d, f, rfl, k1, k2, k3⟩ | ⟨d, f, i, rfl, k1, k2, k3, k4, k5, k6⟩
    · simp at el
    · have e' : turnTo [nm names a, nm names b, nm names c] = turnTo [nm names d, nm names f, nm names i] := e
      rw [turn3 (q.ne l4 l5 (by omega)) (q.ne l4 l6 (by omega)) (q.ne l5 l6 l3), turn3 (q.ne k4 k5 (by omega)) (q.ne k4 k6 (by omega)) (q.ne k5 k6 k3)] at e'
      have ad := fun z => q.inj (i := a) (j := d) l4 k4 z
      have af := fun z => q.inj (i := a) (j := f) l4 k5 z
      have ai := fun z => q.inj (i := a) (j := i) l4 k6 z
      have bd := fun z => q.inj (i := b) (j := d) l5 k4 z
      have bf := fun z => q.inj (i := b) (j := f) l5 k5 z
      have bi := fun z => q.inj (i := b) (j := i) l5 k6 z
      have cd := fun z => q.inj (i := c) (j := d) l6 k4 z
      have cf := fun z => q.inj (i := c) (j := f) l6 k5 z
      have ci := fun z => q.inj (i := c) (j := i) l6 k6 z
      have fin : (a = d ∧ b = f ∧ c = i) ∨ (a = f ∧ b = i ∧ c = d) ∨ (a = i ∧ b = d ∧ c = f) := by
        split at e' <;> (try split at e') <;> (try split at e') <;> (try split at e') <;> simp only [List.cons.injEq, and_true] at e' <;> obtain ⟨e1, e2, e3⟩ := e' <;>
          first
          | exact .inl ⟨ad e1, bf e2, ci e3⟩
          | exact .inl ⟨ad e2, bf e3, ci e1⟩
          | exact .inl ⟨ad e3, bf e1, ci e2⟩
          | exact .inr (.inl ⟨af e1, bi e2, cd e3⟩)
          | exact .inr (.inl ⟨af e2, bi e3, cd e1⟩)
          | exact .inr (.inl ⟨af e3, bi e1, cd e2⟩)
          | exact .inr (.inr ⟨ai e1, bd e2, cf e3⟩)
          | exact .inr (.inr ⟨ai e2, bd e3, cf e1⟩)
          | exact .inr (.inr ⟨ai e3, bd e1, cf e2⟩)
      rcases fin with ⟨e1, e2, e3⟩ | ⟨e1, e2, e3⟩ | ⟨e1, e2, e3⟩
      · rw [e1, e2, e3]
      · omega
      · omega
theorem map_ren_nodup {names : List Nat} {g : List (List Nat)} (v : GV g) (q : PN names g.length) (s : Nat) : ((told g s).map (ren names)).Nodup :=
  List.pairwise_map.mpr ((told_nodup v s).imp_of_mem fun {a b} ha hb hab e => hab (ren_inj v q ha hb e))
theorem rd_ren {names : List Nat} {g : List (List Nat)} (v : GV g) (q : PN names g.length) (s : Nat) : sortN ((rd g s).map (ren names)) = rd (fr names g) s := by
  have p : (rd g s).Perm (told g s) := List.mergeSort_perm _ leN
  exact sortN_ext ((p.map _).nodup_iff.mpr (map_ren_nodup v q s)) (told_nodup (fr_GV v q) s) fun x => by
    rw [(p.map _).mem_iff]
    exact (rn v q).symm
end Lk76

set_option Elab.async false
set_option linter.all false
set_option maxRecDepth 100000
set_option maxHeartbeats 1000000
/-! k76: rounds of two among the rounds of three; one person gives to all. -/
namespace Lk76
open PySem PySem.Spec PyProof.Rows L2 Fz
theorem mem_rd {g : List (List Nat)} {s : Nat} {x : List Nat} : x ∈ rd g s ↔ x ∈ told g s := mem_sortN
theorem rd_two {g : List (List Nat)} (v : GV g) : (rd g 3).filter (fun r => decide (r.length = 2)) = rd g 2 := by
  refine strict_ext ((sortN_strict (told_nodup v 3)).sublist List.filter_sublist) (sortN_strict (told_nodup v 2)) fun x => ?_
  rw [List.mem_filter, mem_rd]
  show _ ↔ x ∈ sortN (told g 2)
  rw [mem_sortN]
  unfold told more
  simp only [if_pos, show ¬ (2 : Nat) = 3 by omega, if_false, List.append_nil, List.mem_append, decide_eq_true_eq]
  constructor
  · rintro ⟨h | h, e⟩
    · exact h
    · obtain ⟨a, b, c, rfl, _⟩ := r3_mem.mp h
      simp at e
  · intro h
    refine ⟨.inl h, ?_⟩
    obtain ⟨a, b, rfl, _⟩ := r2_mem.mp h
    rfl
def full (n o : Nat) : List Nat := (List.range n).filter fun x => decide (x ≠ o)
def mr (g : List (List Nat)) (o : Nat) : List (List Nat) := g.take o ++ [full g.length o] ++ g.drop (o + 1)
theorem mr_len {g : List (List Nat)} {o : Nat} (ho : o < g.length) : (mr g o).length = g.length := by
  unfold mr
  simp
  omega
theorem mr_get {g : List (List Nat)} {o i : Nat} (ho : o < g.length) (hi : i < g.length) : row (mr g o) i = if i = o then full g.length o else row g i := by
  unfold row mr
  rw [List.getD_eq_getElem?_getD, List.append_assoc, List.getElem?_append]
  simp only [List.length_take]
  have e : min o g.length = o := by omega
  rw [e]
  split
  · rename_i l
    rw [if_neg (by omega), List.getElem?_take, if_pos l, List.getD_eq_getElem?_getD]
  · rename_i l
    by_cases z : i = o
    · subst z
      simp
    · rw [if_neg z, List.getElem?_append_right (by simp; omega), List.getElem?_drop, List.getD_eq_getElem?_getD]
      have : o + 1 + (i - o - [full g.length o].length) = i := by simp; omega
      rw [this]
theorem mr_GV {g : List (List Nat)} (v : GV g) {o : Nat} (ho : o < g.length) : GV (mr g o) := by
  refine ⟨by rw [mr_len ho]; exact v.one, by rw [mr_len ho]; exact v.most, ?_⟩
  intro j hj
  have hj' : j < g.length := by rw [mr_len ho] at hj; exact hj
  rw [← row_eq hj, mr_get ho hj', mr_len ho]
  split
  · rename_i e
    subst e
    refine ⟨(List.pairwise_lt_range).sublist List.filter_sublist, fun x hx => ?_⟩
    have := List.mem_filter.mp hx
    exact ⟨List.mem_range.mp this.1, by simpa using this.2⟩
  · exact v.rowOk hj'
theorem mr_row {g : List (List Nat)} (v : GV g) {o a b : Nat} (ho : o < g.length) (ha : a < g.length) (h : b ∈ row g a) : b ∈ row (mr g o) a := by
  rw [mr_get ho ha]
  split
  · rename_i e
    subst e
    exact List.mem_filter.mpr ⟨List.mem_range.mpr (v.lt ha h), by simpa using v.ne ha h⟩
  · exact h
theorem rd_more {g : List (List Nat)} (v : GV g) {o : Nat} (ho : o < g.length) {x : List Nat} (h : x ∈ rd g 3) : x ∈ rd (mr g o) 3 := by
  rw [mem_rd] at h ⊢
  rcases List.mem_append.mp h with z | z
  · obtain ⟨a, b, rfl, la, hb, hab, hba⟩ := r2_mem.mp z
    exact List.mem_append.mpr (.inl (r2_mem.mpr ⟨a, b, rfl, by rw [mr_len ho]; exact la, mr_row v ho la hb, hab, mr_row v ho (v.lt la hb) hba⟩))
  · obtain ⟨a, b, c, rfl, la, hb, hc, hab, hac, hca⟩ := r3_mem.mp (show x ∈ r3t g from z)
    have lb := v.lt la hb
    exact List.mem_append.mpr (.inr (show _ ∈ r3t (mr g o) from r3_mem.mpr ⟨a, b, c, rfl, by rw [mr_len ho]; exact la, mr_row v ho la hb, mr_row v ho lb hc, hab, hac, mr_row v ho (v.lt lb hc) hca⟩))
end Lk76

set_option Elab.async false
set_option linter.all false
set_option maxRecDepth 100000
set_option maxHeartbeats 1000000
/-! k76: the length of what repr gives. -/
namespace Lk76
open PySem PySem.Spec PyProof.Rows L2 Fz
theorem piled_le {ts : List Str} {m : Nat} (h : ∀ t ∈ ts, t.length ≤ m) : piled ts ≤ ts.length * (m + 2) := by
  induction ts with
  | nil => simp [piled_nil]
  | cons x r ih =>
    rw [piled_cons, List.length_cons, Nat.add_mul]
    have h1 := h x List.mem_cons_self
    have h2 := ih fun t ht => h t (List.mem_cons_of_mem _ ht)
    omega
theorem join_le {ts : List Str} {m : Nat} (h : ∀ t ∈ ts, t.length ≤ m) : (Str.join ", " ts).length ≤ ts.length * (m + 2) := by
  cases ts with
  | nil => simp; decide
  | cons x r =>
    have := join_length_add (x :: r) (by simp)
    have := piled_le h
    omega
theorem tupleText_le {ts : List Str} {m : Nat} (h : ∀ t ∈ ts, t.length ≤ m) : (tupleText ts).length ≤ ts.length * (m + 2) + 3 := by
  unfold tupleText
  rw [strLen_append, strLen_append]
  have h1 := join_le h
  have h2 : (("(" : String) : Str).length = 1 := rfl
  have h3 : ((if ts.length == 1 then ",)" else ")" : String) : Str).length ≤ 2 := by split <;> decide
  omega
theorem textFrom_le {m : Nat} : ∀ (ts : List Str) (k : Nat) (acc : Str), (∀ t ∈ ts, t.length ≤ m) → (textFrom k acc ts).length ≤ acc.length + ts.length * (m + 2)
  | [], k, acc, _ => by show acc.length ≤ _; simp
  | t :: r, k, acc, h => by
    have ih := textFrom_le r (k + 1) (acc ++ (if k > 0 then ", " else "" : String) ++ t) fun x hx => h x (List.mem_cons_of_mem _ hx)
    have h1 := h t List.mem_cons_self
    have e : (acc ++ (if k > 0 then ", " else "" : String) ++ t).length ≤ acc.length + 2 + t.length := by
      rw [strLen_append, strLen_append]
      have : ((if k > 0 then ", " else "" : String) : Str).length ≤ 2 := by split <;> decide
      omega
    show (textFrom (k + 1) (acc ++ (if k > 0 then ", " else "" : String) ++ t) r).length ≤ _
    rw [List.length_cons, Nat.add_mul]
    omega
theorem listText_le {ts : List Str} {m : Nat} (h : ∀ t ∈ ts, t.length ≤ m) : (listText ts).length ≤ ts.length * (m + 2) + 2 := by
  unfold listText
  rw [strLen_append]
  have := textFrom_le ts 0 "[" h
  have h2 : (("[" : String) : Str).length = 1 := rfl
  have h3 : (("]" : String) : Str).length = 1 := rfl
  omega
def pN (l : List Nat) : PyData := .tuple (l.map fun x : Nat => .int ((x : Nat) : Int))
def pG (g : List (List Nat)) : PyData := .tuple (g.map pN)
theorem toPyL_dN : ∀ l : List Nat, toPyL (l.map dN) = some (l.map fun x : Nat => .int ((x : Nat) : Int))
  | [] => rfl
  | x :: r => by
    rw [List.map_cons]
    simp only [toPyL, toPy, dN, toPyL_dN r, List.map_cons]
theorem toPy_tN (l : List Nat) : toPy (tN l) = some (pN l) := by
  unfold tN
  simp only [toPy, toPyL_dN, Option.map_some]
  rfl
theorem toPyL_tN : ∀ g : List (List Nat), toPyL (g.map tN) = some (g.map pN)
  | [] => rfl
  | x :: r => by
    rw [List.map_cons]
    simp only [toPyL, toPy_tN, toPyL_tN r, List.map_cons]
theorem toPy_tG (g : List (List Nat)) : toPy (tG g) = some (pG g) := by
  unfold tG
  simp only [toPy, toPyL_tN, Option.map_some]
  rfl
theorem shownAll_map {α : Type} (f : α → PyData) : ∀ l : List α, PyData.shownAll (l.map f) = l.map fun x => (f x).shown
  | [] => rfl
  | x :: r => by simp only [List.map_cons, PyData.shownAll, shownAll_map f r]
theorem showableAll_map {α : Type} (f : α → PyData) : ∀ l : List α, (∀ x ∈ l, (f x).showable = true) → PyData.showableAll (l.map f) = true
  | [], _ => rfl
  | x :: r, h => by
    simp only [List.map_cons, PyData.showableAll, h x List.mem_cons_self, showableAll_map f r fun y hy => h y (List.mem_cons_of_mem _ hy), Bool.and_self]
theorem digit_len : ∀ x, x < 8 → (PyData.shown (.int ((x : Nat) : Int))).length ≤ 1 := by decide +kernel
theorem digit_ok : ∀ x, x < 8 → PyData.showable (.int ((x : Nat) : Int)) = true := by decide +kernel
theorem pN_len {r : List Nat} (h : ∀ x ∈ r, x < 8) (hl : r.length ≤ 8) : (pN r).shown.length ≤ 27 := by
  unfold pN
  simp only [PyData.shown]
  rw [shownAll_map]
  refine Nat.le_trans (tupleText_le (m := 1) ?_) ?_
  · intro t ht
    obtain ⟨x, hx, rfl⟩ := List.mem_map.mp ht
    exact digit_len x (h x hx)
  · rw [List.length_map]
    omega
theorem pN_ok {r : List Nat} (h : ∀ x ∈ r, x < 8) : (pN r).showable = true := by
  unfold pN
  simp only [PyData.showable]
  exact showableAll_map _ _ fun x hx => digit_ok x (h x hx)
theorem pG_len {g : List (List Nat)} (h : ∀ r ∈ g, (∀ x ∈ r, x < 8) ∧ r.length ≤ 8) (hl : g.length ≤ 1000) : (pG g).shown.length ≤ 29003 := by
  unfold pG
  simp only [PyData.shown]
  rw [shownAll_map]
  refine Nat.le_trans (tupleText_le (m := 27) ?_) ?_
  · intro t ht
    obtain ⟨x, hx, rfl⟩ := List.mem_map.mp ht
    exact pN_len (h x hx).1 (h x hx).2
  · rw [List.length_map]
    omega
theorem pG_ok {g : List (List Nat)} (h : ∀ r ∈ g, (∀ x ∈ r, x < 8) ∧ r.length ≤ 8) : (pG g).showable = true := by
  unfold pG
  simp only [PyData.showable]
  exact showableAll_map _ _ fun x hx => pN_ok (h x hx).1
theorem plain_tG (g : List (List Nat)) (m : Nat) : Fz.plain (m + 2) (tG g) = true := by
  unfold tG
  simp only [Fz.plain]
  exact plainL_tN g m
def twice (g : List (List Nat)) : Str := (PyData.list [pG g, pG g]).shown
theorem bi_repr_two {h : LH} {g : List (List Nat)} (hg : ∀ r ∈ g, (∀ x ∈ r, x < 8) ∧ r.length ≤ 8) (hl : g.length ≤ 1000) : biD .repr [.lst [tG g, tG g]] h = .ok (.str (twice g), false) h := by
  have e : toPy (.lst [tG g, tG g]) = some (.list [pG g, pG g]) := by simp only [toPy, toPyL, toPy_tG, Option.map_some]
  have s : (PyData.list [pG g, pG g]).showable = true := by simp only [PyData.showable, PyData.showableAll, pG_ok hg, Bool.and_self]
  have p : Fz.plain 30 (.lst [tG g, tG g]) = true := by simp only [Fz.plain, plainL, plain_tG g 27, Bool.and_self]
  have l : (PyData.list [pG g, pG g]).shown.length ≤ sizeLine := by
    have h1 : (PyData.list [pG g, pG g]).shown.length ≤ 2 * (29003 + 2) + 2 := by
      simp only [PyData.shown, PyData.shownAll]
      refine listText_le (ts := [(pG g).shown, (pG g).shown]) (m := 29003) ?_
      intro t ht
      simp only [List.mem_cons, List.not_mem_nil, or_false, or_self] at ht
      rw [ht]
      exact pG_len hg hl
    have h2 : 100000 ≤ sizeLine := by decide
    omega
  show (match toPy (.lst [tG g, tG g]) with
    | some x => match x.showable && Fz.plain 30 (.lst [tG g, tG g]) && decide (x.shown.length ≤ sizeLine) with
      | true => val (.str x.shown) h
      | false => Res.no
    | none => Res.no) = _
  rw [e]
  simp only [s, p, decide_eq_true l, Bool.and_self]
  rfl
end Lk76

set_option Elab.async false
set_option linter.all false
set_option maxRecDepth 100000
set_option maxHeartbeats 1000000
/-! k76: `_law_gifts_right`: its parts. -/
namespace Lk76
open PySem PySem.Spec PyProof.Rows L2 Fz
theorem lk_gr : look lw.tab "_law_gifts_right" = some ⟨"_law_gifts_right", ["pool", "gifts"], r__law_gifts_right.N, b__law_gifts_right⟩ := lf.lk r__law_gifts_right (by simp [lw])
def hE (l : Nat) (g : List (List Nat)) (names : List Nat) (o4 o5 o6 o7 o8 o9 o10 o11 : Option D) : Fz.Env := [some (.cell l), some (tG g), some (dN g.length), some (tN names), o4, o5, o6, o7, o8, o9, o10, o11]
def freshIn : E := .bi .tuple [(.bi .sorted [(.comp (.ix (.loc 3) (.loc 10)) [.mk (.loc 10) (.ix (.loc 1) (.meth .index (.loc 3) [(.loc 9)])) []] [10])])]
def freshE : E := .bi .tuple [(.comp freshIn [.mk (.loc 9) (.range [(.loc 2)]) []] [9])]
theorem frRow_len (names : List Nat) (g : List (List Nat)) (p : Nat) : (frRow names g p).length = (row g (names.idxOf p)).length := by
  unfold frRow
  rw [List.length_mergeSort, List.length_map]
variable {Φ : Str → List D → M DF}
theorem e_freshIn {l : Nat} {g : List (List Nat)} {names : List Nat} (v : GV g) (q : PN names g.length) {p : Nat} (hp : p < g.length) {o4 o5 o6 o7 o8 o10 o11 : Option D} {h : LH} :
    ev Φ freshIn (hE l g names o4 o5 o6 o7 o8 (some (dN p)) o10 o11) h = .ok (tN (frRow names g p), false) h := by
  have t1 := thousand
  have hi := q.ix_lt hp
  have rl := v.rowLen (names.idxOf p)
  have c1 : ev Φ (.ix (.loc 1) (.meth .index (.loc 3) [(.loc 9)])) (hE l g names o4 o5 o6 o7 o8 (some (dN p)) o10 o11) h = .ok (tN (row g (names.idxOf p)), false) h :=
    ev_ix_ok (x := (tG g, false)) (y := (dN (names.idxOf p), false)) (ev_loc_ok rfl) (ev_meth_ok (x := (tN names, false)) (ds := [dN p]) (ev_loc_ok rfl) rfl (evL_cons_ok (z := (dN p, false)) rfl (ev_loc_ok rfl) evL_nil_ok) (index_tup rfl (q.mem.mpr hp))) (ix_row hi)
  have c2 : ev Φ (.comp (.ix (.loc 3) (.loc 10)) [.mk (.loc 10) (.ix (.loc 1) (.meth .index (.loc 3) [(.loc 9)])) []] [10]) (hE l g names o4 o5 o6 o7 o8 (some (dN p)) o10 o11) h = .ok (.lst (((row g (names.idxOf p)).map (nm names)).map dN), true) h := by
    have e : ((row g (names.idxOf p)).map (nm names)).map dN = (row g (names.idxOf p)).filterMap fun x => some (dN (nm names x)) := by
      rw [List.map_map]
      exact map_fmap _ _
    rw [e]
    refine comp1M (l := row g (names.idxOf p)) dN _ (evW_gen_ok (x := (tN (row g (names.idxOf p)), false)) rfl c1 rfl) (by omega) ?_
    intro x hx
    refine ⟨hE l g names o4 o5 o6 o7 o8 (some (dN p)) (some (dN x)) o11, rfl, evT_nil_ok, fun z hz => ⟨false, ?_⟩⟩
    cases hz
    exact ev_ix_ok (x := (tN names, false)) (y := (dN x, false)) (ev_loc_ok rfl) (ev_loc_ok rfl) (ix_num (by rw [q.len]; exact ((v.rowOk hi).2 x hx).1))
  exact ev_bi_ok (evL_cons_ok rfl (ev_bi_ok (evL_cons_ok rfl c2 evL_nil_ok) (bi_sorted_nums rfl (by simp; omega))) evL_nil_ok) (bi_tuple_lst rfl (by rw [List.length_map, frRow_len]; omega))
theorem e_fresh {l : Nat} {g : List (List Nat)} {names : List Nat} (v : GV g) (q : PN names g.length) {o4 o5 o6 o7 o8 o10 o11 : Option D} {h : LH} :
    ev Φ freshE (hE l g names o4 o5 o6 o7 o8 none o10 o11) h = .ok (tG (fr names g), false) h := by
  have t1 := thousand
  have v8 := v.most
  have c : ev Φ (.comp freshIn [.mk (.loc 9) (.range [(.loc 2)]) []] [9]) (hE l g names o4 o5 o6 o7 o8 none o10 o11) h = .ok (.lst ((fr names g).map tN), true) h := by
    have e : (fr names g).map tN = (List.range g.length).filterMap fun p => some (tN (frRow names g p)) := by
      unfold fr
      rw [List.map_map]
      exact map_fmap _ _
    rw [e]
    refine comp1M (l := List.range g.length) dN _ (evW_range_ok (by omega) rfl (ev_loc_ok rfl)) (by simp; omega) ?_
    intro p hp
    refine ⟨hE l g names o4 o5 o6 o7 o8 (some (dN p)) o10 o11, rfl, evT_nil_ok, fun z hz => ⟨false, ?_⟩⟩
    cases hz
    exact e_freshIn v q (List.mem_range.mp hp)
  exact ev_bi_ok (evL_cons_ok rfl c evL_nil_ok) (bi_tuple_lst rfl (by rw [List.length_map, fr_len]; omega))
end Lk76

set_option Elab.async false
set_option linter.all false
set_option maxRecDepth 100000
set_option maxHeartbeats 1000000
/-! k76: `_law_gifts_right`: one size. -/
namespace Lk76
open PySem PySem.Spec PyProof.Rows L2 Fz
theorem ev_callk_ok {Φ : Str → List D → M DF} {h h1 h2 : LH} {env : Fz.Env} {x : Str} {js : List Nat} {ks : List E} {us vs : List D} {z : DF} (a : evL Φ ks env h = .ok us h1) (p : pick js us = some vs) (c : Φ x vs h1 = .ok z h2) : ev Φ (.callk x js ks) env h = .ok z h2 := by
  simp only [ev]
  refine (then_ok a).trans ?_
  rw [p]
  exact c
theorem eqD_tG (a b : List (List Nat)) : eqD (tG a) (tG b) = decide (a = b) := by
  show eqDs (a.map tN) (b.map tN) = _
  exact eqDs_tN a b
theorem ne_tG {h : LH} (a : List (List Nat)) : cmpD .ne (tG a) (tG a) h = .ok (.bl false, false) h := by
  show (match Fz.plain 30 (tG a) && Fz.plain 30 (tG a) with
    | true => val (.bl (!eqD (tG a) (tG a))) h
    | false => Res.no) = _
  rw [plain_tG a 28, eqD_tG]
  simp
  rfl
theorem ne_str {h : LH} (a : Str) (ok : PyData.strOk a = true) : cmpD .ne (.str a) (.str a) h = .ok (.bl false, false) h := by
  show (match Fz.plain 30 (.str a) && Fz.plain 30 (.str a) with
    | true => val (.bl (!eqD (.str a) (.str a))) h
    | false => Res.no) = _
  simp only [Fz.plain, ok, eqD, Bool.and_self]
  simp
  rfl
theorem sok_append (a b : Str) : PyData.strOk (a ++ b) = (PyData.strOk a && PyData.strOk b) := by
  show Array.all (a.cps ++ b.cps) _ = _
  rw [Array.all_append]
  rfl
theorem sok_join : ∀ ts : List Str, (∀ t ∈ ts, PyData.strOk t = true) → PyData.strOk (Str.join ", " ts) = true
  | [], _ => by decide +kernel
  | [x], h => h x List.mem_cons_self
  | x :: y :: r, h => by
    have ih := sok_join (y :: r) fun t ht => h t (List.mem_cons_of_mem _ ht)
    show PyData.strOk (x ++ ", " ++ Str.join ", " (y :: r)) = true
    rw [sok_append, sok_append, h x List.mem_cons_self, ih]
    decide +kernel
theorem sok_tuple {ts : List Str} (h : ∀ t ∈ ts, PyData.strOk t = true) : PyData.strOk (tupleText ts) = true := by
  unfold tupleText
  rw [sok_append, sok_append, sok_join ts h]
  split <;> decide +kernel
theorem sok_from : ∀ (ts : List Str) (k : Nat) (acc : Str), PyData.strOk acc = true → (∀ t ∈ ts, PyData.strOk t = true) → PyData.strOk (textFrom k acc ts) = true
  | [], k, acc, a, _ => a
  | t :: r, k, acc, a, h => by
    refine sok_from r (k + 1) (acc ++ (if k > 0 then ", " else "" : String) ++ t) ?_ fun x hx => h x (List.mem_cons_of_mem _ hx)
    rw [sok_append, sok_append, a, h t List.mem_cons_self]
    split <;> decide +kernel
theorem sok_list {ts : List Str} (h : ∀ t ∈ ts, PyData.strOk t = true) : PyData.strOk (listText ts) = true := by
  unfold listText
  rw [sok_append, sok_from ts 0 "[" (by decide +kernel) h]
  decide +kernel
theorem digit_sok : ∀ x, x < 8 → PyData.strOk (PyData.shown (.int ((x : Nat) : Int))) = true := by decide +kernel
theorem twice_ok {g : List (List Nat)} (hg : ∀ r ∈ g, (∀ x ∈ r, x < 8) ∧ r.length ≤ 8) : PyData.strOk (twice g) = true := by
  have e : PyData.strOk (pG g).shown = true := by
    unfold pG
    simp only [PyData.shown]
    rw [shownAll_map]
    refine sok_tuple fun t ht => ?_
    obtain ⟨r, hr, rfl⟩ := List.mem_map.mp ht
    unfold pN
    simp only [PyData.shown]
    rw [shownAll_map]
    refine sok_tuple fun t ht => ?_
    obtain ⟨x, hx, rfl⟩ := List.mem_map.mp ht
    exact digit_sok x ((hg r hr).1 x hx)
  unfold twice
  simp only [PyData.shown, PyData.shownAll]
  refine sok_list (ts := [(pG g).shown, (pG g).shown]) fun t ht => ?_
  simp only [List.mem_cons, List.not_mem_nil, or_false, or_self] at ht
  rw [ht, e]
end Lk76

set_option Elab.async false
set_option linter.all false
set_option maxRecDepth 100000
set_option maxHeartbeats 1000000
/-! k76: `_law_gifts_right`: one size. -/
namespace Lk76
open PySem PySem.Spec PyProof.Rows L2 Fz
theorem rd_num {g : List (List Nat)} (v : GV g) {s : Nat} : ∀ r ∈ rd g s, (∀ x ∈ r, x < g.length) ∧ r.length ≤ 8 ∧ r ≠ [] := by
  intro r hr
  rw [mem_rd] at hr
  rcases List.mem_append.mp hr with z | z
  · obtain ⟨a, b, rfl, la, hb, _⟩ := r2_mem.mp z
    have lb := v.lt la hb
    refine ⟨fun x hx => ?_, by simp, by simp⟩
    simp only [List.mem_cons, List.not_mem_nil, or_false] at hx
    rcases hx with rfl | rfl <;> assumption
  · unfold more at z
    split at z
    · obtain ⟨a, b, c, rfl, la, hb, hc, _⟩ := r3_mem.mp z
      have lb := v.lt la hb
      have lc := v.lt lb hc
      refine ⟨fun x hx => ?_, by simp, by simp⟩
      simp only [List.mem_cons, List.not_mem_nil, or_false] at hx
      rcases hx with rfl | rfl | rfl <;> assumption
    · cases z
theorem rd_len {g : List (List Nat)} (v : GV g) (s : Nat) : (rd g s).length ≤ 576 := by
  have h1 := r2_len v
  have h2 := more_len v s
  have h3 : (rd g s).length = (r2 g ++ more g s).length := (List.mergeSort_perm _ leN).length_eq
  rw [List.length_append] at h3
  omega
end Lk76

set_option Elab.async false
set_option linter.all false
set_option maxRecDepth 100000
set_option maxHeartbeats 1000000
/-! k76: `_law_gifts_right`: one size. -/
namespace Lk76
open PySem PySem.Spec PyProof.Rows L2 Fz
def sizeB : List S := [.asg 6 (.call "_law_rounds" [(.loc 1), (.loc 5)]), .ife (.or (.cmp .ne (.loc 6) (.call "_law_by_all" [(.loc 1), (.loc 5)])) (.cmp .ne (.bi .repr [(.lst [(.call "rounds" [(.loc 1), (.loc 5)]), (.callk "rounds" [1, 0] [(.loc 5), (.loc 1)])])]) (.bi .repr [(.lst [(.loc 6), (.loc 6)])]))) [.ret (.con (.bl false))] [], .ife (.cmp .ne (.call "rounds" [(.loc 4), (.loc 5)]) (.bi .tuple [(.bi .sorted [(.comp (.call "_law_renamed" [(.loc 3), (.loc 11)]) [.mk (.loc 11) (.loc 6) []] [11])])])) [.ret (.con (.bl false))] []]
theorem e_size (k : Nat) {l : Nat} {g : List (List Nat)} {names : List Nat} (v : GV g) (q : PN names g.length) {s : Nat} (h2 : 2 ≤ s) (h3 : s ≤ 3) {o6 o7 o8 : Option D} {h : LH} :
    evSs (call_ lw.tab (k + 7)) sizeB (hE l g names (some (tG (fr names g))) (some (dN s)) o6 o7 o8 none none none) h = .ok (.nx (hE l g names (some (tG (fr names g))) (some (dN s)) (some (tG (rd g s))) o7 o8 none none none)) h := by
  have t1 := thousand
  have v8 := v.most
  have ln := rd_len v s
  have nums := rd_num v (s := s)
  have nums8 : ∀ r ∈ rd g s, (∀ x ∈ r, x < 8) ∧ r.length ≤ 8 := fun r hr => ⟨fun x hx => Nat.lt_of_lt_of_le ((nums r hr).1 x hx) v8, (nums r hr).2.1⟩
  have a2 : ∀ (e : Fz.Env), ev (call_ lw.tab (k + 7)) (.loc 1) (hE l g names (some (tG (fr names g))) (some (dN s)) o6 o7 o8 none none none) h = .ok (tG g, false) h := fun e => ev_loc_ok rfl
  refine (ss_nx (env' := hE l g names (some (tG (fr names g))) (some (dN s)) (some (tG (rd g s))) o7 o8 none none none) (h' := h) (asg_ok (fr := false) ((ev_call_ok (evL_cons_ok (z := (tG g, false)) rfl (ev_loc_ok rfl) (evL_cons_ok (z := (dN s, false)) rfl (ev_loc_ok rfl) evL_nil_ok))).trans (e_due (k + 6) v h2 h3 h)))).trans ?_
  generalize henv : hE l g names (some (tG (fr names g))) (some (dN s)) (some (tG (rd g s))) o7 o8 none none none = env
  have p1 : ev (call_ lw.tab (k + 7)) (.loc 1) env h = .ok (tG g, false) h := by rw [← henv]; exact ev_loc_ok rfl
  have p4 : ev (call_ lw.tab (k + 7)) (.loc 4) env h = .ok (tG (fr names g), false) h := by rw [← henv]; exact ev_loc_ok rfl
  have p5 : ev (call_ lw.tab (k + 7)) (.loc 5) env h = .ok (dN s, false) h := by rw [← henv]; exact ev_loc_ok rfl
  have p6 : ev (call_ lw.tab (k + 7)) (.loc 6) env h = .ok (tG (rd g s), false) h := by rw [← henv]; exact ev_loc_ok rfl
  have c1 : ev (call_ lw.tab (k + 7)) (.call "_law_by_all" [(.loc 1), (.loc 5)]) env h = .ok (tG (rd g s), false) h := (ev_call_ok (evL_cons_ok rfl p1 (evL_cons_ok rfl p5 evL_nil_ok))).trans (e_ba (k + 6) v h2 h3 h)
  have c2 : ev (call_ lw.tab (k + 7)) (.call "rounds" [(.loc 1), (.loc 5)]) env h = .ok (tG (rd g s), false) h := (ev_call_ok (evL_cons_ok rfl p1 (evL_cons_ok rfl p5 evL_nil_ok))).trans (e_rounds k v s h2 h3 h)
  have c3 : ev (call_ lw.tab (k + 7)) (.callk "rounds" [1, 0] [(.loc 5), (.loc 1)]) env h = .ok (tG (rd g s), false) h := ev_callk_ok (evL_cons_ok rfl p5 (evL_cons_ok rfl p1 evL_nil_ok)) rfl (e_rounds k v s h2 h3 h)
  have c4 : ev (call_ lw.tab (k + 7)) (.bi .repr [(.lst [(.call "rounds" [(.loc 1), (.loc 5)]), (.callk "rounds" [1, 0] [(.loc 5), (.loc 1)])])]) env h = .ok (.str (twice (rd g s)), false) h :=
    ev_bi_ok (evL_cons_ok (z := (.lst [tG (rd g s), tG (rd g s)], true)) rfl (ev_lst_ok (evL_cons_ok rfl c2 (evL_cons_ok rfl c3 evL_nil_ok)) (by show 2 ≤ sizeLine; omega)) evL_nil_ok) (bi_repr_two nums8 (by omega))
  have c5 : ev (call_ lw.tab (k + 7)) (.bi .repr [(.lst [(.loc 6), (.loc 6)])]) env h = .ok (.str (twice (rd g s)), false) h :=
    ev_bi_ok (evL_cons_ok (z := (.lst [tG (rd g s), tG (rd g s)], true)) rfl (ev_lst_ok (evL_cons_ok rfl p6 (evL_cons_ok rfl p6 evL_nil_ok)) (by show 2 ≤ sizeLine; omega)) evL_nil_ok) (bi_repr_two nums8 (by omega))
  have c6 := ev_or_f (ev_cmp_ok p6 c1 (ne_tG _)) (ev_cmp_ok c4 c5 (ne_str _ (twice_ok nums8)))
  have c7 : ev (call_ lw.tab (k + 7)) (.call "rounds" [(.loc 4), (.loc 5)]) env h = .ok (tG (rd (fr names g) s), false) h := (ev_call_ok (evL_cons_ok rfl p4 (evL_cons_ok rfl p5 evL_nil_ok))).trans (e_rounds k (fr_GV v q) s h2 h3 h)
  have c8 : ev (call_ lw.tab (k + 7)) (.comp (.call "_law_renamed" [(.loc 3), (.loc 11)]) [.mk (.loc 11) (.loc 6) []] [11]) env h = .ok (.lst (((rd g s).map (ren names)).map tN), true) h := by
    have e : ((rd g s).map (ren names)).map tN = (rd g s).filterMap fun x => some (tN (ren names x)) := by
      rw [List.map_map]
      exact map_fmap _ _
    rw [e]
    refine comp1M (l := rd g s) tN _ (evW_gen_ok (x := (tG (rd g s), false)) rfl p6 rfl) (by omega) ?_
    intro r hr
    subst henv
    refine ⟨hE l g names (some (tG (fr names g))) (some (dN s)) (some (tG (rd g s))) o7 o8 none none (some (tN r)), rfl, evT_nil_ok, fun z hz => ⟨false, ?_⟩⟩
    cases hz
    have nr := nums r hr
    exact (ev_call_ok (evL_cons_ok (z := (tN names, false)) rfl (ev_loc_ok rfl) (evL_cons_ok (z := (tN r, false)) rfl (ev_loc_ok rfl) evL_nil_ok))).trans (e_ren (k + 6) (by rw [q.len]; exact nr.1) nr.2.2 nr.2.1 h)
  have c9 : ev (call_ lw.tab (k + 7)) (.bi .tuple [(.bi .sorted [(.comp (.call "_law_renamed" [(.loc 3), (.loc 11)]) [.mk (.loc 11) (.loc 6) []] [11])])]) env h = .ok (tG (rd (fr names g) s), false) h := by
    rw [← rd_ren v q s]
    refine ev_bi_ok (evL_cons_ok rfl (ev_bi_ok (evL_cons_ok rfl c8 evL_nil_ok) (bi_sorted_rows rfl ?_ (by rw [List.length_map]; omega))) evL_nil_ok) (bi_tuple_lst rfl ?_)
    · intro x hx
      obtain ⟨r, hr, rfl⟩ := List.mem_map.mp hx
      intro e
      have := ren_len (names := names) (r := r)
      rw [e] at this
      exact (nums r hr).2.2 (List.length_eq_zero_iff.mp this.symm)
    · have e : (sortN ((rd g s).map (ren names))).length = ((rd g s).map (ren names)).length := (List.mergeSort_perm _ leN).length_eq
      rw [List.length_map, e, List.length_map]
      omega
  exact (ss_nx ((ife_f c6).trans rfl)).trans ((ss_nx ((ife_f (ev_cmp_ok c7 c9 (ne_tG _))).trans rfl)).trans rfl)
end Lk76

set_option Elab.async false
set_option linter.all false
set_option maxRecDepth 100000
set_option maxHeartbeats 1000000
/-! k76: `_law_gifts_right`. -/
namespace Lk76
open PySem PySem.Spec PyProof.Rows L2 Fz
variable {Φ : Str → List D → M DF}
theorem filter_fmap {α β : Type} (f : α → β) (p : α → Bool) : ∀ l : List α, (l.filter p).map f = l.filterMap fun x => if p x = true then some (f x) else none
  | [] => rfl
  | x :: r => by
    rw [List.filter_cons, List.filterMap_cons]
    by_cases h : p x = true
    · rw [if_pos h, if_pos h, List.map_cons, filter_fmap f p r]
    · rw [if_neg h, if_neg h, filter_fmap f p r]
theorem isSome_if {α : Type} (p : Bool) (x : α) : (if p = true then some x else none).isSome = p := by cases p <;> rfl
theorem of_if {α : Type} {p : Bool} {x z : α} (h : (if p = true then some x else none) = some z) : z = x := by
  cases p with
  | false => cases h
  | true => exact (Option.some.inj h).symm
theorem e_only2 (k : Nat) {l : Nat} {g : List (List Nat)} {names : List Nat} (v : GV g) {o4 o5 o6 o7 o8 : Option D} {h : LH} :
    ev (call_ lw.tab (k + 7)) (.bi .tuple [(.comp (.loc 11) [.mk (.loc 11) (.call "rounds" [(.loc 1), (.con (.int 3))]) [(.cmp .eq (.bi .len [(.loc 11)]) (.con (.int 2)))]] [11])]) (hE l g names o4 o5 o6 o7 o8 none none none) h = .ok (tG (rd g 2), false) h := by
  have t1 := thousand
  have ln := rd_len v 3
  have ln2 := rd_len v 2
  have c1 : ev (call_ lw.tab (k + 7)) (.call "rounds" [(.loc 1), (.con (.int 3))]) (hE l g names o4 o5 o6 o7 o8 none none none) h = .ok (tG (rd g 3), false) h :=
    (ev_call_ok (ds := [tG g, dN 3]) (evL_cons_ok (z := (tG g, false)) rfl (ev_loc_ok rfl) (evL_cons_ok (z := (dN 3, false)) rfl ev_con_ok evL_nil_ok))).trans (e_rounds k v 3 (by omega) (by omega) h)
  have c2 : ev (call_ lw.tab (k + 7)) (.comp (.loc 11) [.mk (.loc 11) (.call "rounds" [(.loc 1), (.con (.int 3))]) [(.cmp .eq (.bi .len [(.loc 11)]) (.con (.int 2)))]] [11]) (hE l g names o4 o5 o6 o7 o8 none none none) h = .ok (.lst ((rd g 2).map tN), true) h := by
    rw [← rd_two v, filter_fmap]
    refine comp1M (l := rd g 3) tN _ (evW_gen_ok (x := (tG (rd g 3), false)) rfl c1 rfl) (by omega) ?_
    intro r hr
    have d1 : ev (call_ lw.tab (k + 7)) (.cmp .eq (.bi .len [(.loc 11)]) (.con (.int 2))) (hE l g names o4 o5 o6 o7 o8 none none (some (tN r))) h = .ok (.bl (decide (r.length = 2)), false) h := by
      refine ev_cmp_ok (x := (dN r.length, false)) (y := (dN 2, false)) ?_ ev_con_ok (eq_num _ _)
      have hn : ev (call_ lw.tab (k + 7)) (.bi .len [(.loc 11)]) (hE l g names o4 o5 o6 o7 o8 none none (some (tN r))) h = .ok (.int ((r.map dN).length : Nat), false) h := ev_bi_ok (ds := [tN r]) (evL_cons_ok (z := (tN r, false)) rfl (ev_loc_ok rfl) evL_nil_ok) (bi_len_tup rfl)
      rw [List.length_map] at hn
      exact hn
    refine ⟨hE l g names o4 o5 o6 o7 o8 none none (some (tN r)), rfl, ?_, fun z hz => ⟨false, ?_⟩⟩
    · rw [isSome_if]
      exact evT_one_ok d1
    · rw [of_if hz]
      exact ev_loc_ok rfl
  exact ev_bi_ok (evL_cons_ok rfl c2 evL_nil_ok) (bi_tuple_lst rfl (by rw [List.length_map]; omega))
theorem notin_rows {h : LH} (r : List Nat) (g : List (List Nat)) : cmpD .notin (tN r) (tG g) h = .ok (.bl (!decide (r ∈ g)), false) h := by
  show (match Fz.plain 30 (tN r) && plainL 30 (g.map tN) with
    | true => val (.bl (!inD (tN r) (g.map tN))) h
    | false => Res.no) = _
  rw [plain_tN _ 29, plainL_tN _ 29, inD_tN]
  rfl
def moreE : E := .bin .add (.bin .add (.slc (.loc 1) none (some (.loc 7))) (.tup [(.bi .tuple [(.comp (.loc 10) [.mk (.loc 10) (.range [(.loc 2)]) [(.cmp .ne (.loc 10) (.loc 7))]] [10])])])) (.slc (.loc 1) (some (.bin .add (.loc 7) (.con (.int 1)))) none)
theorem e_more {l : Nat} {g : List (List Nat)} {names : List Nat} (v : GV g) {o : Nat} (ho : o < g.length) {o4 o5 o6 : Option D} {h : LH} :
    ev Φ moreE (hE l g names o4 o5 o6 (some (dN o)) none none none none) h = .ok (tG (mr g o), false) h := by
  have t1 := thousand
  have v8 := v.most
  have l0 : (tG g).bel 0 = true := bel_tG g 0
  have p1 : ev Φ (.loc 1) (hE l g names o4 o5 o6 (some (dN o)) none none none none) h = .ok (tG g, false) h := ev_loc_ok rfl
  have p7 : ev Φ (.loc 7) (hE l g names o4 o5 o6 (some (dN o)) none none none none) h = .ok (dN o, false) h := ev_loc_ok rfl
  have c1 : ev Φ (.slc (.loc 1) none (some (.loc 7))) (hE l g names o4 o5 o6 (some (dN o)) none none none none) h = .ok (tG (g.take o), false) h := by
    refine ev_slc_ok p1 evO_none_ok (evO_some_ok (i := (o : Int)) p7) ?_
    show Res.ok (D.tup (Fz.cutD (g.map tN) none (some (o : Int))), false) h = _
    rw [cut_to _ o (by simp; omega), ← List.map_take]
    rfl
  have c2 : ev Φ (.slc (.loc 1) (some (.bin .add (.loc 7) (.con (.int 1)))) none) (hE l g names o4 o5 o6 (some (dN o)) none none none none) h = .ok (tG (g.drop (o + 1)), false) h := by
    refine ev_slc_ok p1 (evO_some_ok (i := ((o + 1 : Nat) : Int)) (f := false) (ev_bin_ok p7 ev_con_ok rfl)) evO_none_ok ?_
    show Res.ok (D.tup (Fz.cutD (g.map tN) (some ((o + 1 : Nat) : Int)) none), false) h = _
    rw [cut_from _ (o + 1) (by simp; omega), ← List.map_drop]
    rfl
  have c3 : ev Φ (.comp (.loc 10) [.mk (.loc 10) (.range [(.loc 2)]) [(.cmp .ne (.loc 10) (.loc 7))]] [10]) (hE l g names o4 o5 o6 (some (dN o)) none none none none) h = .ok (.lst ((full g.length o).map dN), true) h := by
    unfold full
    rw [filter_fmap]
    refine comp1M (l := List.range g.length) dN _ (evW_range_ok (by omega) rfl (ev_loc_ok rfl)) (by simp; omega) ?_
    intro x hx
    refine ⟨hE l g names o4 o5 o6 (some (dN o)) none none (some (dN x)) none, rfl, ?_, fun z hz => ⟨false, ?_⟩⟩
    · rw [isSome_if]
      refine evT_one_ok (fr := false) ((ev_cmp_ok (x := (dN x, false)) (y := (dN o, false)) (ev_loc_ok rfl) (ev_loc_ok rfl) (ne_num x o)).trans ?_)
      simp
    · rw [of_if hz]
      exact ev_loc_ok rfl
  have c4 : ev Φ (.tup [(.bi .tuple [(.comp (.loc 10) [.mk (.loc 10) (.range [(.loc 2)]) [(.cmp .ne (.loc 10) (.loc 7))]] [10])])]) (hE l g names o4 o5 o6 (some (dN o)) none none none none) h = .ok (.tup [tN (full g.length o)], false) h := by
    refine ev_tup_ok (evL_cons_ok (z := (tN (full g.length o), false)) rfl (ev_bi_ok (evL_cons_ok rfl c3 evL_nil_ok) (bi_tuple_lst rfl ?_)) evL_nil_ok) (by show 1 ≤ sizeLine; omega)
    have : (full g.length o).length ≤ (List.range g.length).length := List.length_filter_le _ _
    simp at this
    simp; omega
  unfold moreE
  have lt : (tG (mr g o)) = .tup ((g.take o).map tN ++ [tN (full g.length o)] ++ (g.drop (o + 1)).map tN) := by
    unfold tG mr
    simp
  rw [lt]
  refine ev_bin_ok (x := (.tup ((g.take o).map tN ++ [tN (full g.length o)]), false)) (ev_bin_ok c1 c4 ?_) c2 ?_
  · exact newT_ok (by simp; omega)
  · exact newT_ok (by simp; omega)
theorem e_never (k : Nat) {l : Nat} {g : List (List Nat)} {names : List Nat} (v : GV g) {o : Nat} (ho : o < g.length) {o4 o5 o6 o7 : Option D} {h : LH} :
    ev (call_ lw.tab (k + 7)) (.cmp .eq (.comp (.loc 11) [.mk (.loc 11) (.call "rounds" [(.loc 1), (.con (.int 3))]) [(.cmp .notin (.loc 11) (.call "rounds" [(.loc 8), (.con (.int 3))]))]] [11]) (.lst [])) (hE l g names o4 o5 o6 o7 (some (tG (mr g o))) none none none) h = .ok (.bl true, false) h := by
  have ln := rd_len v 3
  have t1 := thousand
  have c1 : ev (call_ lw.tab (k + 7)) (.call "rounds" [(.loc 1), (.con (.int 3))]) (hE l g names o4 o5 o6 o7 (some (tG (mr g o))) none none none) h = .ok (tG (rd g 3), false) h :=
    (ev_call_ok (ds := [tG g, dN 3]) (evL_cons_ok (z := (tG g, false)) rfl (ev_loc_ok rfl) (evL_cons_ok (z := (dN 3, false)) rfl ev_con_ok evL_nil_ok))).trans (e_rounds k v 3 (by omega) (by omega) h)
  have c2 : ev (call_ lw.tab (k + 7)) (.comp (.loc 11) [.mk (.loc 11) (.call "rounds" [(.loc 1), (.con (.int 3))]) [(.cmp .notin (.loc 11) (.call "rounds" [(.loc 8), (.con (.int 3))]))]] [11]) (hE l g names o4 o5 o6 o7 (some (tG (mr g o))) none none none) h = .ok (.lst ((rd g 3).filterMap fun _ => none), true) h := by
    refine comp1M (l := rd g 3) tN _ (evW_gen_ok (x := (tG (rd g 3), false)) rfl c1 rfl) (by omega) ?_
    intro r hr
    refine ⟨hE l g names o4 o5 o6 o7 (some (tG (mr g o))) none none (some (tN r)), rfl, ?_, fun z hz => nomatch hz⟩
    have c3 : ev (call_ lw.tab (k + 7)) (.call "rounds" [(.loc 8), (.con (.int 3))]) (hE l g names o4 o5 o6 o7 (some (tG (mr g o))) none none (some (tN r))) h = .ok (tG (rd (mr g o) 3), false) h :=
      (ev_call_ok (ds := [tG (mr g o), dN 3]) (evL_cons_ok (z := (tG (mr g o), false)) rfl (ev_loc_ok rfl) (evL_cons_ok (z := (dN 3, false)) rfl ev_con_ok evL_nil_ok))).trans (e_rounds k (mr_GV v ho) 3 (by omega) (by omega) h)
    refine evT_one_ok (fr := false) ((ev_cmp_ok (x := (tN r, false)) (ev_loc_ok rfl) c3 (notin_rows _ _)).trans ?_)
    rw [decide_eq_true (rd_more v ho hr)]
    rfl
  have e0 : ((rd g 3).filterMap fun _ => (none : Option D)) = [] := by simp
  rw [e0] at c2
  exact ev_cmp_ok c2 (ev_lst_ok evL_nil_ok (Nat.zero_le _)) rfl
end Lk76

set_option Elab.async false
set_option linter.all false
set_option maxRecDepth 100000
set_option maxHeartbeats 1000000
/-! k76: `_law_gifts_right` whole, `_law_right`, `_law_pool`, `law`. -/
namespace Lk76
open PySem PySem.Spec PyProof.Rows L2 Fz
section
variable {Φ : Str → List D → M DF} {h h1 : LH} {env : Fz.Env}
theorem ife_is {c : E} {a b : List S} {P : DF → LH → Prop} {Q : Fl → LH → Prop} (p : (ev Φ c env h).Is P) (f : ∀ z h', P z h' → ∃ u, z.1 = .bl u ∧ (evSs Φ (if u = true then a else b) env h').Is Q) : (evS Φ (.ife c a b) env h).Is Q := by
  simp only [evS]
  refine is_then p fun z h' pz => ?_
  obtain ⟨u, e, q⟩ := f z h' pz
  rw [e]
  cases u <;> exact q
theorem ev_not_is {a : E} {P Q : DF → LH → Prop} (p : (ev Φ a env h).Is P) (f : ∀ z h', P z h' → ∃ u, z.1 = .bl u ∧ Q (.bl (!u), false) h') : (ev Φ (.not a) env h).Is Q := by
  simp only [ev]
  refine is_then p fun z h' pz => ?_
  obtain ⟨u, e, q⟩ := f z h' pz
  rw [e]
  exact is_ok q
theorem ev_call2_is {x : Str} {es : List E} {P : List D → LH → Prop} {Q : DF → LH → Prop} (c : (evL Φ es env h).Is P) (f : ∀ ds h', P ds h' → (Φ x ds h').Is Q) : (ev Φ (.call x es) env h).Is Q := by
  simp only [ev]
  exact is_then c f
end
theorem for_step {g : Option Nat} {all : List D} {k : D → Fz.Env → M Fl} {x : D} {r : List D} {env e : Fz.Env} {h h1 : LH} (q : k x env h = .ok (.nx e) h1) (s : still g all h1 = true) : forM_ g all k (x :: r) env h = forM_ g all k r e h1 := by
  conv => lhs; unfold forM_
  refine (then_ok q).trans ?_
  show (match still g all h1 with
    | true => forM_ g all k r e h1
    | false => .no) = _
  rw [s]
theorem At.take {l : Nat} {base h : LH} (a : At l base h) {h0 : LH} (e : h0.length = base.length) : At l base (h.take h0.length) := by
  rw [List.take_of_length_le (by rw [a.len, e]; exact Nat.le_refl _)]
  exact a
theorem e_gr (k : Nat) {l : Nat} {base h : LH} {g : List (List Nat)} (hl : l < base.length) (a : At l base h) (v : GV g) :
    (call_ lw.tab (k + 8) "_law_gifts_right" [.cell l, tG g] h).Is fun z h' => At l base h' ∧ z = (.bl true, false) := by
  have v8 := v.most
  have v1 := v.one
  have hlen := a.len
  refine call_is lk_gr rfl ?_
  refine is_of_eq (ss_nx (env' := [some (.cell l), some (tG g), some (dN g.length), none, none, none, none, none, none, none, none, none]) (h' := h) ?_) ?_
  · have hn := ev_bi_ok (Φ := call_ lw.tab (k + 7)) (es := [.loc 1]) (ds := [tG g]) (b := .len) (h := h) (env := [some (.cell l), some (tG g), none, none, none, none, none, none, none, none, none, none]) (evL_cons_ok (z := (tG g, false)) rfl (ev_loc_ok rfl) evL_nil_ok) (bi_len_tup rfl)
    rw [List.length_map] at hn
    exact asg_ok hn
  refine ss_is (P := fun fl h' => At l base h' ∧ ∃ names, PN names g.length ∧ fl = .nx (hE l g names none none none none none none none none)) ?_ ?_
  · refine asg_is (P := fun z h' => At l base h' ∧ ∃ names : List Nat, names.Perm (List.range g.length) ∧ z = (tN names, false)) ?_ ?_
    · refine ev_call_is (ds := [.cell l, .int (g.length : Int)]) (h1 := h) ?_ (e_order (k + 5) hl a (by omega))
      exact evL_cons_ok (z := (.cell l, false)) rfl (ev_mk_ok (z := (.cell l, false)) (ev_loc_ok rfl) rfl) (evL_cons_ok (z := (dN g.length, false)) rfl (ev_loc_ok rfl) evL_nil_ok)
    · rintro z h' ⟨a2, names, p, rfl⟩
      exact ⟨a2, names, ⟨p⟩, rfl⟩
  rintro fl h1 ⟨a1, names, q, rfl⟩
  show (evSs (call_ lw.tab (k + 7)) _ (hE l g names none none none none none none none none) h1).Is _
  refine is_of_eq (ss_nx (env' := hE l g names (some (tG (fr names g))) none none none none none none none) (h' := h1) (asg_ok (e_fresh v q))) ?_
  refine is_of_eq (ss_nx (env' := hE l g names (some (tG (fr names g))) (some (dN 3)) (some (tG (rd g 3))) none none none none none) (h' := h1) ?_) ?_
  · have w : evW (call_ lw.tab (k + 7)) (.lst [(.con (.int 2)), (.con (.int 3))]) (hE l g names (some (tG (fr names g))) none none none none none none none) h1 = .ok ([dN 2, dN 3], none) h1 :=
      evW_gen_ok (x := (.lst [dN 2, dN 3], true)) rfl (ev_lst_ok (evL_cons_ok rfl ev_con_ok (evL_cons_ok rfl ev_con_ok evL_nil_ok)) (by decide)) rfl
    refine (for_run w).trans ?_
    refine (for_step (e := hE l g names (some (tG (fr names g))) (some (dN 2)) (some (tG (rd g 2))) none none none none none) (h1 := h1) ?_ rfl).trans ?_
    · exact e_size k v q (s := 2) (by omega) (by omega)
    · refine (for_step (e := hE l g names (some (tG (fr names g))) (some (dN 3)) (some (tG (rd g 3))) none none none none none) (h1 := h1) ?_ rfl).trans rfl
      exact e_size k v q (s := 3) (by omega) (by omega)
  have c1 : ev (call_ lw.tab (k + 7)) (.call "rounds" [(.loc 1), (.con (.int 2))]) (hE l g names (some (tG (fr names g))) (some (dN 3)) (some (tG (rd g 3))) none none none none none) h1 = .ok (tG (rd g 2), false) h1 :=
    (ev_call_ok (ds := [tG g, dN 2]) (evL_cons_ok (z := (tG g, false)) rfl (ev_loc_ok rfl) (evL_cons_ok (z := (dN 2, false)) rfl ev_con_ok evL_nil_ok))).trans (e_rounds k v 2 (by omega) (by omega) h1)
  refine is_of_eq (ss_nx (env' := hE l g names (some (tG (fr names g))) (some (dN 3)) (some (tG (rd g 3))) none none none none none) (h' := h1) ((ife_f (ev_cmp_ok c1 (e_only2 k v) (ne_tG _))).trans rfl)) ?_
  refine ss_is (P := fun fl h' => At l base h' ∧ ∃ o, o < g.length ∧ fl = .nx (hE l g names (some (tG (fr names g))) (some (dN 3)) (some (tG (rd g 3))) (some (dN o)) none none none none)) ?_ ?_
  · refine asg_is (P := fun z h' => At l base h' ∧ ∃ f : Nat, (f : Int) < (g.length : Int) ∧ z = (.int f, false)) ?_ ?_
    · refine ev_call_is (ds := [.cell l, .int (g.length : Int)]) (h1 := h1) ?_ (e_draw (k + 6) hl a1 (by omega) (by omega))
      exact evL_cons_ok (z := (.cell l, false)) rfl (ev_mk_ok (z := (.cell l, false)) (ev_loc_ok rfl) rfl) (evL_cons_ok (z := (dN g.length, false)) rfl (ev_loc_ok rfl) evL_nil_ok)
    · rintro z h' ⟨a2, f, hf, rfl⟩
      exact ⟨a2, f, by omega, rfl⟩
  rintro fl h2 ⟨a2, o, ho, rfl⟩
  refine is_of_eq (ss_nx (env' := hE l g names (some (tG (fr names g))) (some (dN 3)) (some (tG (rd g 3))) (some (dN o)) (some (tG (mr g o))) none none none) (h' := h2) (asg_ok (e_more v ho))) ?_
  refine ss_last (is_of (ret_ok (e_never k v ho)) ?_)
  show (fin h.length (.bl true, false) h2).Is _
  rw [fin_cut rfl]
  exact is_ok ⟨a2.take hlen, rfl⟩
theorem lk_rt : look lw.tab "_law_right" = some ⟨"_law_right", ["pool"], r__law_right.N, b__law_right⟩ := lf.lk r__law_right (by simp [lw])
abbrev rE (l : Nat) (o1 o2 o3 o4 : Option D) : Fz.Env := [some (.cell l), o1, o2, o3, o4]
def every : List (List Nat) := [[1, 2, 3], [0, 2, 3], [0, 1, 3], [0, 1, 2]]
def small : List (List Nat) := [[1], [0, 2], [0]]
def okRow (n p : Nat) (r : List Nat) : Bool := decide (r.Pairwise (· < ·)) && r.all fun x => decide (x < n) && decide (x ≠ p)
theorem gok_of {g : List (List Nat)} (h : ((List.range g.length).all fun j => okRow g.length j (g.getD j [])) = true) : GOk g := by
  intro j hj
  have := List.all_eq_true.mp h j (List.mem_range.mpr hj)
  unfold okRow at this
  rw [Bool.and_eq_true, List.all_eq_true] at this
  have e : g.getD j [] = g[j] := by simp [List.getD_eq_getElem?_getD, hj]
  rw [e] at this
  refine ⟨of_decide_eq_true this.1, fun x hx => ?_⟩
  have z := this.2 x hx
  rw [Bool.and_eq_true] at z
  exact ⟨of_decide_eq_true z.1, of_decide_eq_true z.2⟩
theorem v_every : GV every := ⟨by decide, by decide, gok_of (by decide)⟩
theorem v_small : GV small := ⟨by decide, by decide, gok_of (by decide)⟩
theorem told_small : told small 3 = [[0, 1], [0, 1, 2]] := by decide +kernel
theorem rd_small : rd small 3 = [[0, 1], [0, 1, 2]] := by
  refine strict_ext (sortN_strict (told_nodup v_small 3)) (by decide) fun x => ?_
  show x ∈ sortN (told small 3) ↔ _
  rw [mem_sortN, told_small]
theorem rd_len_told (g : List (List Nat)) (s : Nat) : (rd g s).length = (told g s).length := (List.mergeSort_perm _ leN).length_eq
theorem rd_every2 : (rd every 2).length = 6 := by rw [rd_len_told]; decide +kernel
theorem rd_every3 : (rd every 3).length = 14 := by rw [rd_len_told]; decide +kernel
theorem e_every (k : Nat) {l : Nat} {o1 : Option D} {h : LH} : ev (call_ lw.tab k) (.bi .tuple [(.comp (.bi .tuple [(.comp (.loc 4) [.mk (.loc 4) (.range [(.con (.int 4))]) [(.cmp .ne (.loc 4) (.loc 3))]] [4])]) [.mk (.loc 3) (.range [(.con (.int 4))]) []] [3])]) (rE l o1 none none none) h = .ok (tG every, false) h := by
  have t1 := thousand
  have c : ev (call_ lw.tab k) (.comp (.bi .tuple [(.comp (.loc 4) [.mk (.loc 4) (.range [(.con (.int 4))]) [(.cmp .ne (.loc 4) (.loc 3))]] [4])]) [.mk (.loc 3) (.range [(.con (.int 4))]) []] [3]) (rE l o1 none none none) h = .ok (.lst (((List.range 4).map (full 4)).map tN), true) h := by
    rw [List.map_map, map_fmap]
    refine comp1M (l := List.range 4) dN _ (evW_range_ok (n := 4) (by omega) rfl ev_con_ok) (by simp; omega) ?_
    intro p hp
    refine ⟨rE l o1 none (some (dN p)) none, rfl, evT_nil_ok, fun z hz => ⟨false, ?_⟩⟩
    cases hz
    have c3 : ev (call_ lw.tab k) (.comp (.loc 4) [.mk (.loc 4) (.range [(.con (.int 4))]) [(.cmp .ne (.loc 4) (.loc 3))]] [4]) (rE l o1 none (some (dN p)) none) h = .ok (.lst ((full 4 p).map dN), true) h := by
      unfold full
      rw [filter_fmap]
      refine comp1M (l := List.range 4) dN _ (evW_range_ok (n := 4) (by omega) rfl ev_con_ok) (by simp; omega) ?_
      intro x hx
      refine ⟨rE l o1 none (some (dN p)) (some (dN x)), rfl, ?_, fun z hz => ⟨false, ?_⟩⟩
      · rw [isSome_if]
        refine evT_one_ok (fr := false) ((ev_cmp_ok (x := (dN x, false)) (y := (dN p, false)) (ev_loc_ok rfl) (ev_loc_ok rfl) (ne_num x p)).trans ?_)
        simp
      · rw [of_if hz]
        exact ev_loc_ok rfl
    refine ev_bi_ok (evL_cons_ok rfl c3 evL_nil_ok) (bi_tuple_lst rfl ?_)
    have : (full 4 p).length ≤ (List.range 4).length := List.length_filter_le _ _
    simp at this
    simp; omega
  exact ev_bi_ok (evL_cons_ok rfl c evL_nil_ok) (bi_tuple_lst rfl (by rw [List.length_map]; show 4 ≤ sizeLine; omega))
theorem e_rt (k : Nat) {l : Nat} {base h : LH} (hl : l < base.length) (a : At l base h) :
    (call_ lw.tab (k + 9) "_law_right" [.cell l] h).Is fun z h' => At l base h' ∧ z = (.bl true, false) := by
  have hlen := a.len
  refine call_is lk_rt rfl ?_
  refine ss_is (P := fun fl h' => At l base h' ∧ ∃ o1, fl = .nx (rE l o1 none none none)) ?_ ?_
  · refine for_ev_is (w := ((List.range 6).map dN, none)) (h1 := h) (evW_range_ok (n := 6) (by omega) rfl ev_con_ok) ?_
    refine is_imp (for_is (g := none) (fun i env h' => At l base h' ∧ ∃ o1, env = rE l o1 none none none) (fun _ _ _ => False) ((List.range 6).map dN) 0 (rE l none none none none) h ⟨a, none, rfl⟩ ?_) ?_
    · rintro i x env h' hx ⟨a1, o1, rfl⟩
      refine body_is (env' := rE l (some x) none none none) rfl (ss_last ?_)
      refine ife_is (P := fun z h'' => At l base h'' ∧ z = (.bl false, false)) ?_ ?_
      · refine ev_not_is (P := fun z h'' => At l base h'' ∧ z = (.bl true, false)) ?_ ?_
        · refine ev_call2_is (P := fun ds h'' => At l base h'' ∧ ∃ g, GV g ∧ ds = [.cell l, tG g]) ?_ ?_
          · refine evL_cons_is rfl (P := fun z h'' => At l base h'' ∧ z = (.cell l, false)) (is_of (ev_mk_ok (z := (.cell l, false)) (ev_loc_ok rfl) rfl) ⟨a1, rfl⟩) ?_
            rintro z h'' ⟨a2, rfl⟩
            refine evL_cons_is rfl (P := fun z h'' => At l base h'' ∧ ∃ g, GV g ∧ z = (tG g, false)) ?_ ?_
            · refine ev_call_is (ds := [.cell l, .int 1, .int 8]) (h1 := h'') (evL_cons_ok (z := (.cell l, false)) rfl (ev_mk_ok (z := (.cell l, false)) (ev_loc_ok rfl) rfl) (evL_cons_ok rfl ev_con_ok (evL_cons_ok rfl ev_con_ok evL_nil_ok))) ?_
              refine is_imp (e_gifts (k + 5) hl a2) ?_
              rintro z h3 ⟨a3, g, g1, g2, g3, rfl⟩
              exact ⟨a3, g, ⟨g1, g2, g3⟩, rfl⟩
            · rintro z h3 ⟨a3, g, v, rfl⟩
              exact evL_nil_is ⟨a3, g, v, rfl⟩
          · rintro ds h3 ⟨a3, g, v, rfl⟩
            exact e_gr k hl a3 v
        · rintro z h'' ⟨a2, rfl⟩
          exact ⟨true, rfl, a2, rfl⟩
      · rintro z h'' ⟨a2, rfl⟩
        refine ⟨false, rfl, ?_⟩
        exact is_ok ⟨rfl, a2, some x, rfl⟩
    · rintro fl h' p
      cases fl with
      | nx e =>
        obtain ⟨a1, o1, rfl⟩ := p
        exact ⟨a1, o1, rfl⟩
      | rt d fr => exact p.elim
      | bk e => exact p.elim
      | ct e => exact p.elim
  rintro fl h1 ⟨a1, o1, rfl⟩
  refine is_of_eq (ss_nx (env' := rE l o1 (some (tG every)) none none) (h' := h1) (asg_ok (e_every _))) ?_
  have c1 : ev (call_ lw.tab (k + 8)) (.call "rounds" [(.tup [(.tup [(.con (.int 1))]), (.tup [(.con (.int 0)), (.con (.int 2))]), (.tup [(.con (.int 0))])]), (.con (.int 3))]) (rE l o1 (some (tG every)) none none) h1 = .ok (tG (rd small 3), false) h1 :=
    (ev_call_ok (ds := [tG small, dN 3]) (evL_cons_ok (z := (tG small, false)) rfl (ev_tup_ok (evL_cons_ok (z := (tN [1], false)) rfl (ev_tup_ok (evL_cons_ok rfl ev_con_ok evL_nil_ok) (by decide)) (evL_cons_ok (z := (tN [0, 2], false)) rfl (ev_tup_ok (evL_cons_ok rfl ev_con_ok (evL_cons_ok rfl ev_con_ok evL_nil_ok)) (by decide)) (evL_cons_ok (z := (tN [0], false)) rfl (ev_tup_ok (evL_cons_ok rfl ev_con_ok evL_nil_ok) (by decide)) evL_nil_ok))) (by decide)) (evL_cons_ok (z := (dN 3, false)) rfl ev_con_ok evL_nil_ok))).trans (e_rounds (k + 1) v_small 3 (by omega) (by omega) h1)
  rw [rd_small] at c1
  have c2 : ev (call_ lw.tab (k + 8)) (.tup [(.tup [(.con (.int 0)), (.con (.int 1))]), (.tup [(.con (.int 0)), (.con (.int 1)), (.con (.int 2))])]) (rE l o1 (some (tG every)) none none) h1 = .ok (tG [[0, 1], [0, 1, 2]], false) h1 :=
    ev_tup_ok (evL_cons_ok (z := (tN [0, 1], false)) rfl (ev_tup_ok (evL_cons_ok rfl ev_con_ok (evL_cons_ok rfl ev_con_ok evL_nil_ok)) (by decide)) (evL_cons_ok (z := (tN [0, 1, 2], false)) rfl (ev_tup_ok (evL_cons_ok rfl ev_con_ok (evL_cons_ok rfl ev_con_ok (evL_cons_ok rfl ev_con_ok evL_nil_ok))) (by decide)) evL_nil_ok)) (by decide)
  have c3 : ∀ s, 2 ≤ s → s ≤ 3 → ev (call_ lw.tab (k + 8)) (.bi .len [(.call "rounds" [(.loc 2), (.con (dN s))])]) (rE l o1 (some (tG every)) none none) h1 = .ok (dN (rd every s).length, false) h1 := fun s h2 h3 => by
    have c := (ev_call_ok (Φ := call_ lw.tab (k + 8)) (env := rE l o1 (some (tG every)) none none) (h := h1) (es := [(.loc 2), (.con (dN s))]) (x := "rounds") (ds := [tG every, dN s]) (evL_cons_ok (z := (tG every, false)) rfl (ev_loc_ok rfl) (evL_cons_ok (z := (dN s, false)) rfl ev_con_ok evL_nil_ok))).trans (e_rounds (k + 1) v_every s h2 h3 h1)
    have := ev_bi_ok (evL_cons_ok rfl c evL_nil_ok) (bi_len_tup (h := h1) (d := tG (rd every s)) rfl)
    rw [List.length_map] at this
    exact this
  have c4 := c3 2 (by omega) (by omega)
  have c5 := c3 3 (by omega) (by omega)
  rw [rd_every2] at c4
  rw [rd_every3] at c5
  have c6 : ∀ n : Nat, cmpD .eq (dN n) (dN n) h1 = .ok (.bl true, false) h1 := fun n => by rw [eq_num]; simp
  refine ss_last (is_of (ret_ok (ev_and_t (f := false) (ev_cmp_ok c1 c2 ?_) (ev_and_t (ev_cmp_ok c4 (ev_con_ok (d := dN 6)) (c6 6)) (ev_cmp_ok c5 (ev_con_ok (d := dN 14)) (c6 14))))) ?_)
  · show (match Fz.plain 30 (tG [[0, 1], [0, 1, 2]]) && Fz.plain 30 (tG [[0, 1], [0, 1, 2]]) with
      | true => val (.bl (eqD (tG [[0, 1], [0, 1, 2]]) (tG [[0, 1], [0, 1, 2]]))) h1
      | false => Res.no) = _
    rw [plain_tG _ 28, eqD_tG]
    rfl
  · show (fin h.length (.bl true, false) h1).Is _
    rw [fin_cut rfl]
    exact is_ok ⟨a1.take hlen, rfl⟩
end Lk76

set_option Elab.async false
set_option linter.all false
set_option maxRecDepth 100000
set_option maxHeartbeats 1000000
/-! k76: `_law_pool`, `law`, the end. -/
namespace Lk76
open PySem PySem.Spec PyProof.Rows L2 Fz
theorem lk_pool : look lw.tab "_law_pool" = some ⟨"_law_pool", ["script", "turn"], r__law_pool.N, b__law_pool⟩ := lf.lk r__law_pool (by simp [lw])
theorem lk_law : look lw.tab "law" = some ⟨"law", ["script"], r_law.N, b_law⟩ := lf.lk r_law (by simp [lw])
abbrev pE (ns : List Int) (t : Nat) (own st : Int) (o : Option D) : Fz.Env := [some (.fix (ns.map .int)), some (dN t), some (.int own), some (.int st), o]
theorem e_pool (k : Nat) {ns : List Int} (hn : ns.length ≤ 63) {t : Nat} (ht : t < 3) (h : LH) : ∃ a b c : Int, call_ lw.tab (k + 1) "_law_pool" [.fix (ns.map .int), dN t] h = .ok (.lst [.int a, .int b, .int c], true) h := by
  have t1 := thousand
  suffices hs : (call_ lw.tab (k + 1) "_law_pool" [.fix (ns.map .int), dN t] h).Is fun z h' => h' = h ∧ ∃ a b c : Int, z = (.lst [.int a, .int b, .int c], true) by
    obtain ⟨z, h', e, rfl, a, b, c, rfl⟩ := hs
    exact ⟨a, b, c, e⟩
  refine call_is lk_pool rfl ?_
  refine ss_is (P := fun fl h' => h' = h ∧ ∃ own st, fl = .nx (pE ns t own st none)) ?_ ?_
  · have m1 : mulOk 70001 (t : Int) = true := mulOk_l (by decide)
    have m2 : mulOk 5087 (t : Int) = true := mulOk_l (by decide)
    have c2 : ev (call_ lw.tab k) (.bin .add (.con (.int 698943)) (.bin .mul (.con (.int 5087)) (.loc 1))) [some (.fix (ns.map .int)), some (dN t), none, none, none] h = .ok (.int (698943 + 5087 * (t : Int)), false) h := by
      simp [evSs, evS, ev, evL, evO, M.then, Res.next, M.ret, val, der, truthD, cmpD, binD, ixD, ofO, dN, m2]
    by_cases c : t < ns.length
    · have g : atI (ns.map D.int) (t : Int) = some (.int ns[t]) := by rw [Fz.atI_nat (by simpa using c)]; simp
      have c1 : ev (call_ lw.tab k) (.ite (.cmp .lt (.loc 1) (.bi .len [(.loc 0)])) (.bi .int [(.ix (.loc 0) (.loc 1))]) (.bin .add (.bin .mul (.con (.int 70001)) (.loc 1)) (.con (.int 2488)))) [some (.fix (ns.map .int)), some (dN t), none, none, none] h = .ok (.int ns[t], false) h := by
        simp [evSs, evS, ev, evL, evO, M.then, Res.next, M.ret, val, der, truthD, cmpD, binD, ixD, ofO, dN, biD, c, g]
      exact is_of (par_ok (evL_cons_ok rfl c1 (evL_cons_ok rfl c2 evL_nil_ok)) rfl) ⟨rfl, _, _, rfl⟩
    · have c1 : ev (call_ lw.tab k) (.ite (.cmp .lt (.loc 1) (.bi .len [(.loc 0)])) (.bi .int [(.ix (.loc 0) (.loc 1))]) (.bin .add (.bin .mul (.con (.int 70001)) (.loc 1)) (.con (.int 2488)))) [some (.fix (ns.map .int)), some (dN t), none, none, none] h = .ok (.int (70001 * (t : Int) + 2488), false) h := by
        simp [evSs, evS, ev, evL, evO, M.then, Res.next, M.ret, val, der, truthD, cmpD, binD, ixD, ofO, dN, biD, c, m1]
      exact is_of (par_ok (evL_cons_ok rfl c1 (evL_cons_ok rfl c2 evL_nil_ok)) rfl) ⟨rfl, _, _, rfl⟩
  rintro fl h1 ⟨rfl, own, st, rfl⟩
  refine ss_is (P := fun fl h' => h' = h1 ∧ ∃ st o, fl = .nx (pE ns t own st o)) ?_ ?_
  · have cd : Fz.cutD (ns.map D.int) none (some 63) = ((ns.drop (HT.sIx (ns.map D.int).length 0 none)).take (HT.sIx (ns.map D.int).length (ns.map D.int).length (some 63) - HT.sIx (ns.map D.int).length 0 none)).map D.int := by
      unfold Fz.cutD
      rw [List.map_take, List.map_drop]
    generalize hms : (ns.drop (HT.sIx (ns.map D.int).length 0 none)).take (HT.sIx (ns.map D.int).length (ns.map D.int).length (some 63) - HT.sIx (ns.map D.int).length 0 none) = ms at cd
    have hml : ms.length ≤ 63 := by
      rw [← hms, List.length_take, List.length_drop]
      omega
    have w : evW (call_ lw.tab k) (.slc (.loc 0) none (some (.con (.int 63)))) (pE ns t own st none) h1 = .ok (ms.map D.int, none) h1 := by
      refine evW_gen_ok (x := (.lst (ms.map D.int), true)) rfl (ev_slc_ok (x := (.fix (ns.map .int), false)) (ev_loc_ok rfl) evO_none_ok (evO_some_ok (f := false) ev_con_ok) ?_) rfl
      show newL (Fz.cutD (ns.map D.int) none (some 63)) h1 = _
      rw [cd]
      exact newL_ok (by simp; omega)
    refine for_ev_is w ?_
    refine is_imp (for_is (g := none) (fun i env h' => h' = h1 ∧ ∃ st o, env = pE ns t own st o) (fun _ _ _ => False) (ms.map D.int) 0 (pE ns t own st none) h1 ⟨rfl, st, none, rfl⟩ ?_) ?_
    · rintro i x env h' hx ⟨rfl, st, o, rfl⟩
      have : ∃ m : Int, x = .int m := by
        obtain ⟨m, _, e⟩ := List.mem_map.mp (List.mem_of_getElem? hx)
        exact ⟨m, e.symm⟩
      obtain ⟨m, rfl⟩ := this
      have m1 : mulOk st 48271 = true := mulOk_r (by decide)
      refine body_is (env' := pE ns t own st (some (.int m))) rfl (ss_last (is_of (a := .nx (pE ns t own ((st * 48271 + m % 2147483563 + 441) % 2147483563) (some (.int m)))) (h := h') ?_ ?_))
      · simp [evSs, evS, ev, evL, evO, M.then, Res.next, M.ret, val, der, truthD, cmpD, binD, ixD, ofO, biD, m1]
      · exact ⟨rfl, rfl, _, _, rfl⟩
    · rintro fl h' p
      cases fl with
      | nx e => exact p.elim fun e1 ⟨st, o, e2⟩ => ⟨e1, st, o, by rw [e2]⟩
      | rt d fr => exact p.elim
      | bk e => exact p.elim
      | ct e => exact p.elim
  rintro fl h2 ⟨rfl, st, o, rfl⟩
  have m1 : mulOk own 1013 = true := mulOk_r (by decide)
  have pw : binD .pow (.int 10) (.int 18) h2 = .ok (.int (10 ^ 18), false) h2 := rfl
  have cc : ∃ b : Int, ev (call_ lw.tab k) (.ite (.or (.cmp .lt (.loc 2) (.con (.int 0))) (.cmp .ge (.loc 2) (.bin .pow (.con (.int 10)) (.con (.int 18))))) (.bi .abs [(.loc 2)]) (.con (.int 0))) (pE ns t own st o) h2 = .ok (.int b, false) h2 := by
    have ab : ev (call_ lw.tab k) (.bi .abs [(.loc 2)]) (pE ns t own st o) h2 = .ok (.int (if own < 0 then -own else own), false) h2 := ev_bi_ok (evL_cons_ok (z := (.int own, false)) rfl (ev_loc_ok rfl) evL_nil_ok) rfl
    by_cases c1 : own < 0
    · exact ⟨_, ev_ite_t (f := false) (ev_or_t (f := false) (h1 := h2) (by simp [evSs, evS, ev, evL, evO, M.then, Res.next, M.ret, val, der, truthD, cmpD, binD, ixD, ofO, c1])) ab⟩
    · have q1 : ev (call_ lw.tab k) (.cmp .lt (.loc 2) (.con (.int 0))) (pE ns t own st o) h2 = .ok (.bl false, false) h2 := by simp [evSs, evS, ev, evL, evO, M.then, Res.next, M.ret, val, der, truthD, cmpD, binD, ixD, ofO, c1]
      have q2 : ev (call_ lw.tab k) (.cmp .ge (.loc 2) (.bin .pow (.con (.int 10)) (.con (.int 18)))) (pE ns t own st o) h2 = .ok (.bl (decide ((10 : Int) ^ 18 ≤ own)), false) h2 :=
        ev_cmp_ok (x := (.int own, false)) (y := (.int (10 ^ 18), false)) (ev_loc_ok rfl) (ev_bin_ok (x := (.int 10, false)) (y := (.int 18, false)) ev_con_ok ev_con_ok pw) rfl
      by_cases c2 : (10 : Int) ^ 18 ≤ own
      · rw [decide_eq_true c2] at q2
        exact ⟨_, ev_ite_t (f := false) (ev_or_f q1 q2) ab⟩
      · rw [decide_eq_false c2] at q2
        exact ⟨0, ev_ite_f (f := false) (ev_or_f q1 q2) ev_con_ok⟩
  obtain ⟨b, cc⟩ := cc
  have c0 : ev (call_ lw.tab k) (.bin .mod (.bi .int [(.bin .add (.loc 3) (.bin .mul (.loc 2) (.con (.int 1013))))]) (.con (.int 2147483563))) (pE ns t own st o) h2 = .ok (.int ((st + own * 1013) % 2147483563), false) h2 := by
    simp [evSs, evS, ev, evL, evO, M.then, Res.next, M.ret, val, der, truthD, cmpD, binD, ixD, ofO, biD, m1]
  refine ss_last (is_of (ret_ok (ev_lst_ok (evL_cons_ok rfl c0 (evL_cons_ok rfl cc (evL_cons_ok rfl (ev_con_ok (d := .int 0)) evL_nil_ok))) (by show 3 ≤ sizeLine; omega))) ?_)
  show (fin h2.length (.lst [.int ((st + own * 1013) % 2147483563), .int b, .int 0], true) h2).Is _
  rw [fin_cut rfl, List.take_length]
  exact is_ok ⟨rfl, _, _, _, rfl⟩
theorem e_turns (k : Nat) {ns : List Int} {h : LH} : ∃ n : Nat, n ≤ 3 ∧ ev (call_ lw.tab k) (.bi .max [(.con (.int 2)), (.bi .min [(.bi .len [(.loc 0)]), (.con (.int 3))])]) [some (.fix (ns.map .int)), none] h = .ok (.int (n : Int), false) h := by
  have c0 : ev (call_ lw.tab k) (.bi .len [(.loc 0)]) [some (.fix (ns.map .int)), none] h = .ok (.int (ns.length : Int), false) h := by
    simp [evSs, evS, ev, evL, evO, M.then, Res.next, M.ret, val, der, truthD, cmpD, binD, ixD, ofO, biD]
  have c1 : ev (call_ lw.tab k) (.bi .min [(.bi .len [(.loc 0)]), (.con (.int 3))]) [some (.fix (ns.map .int)), none] h = .ok (.int (if (3 : Int) < (ns.length : Int) then 3 else (ns.length : Int)), false) h :=
    ev_bi_ok (evL_cons_ok rfl c0 (evL_cons_ok rfl (ev_con_ok (d := .int 3)) evL_nil_ok)) rfl
  have c2 := ev_bi_ok (b := .max) (evL_cons_ok rfl (ev_con_ok (d := .int 2)) (evL_cons_ok rfl c1 evL_nil_ok)) (z := (.int (if (if (3 : Int) < (ns.length : Int) then 3 else (ns.length : Int)) > 2 then (if (3 : Int) < (ns.length : Int) then 3 else (ns.length : Int)) else 2), false)) rfl
  generalize hm : (if (if (3 : Int) < (ns.length : Int) then 3 else (ns.length : Int)) > 2 then (if (3 : Int) < (ns.length : Int) then 3 else (ns.length : Int)) else 2) = m at c2
  refine ⟨m.toNat, ?_, ?_⟩
  · split at hm <;> split at hm <;> omega
  · have : ((m.toNat : Nat) : Int) = m := by split at hm <;> split at hm <;> omega
    rw [this]
    exact c2
theorem says : Says lw 11 := by
  intro ns hn
  have t1 := thousand
  suffices hs : (call_ lw.tab 11 "law" [.fix (ns.map .int)] []).Is fun z h' => z = (.bl true, false) by
    obtain ⟨z, h', e, rfl⟩ := hs
    exact ⟨h', e⟩
  refine call_is lk_law rfl ?_
  obtain ⟨n, hn3, et⟩ := e_turns 10 (ns := ns) (h := [])
  refine ss_is (P := fun fl h' => ∃ o, fl = .nx [some (.fix (ns.map .int)), o]) ?_ ?_
  · refine for_ev_is (w := ((List.range n).map dN, none)) (h1 := []) (evW_range_ok (by omega) rfl et) ?_
    refine is_imp (for_is (g := none) (fun i env h' => ∃ o, env = [some (.fix (ns.map .int)), o]) (fun _ _ _ => False) ((List.range n).map dN) 0 [some (.fix (ns.map .int)), none] [] ⟨none, rfl⟩ ?_) ?_
    · rintro i x env h' hx ⟨o, rfl⟩
      have hi : i < n := by
        have := (List.getElem?_eq_some_iff.mp hx).1
        simpa using this
      have hxi : x = dN i := by
        rw [List.getElem?_map, List.getElem?_range hi] at hx
        exact (Option.some.inj hx).symm
      subst hxi
      obtain ⟨a, b, c, ep⟩ := e_pool 9 hn (t := i) (by omega) h'
      refine body_is (env' := [some (.fix (ns.map .int)), some (dN i)]) rfl (ss_last ?_)
      have em : ev (call_ lw.tab 10) (.mk (.call "_law_pool" [(.loc 0), (.loc 1)])) [some (.fix (ns.map .int)), some (dN i)] h' = .ok (.cell h'.length, false) (h' ++ [.lst [.int a, .int b, .int c]]) := by
        refine ev_mk_ok ((ev_call_ok (ds := [.fix (ns.map .int), dN i]) (evL_cons_ok (z := (.fix (ns.map .int), false)) rfl (ev_loc_ok rfl) (evL_cons_ok (z := (dN i, false)) rfl (ev_loc_ok rfl) evL_nil_ok))).trans ep) ?_
        exact mkC_ok rfl
      refine ife_is (P := fun z h'' => z = (.bl false, false)) ?_ ?_
      · refine ev_not_is (P := fun z h'' => z = (.bl true, false)) ?_ ?_
        · refine ev_call_is (ds := [.cell h'.length]) (h1 := h' ++ [.lst [.int a, .int b, .int c]]) (evL_cons_ok rfl em evL_nil_ok) ?_
          refine is_imp (e_rt 1 (l := h'.length) (base := h' ++ [.lst [.int a, .int b, .int c]]) (by simp) ⟨a, b, c, by simp⟩) ?_
          rintro z h2 ⟨_, e⟩
          exact e
        · rintro z h2 rfl
          exact ⟨true, rfl, rfl⟩
      · rintro z h2 rfl
        exact ⟨false, rfl, is_ok ⟨rfl, _, rfl⟩⟩
    · rintro fl h' p
      cases fl with
      | nx e =>
        obtain ⟨o, rfl⟩ := p
        exact ⟨o, rfl⟩
      | rt d fr => exact p.elim
      | bk e => exact p.elim
      | ct e => exact p.elim
  rintro fl h1 ⟨o, rfl⟩
  refine ss_last (is_of (ret_ok ev_con_ok) ?_)
  show (fin 0 (.bl true, false) h1).Is _
  rw [fin_cut rfl]
  exact is_ok rfl
end Lk76

open PySem PySem.W PyProof.Rows
set_option Elab.async false
set_option maxRecDepth 100000 in
set_option maxHeartbeats 8000000 in
theorem PySem.Challenge.cw_wishpairs_k76_whole_rounds_holds : PySem.Challenge.rw_wishpairs_k76_whole_rounds.Holds :=
  Lk76.says_holds 11 (by decide) Lk76.says
