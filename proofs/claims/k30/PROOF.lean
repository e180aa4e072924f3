import PyProof.Rows.All
import Wide.All
import OpenK.AllK
import Wide.FinOn
import HandS.ForDict
import HandS.WordsExc
import HandS.ExcOwn
import HandS.ExcValue
import HandS.Nested
import HandS.Lambda
import HandS.Comp
import HandS.Conv
import HandS.IsInst
import HandS.List
import HandS.Deep
import HandS.CallLocal
import HandS.WideMore
import HandS.Style
import HandS.TupAny
import HandS.ExcSuper
import HandS.More
import HandS.ExcInit
import KE.KExcSuper
import HandS.ExcIs
import HandS.RaiseMore
import HandS.EndTab
import HandS.HeadWalk
import KE.KNestM
import HandS.Head0
import HandS.Head1
import HandS.Head2
import HandS.HeadHook1
import HandS.HeadHook2
import HandS.Defaults
import PySem.Challenge.RW_madeshallow_k30_numbers_by_themselves
import KE.IntBitsLaws
import PyProof.ReprBulk
set_option Elab.async false
set_option linter.all false
set_option maxRecDepth 100000
/-! Plain data over the abstract heap: values D without addresses, a store of lists, what of both a state shows. -/
namespace Vi
open PySem L2
/-- values: no addresses; ref: a place of the store -/
inductive D where
  | non | bl (b : Bool) | int (i : Int) | str (x : Str) | tup (ds : List D) | ref (n : Nat) | fn (i : Nat) | ty (n : String) | scr (is : List Int) | cls (c : Nat) | exo (c : Nat) (d : D) | clo (i : Nat) (cs : List (Option D))
  deriving Inhabited
/-- what stands at a place -/
inductive MO where
  | lst (ds : List D)
abbrev Sto := List MO
inductive R (β : Type) where
  | ok (b : β) (S : Sto)
  | exc (c : Nat) (d : D) (S : Sto)
  | bad
def R.bind {β γ : Type} : R β → (β → Sto → R γ) → R γ
  | .ok b S, f => f b S
  | .exc c d S, _ => .exc c d S
  | .bad, _ => .bad
abbrev Ev := List (Option D)
/-- the module's table: functions and own error classes by number -/
structure Lam where
  qual : Str
  params : Arguments
  body : Expr
  scope : Scope
  fr : List Str
structure Tab where
  fns : List Str
  cls : List Str
  lams : List Lam
  consts : List (Str × D)
/-- tabs: the code tables of the defs that make functions -/
structure Pr where
  K : PySem.W.Frag
  mg : Str → Option Value
  T : Tab
  tabs : List (Addr × Str)
/-- a thing that stays as it is -/
def PinO (a : Addr) (o : Obj) : HO := .ext fun h => h.get? a = some o

/-- an exception that was caught: its object -/
def ExO (a C dx : Addr) : HO := .ext fun h => ∃ o vs, h.get? a = some o ∧ o.cls = .ref C ∧ o.dict = some dx ∧ o.data = .fields vs
def vKey : Str := "value"

/-- a list of the module -/
def SqK (K : PySem.W.Frag) (a : Addr) (xs : List V) : Prop :=
  ∃ (o : Obj) (its : Array Value) (n : Nat), K.lookup a = some o ∧ o.cls = .type "list" ∧ o.dict = none ∧ o.data = .seq its n ∧ its.size ≤ sizeLine ∧ Vals xs its.toList
/-- a list that nobody writes -/
def SqF (K : PySem.W.Frag) (H : Hp) (a : Addr) (xs : List V) : Prop := (∃ o, H a = some (.frz o (.lst xs))) ∨ SqK K a xs
theorem SqF.sq {K : PySem.W.Frag} {H : Hp} {a : Addr} {xs : List V} (h : SqF K H a xs) : SqL K H a xs := by
  rcases h with h | h
  · exact .inl (.inr h)
  · exact .inr h
section
variable (P : Pr) (α : List Addr) (H : Hp)
mutual
/-- inside of tuples, lists, errors -/
def Rep0 : D → V → Prop
  | .non, v => v = .non
  | .bl b, v => v = .bl b
  | .int i, v => v = .int i
  | .str x, v => v = .str x
  | .tup ds, v => ∃ a vs, v = .ref a ∧ SqT P.K H a vs ∧ Reps ds vs
  | .ref n, v => ∃ a, α[n]? = some a ∧ v = .ref a
  | .fn i, v => ∃ x a, P.T.fns[i]? = some x ∧ P.mg x = some (.ref a) ∧ v = .ref a
  | .ty n, v => v = .ty n
  | .scr is, v => ∃ a, v = .ref a ∧ SqF P.K H a (is.map V.int)
  | .cls c, v => ∃ x C, P.T.cls[c]? = some x ∧ P.mg x = some (.ref C) ∧ v = .ref C
  | .exo c d, v => ∃ a x C dx w, P.T.cls[c]? = some x ∧ P.mg x = some (.ref C) ∧ v = .ref a ∧ a ∉ α ∧ dx ∉ α ∧ H a = some (ExO a C dx) ∧ H dx = some (.xd [(vKey, w)]) ∧ Rep0 d w
  | .clo _ _, _ => False
def Reps : List D → List V → Prop
  | [], vs => vs = []
  | d :: ds, vs => ∃ v r, vs = v :: r ∧ Rep0 d v ∧ Reps ds r
end
end

structure Ext (K : PySem.W.Frag) (α : List Addr) (H : Hp) (α' : List Addr) (H' : Hp) : Prop where
  pre : ∃ β, α' = α ++ β
  new : ∀ a ∈ α', a ∈ α ∨ H a = none ∨ ∃ ps, H a = some (.tbl ps)
  oth : ∀ a o, a ∉ α → (∀ ps, o ≠ .tbl ps) → H a = some o → H' a = some o
  tups : ∀ a vs, Rd H a (.tup vs) → Rd H' a (.tup vs)
  frzs : ∀ a o u, H a = some (.frz o u) → H' a = some (.frz o u)
theorem Ext.refl (K : PySem.W.Frag) (α : List Addr) (H : Hp) : Ext K α H α H :=
  ⟨⟨[], by simp⟩, fun a h => .inl h, fun _ _ _ _ h => h, fun _ _ h => h, fun _ _ _ h => h⟩
theorem Ext.trans {K : PySem.W.Frag} {α α1 α2 : List Addr} {H H1 H2 : Hp} (a : Ext K α H α1 H1) (b : Ext K α1 H1 α2 H2) : Ext K α H α2 H2 := by
  obtain ⟨β1, e1⟩ := a.pre
  obtain ⟨β2, e2⟩ := b.pre
  have sub : ∀ x ∈ α, x ∈ α1 := fun x h => by rw [e1]; exact List.mem_append_left _ h
  refine ⟨⟨β1 ++ β2, by rw [e2, e1, List.append_assoc]⟩, fun x h => ?_, fun x o hx ht e => ?_, fun x vs h => b.tups x vs (a.tups x vs h), fun x o u h => b.frzs x o u (a.frzs x o u h)⟩
  · by_cases hx : x ∈ α
    · exact .inl hx
    right
    cases e : H x with
    | none => exact .inl rfl
    | some o =>
      by_cases ht : ∃ ps, o = .tbl ps
      · obtain ⟨ps, rfl⟩ := ht
        exact .inr ⟨ps, rfl⟩
      exfalso
      have q := a.oth x o hx (fun ps z => ht ⟨ps, z⟩) e
      rcases b.new x h with h | h | ⟨ps, h⟩
      · rcases a.new x h with h | h | ⟨ps, h⟩
        · exact hx h
        · rw [e] at h; cases h
        · rw [e] at h; cases h; exact ht ⟨ps, rfl⟩
      · rw [q] at h; cases h
      · rw [q] at h; cases h; exact ht ⟨ps, rfl⟩
  · have q := a.oth x o hx ht e
    refine b.oth x o (fun z => ?_) ht q
    rcases a.new x z with z | z | ⟨ps, z⟩
    · exact hx z
    · rw [e] at z; cases z
    · rw [e] at z; cases z; exact ht ps rfl
theorem Ext.get {K : PySem.W.Frag} {α α' : List Addr} {H H' : Hp} (e : Ext K α H α' H') {n : Nat} {a : Addr} (h : α[n]? = some a) : α'[n]? = some a := by
  obtain ⟨β, e⟩ := e.pre
  rw [e, List.getElem?_append_left (List.getElem?_eq_some_iff.mp h).1]; exact h
theorem Ext.sq {K : PySem.W.Frag} {α α' : List Addr} {H H' : Hp} (e : Ext K α H α' H') {a : Addr} {vs : List V} (h : SqT K H a vs) : SqT K H' a vs := by
  rcases h with h | h
  · exact .inl (e.tups a vs h)
  · exact .inr h
theorem Ext.nin {K : PySem.W.Frag} {α α' : List Addr} {H H' : Hp} (e : Ext K α H α' H') {a : Addr} {o : HO} (h : H a = some o) (n : a ∉ α) (t : ∀ ps, o ≠ .tbl ps := by intro ps z; cases z) : a ∉ α' := fun z => by
  rcases e.new a z with z | z | ⟨ps, z⟩
  · exact n z
  · rw [h] at z; cases z
  · rw [h] at z; cases z; exact t ps rfl
theorem Rd.some {H : Hp} {a : Addr} {u : HO} (h : Rd H a u) : ∃ o, H a = some o ∧ (o = u ∨ ∃ ob, o = .frz ob u) := by
  rcases h with h | ⟨o, h⟩
  · exact ⟨_, h, .inl rfl⟩
  · exact ⟨_, h, .inr ⟨_, rfl⟩⟩

/-- what a value leans on stands -/
structure Stay (K : PySem.W.Frag) (α : List Addr) (H : Hp) (α' : List Addr) (H' : Hp) : Prop where
  pre : ∃ β, α' = α ++ β
  sq : ∀ a vs, SqT K H a vs → SqT K H' a vs
  exo : ∀ a C dx, a ∉ α → H a = some (ExO a C dx) → H' a = some (ExO a C dx) ∧ a ∉ α'
  xds : ∀ a fs, a ∉ α → H a = some (.xd fs) → H' a = some (.xd fs) ∧ a ∉ α'
  frzs : ∀ a o u, H a = some (.frz o u) → H' a = some (.frz o u)
theorem Ext.stay {K : PySem.W.Frag} {α α' : List Addr} {H H' : Hp} (e : Ext K α H α' H') : Stay K α H α' H' :=
  ⟨e.pre, fun _ _ h => e.sq h, fun a C dx n h => ⟨e.oth a _ n (fun ps z => by cases z) h, e.nin h n⟩, fun a fs n h => ⟨e.oth a _ n (fun ps z => by cases z) h, e.nin h n⟩, e.frzs⟩
section
variable {P : Pr} {α α' : List Addr} {H H' : Hp}
mutual
theorem Rep0.stay (e : Stay P.K α H α' H') : ∀ {d : D} {v : V}, Rep0 P α H d v → Rep0 P α' H' d v
  | .non, v, h => by simpa [Rep0] using h
  | .bl b, v, h => by simpa [Rep0] using h
  | .int i, v, h => by simpa [Rep0] using h
  | .str x, v, h => by simpa [Rep0] using h
  | .tup ds, v, h => by
    simp only [Rep0] at h ⊢
    obtain ⟨a, vs, h1, h2, h3⟩ := h
    exact ⟨a, vs, h1, e.sq _ _ h2, Reps.stay e h3⟩
  | .ref n, v, h => by
    simp only [Rep0] at h ⊢
    obtain ⟨a, h1, h2⟩ := h
    obtain ⟨β, q⟩ := e.pre
    exact ⟨a, by rw [q, List.getElem?_append_left (List.getElem?_eq_some_iff.mp h1).1]; exact h1, h2⟩
  | .fn i, v, h => by simpa [Rep0] using h
  | .ty n, v, h => by simpa [Rep0] using h
  | .scr is, v, h => by
    simp only [Rep0] at h ⊢
    obtain ⟨a, h1, h2⟩ := h
    exact ⟨a, h1, h2.imp (fun ⟨o, q⟩ => ⟨o, e.frzs a o _ q⟩) id⟩
  | .cls c, v, h => by simpa [Rep0] using h
  | .exo c d, v, h => by
    simp only [Rep0] at h ⊢
    obtain ⟨a, x, C, dx, w, h1, h2, h3, h4, h5, h6, h7, h8⟩ := h
    obtain ⟨g1, g2⟩ := e.exo a _ _ h4 h6
    obtain ⟨g3, g4⟩ := e.xds dx _ h5 h7
    exact ⟨a, x, C, dx, w, h1, h2, h3, g2, g4, g1, g3, Rep0.stay e h8⟩
  | .clo _ _, v, h => by simp only [Rep0] at h
theorem Reps.stay (e : Stay P.K α H α' H') : ∀ {ds : List D} {vs : List V}, Reps P α H ds vs → Reps P α' H' ds vs
  | [], vs, h => by simpa [Reps] using h
  | d :: ds, vs, h => by
    simp only [Reps] at h ⊢
    obtain ⟨v, r, h1, h2, h3⟩ := h
    exact ⟨v, r, h1, Rep0.stay e h2, Reps.stay e h3⟩
end
theorem Rep0.ext (e : Ext P.K α H α' H') {d : D} {v : V} (h : Rep0 P α H d v) : Rep0 P α' H' d v := Rep0.stay e.stay h
theorem Reps.ext (e : Ext P.K α H α' H') {ds : List D} {vs : List V} (h : Reps P α H ds vs) : Reps P α' H' ds vs := Reps.stay e.stay h
end
def noClo : D → Bool
  | .clo _ _ => false
  | _ => true
/-- a function made here: its object, its code, its cells, all of them as they stand -/
structure CloAt (P : Pr) (α : List Addr) (H : Hp) (L : Lam) (cs : List (Option D)) (fl c' : Addr) (cl : List (Str × Addr)) (pm ctv : Value) : Prop where
  nf : fl ∉ α
  ob : H fl = some (PinO fl (PySem.W.kla_obj "<lambda>" L.qual L.params L.body L.scope cl pm c' ctv))
  nc : c' ∉ α
  co : H c' = some (LamX.CodeO c' L.qual)
  len : cs.length = L.fr.length
  inj : ∀ x y c, cl.lookup x = some c → cl.lookup y = some c → x = y
  all : ∀ y c, cl.lookup y = some c → c ∉ α ∧ ∃ o w, o.data = .cell w ∧ H c = some (PinO c o)
  has : ∀ (j : Nat) (y : Str), L.fr[j]? = some y → ∃ c, cl.lookup y = some c ∧ ∀ d, cs[j]? = some (some d) → ∃ o u v, H c = some (PinO c o) ∧ o.data = .cell (some u) ∧ RelV v u ∧ Rep0 P α H d v
def RepC (P : Pr) (α : List Addr) (H : Hp) (i : Nat) (cs : List (Option D)) (v : V) : Prop := ∃ L fl c' cl pm ctv, P.T.lams[i]? = some L ∧ v = .ref fl ∧ CloAt P α H L cs fl c' cl pm ctv
/-- at the top: functions made here, too -/
def Rep (P : Pr) (α : List Addr) (H : Hp) (d : D) (v : V) : Prop := match d with
  | .clo i cs => RepC P α H i cs v
  | d => Rep0 P α H d v
theorem Rep.z {P : Pr} {α : List Addr} {H : Hp} {d : D} {v : V} (h : Rep P α H d v) (n : noClo d = true) : Rep0 P α H d v := by
  cases d <;> first | exact h | cases n
theorem Rep0.up {P : Pr} {α : List Addr} {H : Hp} {d : D} {v : V} (h : Rep0 P α H d v) : Rep P α H d v := by
  cases d <;> first | exact h | (simp only [Rep0] at h)
theorem CloAt.ext {P : Pr} {α α' : List Addr} {H H' : Hp} (e : Ext P.K α H α' H') {L : Lam} {cs : List (Option D)} {fl c' : Addr} {cl : List (Str × Addr)} {pm ctv : Value} (h : CloAt P α H L cs fl c' cl pm ctv) : CloAt P α' H' L cs fl c' cl pm ctv :=
  ⟨e.nin h.ob h.nf, e.oth fl _ h.nf (fun ps z => by cases z) h.ob, e.nin h.co h.nc, e.oth c' _ h.nc (fun ps z => by cases z) h.co, h.len, h.inj,
    fun y c q => let ⟨g1, o, w, g2, g3⟩ := h.all y c q; ⟨e.nin g3 g1, o, w, g2, e.oth c _ g1 (fun ps z => by cases z) g3⟩,
    fun j y q => let ⟨c, g1, g2⟩ := h.has j y q; ⟨c, g1, fun d hd => let ⟨o, u, v, k1, k2, k3, k4⟩ := g2 d hd; ⟨o, u, v, e.oth c _ (h.all y c g1).1 (fun ps z => by cases z) k1, k2, k3, Rep0.ext e k4⟩⟩⟩
theorem Rep.ext {P : Pr} {α α' : List Addr} {H H' : Hp} (e : Ext P.K α H α' H') {d : D} {v : V} (h : Rep P α H d v) : Rep P α' H' d v := by
  cases d with
  | clo i cs =>
    obtain ⟨L, fl, c', cl, pm, ctv, h1, h2, h3⟩ := h
    exact ⟨L, fl, c', cl, pm, ctv, h1, h2, h3.ext e⟩
  | _ => exact Rep0.ext e h
def RepA (P : Pr) (α : List Addr) (H : Hp) : List D → List V → Prop
  | [], vs => vs = []
  | d :: ds, vs => ∃ v r, vs = v :: r ∧ Rep P α H d v ∧ RepA P α H ds r
theorem RepA.ext {P : Pr} {α α' : List Addr} {H H' : Hp} (e : Ext P.K α H α' H') : ∀ {ds : List D} {vs : List V}, RepA P α H ds vs → RepA P α' H' ds vs
  | [], vs, h => h
  | d :: ds, vs, h => by
    obtain ⟨v, r, h1, h2, h3⟩ := h
    exact ⟨v, r, h1, h2.ext e, RepA.ext e h3⟩
def MRep (P : Pr) (α : List Addr) (H : Hp) (a : Addr) : MO → Prop
  | .lst ds => ∃ vs, H a = some (.lst vs) ∧ Reps P α H ds vs
structure Sim (P : Pr) (α : List Addr) (S : Sto) (H : Hp) : Prop where
  len : α.length = S.length
  nd : α.Nodup
  at_ : ∀ (n : Nat) (a : Addr) (mo : MO), α[n]? = some a → S[n]? = some mo → MRep P α H a mo
  tabs : LamX.Tabs P.tabs H
theorem tabs_stay {T : List (Addr × Str)} {H H' : Hp} (t : LamX.Tabs T H) (k : ∀ b o, (∀ xs, o ≠ .lst xs) → H b = some o → H' b = some o) : LamX.Tabs T H' := fun p hp => by
  obtain ⟨ps, h1, h2, h3⟩ := t p hp
  refine ⟨ps, k _ _ (fun xs z => by cases z) h1, h2, fun pos cv h => ?_⟩
  obtain ⟨c, e1, e2⟩ := h3 pos cv h
  exact ⟨c, e1, k _ _ (fun xs z => by cases z) e2⟩
def ERep (P : Pr) (α : List Addr) (H : Hp) (ρ : Ev) (σ : St) : Prop := ρ.length = σ.length ∧ ∀ (i : Nat) (d : D), ρ[i]? = some (some d) → ∃ v, σ[i]? = some (some v) ∧ Rep P α H d v
section
variable {P : Pr} {α α' : List Addr} {H H' : Hp} {S : Sto} {ρ : Ev} {σ : St}
theorem ERep.ext (e : Ext P.K α H α' H') (h : ERep P α H ρ σ) : ERep P α' H' ρ σ :=
  ⟨h.1, fun i d q => let ⟨v, a, b⟩ := h.2 i d q; ⟨v, a, b.ext e⟩⟩
theorem ERep.set {i : Nat} {d : D} {v : V} (h : ERep P α H ρ σ) (r : Rep P α H d v) : ERep P α H (ρ.set i (some d)) (σ.set i (some v)) := by
  refine ⟨by simpa using h.1, fun j e q => ?_⟩
  by_cases hj : i = j
  · subst hj
    have hl : i < ρ.length := by
      have := (List.getElem?_eq_some_iff.mp q).1
      simpa using this
    rw [List.getElem?_set_self hl] at q
    cases q
    exact ⟨v, List.getElem?_set_self (by rw [← h.1]; exact hl), r⟩
  · rw [List.getElem?_set_ne hj] at q
    obtain ⟨w, a, b⟩ := h.2 j e q
    exact ⟨w, by rw [List.getElem?_set_ne hj]; exact a, b⟩
theorem ERep.unset {i : Nat} (h : ERep P α H ρ σ) : ERep P α H (ρ.set i none) (σ.set i none) := by
  refine ⟨by simpa using h.1, fun j e q => ?_⟩
  by_cases hj : i = j
  · subst hj
    have hl : i < ρ.length := by
      have := (List.getElem?_eq_some_iff.mp q).1
      simpa using this
    rw [List.getElem?_set_self hl] at q
    cases q
  · rw [List.getElem?_set_ne hj] at q
    obtain ⟨w, a, b⟩ := h.2 j e q
    exact ⟨w, by rw [List.getElem?_set_ne hj]; exact a, b⟩
theorem Sim.tracked (s : Sim P α S H) {a : Addr} (h : a ∈ α) : ∃ o, H a = some o ∧ ∃ vs, o = .lst vs := by
  obtain ⟨n, hn, e⟩ := List.mem_iff_getElem.mp h
  have e1 : α[n]? = some a := by rw [List.getElem?_eq_getElem hn, e]
  have hS : n < S.length := by rw [← s.len]; exact hn
  have := s.at_ n a S[n] e1 (List.getElem?_eq_getElem hS)
  cases hm : S[n] with
  | lst ds =>
    rw [hm] at this
    obtain ⟨vs, q, _⟩ := this
    exact ⟨_, q, _, rfl⟩
/-- a new thing that nobody writes -/
theorem Ext.alloc {K : PySem.W.Frag} {p : Addr} {o : HO} (hp : H p = none) : Ext K α H α (upd H p o) := by
  have ne : ∀ {a o'}, H a = some o' → a ≠ p := fun h z => by rw [z, hp] at h; cases h
  refine ⟨⟨[], by simp⟩, fun a h => .inl h, fun a o' _ _ h => by rw [upd_ne (ne h)]; exact h, fun a vs h => ?_, fun a o u h => by rw [upd_ne (ne h)]; exact h⟩
  obtain ⟨o', e, _⟩ := Rd.some h
  unfold Rd
  rw [upd_ne (ne e)]; exact h
theorem Sim.nin (s : Sim P α S H) {p : Addr} (hp : H p = none) : p ∉ α := fun z => by
  obtain ⟨o, e, _⟩ := s.tracked z
  rw [hp] at e; cases e
theorem MRep.mv {a : Addr} {mo : MO} (e : Ext P.K α H α' H') (ha : H' a = H a) (h : MRep P α H a mo) : MRep P α' H' a mo := by
  cases mo with
  | lst ds =>
    obtain ⟨vs, q, r⟩ := h
    exact ⟨vs, by rw [ha]; exact q, Reps.ext e r⟩
theorem Sim.alloc {p : Addr} {o : HO} (s : Sim P α S H) (hp : H p = none) : Sim P α S (upd H p o) :=
  ⟨s.len, s.nd, fun n a mo h1 h2 => (s.at_ n a mo h1 h2).mv (Ext.alloc hp) (upd_ne (fun z => s.nin hp (by rw [← z]; exact List.mem_of_getElem? h1))), tabs_stay s.tabs fun b o' _ h => by rw [upd_ne (fun z => by rw [z, hp] at h; cases h)]; exact h⟩
/-- a new list -/
theorem Ext.allocM {K : PySem.W.Frag} {p : Addr} {o : HO} (hp : H p = none) : Ext K α H (α ++ [p]) (upd H p o) := by
  have ne : ∀ {a o'}, H a = some o' → a ≠ p := fun h z => by rw [z, hp] at h; cases h
  refine ⟨⟨[p], rfl⟩, fun a h => ?_, fun a o' _ _ h => by rw [upd_ne (ne h)]; exact h, fun a vs h => ?_, fun a o u h => by rw [upd_ne (ne h)]; exact h⟩
  · rcases List.mem_append.mp h with h | h
    · exact .inl h
    · right; left
      have : a = p := by simpa using h
      rw [this]; exact hp
  · obtain ⟨o', e, _⟩ := Rd.some h
    unfold Rd
    rw [upd_ne (ne e)]; exact h
theorem Sim.allocM {p : Addr} {ds : List D} {vs : List V} (s : Sim P α S H) (hp : H p = none) (r : Reps P α H ds vs) : Sim P (α ++ [p]) (S ++ [.lst ds]) (upd H p (.lst vs)) := by
  refine ⟨by simp [s.len], ?_, fun n a mo h1 h2 => ?_, tabs_stay s.tabs fun b o' _ h => by rw [upd_ne (fun z => by rw [z, hp] at h; cases h)]; exact h⟩
  · rw [List.nodup_append]
    refine ⟨s.nd, by simp, fun a ha b hb => ?_⟩
    have : b = p := by simpa using hb
    rw [this]
    intro z
    exact s.nin hp (by rw [← z]; exact ha)
  · by_cases hn : n < α.length
    · rw [List.getElem?_append_left hn] at h1
      rw [List.getElem?_append_left (by rw [← s.len]; exact hn)] at h2
      exact (s.at_ n a mo h1 h2).mv (Ext.allocM hp) (upd_ne (fun z => s.nin hp (by rw [← z]; exact List.mem_of_getElem? h1)))
    · rw [List.getElem?_append_right (by omega)] at h1
      rw [List.getElem?_append_right (by rw [← s.len]; omega)] at h2
      have hz : n - α.length = 0 := by
        have := (List.getElem?_eq_some_iff.mp h1).1
        simp at this; omega
      rw [hz] at h1
      rw [← s.len, hz] at h2
      simp at h1 h2
      subst h1; subst h2
      exact ⟨vs, upd_same, Reps.ext (Ext.allocM hp) r⟩
/-- a list is written -/
theorem Ext.write {K : PySem.W.Frag} {p : Addr} {vs ws : List V} (hp : H p = some (.lst vs)) (hm : p ∈ α) : Ext K α H α (upd H p (.lst ws)) := by
  refine ⟨⟨[], by simp⟩, fun a h => .inl h, fun a o' na _ h => ?_, fun a us h => ?_, fun a o u h => by rw [upd_ne (fun z => by rw [z, hp] at h; cases h)]; exact h⟩
  · rw [upd_ne (fun z => na (by rw [z]; exact hm))]; exact h
  · obtain ⟨o', e, q⟩ := Rd.some h
    unfold Rd
    rw [upd_ne (fun z => ?_)]; exact h
    rw [z, hp] at e
    cases e
    rcases q with q | ⟨_, q⟩ <;> cases q
theorem Sim.write {n : Nat} {p : Addr} {ds es : List D} {ws : List V} (s : Sim P α S H) (hn : α[n]? = some p) (hs : S[n]? = some (.lst ds)) (r : Reps P α H es ws) : Sim P α (S.set n (.lst es)) (upd H p (.lst ws)) := by
  obtain ⟨vs, hv, _⟩ := s.at_ n p _ hn hs
  have hm : p ∈ α := List.mem_of_getElem? hn
  refine ⟨by simpa using s.len, s.nd, fun m a mo h1 h2 => ?_, tabs_stay s.tabs fun b o' nl h => by
    rw [upd_ne (fun z => ?_)]
    · exact h
    · rw [z, hv] at h
      cases h
      exact nl _ rfl⟩
  by_cases hmn : n = m
  · subst hmn
    rw [hn] at h1
    cases h1
    rw [List.getElem?_set_self (List.getElem?_eq_some_iff.mp hs).1] at h2
    cases h2
    exact ⟨ws, upd_same, Reps.ext (Ext.write hv hm) r⟩
  · rw [List.getElem?_set_ne hmn] at h2
    refine (s.at_ m a mo h1 h2).mv (Ext.write hv hm) (upd_ne (fun z => ?_))
    subst z
    obtain ⟨l1, e1⟩ := List.getElem?_eq_some_iff.mp hn
    obtain ⟨l2, e2⟩ := List.getElem?_eq_some_iff.mp h1
    exact hmn ((List.getElem_inj s.nd).mp (e1.trans e2.symm))
theorem Reps.len : ∀ {ds : List D} {vs : List V}, Reps P α H ds vs → ds.length = vs.length
  | [], vs, h => by simp only [Reps] at h; simp [h]
  | d :: ds, vs, h => by
    simp only [Reps] at h
    obtain ⟨v, r, rfl, _, h3⟩ := h
    simp [Reps.len h3]
theorem Reps.get : ∀ {ds : List D} {vs : List V} {i : Nat} {d : D}, Reps P α H ds vs → ds[i]? = some d → ∃ v, vs[i]? = some v ∧ Rep0 P α H d v
  | [], _, _, _, _, e => by simp at e
  | c :: ds, vs, i, d, h, e => by
    simp only [Reps] at h
    obtain ⟨v, r, rfl, h2, h3⟩ := h
    cases i with
    | zero => simp at e; subst e; exact ⟨v, rfl, h2⟩
    | succ i => simp at e; obtain ⟨w, q1, q2⟩ := Reps.get h3 e; exact ⟨w, by simpa using q1, q2⟩
theorem Reps.app : ∀ {ds es : List D} {vs ws : List V}, Reps P α H ds vs → Reps P α H es ws → Reps P α H (ds ++ es) (vs ++ ws)
  | [], _, vs, _, h, h' => by simp only [Reps] at h; subst h; simpa using h'
  | d :: ds, es, vs, ws, h, h' => by
    simp only [Reps] at h
    obtain ⟨v, r, rfl, h2, h3⟩ := h
    simp only [List.cons_append, Reps]
    exact ⟨v, r ++ ws, rfl, h2, Reps.app h3 h'⟩
theorem Reps.set : ∀ {ds : List D} {vs : List V} {i : Nat} {d : D} {v : V}, Reps P α H ds vs → Rep0 P α H d v → Reps P α H (ds.set i d) (vs.set i v)
  | [], vs, _, _, _, h, _ => by simp only [Reps] at h; subst h; simp [Reps]
  | c :: ds, vs, i, d, v, h, q => by
    simp only [Reps] at h
    obtain ⟨w, r, rfl, h2, h3⟩ := h
    cases i with
    | zero => simp only [List.set_cons_zero, Reps]; exact ⟨v, r, rfl, q, h3⟩
    | succ i => simp only [List.set_cons_succ, Reps]; exact ⟨w, _, rfl, h2, Reps.set h3 q⟩
end

/-! ### the readings -/
section
variable (P : Pr)
/-- an own error: its class, its dict -/
def ExcAt (α : List Addr) (H : Hp) (c : Nat) (d : D) (C dx : Addr) : Prop := ∃ x w, P.T.cls[c]? = some x ∧ P.mg x = some (.ref C) ∧ dx ∉ α ∧ H dx = some (.xd [(vKey, w)]) ∧ Rep0 P α H d w
def Post {β γ : Type} (rel : List Addr → Hp → β → γ → Prop) (W : XK) (r : R β) (α : List Addr) (H : Hp) (Q : γ → Hp → Prop) : Prop :=
  match r with
  | .ok b S' => ∀ α' H' g, Ext P.K α H α' H' → Sim P α' S' H' → rel α' H' b g → Q g H'
  | .exc c d S' => ∀ α' H' C dx, Ext P.K α H α' H' → Sim P α' S' H' → ExcAt P α' H' c d C dx → W (.ref C) (some dx) H'
  | .bad => False
def tE (W : WX) (m : Ev → Sto → R D) : TE := fun σ H Q => ∃ α S ρ, Sim P α S H ∧ ERep P α H ρ σ ∧ Post P (Rep P) (fun c d H => W c d σ H) (m ρ S) α H Q
def tA (W : WX) (m : Ev → Sto → R (List D)) : TA := fun σ H Q => ∃ α S ρ, Sim P α S H ∧ ERep P α H ρ σ ∧ Post P (RepA P) (fun c d H => W c d σ H) (m ρ S) α H Q
def tB (W : WX) (m : Ev → Sto → R Bool) : TT := fun σ H Q => ∃ α S ρ, Sim P α S H ∧ ERep P α H ρ σ ∧ Post P (fun _ _ b g => b = g) (fun c d H => W c d σ H) (m ρ S) α H Q
inductive RS where
  | nx (ρ : Ev) (S : Sto)
  | rt (d : D) (S : Sto)
  | bk (ρ : Ev) (S : Sto)
  | ct (ρ : Ev) (S : Sto)
  | exc (ρ : Ev) (c : Nat) (d : D) (S : Sto)
  | bad
def PostS (W : WX) (r : RS) (α : List Addr) (H : Hp) (D : Ends) : Prop :=
  match r with
  | .nx ρ' S' => ∀ α' H' σ', Ext P.K α H α' H' → Sim P α' S' H' → ERep P α' H' ρ' σ' → D.nx σ' H'
  | .bk ρ' S' => ∀ α' H' σ', Ext P.K α H α' H' → Sim P α' S' H' → ERep P α' H' ρ' σ' → D.bk σ' H'
  | .ct ρ' S' => ∀ α' H' σ', Ext P.K α H α' H' → Sim P α' S' H' → ERep P α' H' ρ' σ' → D.ct σ' H'
  | .rt d S' => ∀ α' H' v, Ext P.K α H α' H' → Sim P α' S' H' → Rep P α' H' d v → D.rt v H'
  | .exc ρ' c d S' => ∀ α' H' σ' C dx, Ext P.K α H α' H' → Sim P α' S' H' → ERep P α' H' ρ' σ' → ExcAt P α' H' c d C dx → W (.ref C) (some dx) σ' H'
  | .bad => False
def tS (W : WX) (m : Ev → Sto → RS) : TS := fun D σ H => ∃ α S ρ, Sim P α S H ∧ ERep P α H ρ σ ∧ PostS P W (m ρ S) α H D
end
section
variable {P : Pr} {α α1 : List Addr} {H H1 : Hp} {β γ δ ε : Type} {rel : List Addr → Hp → β → γ → Prop} {rel2 : List Addr → Hp → δ → ε → Prop} {W : XK} {r : R β}
theorem Post.ext {Q : γ → Hp → Prop} (e : Ext P.K α H α1 H1) (h : Post P rel W r α H Q) : Post P rel W r α1 H1 Q := by
  cases r with
  | ok b S => exact fun α' H' g e' s q => h α' H' g (e.trans e') s q
  | exc c d S => exact fun α' H' C dx e' s q => h α' H' C dx (e.trans e') s q
  | bad => exact h
theorem Post.bind {f : β → Sto → R δ} {Q : ε → Hp → Prop} {Q1 : γ → Hp → Prop} (h : Post P rel2 W (r.bind f) α H Q)
    (k : ∀ α1 H1 b S1 g, Ext P.K α H α1 H1 → Sim P α1 S1 H1 → rel α1 H1 b g → Post P rel2 W (f b S1) α1 H1 Q → Q1 g H1) : Post P rel W r α H Q1 := by
  cases r with
  | ok b S => exact fun α' H' g e s q => k α' H' b S g e s q (Post.ext e h)
  | exc c d S => exact h
  | bad => exact h
theorem Post.mono {Q Q1 : γ → Hp → Prop} (h : Post P rel W r α H Q) (k : ∀ g H', Q g H' → Q1 g H') : Post P rel W r α H Q1 := by
  cases r with
  | ok b S => exact fun α' H' g e s q => k _ _ (h α' H' g e s q)
  | exc c d S => exact h
  | bad => exact h
theorem PostS.ext {W : WX} {r : RS} {D : Ends} (e : Ext P.K α H α1 H1) (h : PostS P W r α H D) : PostS P W r α1 H1 D := by
  cases r with
  | nx ρ S => exact fun α' H' σ' e' s q => h α' H' σ' (e.trans e') s q
  | bk ρ S => exact fun α' H' σ' e' s q => h α' H' σ' (e.trans e') s q
  | ct ρ S => exact fun α' H' σ' e' s q => h α' H' σ' (e.trans e') s q
  | rt d S => exact fun α' H' v e' s q => h α' H' v (e.trans e') s q
  | exc ρ c d S => exact fun α' H' σ' C dx e' s er q => h α' H' σ' C dx (e.trans e') s er q
  | bad => exact h
end
end Vi
set_option Elab.async false
set_option linter.all false
set_option maxRecDepth 100000
/-! Operations by values. -/
namespace Vi
open PySem L2
section
variable {P : Pr} {α : List Addr} {H : Hp} {v : V} {i : Int} {b : Bool} {x : Str} {ds : List D} {n : Nat}
theorem rep_int : Rep P α H (.int i) v ↔ v = .int i := by show Rep0 _ _ _ _ _ ↔ _; simp only [Rep0]
theorem rep_bl : Rep P α H (.bl b) v ↔ v = .bl b := by show Rep0 _ _ _ _ _ ↔ _; simp only [Rep0]
theorem rep_non : Rep P α H .non v ↔ v = .non := by show Rep0 _ _ _ _ _ ↔ _; simp only [Rep0]
theorem rep_str : Rep P α H (.str x) v ↔ v = .str x := by show Rep0 _ _ _ _ _ ↔ _; simp only [Rep0]
theorem rep_tup : Rep P α H (.tup ds) v ↔ ∃ a vs, v = .ref a ∧ SqT P.K H a vs ∧ Reps P α H ds vs := by show Rep0 _ _ _ _ _ ↔ _; simp only [Rep0]
theorem rep_ref : Rep P α H (.ref n) v ↔ ∃ a, α[n]? = some a ∧ v = .ref a := by show Rep0 _ _ _ _ _ ↔ _; simp only [Rep0]
theorem rep_fn : Rep P α H (.fn n) v ↔ ∃ x a, P.T.fns[n]? = some x ∧ P.mg x = some (.ref a) ∧ v = .ref a := by show Rep0 _ _ _ _ _ ↔ _; simp only [Rep0]
theorem rep_scr {is : List Int} : Rep P α H (.scr is) v ↔ ∃ a, v = .ref a ∧ SqF P.K H a (is.map V.int) := by show Rep0 _ _ _ _ _ ↔ _; simp only [Rep0]
theorem rep_cls {c : Nat} : Rep P α H (.cls c) v ↔ ∃ x C, P.T.cls[c]? = some x ∧ P.mg x = some (.ref C) ∧ v = .ref C := by show Rep0 _ _ _ _ _ ↔ _; simp only [Rep0]
theorem rep_exo {c : Nat} {d : D} : Rep P α H (.exo c d) v ↔ ∃ a x C dx w, P.T.cls[c]? = some x ∧ P.mg x = some (.ref C) ∧ v = .ref a ∧ a ∉ α ∧ dx ∉ α ∧ H a = some (ExO a C dx) ∧ H dx = some (.xd [(vKey, w)]) ∧ Rep0 P α H d w := by show Rep0 _ _ _ _ _ ↔ _; simp only [Rep0]
end
/-- the result of a pure operation -/
def oR {β : Type} (o : Option β) (S : Sto) : R β := match o with | some d => .ok d S | none => .bad
theorem oR_some {β : Type} {o : Option β} {S : Sto} {P : Pr} {γ : Type} {rel : List Addr → Hp → β → γ → Prop} {W : XK} {α : List Addr} {H : Hp} {Q : γ → Hp → Prop} (h : Post P rel W (oR o S) α H Q) :
    ∃ d, o = some d ∧ ∀ α' H' g, Ext P.K α H α' H' → Sim P α' S H' → rel α' H' d g → Q g H' := by
  cases o with
  | none => exact h.elim
  | some d => exact ⟨d, rfl, h⟩
def OD (P : Pr) (X : Cx) (f : Value → Value → Sem Value) (op : D → D → Sto → Option D) : Prop :=
  ∀ (pins : List (Addr × Obj)) (s : Shared) (σ : St) (H : Hp) (α : List Addr) (S : Sto) (d e r : D) (x y : V) (v u : Value) (Q : VK), Inv X pins σ H s → Sim P α S H → Rep P α H d x → Rep P α H e y → RelV x v → RelV y u →
    op d e S = some r → (∀ α' H' z, Ext P.K α H α' H' → Sim P α' S H' → Rep P α' H' r z → Q z H') → wpAny (model X.prog X.w) X.A (f v u) (EP X pins σ Q) X.xe s
def sint (op : Int → Int → Option D) : D → D → Sto → Option D
  | .int i, .int j, _ => op i j
  | _, _, _ => none
theorem OD.int {P : Pr} {X : Cx} {f : Value → Value → Sem Value} {op : Int → Int → Option D} {r : R2} (ho : OpR X f r) (h : ∀ (i j : Int) (z : D) (H : Hp) (Q : VK), op i j = some z → (∀ w, (∀ α, Rep P α H z w) → Q w H) → r (.int i) (.int j) H Q) : OD P X f (sint op) := by
  intro pins s σ H α S d e z x y v u Q I sm rd re rx ry ho' k
  cases d <;> try (simp [sint] at ho'; done)
  cases e <;> try (simp [sint] at ho'; done)
  rename_i i j
  simp only [sint] at ho'
  have h1 := rep_int.mp rd
  have h2 := rep_int.mp re
  subst h1; subst h2
  exact ho pins s σ H _ _ v u Q I rx ry (h i j z H Q ho' fun w hw => k α H w (Ext.refl _ _ _) sm (hw α))
section
variable {P : Pr} {X : Cx}
theorem od_add_int : OD P X (binaryOp .Add) (sint fun i j => some (.int (i + j))) :=
  OD.int op_add fun i j z H Q e k => ⟨i, j, rfl, rfl, by cases e; exact k _ fun α => rep_int.mpr rfl⟩
theorem od_sub : OD P X (binaryOp .Sub) (sint fun i j => some (.int (i - j))) :=
  OD.int op_sub fun i j z H Q e k => ⟨i, j, rfl, rfl, by cases e; exact k _ fun α => rep_int.mpr rfl⟩
def mulOk (i j : Int) : Bool := decide ((i.natAbs.log2 + j.natAbs.log2 : Nat) < 1000000)
theorem od_mul : OD P X (binaryOp .Mult) (sint fun i j => if mulOk i j then some (.int (i * j)) else none) :=
  OD.int op_mulW fun i j z H Q e k => by
    split at e
    · rename_i hm
      cases e
      exact ⟨i, j, rfl, rfl, (by unfold mulOk at hm; exact (of_decide_eq_true hm : _ < _)), k _ fun α => rep_int.mpr rfl⟩
    · cases e
def divOk (j : Int) : Bool := decide (j ≠ 0) && decide (j.natAbs.log2 < 9000)
theorem op_fdivA : OpR X (binaryOp .FloorDiv) (rI (fun _ j => divOk j = true) fun i j => .int (i.fdiv j)) := opI fun i j _ _ _ _ _ hc q => by
  have h : j ≠ 0 ∧ j.natAbs.log2 < 9000 := by simpa [divOk] using hc
  exact PyProof.Rows.floordiv_int h.1 q (.inl (PyProof.noPylong_of_log2 h.2))
theorem od_fdiv : OD P X (binaryOp .FloorDiv) (sint fun i j => if divOk j then some (.int (i.fdiv j)) else none) :=
  OD.int op_fdivA fun i j z H Q e k => by
    split at e
    · rename_i hm
      cases e
      exact ⟨i, j, rfl, rfl, hm, k _ fun α => rep_int.mpr rfl⟩
    · cases e
theorem od_mod : OD P X (binaryOp .Mod) (sint fun i j => if j = 0 then none else some (.int (i.fmod j))) :=
  OD.int op_modN fun i j z H Q e k => by
    split at e
    · cases e
    · rename_i hm
      cases e
      exact ⟨i, j, rfl, rfl, hm, k _ fun α => rep_int.mpr rfl⟩
def powOk (i j : Int) : Bool := decide (0 ≤ j) && decide ((Builtin.Int.intBits i : Int) * j ≤ 2 ^ 27)
theorem op_powA : OpR X (binaryOp .Pow) (rI (fun i j => powOk i j = true) fun i j => .int (i ^ j.toNat)) := opI fun i j _ _ _ _ _ hc q => by
  have h : 0 ≤ j ∧ (Builtin.Int.intBits i : Int) * j ≤ 2 ^ 27 := by
    have h' := hc
    unfold powOk at h'
    rw [Bool.and_eq_true] at h'
    exact ⟨of_decide_eq_true h'.1, of_decide_eq_true h'.2⟩
  exact PyProof.Rows.pow_int h.1 h.2 q
theorem od_pow : OD P X (binaryOp .Pow) (sint fun i j => if powOk i j then some (.int (i ^ j.toNat)) else none) :=
  OD.int op_powA fun i j z H Q e k => by
    split at e
    · rename_i hm
      cases e
      exact ⟨i, j, rfl, rfl, hm, k _ fun α => rep_int.mpr rfl⟩
    · cases e
/-- + : ints, texts, tuples -/
def oAdd : D → D → Sto → Option D
  | .int i, .int j, _ => some (.int (i + j))
  | .str a, .str b, _ => if a.length + b.length ≤ sizeLine then some (.str (a ++ b)) else none
  | .tup a, .tup b, _ => if a.length + b.length ≤ sizeLine then some (.tup (a ++ b)) else none
  | _, _, _ => none
theorem od_add (hK : X.K = P.K) : OD P X (binaryOp .Add) oAdd := by
  intro pins s σ H α S d e z x y v u Q I sm rd re rx ry ho k
  cases d <;> cases e <;> try (simp [oAdd] at ho; done)
  · rename_i i j
    exact od_add_int pins s σ H α S _ _ z x y v u Q I sm rd re rx ry (by simpa [oAdd, sint] using ho) k
  · rename_i a b
    simp only [oAdd] at ho
    split at ho
    · rename_i hl
      cases ho
      have h1 := rep_str.mp rd
      have h2 := rep_str.mp re
      subst h1; subst h2
      exact op_add_str pins s σ H _ _ v u Q I rx ry ⟨a, b, rfl, rfl, hl, k α H _ (Ext.refl _ _ _) sm (rep_str.mpr rfl)⟩
    · cases ho
  · rename_i a b
    simp only [oAdd] at ho
    split at ho
    · rename_i hl
      cases ho
      obtain ⟨p, xs, rfl, q1, r1⟩ := rep_tup.mp rd
      obtain ⟨q, ys, rfl, q2, r2⟩ := rep_tup.mp re
      refine op_catA pins s σ H _ _ v u Q I rx ry ⟨p, q, xs, ys, rfl, rfl, by rw [hK]; exact q1, by rw [hK]; exact q2, by rw [← r1.len, ← r2.len]; exact hl, fun e => ?_, fun _ e => ?_, fun _ _ t ht => ?_⟩
      · have : a = [] := by
          have := r1.len
          rw [e] at this
          exact List.length_eq_zero_iff.mp (by simpa using this)
        subst this
        exact k α H _ (Ext.refl _ _ _) sm re
      · have : b = [] := by
          have := r2.len
          rw [e] at this
          exact List.length_eq_zero_iff.mp (by simpa using this)
        subst this
        exact k α H _ (Ext.refl _ _ _) sm (by rw [List.append_nil]; exact rd)
      · exact k α _ _ (Ext.alloc ht) (sm.alloc ht) (rep_tup.mpr ⟨t, _, rfl, .of upd_same, Reps.ext (Ext.alloc ht) (r1.app r2)⟩)
    · cases ho
def allSome {β γ : Type} (f : β → Option γ) : List β → Option (List γ)
  | [] => some []
  | d :: ds => match f d with
    | some p => match allSome f ds with
      | some ps => some (p :: ps)
      | none => none
    | none => none
/-- what a value reads as, lists by their places -/
def toP (S : Sto) : Nat → D → Option PyData
  | _, .non => some .none
  | _, .bl b => some (.bool b)
  | _, .int i => some (.int i)
  | _, .str x => some (.str x)
  | n + 1, .tup ds => (allSome (toP S n) ds).map .tuple
  | n + 1, .ref a => match S[a]? with
    | some (.lst ds) => (allSome (toP S n) ds).map .list
    | none => none
  | _, _ => none
theorem dp_of {α : List Addr} {S : Sto} {H : Hp} (sm : Sim P α S H) : ∀ (n : Nat) (d : D) (v : V) (p : PyData), toP S n d = some p → Rep0 P α H d v → Dp P.K H v p := by
  intro n
  induction n with
  | zero =>
    intro d v p h r
    cases d <;> simp [toP] at h
    · subst h; simp only [Rep0] at r; subst r; exact .non
    · subst h; simp only [Rep0] at r; subst r; exact .bl _
    · subst h; simp only [Rep0] at r; subst r; exact .int _
    · subst h; simp only [Rep0] at r; subst r; exact .str _
  | succ n ih =>
    have all : ∀ (ds : List D) (vs : List V) (ps : List PyData), allSome (toP S n) ds = some ps → Reps P α H ds vs → DpAll P.K H vs ps := by
      intro ds
      induction ds with
      | nil =>
        intro vs ps h r
        simp [allSome] at h
        simp only [Reps] at r
        subst h; subst r; exact .nil
      | cons d ds ih2 =>
        intro vs ps h r
        simp only [Reps] at r
        obtain ⟨w, r2, rfl, h2, h3⟩ := r
        simp only [allSome] at h
        split at h
        · rename_i p hp
          split at h
          · rename_i qs hq
            cases h
            exact .cons (ih d w p hp h2) (ih2 r2 qs hq h3)
          · cases h
        · cases h
    intro d v p h r
    cases d <;> simp [toP] at h
    · subst h; simp only [Rep0] at r; subst r; exact .non
    · subst h; simp only [Rep0] at r; subst r; exact .bl _
    · subst h; simp only [Rep0] at r; subst r; exact .int _
    · subst h; simp only [Rep0] at r; subst r; exact .str _
    · obtain ⟨ps, hp, rfl⟩ := h
      simp only [Rep0] at r
      obtain ⟨a, vs, rfl, h2, h3⟩ := r
      exact .tup h2 (all _ _ _ hp h3)
    · rename_i a
      simp only [Rep0] at r
      obtain ⟨q, h1, rfl⟩ := r
      split at h
      · rename_i ds hs
        simp at h
        obtain ⟨ps, hp, rfl⟩ := h
        obtain ⟨vs, q1, q2⟩ := sm.at_ a q _ h1 hs
        exact .lst (.of q1) (all _ _ _ hp q2)
      · cases h
/-- == of data -/
theorem toP_no {S : Sto} {n : Nat} {d : D} {p : PyData} (h : toP S n d = some p) : noClo d = true := by
  cases d with
  | clo i cs => cases n <;> simp [toP] at h
  | _ => rfl
def dEq (d e : D) (S : Sto) : Option Bool :=
  match toP S 70 d, toP S 70 e with
  | some p, some q => if SeqAt.shaped p && SeqAt.shaped q then some (PyData.eqv p q) else none
  | _, _ => none
def strEq (d e : D) : Option Bool := match d, e with
  | .str a, .str b => some (decide (a = b))
  | _, _ => none
theorem strEq_some {d e : D} {b : Bool} (h : strEq d e = some b) : ∃ a c, d = .str a ∧ e = .str c ∧ b = decide (a = c) := by
  unfold strEq at h
  split at h
  · rename_i a c
    exact ⟨a, c, rfl, rfl, (Option.some.inj h).symm⟩
  · cases h
theorem dec_strV {a c : Str} : decide (V.str a = V.str c) = decide (a = c) := by
  rw [Bool.eq_iff_iff]
  simp
def oEq (d e : D) (S : Sto) : Option D := match strEq d e with
  | some b => some (.bl b)
  | none => (dEq d e S).map .bl
def oNe (d e : D) (S : Sto) : Option D := match strEq d e with
  | some b => some (.bl (!b))
  | none => (dEq d e S).map fun b => .bl (!b)
end
section
variable {P : Pr} {X : Cx}
theorem od_eq (hK : X.K = P.K) (hu : X.A.units + 64 < cLine) : OD P X (compareOp .Eq) oEq := by
  intro pins s σ H α S d e z x y v u Q I sm rd re rx ry ho k
  unfold oEq at ho
  split at ho
  · rename_i b hb
    obtain ⟨a, c, rfl, rfl, rfl⟩ := strEq_some hb
    cases ho
    obtain rfl := rep_str.mp rd
    obtain rfl := rep_str.mp re
    refine op_eq pins s σ H _ _ v u Q I rx ry ⟨rfl, ?_⟩
    rw [dec_strV]
    exact k α H _ (Ext.refl _ _ _) sm (rep_bl.mpr rfl)
  unfold dEq at ho
  split at ho
  · rename_i p q hp hq
    split at ho
    · rename_i hs
      rw [Bool.and_eq_true] at hs
      simp at ho
      subst ho
      refine op_eqD hu pins s σ H x y v u Q I rx ry ⟨p, q, ?_, ?_, hs.1, hs.2, k α H _ (Ext.refl _ _ _) sm (rep_bl.mpr rfl)⟩
      · rw [hK]; exact dp_of sm _ _ _ _ hp (rd.z (toP_no hp))
      · rw [hK]; exact dp_of sm _ _ _ _ hq (re.z (toP_no hq))
    · simp at ho
  · simp at ho
theorem od_ne (hK : X.K = P.K) (hu : X.A.units + 64 < cLine) : OD P X (compareOp .NotEq) oNe := by
  intro pins s σ H α S d e z x y v u Q I sm rd re rx ry ho k
  unfold oNe at ho
  split at ho
  · rename_i b hb
    obtain ⟨a, c, rfl, rfl, rfl⟩ := strEq_some hb
    cases ho
    obtain rfl := rep_str.mp rd
    obtain rfl := rep_str.mp re
    refine op_ne pins s σ H _ _ v u Q I rx ry ⟨rfl, ?_⟩
    rw [dec_strV]
    exact k α H _ (Ext.refl _ _ _) sm (rep_bl.mpr rfl)
  unfold dEq at ho
  split at ho
  · rename_i p q hp hq
    split at ho
    · rename_i hs
      rw [Bool.and_eq_true] at hs
      simp at ho
      subst ho
      refine op_neD hu pins s σ H x y v u Q I rx ry ⟨p, q, ?_, ?_, hs.1, hs.2, k α H _ (Ext.refl _ _ _) sm (rep_bl.mpr rfl)⟩
      · rw [hK]; exact dp_of sm _ _ _ _ hp (rd.z (toP_no hp))
      · rw [hK]; exact dp_of sm _ _ _ _ hq (re.z (toP_no hq))
    · simp at ho
  · simp at ho
theorem od_lt : OD P X (compareOp .Lt) (sint fun i j => some (.bl (decide (i < j)))) :=
  OD.int op_lt fun i j z H Q e k => ⟨i, j, rfl, rfl, by cases e; exact k _ fun α => rep_bl.mpr rfl⟩
theorem od_le : OD P X (compareOp .LtE) (sint fun i j => some (.bl (decide (i ≤ j)))) :=
  OD.int op_le fun i j z H Q e k => ⟨i, j, rfl, rfl, by cases e; exact k _ fun α => rep_bl.mpr rfl⟩
theorem od_gt : OD P X (compareOp .Gt) (sint fun i j => some (.bl (decide (j < i)))) :=
  OD.int op_gt fun i j z H Q e k => ⟨i, j, rfl, rfl, by cases e; exact k _ fun α => rep_bl.mpr rfl⟩
theorem od_ge : OD P X (compareOp .GtE) (sint fun i j => some (.bl (decide (j ≤ i)))) :=
  OD.int op_ge fun i j z H Q e k => ⟨i, j, rfl, rfl, by cases e; exact k _ fun α => rep_bl.mpr rfl⟩
/-- is, of None and bools -/
def isNon : D → Bool
  | .non => true
  | _ => false
def dIs : D → D → Option Bool
  | .bl a, .bl b => some (decide (a = b))
  | d, .non => some (isNon d)
  | _, _ => none
def oIs (d e : D) (_ : Sto) : Option D := (dIs d e).map .bl
def oIsNot (d e : D) (_ : Sto) : Option D := (dIs d e).map fun b => .bl (!b)
end
end Vi
set_option Elab.async false
set_option linter.all false
set_option maxRecDepth 100000
/-! Expressions. -/
namespace Vi
open PySem L2
abbrev ME := Ev → Sto → R D
abbrev MA := Ev → Sto → R (List D)
abbrev MT := Ev → Sto → R Bool
section
variable {P : Pr} {X : Cx} {W : WX} {a b c e : Expr} {es : List Expr} {pos : Pos} {ma mb mc : ME}
theorem PE.imp {t u : TE} (h : PE X e t) (k : ∀ σ H Q, u σ H Q → t σ H Q) : PE X e u := ⟨fun pins s σ H Q I q => h.run pins s σ H Q I (k σ H Q q)⟩
theorem PT.imp {t u : TT} (h : PT X e t) (k : ∀ σ H Q, u σ H Q → t σ H Q) : PT X e u := ⟨fun pins s σ H Q I q => h.run pins s σ H Q I (k σ H Q q)⟩
theorem PW.imp {t u : TT} (h : PW X e t) (k : ∀ σ H Q, u σ H Q → t σ H Q) : PW X e u := ⟨fun w pins s σ H Q I q => h.run w pins s σ H Q I (k σ H Q q)⟩
theorem PA.imp {t u : TA} (h : PA X es t) (k : ∀ σ H Q, u σ H Q → t σ H Q) : PA X es u := ⟨fun p pins s σ H Q I q => h.run p pins s σ H Q I (k σ H Q q)⟩
/-! ### names, constants -/
def mVar (i : Nat) : ME := fun ρ S => match ρ[i]? with | some (some d) => .ok d S | _ => .bad
def mC (d : D) : ME := fun _ S => .ok d S
theorem pd_var {i : Nat} {x : Str} (hN : X.N[i]? = some x) (hv : Vis X.env.scope x) (hd : (x == ("__debug__" : Str)) = false) (hcd : (x == ("__classdict__" : Str)) = false) : PE X (.Name x pos) (tE P W (mVar i)) := by
  refine PE.imp (pe_var hN hv hd hcd) fun σ H Q ⟨α, S, ρ, sm, er, q⟩ => ?_
  unfold mVar at q
  split at q
  · rename_i d hd
    obtain ⟨v, h1, h2⟩ := er.2 i d hd
    exact ⟨v, h1, q α H v (Ext.refl _ _ _) sm h2⟩
  · exact q.elim
theorem pd_c {d : D} {v : V} (h : PE X e (tC v)) (r : ∀ α H, Rep P α H d v) : PE X e (tE P W (mC d)) :=
  PE.imp h fun σ H Q ⟨α, S, ρ, sm, er, q⟩ => q α H v (Ext.refl _ _ _) sm (r _ _)
/-! ### two operands -/
def rOD (P : Pr) (op : D → D → Sto → Option D) : R2 := fun x y H Q => ∃ α S d e z, Sim P α S H ∧ Rep P α H d x ∧ Rep P α H e y ∧ op d e S = some z ∧ ∀ α' H' w, Ext P.K α H α' H' → Sim P α' S H' → Rep P α' H' z w → Q w H'
theorem OD.opR {f : Value → Value → Sem Value} {op : D → D → Sto → Option D} (h : OD P X f op) : OpR X f (rOD P op) := fun pins s σ H x y v u Q I rx ry ⟨α, S, d, e, z, sm, rd, re, ho, k⟩ => h pins s σ H α S d e z x y v u Q I sm rd re rx ry ho k
def mBin (op : D → D → Sto → Option D) (ma mb : ME) : ME := fun ρ S => (ma ρ S).bind fun d S1 => (mb ρ S1).bind fun e S2 => oR (op d e S2) S2
theorem bin_sound {op : D → D → Sto → Option D} {σ : St} {H : Hp} {Q : VK} (h : tE P W (mBin op ma mb) σ H Q) : tOp (rOD P op) (tE P W ma) (tE P W mb) σ H Q := by
  obtain ⟨α, S, ρ, sm, er, q⟩ := h
  refine ⟨α, S, ρ, sm, er, Post.bind q fun α1 H1 d S1 v e1 sm1 r1 q1 => ?_⟩
  refine ⟨α1, S1, ρ, sm1, er.ext e1, Post.bind q1 fun α2 H2 e S2 u e2 sm2 r2 q2 => ?_⟩
  obtain ⟨z, hz, k⟩ := oR_some q2
  exact ⟨α2, S2, d, e, z, sm2, r1.ext e2, r2, hz, k⟩
theorem pd_bin {op : Operator} {f : D → D → Sto → Option D} (ho : OD P X (binaryOp op) f) (ha : PE X a (tE P W ma)) (hb : PE X b (tE P W mb)) : PE X (.BinOp a op b pos) (tE P W (mBin f ma mb)) :=
  PE.imp (pe_op ho.opR ha hb) fun _ _ _ => bin_sound
theorem pd_cmp {op : CmpOp} {f : D → D → Sto → Option D} (ho : OD P X (compareOp op) f) (ha : PE X a (tE P W ma)) (hb : PE X b (tE P W mb)) (hm : behindInMarks op b = false) : PE X (.Compare a [op] [b] pos) (tE P W (mBin f ma mb)) :=
  PE.imp (pe_cmpR ho.opR ha hb hm) fun _ _ _ => bin_sound
/-! ### tests -/
def bool1 : D → Sto → R Bool
  | .bl k, S => .ok k S
  | _, _ => .bad
def mTest (m : ME) : MT := fun ρ S => (m ρ S).bind bool1
theorem pd_tcmp {op : CmpOp} {f : D → D → Sto → Option D} (ho : OD P X (compareOp op) f) (ha : PE X a (tE P W ma)) (hb : PE X b (tE P W mb)) (hm : behindInMarks op b = false) : PT X (.Compare a [op] [b] pos) (tB P W (mTest (mBin f ma mb))) := by
  refine PT.imp (pt_cmpR ho.opR ha hb hm) fun σ H Q ⟨α, S, ρ, sm, er, q⟩ => ?_
  refine bin_sound ⟨α, S, ρ, sm, er, Post.bind q fun α1 H1 d S1 v e1 sm1 r1 q1 => ?_⟩
  cases d <;> try exact q1.elim
  rename_i k
  exact ⟨k, rep_bl.mp r1, q1 α1 H1 k (Ext.refl _ _ _) sm1 rfl⟩
/-- a < b < c -/
def mChain (f g : D → D → Sto → Option D) (ma mb mc : ME) : ME := fun ρ S => (ma ρ S).bind fun d S1 => (mb ρ S1).bind fun e S2 => (oR (f d e S2) S2).bind fun z S3 => (bool1 z S3).bind fun k S4 =>
  if k = true then (mc ρ S4).bind fun c S5 => oR (g e c S5) S5 else .ok (.bl false) S4
theorem chain_sound {f g : D → D → Sto → Option D} {σ : St} {H : Hp} {Q : VK} (h : tE P W (mChain f g ma mb mc) σ H Q) : tChain (rOD P f) (rOD P g) (tE P W ma) (tE P W mb) (tE P W mc) σ H Q := by
  obtain ⟨α, S, ρ, sm, er, q⟩ := h
  refine ⟨α, S, ρ, sm, er, Post.bind q fun α1 H1 d S1 v e1 sm1 r1 q1 => ?_⟩
  refine ⟨α1, S1, ρ, sm1, er.ext e1, Post.bind q1 fun α2 H2 e S2 u e2 sm2 r2 q2 => ?_⟩
  cases hz : f d e S2 with
  | none => rw [hz] at q2; exact q2.elim
  | some z =>
    rw [hz] at q2
    refine ⟨α2, S2, d, e, z, sm2, r1.ext e2, r2, hz, fun α3 H3 w e3 sm3 r3 => ?_⟩
    have q3 := Post.ext e3 q2
    cases z <;> try exact q3.elim
    rename_i k
    refine ⟨k, rep_bl.mp r3, ?_⟩
    cases k with
    | false =>
      rw [if_neg (by decide)]
      exact q3 α3 H3 _ (Ext.refl _ _ _) sm3 (rep_bl.mpr rfl)
    | true =>
      rw [if_pos rfl]
      refine ⟨α3, S2, ρ, sm3, ((er.ext e1).ext e2).ext e3, Post.bind q3 fun α4 H4 c S4 y e4 sm4 r4 q4 => ?_⟩
      obtain ⟨z, hz, k⟩ := oR_some q4
      exact ⟨α4, S4, e, c, z, sm4, (r2.ext e3).ext e4, r4, hz, k⟩
theorem pd_chain {op op' : CmpOp} {f g : D → D → Sto → Option D} (ho : OD P X (compareOp op) f) (ho' : OD P X (compareOp op') g) (ha : PE X a (tE P W ma)) (hb : PE X b (tE P W mb)) (hc : PE X c (tE P W mc)) (hm : lastMarks [op, op'] [b, c] = false) :
    PE X (.Compare a [op, op'] [b, c] pos) (tE P W (mChain f g ma mb mc)) := PE.imp (pe_chain ho.opR ho'.opR ha hb hc hm) fun _ _ _ => chain_sound
theorem pd_tchain {op op' : CmpOp} {f g : D → D → Sto → Option D} (ho : OD P X (compareOp op) f) (ho' : OD P X (compareOp op') g) (ha : PE X a (tE P W ma)) (hb : PE X b (tE P W mb)) (hc : PE X c (tE P W mc)) (hm : lastMarks [op, op'] [b, c] = false) :
    PT X (.Compare a [op, op'] [b, c] pos) (tB P W (mTest (mChain f g ma mb mc))) := by
  refine PT.imp (pt_chain ho.opR ho'.opR ha hb hc hm) fun σ H Q ⟨α, S, ρ, sm, er, q⟩ => ?_
  refine chain_sound ⟨α, S, ρ, sm, er, Post.bind q fun α1 H1 d S1 v e1 sm1 r1 q1 => ?_⟩
  cases d <;> try exact q1.elim
  rename_i k
  exact ⟨k, rep_bl.mp r1, q1 α1 H1 k (Ext.refl _ _ _) sm1 rfl⟩
/-- truth of a value -/
def dTru (d : D) (S : Sto) : Option Bool := match d with
  | .non => some false
  | .bl b => some b
  | .int i => some (i != 0)
  | .str x => if x.length ≤ sizeLine then some ((x.length : Int) != 0) else none
  | .tup ds => some (!ds.isEmpty)
  | .ref a => match S[a]? with
    | some (.lst ds) => some (!ds.isEmpty)
    | none => none
  | _ => none
theorem emp_eq {α : List Addr} {H : Hp} {ds : List D} {vs : List V} (r : Reps P α H ds vs) : (!ds.isEmpty) = !vs.isEmpty := by
  have := r.len
  cases ds <;> cases vs <;> simp_all
theorem tru_of (hK : X.K = P.K) {α : List Addr} {S : Sto} {H : Hp} {d : D} {v : V} {k : Bool} (sm : Sim P α S H) (r : Rep P α H d v) (h : dTru d S = some k) : TruV X.K v H k := by
  cases d with
  | non => rw [rep_non.mp r]; simp [dTru] at h; exact h
  | bl b => rw [rep_bl.mp r]; simp [dTru] at h; exact h.symm
  | int i => rw [rep_int.mp r]; simp only [dTru, Option.some.injEq] at h; exact h.symm
  | str x =>
    rw [rep_str.mp r]
    simp only [dTru] at h
    split at h
    · rename_i hl
      exact ⟨hl, (Option.some.inj h).symm⟩
    · cases h
  | tup ds =>
    obtain ⟨a, vs, rfl, h1, h2⟩ := rep_tup.mp r
    simp only [dTru, Option.some.injEq] at h
    exact .inr (.inl ⟨vs, by rw [hK]; exact h1, by rw [← h]; exact emp_eq h2⟩)
  | ref n =>
    obtain ⟨a, h1, rfl⟩ := rep_ref.mp r
    simp only [dTru] at h
    split at h
    · rename_i ds hs
      obtain ⟨vs, q1, q2⟩ := sm.at_ n a _ h1 hs
      exact .inl ⟨vs, .of q1, by rw [← Option.some.inj h]; exact emp_eq q2⟩
    · cases h
  | _ => simp [dTru] at h
def mTru (m : ME) : MT := fun ρ S => (m ρ S).bind fun d S1 => oR (dTru d S1) S1
theorem pd_truth (hK : X.K = P.K) (ha : PE X a (tE P W ma)) (he : ∀ whole, isTrue a X.env whole = (do let v ← whole; standAt a.pos; holding [v] (truthy v))) : PT X a (tB P W (mTru ma)) := by
  refine PT.imp (pt_truth ha he) fun σ H Q ⟨α, S, ρ, sm, er, q⟩ => ?_
  refine ⟨α, S, ρ, sm, er, Post.bind q fun α1 H1 d S1 v e1 sm1 r1 q1 => ?_⟩
  obtain ⟨k, hk, q⟩ := oR_some q1
  exact ⟨k, tru_of hK sm1 r1 hk, q α1 H1 k (Ext.refl _ _ _) sm1 rfl⟩
/-! ### and, or, not -/
variable {ta tb : MT} {rest : List Expr}
def mAnd (ta tb : MT) : MT := fun ρ S => (ta ρ S).bind fun k S1 => if k = true then tb ρ S1 else .ok false S1
def mOr (ta tb : MT) : MT := fun ρ S => (ta ρ S).bind fun k S1 => if k = true then .ok true S1 else tb ρ S1
def mNot (ta : MT) : MT := fun ρ S => (ta ρ S).bind fun k S1 => .ok (!k) S1
theorem pd_wand1 (ha : PT X a (tB P W ta)) : PW X (.BoolOp .And [a] pos) (tB P W ta) := pw_and1 ha
theorem pd_wor1 (ha : PT X a (tB P W ta)) : PW X (.BoolOp .Or [a] pos) (tB P W ta) := pw_or1 ha
theorem pd_wand (ha : PT X a (tB P W ta)) (hb : PW X (.BoolOp .And (b :: rest) pos) (tB P W tb)) : PW X (.BoolOp .And (a :: b :: rest) pos) (tB P W (mAnd ta tb)) := by
  refine PW.imp (pw_and ha hb) fun σ H Q ⟨α, S, ρ, sm, er, q⟩ => ?_
  refine ⟨α, S, ρ, sm, er, Post.bind q fun α1 H1 k S1 v e1 sm1 r1 q1 => ?_⟩
  cases r1
  cases k with
  | true => rw [if_pos rfl] at q1 ⊢; exact ⟨α1, S1, ρ, sm1, er.ext e1, q1⟩
  | false => rw [if_neg (by decide)] at q1 ⊢; exact q1 α1 H1 false (Ext.refl _ _ _) sm1 rfl
theorem pd_wor (ha : PT X a (tB P W ta)) (hb : PW X (.BoolOp .Or (b :: rest) pos) (tB P W tb)) : PW X (.BoolOp .Or (a :: b :: rest) pos) (tB P W (mOr ta tb)) := by
  refine PW.imp (pw_or ha hb) fun σ H Q ⟨α, S, ρ, sm, er, q⟩ => ?_
  refine ⟨α, S, ρ, sm, er, Post.bind q fun α1 H1 k S1 v e1 sm1 r1 q1 => ?_⟩
  cases r1
  cases k with
  | true => rw [if_pos rfl] at q1 ⊢; exact q1 α1 H1 true (Ext.refl _ _ _) sm1 rfl
  | false => rw [if_neg (by decide)] at q1 ⊢; exact ⟨α1, S1, ρ, sm1, er.ext e1, q1⟩
theorem pd_tnot (ha : PT X a (tB P W ta)) : PT X (.UnaryOp .Not a pos) (tB P W (mNot ta)) := by
  refine PT.imp (pt_not ha) fun σ H Q ⟨α, S, ρ, sm, er, q⟩ => ?_
  refine ⟨α, S, ρ, sm, er, Post.bind q fun α1 H1 k S1 v e1 sm1 r1 q1 => ?_⟩
  cases r1
  exact q1 α1 H1 _ (Ext.refl _ _ _) sm1 rfl
/-- .. as values, of bools alone -/
def mAndV (ma mb : ME) : ME := fun ρ S => (ma ρ S).bind fun d S1 => (bool1 d S1).bind fun k S2 => if k = true then mb ρ S2 else .ok (.bl false) S2
def mOrV (ma mb : ME) : ME := fun ρ S => (ma ρ S).bind fun d S1 => (bool1 d S1).bind fun k S2 => if k = true then .ok (.bl true) S2 else mb ρ S2
theorem pd_and (ha : PE X a (tE P W ma)) (hb : PE X (.BoolOp .And (b :: rest) pos) (tE P W mb)) : PE X (.BoolOp .And (a :: b :: rest) pos) (tE P W (mAndV ma mb)) := by
  refine PE.imp (pe_and ha hb) fun σ H Q ⟨α, S, ρ, sm, er, q⟩ => ?_
  refine ⟨α, S, ρ, sm, er, Post.bind q fun α1 H1 d S1 v e1 sm1 r1 q1 => ?_⟩
  cases d <;> try exact q1.elim
  rename_i k
  refine ⟨k, rep_bl.mp r1, ?_⟩
  cases k with
  | true => rw [if_pos rfl]; exact ⟨α1, S1, ρ, sm1, er.ext e1, q1⟩
  | false => rw [if_neg (by decide)]; exact q1 α1 H1 _ (Ext.refl _ _ _) sm1 (rep_bl.mpr rfl)
theorem pd_or (ha : PE X a (tE P W ma)) (hb : PE X (.BoolOp .Or (b :: rest) pos) (tE P W mb)) : PE X (.BoolOp .Or (a :: b :: rest) pos) (tE P W (mOrV ma mb)) := by
  refine PE.imp (pe_or ha hb) fun σ H Q ⟨α, S, ρ, sm, er, q⟩ => ?_
  refine ⟨α, S, ρ, sm, er, Post.bind q fun α1 H1 d S1 v e1 sm1 r1 q1 => ?_⟩
  cases d <;> try exact q1.elim
  rename_i k
  refine ⟨k, rep_bl.mp r1, ?_⟩
  cases k with
  | true => rw [if_pos rfl]; exact q1 α1 H1 _ (Ext.refl _ _ _) sm1 (rep_bl.mpr rfl)
  | false => rw [if_neg (by decide)]; exact ⟨α1, S1, ρ, sm1, er.ext e1, q1⟩
def mNotV (ma : ME) : ME := fun ρ S => (ma ρ S).bind fun d S1 => (bool1 d S1).bind fun k S2 => .ok (.bl (!k)) S2
theorem pd_not (ha : PE X a (tE P W ma)) : PE X (.UnaryOp .Not a pos) (tE P W (mNotV ma)) := by
  refine PE.imp (pe_not ha) fun σ H Q ⟨α, S, ρ, sm, er, q⟩ => ?_
  refine ⟨α, S, ρ, sm, er, Post.bind q fun α1 H1 d S1 v e1 sm1 r1 q1 => ?_⟩
  cases d <;> try exact q1.elim
  rename_i k
  exact ⟨k, rep_bl.mp r1, q1 α1 H1 _ (Ext.refl _ _ _) sm1 (rep_bl.mpr rfl)⟩
def mNeg (ma : ME) : ME := fun ρ S => (ma ρ S).bind fun d S1 => match d with | .int i => .ok (.int (-i)) S1 | _ => .bad
theorem pd_neg (ha : PE X a (tE P W ma)) : PE X (.UnaryOp .USub a pos) (tE P W (mNeg ma)) := by
  refine PE.imp (pe_un un_neg ha) fun σ H Q ⟨α, S, ρ, sm, er, q⟩ => ?_
  refine ⟨α, S, ρ, sm, er, Post.bind q fun α1 H1 d S1 v e1 sm1 r1 q1 => ?_⟩
  cases d <;> try exact q1.elim
  rename_i k
  exact ⟨k, rep_int.mp r1, q1 α1 H1 _ (Ext.refl _ _ _) sm1 (rep_int.mpr rfl)⟩
def mIf (t : MT) (ma mb : ME) : ME := fun ρ S => (t ρ S).bind fun k S1 => if k = true then ma ρ S1 else mb ρ S1
theorem pd_if (hc : PT X c (tB P W ta)) (ha : PE X a (tE P W ma)) (hb : PE X b (tE P W mb)) : PE X (.IfExp c a b pos) (tE P W (mIf ta ma mb)) := by
  refine PE.imp (pe_ifExp hc ha hb) fun σ H Q ⟨α, S, ρ, sm, er, q⟩ => ?_
  refine ⟨α, S, ρ, sm, er, Post.bind q fun α1 H1 k S1 v e1 sm1 r1 q1 => ?_⟩
  cases r1
  cases k with
  | true => rw [if_pos rfl] at q1 ⊢; exact ⟨α1, S1, ρ, sm1, er.ext e1, q1⟩
  | false => rw [if_neg (by decide)] at q1 ⊢; exact ⟨α1, S1, ρ, sm1, er.ext e1, q1⟩
/-! ### argument lists, tuples, lists -/
variable {mr : MA}
def mNil : MA := fun _ S => .ok [] S
def mCons (ma : ME) (mr : MA) : MA := fun ρ S => (ma ρ S).bind fun d S1 => (mr ρ S1).bind fun ds S2 => .ok (d :: ds) S2
def notStar : Expr → Bool
  | .Starred _ _ => false
  | _ => true
theorem star_ok (h : notStar e = true) (env : Env) : starEach (e :: es) env = (false, eval e env) :: starEach es env := by
  cases e <;> first | rfl | cases h
theorem pd_nil : PA X [] (tA P W mNil) := PA.imp pa_nil fun σ H Q ⟨α, S, ρ, sm, er, q⟩ => q α H _ (Ext.refl _ _ _) sm rfl
theorem pd_cons (ha : PE X e (tE P W ma)) (hr : PA X es (tA P W mr)) (hs : notStar e = true) : PA X (e :: es) (tA P W (mCons ma mr)) := by
  refine PA.imp (pa_cons ha hr (star_ok hs _)) fun σ H Q ⟨α, S, ρ, sm, er, q⟩ => ?_
  refine ⟨α, S, ρ, sm, er, Post.bind q fun α1 H1 d S1 v e1 sm1 r1 q1 => ?_⟩
  refine ⟨α1, S1, ρ, sm1, er.ext e1, Post.bind q1 fun α2 H2 ds S2 vs e2 sm2 r2 q2 => ?_⟩
  exact q2 α2 H2 _ (Ext.refl _ _ _) sm2 ⟨_, _, rfl, r1.ext e2, r2⟩
theorem RepA.reps {α : List Addr} {H : Hp} : ∀ {ds : List D} {vs : List V}, ds.all noClo = true → RepA P α H ds vs → Reps P α H ds vs
  | [], vs, _, h => by simp only [RepA] at h; simp only [Reps]; exact h
  | d :: ds, vs, n, h => by
    rw [List.all_cons, Bool.and_eq_true] at n
    obtain ⟨v, r, h1, h2, h3⟩ := h
    simp only [Reps]
    exact ⟨v, r, h1, h2.z n.1, RepA.reps n.2 h3⟩
theorem RepA.len {α : List Addr} {H : Hp} : ∀ {ds : List D} {vs : List V}, RepA P α H ds vs → ds.length = vs.length
  | [], vs, h => by simp only [RepA] at h; simp [h]
  | d :: ds, vs, h => by
    obtain ⟨v, r, rfl, h2, h3⟩ := h
    simp [RepA.len h3]
theorem RepA.get {α : List Addr} {H : Hp} : ∀ {ds : List D} {vs : List V} {i : Nat} {d : D}, RepA P α H ds vs → ds[i]? = some d → ∃ v, vs[i]? = some v ∧ Rep P α H d v
  | [], _, _, _, _, e => by simp at e
  | c :: ds, vs, i, d, h, e => by
    obtain ⟨v, r, rfl, h2, h3⟩ := h
    cases i with
    | zero => simp at e; subst e; exact ⟨v, rfl, h2⟩
    | succ i => simp at e; obtain ⟨w, q1, q2⟩ := RepA.get h3 e; exact ⟨w, by simpa using q1, q2⟩
def tupD (ds : List D) (S : Sto) : R D := if ds.length ≤ sizeLine ∧ ds.all noClo = true then .ok (.tup ds) S else .bad
def lstD (ds : List D) (S : Sto) : R D := if ds.length ≤ sizeLine ∧ ds.all noClo = true then .ok (.ref S.length) (S ++ [.lst ds]) else .bad
def mTup (mr : MA) : ME := fun ρ S => (mr ρ S).bind tupD
def mLst (mr : MA) : ME := fun ρ S => (mr ρ S).bind lstD
theorem pd_tup {k : Nat} (hr : PA X es (tA P W mr)) : PE X (.Tuple es k pos) (tE P W (mTup mr)) := by
  refine PE.imp (pe_tup hr) fun σ H Q ⟨α, S, ρ, sm, er, q⟩ => ?_
  refine ⟨α, S, ρ, sm, er, Post.bind q fun α1 H1 ds S1 vs e1 sm1 r1 q1 => ?_⟩
  unfold tupD at q1
  split at q1
  · rename_i hl
    exact ⟨by rw [← r1.len]; exact hl.1, fun p hp => q1 α1 _ _ (Ext.alloc hp) (sm1.alloc hp) (rep_tup.mpr ⟨p, vs, rfl, .of upd_same, Reps.ext (Ext.alloc hp) (r1.reps hl.2)⟩)⟩
  · exact q1.elim
theorem new_ref {α : List Addr} {S : Sto} {H : Hp} {p : Addr} (sm : Sim P α S H) : (α ++ [p])[S.length]? = some p := by
  rw [← sm.len]; simp
theorem pd_lst (hr : PA X es (tA P W mr)) : PE X (.List es pos) (tE P W (mLst mr)) := by
  refine PE.imp (pe_lst hr) fun σ H Q ⟨α, S, ρ, sm, er, q⟩ => ?_
  refine ⟨α, S, ρ, sm, er, Post.bind q fun α1 H1 ds S1 vs e1 sm1 r1 q1 => ?_⟩
  unfold lstD at q1
  split at q1
  · rename_i hl
    exact ⟨by rw [← r1.len]; exact hl.1, fun p hp => q1 _ _ _ (Ext.allocM hp) (sm1.allocM hp (r1.reps hl.2)) (rep_ref.mpr ⟨p, new_ref sm1, rfl⟩)⟩
  · exact q1.elim
end
end Vi
set_option Elab.async false
set_option linter.all false
set_option maxRecDepth 100000
/-! Sequences, builtin calls. -/
namespace Vi
open PySem L2
section
variable {P : Pr} {X : Cx} {W : WX} {a b c e : Expr} {es : List Expr} {pos : Pos} {ma mb mc : ME} {mr : MA}
variable {α : List Addr} {S : Sto} {H : Hp} {v : V}
/-- a list's items -/
def listOf (d : D) (S : Sto) : Option (List D) := match d with
  | .ref a => match S[a]? with
    | some (.lst ds) => some ds
    | none => none
  | .scr is => some (is.map .int)
  | _ => none
theorem reps_ints : ∀ (is : List Int), Reps P α H (is.map D.int) (is.map V.int)
  | [] => by simp [Reps]
  | i :: is => by
    simp only [List.map_cons, Reps]
    exact ⟨_, _, rfl, by simp only [Rep0], reps_ints is⟩
theorem list_of {d : D} {ds : List D} (sm : Sim P α S H) (r : Rep P α H d v) (h : listOf d S = some ds) : ∃ p vs, v = .ref p ∧ SqL P.K H p vs ∧ Reps P α H ds vs := by
  cases d <;> simp only [listOf] at h <;> try (cases h; done)
  · rename_i n
    obtain ⟨p, h1, rfl⟩ := rep_ref.mp r
    split at h
    · rename_i es hs
      cases h
      obtain ⟨vs, q1, q2⟩ := sm.at_ n p _ h1 hs
      exact ⟨p, vs, rfl, .of q1, q2⟩
    · cases h
  · rename_i is
    cases h
    obtain ⟨p, rfl, h⟩ := rep_scr.mp r
    exact ⟨p, _, rfl, h.sq, reps_ints is⟩
/-! ### items -/
theorem Reps.at {ds : List D} {vs : List V} {i : Int} {d : D} (r : Reps P α H ds vs) (h : atI ds i = some d) : ∃ w, atI vs i = some w ∧ Rep0 P α H d w := by
  unfold atI at h ⊢
  rw [← r.len]
  cases e : ixN ds.length i with
  | none => rw [e] at h; cases h
  | some j =>
    rw [e] at h
    simp only [Option.bind_some] at h ⊢
    exact r.get h
def dIx (d e : D) (S : Sto) : Option D := match d, e with
  | .tup ds, .int i => atI ds i
  | .str x, .int i => if x.length ≤ sizeLine then (atI x.cps.toList i).map fun c => .str ⟨#[c]⟩ else none
  | d, .int i => match listOf d S with
    | some ds => atI ds i
    | none => none
  | _, _ => none
def rIxD' (P : Pr) : R2 := rOD P dIx
theorem ix_dat (hK : X.K = P.K) : IxR X (rOD P dIx) := by
  intro value slice pins s σ H x y v u Q I rx ry ⟨α, S, d, e, z, sm, rd, re, ho, k⟩ hs
  have fin : ∀ {w}, Rep0 P α H z w → Q w H := fun hw => k α H _ (Ext.refl _ _ _) sm hw.up
  cases e <;> try (cases d <;> simp [dIx] at ho; done)
  rename_i i
  have hy := rep_int.mp re
  subst hy
  refine ix_seq value slice pins s σ H x _ v u Q I rx ry ?_ hs
  have lst : ∀ {ds}, listOf d S = some ds → atI ds i = some z → rIx X.K x (.int i) H Q := fun {ds} hl hz => by
    obtain ⟨p, vs, rfl, q1, q2⟩ := list_of sm rd hl
    obtain ⟨w, h1, h2⟩ := q2.at hz
    exact .inl ⟨p, vs, i, w, rfl, rfl, by rw [hK]; exact q1, h1, fin h2⟩
  cases d <;> simp only [dIx, listOf] at ho <;> try (cases ho; done)
  · rename_i t
    split at ho
    · rename_i hl
      rw [rep_str.mp rd]
      cases hc : atI t.cps.toList i with
      | none => rw [hc] at ho; cases ho
      | some c =>
        rw [hc] at ho
        cases ho
        exact .inr (.inr ⟨t, i, c, rfl, rfl, hl, hc, fin (by simp only [Rep0])⟩)
    · cases ho
  · rename_i ds
    obtain ⟨p, vs, rfl, q1, q2⟩ := rep_tup.mp rd
    obtain ⟨w, h1, h2⟩ := q2.at ho
    exact .inr (.inl ⟨p, vs, i, w, rfl, rfl, by rw [hK]; exact q1, h1, fin h2⟩)
  · split at ho
    · rename_i ds hl
      exact lst hl ho
    · cases ho
  · rename_i is
    exact lst (ds := is.map .int) rfl ho
def notSlice : Expr → Bool
  | .Slice _ _ _ _ => false
  | _ => true
theorem plainIx (h : notSlice b = true) : PlainIx b := by
  intro o i
  cases b <;> first | rfl | cases h
theorem pd_ix (hK : X.K = P.K) (ha : PE X a (tE P W ma)) (hb : PE X b (tE P W mb)) (hs : notSlice b = true) : PE X (.Subscript a b pos) (tE P W (mBin dIx ma mb)) :=
  PE.imp (pe_ix (ix_dat hK) ha hb (plainIx hs)) fun _ _ _ => bin_sound
/-! ### slices of lists -/
abbrev MO' := Ev → Sto → R (Option Int)
def tO (P : Pr) (W : WX) (m : MO') : TO := fun σ H Q => ∃ α S ρ, Sim P α S H ∧ ERep P α H ρ σ ∧ Post P (fun _ _ b g => b = g) (fun c d H => W c d σ H) (m ρ S) α H Q
def mNoPart : MO' := fun _ S => .ok none S
def mPart (m : ME) : MO' := fun ρ S => (m ρ S).bind fun d S1 => match d with | .int i => .ok (some i) S1 | _ => .bad
theorem PO.imp {o : Option Expr} {t u : TO} (h : PO X o t) (k : ∀ σ H Q, u σ H Q → t σ H Q) : PO X o u := ⟨fun pins s σ H Q I q => h.run pins s σ H Q I (k σ H Q q)⟩
theorem pd_onone : PO X none (tO P W mNoPart) := PO.imp po_none fun σ H Q ⟨α, S, ρ, sm, er, q⟩ => q α H none (Ext.refl _ _ _) sm rfl
theorem pd_osome (ha : PE X a (tE P W ma)) : PO X (some a) (tO P W (mPart ma)) := by
  refine PO.imp (po_some ha) fun σ H Q ⟨α, S, ρ, sm, er, q⟩ => ?_
  refine ⟨α, S, ρ, sm, er, Post.bind q fun α1 H1 d S1 v e1 sm1 r1 q1 => ?_⟩
  cases d <;> try exact q1.elim
  rename_i i
  exact ⟨i, rep_int.mp r1, q1 α1 H1 _ (Ext.refl _ _ _) sm1 rfl⟩
def cutD (ds : List D) (lo hi : Option Int) : List D := (ds.drop (HT.sIx ds.length 0 lo)).take (HT.sIx ds.length ds.length hi - HT.sIx ds.length 0 lo)
theorem Reps.drop : ∀ {ds : List D} {vs : List V} (n : Nat), Reps P α H ds vs → Reps P α H (ds.drop n) (vs.drop n)
  | ds, vs, 0, h => by simpa using h
  | [], vs, n + 1, h => by simp only [Reps] at h; subst h; simp [Reps]
  | d :: ds, vs, n + 1, h => by
    simp only [Reps] at h
    obtain ⟨v, r, rfl, h2, h3⟩ := h
    simpa using Reps.drop n h3
theorem Reps.take : ∀ {ds : List D} {vs : List V} (n : Nat), Reps P α H ds vs → Reps P α H (ds.take n) (vs.take n)
  | ds, vs, 0, h => by simp [Reps]
  | [], vs, n + 1, h => by simp only [Reps] at h; subst h; simp [Reps]
  | d :: ds, vs, n + 1, h => by
    simp only [Reps] at h
    obtain ⟨v, r, rfl, h2, h3⟩ := h
    simp only [List.take_succ_cons, Reps]
    exact ⟨v, _, rfl, h2, Reps.take n h3⟩
theorem Reps.cut {ds : List D} {vs : List V} (lo hi : Option Int) (r : Reps P α H ds vs) : Reps P α H (cutD ds lo hi) (cutV vs lo hi) := by
  unfold cutD cutV
  rw [← r.len]
  exact Reps.take _ (Reps.drop _ r)
def dSl (d : D) (lo hi : Option Int) (S : Sto) : R D := match listOf d S, d with
  | some ds, _ => .ok (.ref S.length) (S ++ [.lst (cutD ds lo hi)])
  | none, .tup ds => if HT.sIx ds.length 0 lo = 0 ∧ HT.sIx ds.length ds.length hi = ds.length then .bad else .ok (.tup (cutD ds lo hi)) S
  | _, _ => .bad
def mSl (ma : ME) (ml mh : MO') : ME := fun ρ S => (ma ρ S).bind fun d S1 => (ml ρ S1).bind fun lo S2 => (mh ρ S2).bind fun hi S3 => dSl d lo hi S3
theorem pd_sl {lo hi : Option Expr} {ml mh : MO'} {p2 : Pos} (hK : X.K = P.K) (ha : PE X a (tE P W ma)) (hl : PO X lo (tO P W ml)) (hh : PO X hi (tO P W mh)) : PE X (.Subscript a (.Slice lo hi none p2) pos) (tE P W (mSl ma ml mh)) := by
  refine PE.imp (pe_slice (sl_list.or sl_tup) ha hl hh) fun σ H Q ⟨α, S, ρ, sm, er, q⟩ => ?_
  refine ⟨α, S, ρ, sm, er, Post.bind q fun α1 H1 d S1 v e1 sm1 r1 q1 => ?_⟩
  refine ⟨α1, S1, ρ, sm1, er.ext e1, Post.bind q1 fun α2 H2 l S2 l' e2 sm2 r2 q2 => ?_⟩
  cases r2
  refine ⟨α2, S2, ρ, sm2, (er.ext e1).ext e2, Post.bind q2 fun α3 H3 h S3 h' e3 sm3 r3 q3 => ?_⟩
  cases r3
  have rd := (r1.ext e2).ext e3
  unfold dSl at q3
  split at q3
  · rename_i ds hd
    obtain ⟨p, vs, rfl, h1, h2⟩ := list_of sm3 rd hd
    exact .inl ⟨p, vs, rfl, by rw [hK]; exact h1, fun t ht => q3 _ _ _ (Ext.allocM ht) (sm3.allocM ht (h2.cut l h)) (rep_ref.mpr ⟨t, new_ref sm3, rfl⟩)⟩
  · rename_i ds _
    obtain ⟨p, vs, rfl, h1, h2⟩ := rep_tup.mp rd
    split at q3
    · exact q3.elim
    · rename_i hn
      exact .inr ⟨p, vs, rfl, by rw [hK]; exact h1, by rw [← h2.len]; exact hn, fun t ht => q3 _ _ _ (Ext.alloc ht) (sm3.alloc ht) (rep_tup.mpr ⟨t, _, rfl, .of upd_same, Reps.ext (Ext.alloc ht) (h2.cut l h)⟩)⟩
  · exact q3.elim
/-! ### builtins -/
def rCD (P : Pr) (op : List D → Sto → R D) : List V → Hp → VK → Prop := fun xs H Q => ∃ α S ds W0, Sim P α S H ∧ RepA P α H ds xs ∧ Post P (Rep P) W0 (op ds S) α H Q
def mCall (op : List D → Sto → R D) (mr : MA) : ME := fun ρ S => (mr ρ S).bind op
theorem call_sound {op : List D → Sto → R D} {σ : St} {H : Hp} {Q : VK} (h : tE P W (mCall op mr) σ H Q) : tCB (rCD P op) (tA P W mr) σ H Q := by
  obtain ⟨α, S, ρ, sm, er, q⟩ := h
  exact ⟨α, S, ρ, sm, er, Post.bind q fun α1 H1 ds S1 vs e1 sm1 r1 q1 => ⟨α1, S1, ds, _, sm1, r1, q1⟩⟩
theorem notStars (h : es.all notStar = true) (env : Env) : (backTo pos (starEach es env)).any (·.1) = false := by
  induction es with
  | nil => rfl
  | cons e es ih =>
    rw [List.all_cons, Bool.and_eq_true] at h
    rw [star_ok h.1]
    show (false || (backTo pos (starEach es env)).any (·.1)) = false
    rw [Bool.false_or]
    exact ih h.2
variable {x : Str} {p : Pos} {bid T : String} {op : List D → Sto → R D}
theorem pd_callB (hc : CallR X (.builtin bid) (rCD P op)) (hg : Gl X x) (hm : X.mg x = none) (hv : bootBuiltins x = some (.builtin bid)) (ha : PA X (e :: es) (tA P W mr)) (hn : x ≠ "__name__") (hdb : (x == ("__debug__" : Str)) = false) (hs : (e :: es).all notStar = true) :
    PE X (.Call (.Name x p) (e :: es) [] pos) (tE P W (mCall op mr)) :=
  PE.imp (pe_callB hc hg hm hv ha hn hdb (star_ok (by rw [List.all_cons, Bool.and_eq_true] at hs; exact hs.1) _) (notStars (by rw [List.all_cons, Bool.and_eq_true] at hs; exact hs.2) _)) fun _ _ _ => call_sound
theorem pd_callTy (hc : CallR X (.type T) (rCD P op)) (hg : Gl X x) (hm : X.mg x = none) (hv : bootBuiltins x = some (.type T)) (ha : PA X (e :: es) (tA P W mr)) (hn : x ≠ "__name__") (hdb : (x == ("__debug__" : Str)) = false) (hs : (e :: es).all notStar = true) :
    PE X (.Call (.Name x p) (e :: es) [] pos) (tE P W (mCall op mr)) :=
  PE.imp (pe_callTy hc hg hm hv ha hn hdb (star_ok (by rw [List.all_cons, Bool.and_eq_true] at hs; exact hs.1) _) (notStars (by rw [List.all_cons, Bool.and_eq_true] at hs; exact hs.2) _)) fun _ _ _ => call_sound
/-- one argument -/
def one (f : D → Sto → Option D) : List D → Sto → R D
  | [d], S => oR (f d S) S
  | _, _ => .bad
def two (f : D → D → Sto → Option D) : List D → Sto → R D
  | [d, e], S => oR (f d e S) S
  | _, _ => .bad
theorem cr_one {f : Value} {r : List V → Hp → VK → Prop} {g : D → Sto → Option D} (hc : CallR X f r)
    (h : ∀ (α : List Addr) (S : Sto) (H : Hp) (d z : D) (v : V) (Q : VK), Sim P α S H → Rep P α H d v → g d S = some z → (∀ w, Rep P α H z w → Q w H) → r [v] H Q) : CallR X f (rCD P (one g)) := by
  intro pins s σ H xs us Q I rv ⟨α, S, ds, W0, sm, ra, q⟩
  match ds, q with
  | [d], q =>
    obtain ⟨v, r, rfl, h1, h2⟩ := ra
    have h2 : r = [] := h2
    subst h2
    obtain ⟨z, hz, k⟩ := oR_some q
    exact hc pins s σ H _ us Q I rv (h α S H d z v Q sm h1 hz fun w hw => k α H w (Ext.refl _ _ _) sm hw)
  | [], q => exact q.elim
  | _ :: _ :: _, q => exact q.elim
theorem cr_two {f : Value} {r : List V → Hp → VK → Prop} {g : D → D → Sto → Option D} (hc : CallR X f r)
    (h : ∀ (α : List Addr) (S : Sto) (H : Hp) (d e z : D) (v u : V) (Q : VK), Sim P α S H → Rep P α H d v → Rep P α H e u → g d e S = some z → (∀ w, Rep P α H z w → Q w H) → r [v, u] H Q) : CallR X f (rCD P (two g)) := by
  intro pins s σ H xs us Q I rv ⟨α, S, ds, W0, sm, ra, q⟩
  match ds, q with
  | [d, e], q =>
    obtain ⟨v, r, rfl, h1, u, r2, rfl, h2, h3⟩ := ra
    have h3 : r2 = [] := h3
    subst h3
    obtain ⟨z, hz, k⟩ := oR_some q
    exact hc pins s σ H _ us Q I rv (h α S H d e z v u Q sm h1 h2 hz fun w hw => k α H w (Ext.refl _ _ _) sm hw)
  | [], q => exact q.elim
  | [_], q => exact q.elim
  | _ :: _ :: _ :: _, q => exact q.elim
def bAbs : D → Sto → Option D
  | .int i, _ => some (.int (if i < 0 then -i else i))
  | _, _ => none
theorem cd_abs : CallR X (.builtin "abs") (rCD P (one bAbs)) := cr_one call_abs fun α S H d z v Q sm r h k => by
  cases d <;> simp only [bAbs] at h <;> cases h
  exact ⟨_, by rw [rep_int.mp r], k _ (rep_int.mpr rfl)⟩
def bInt : D → Sto → Option D
  | .int i, _ => some (.int i)
  | .bl b, _ => some (.int (if b then 1 else 0))
  | _, _ => none
theorem cd_int : CallR X (.type "int") (rCD P (one bInt)) := cr_one call_int1 fun α S H d z v Q sm r h k => by
  cases d <;> simp only [bInt] at h <;> cases h
  · exact .inr ⟨_, by rw [rep_bl.mp r], k _ (rep_int.mpr rfl)⟩
  · exact .inl ⟨_, by rw [rep_int.mp r], k _ (rep_int.mpr rfl)⟩
def bLen (d : D) (S : Sto) : Option D := match d with
  | .str x => if x.length ≤ sizeLine then some (.int x.length) else none
  | .tup ds => some (.int ds.length)
  | d => match listOf d S with
    | some ds => some (.int ds.length)
    | none => none
theorem cd_len (hK : X.K = P.K) : CallR X (.builtin "len") (rCD P (one bLen)) := cr_one call_len fun α S H d z v Q sm r h k => by
  have lst : ∀ ds, listOf d S = some ds → z = .int ds.length → ∃ x n, [v] = [x] ∧ LenV X.K x H n ∧ Q (.int n) H := fun ds hl hz => by
    obtain ⟨p, vs, rfl, q1, q2⟩ := list_of sm r hl
    refine ⟨_, vs.length, rfl, .inl ⟨vs, by rw [hK]; exact q1, rfl⟩, k _ ?_⟩
    rw [hz, rep_int, q2.len]
  cases d <;> simp only [bLen, listOf] at h <;> try (cases h; done)
  · split at h
    · rename_i hl
      cases h
      exact ⟨v, _, rfl, by rw [rep_str.mp r]; exact ⟨hl, rfl⟩, k _ (rep_int.mpr rfl)⟩
    · cases h
  · cases h
    obtain ⟨p, vs, rfl, q1, q2⟩ := rep_tup.mp r
    refine ⟨_, vs.length, rfl, .inr ⟨vs, by rw [hK]; exact q1, rfl⟩, k _ ?_⟩
    rw [rep_int, q2.len]
  · split at h
    · rename_i ds hl
      cases h
      exact lst ds hl rfl
    · cases h
  · cases h
    exact lst _ rfl rfl
def bMax : D → D → Sto → Option D := sint fun i j => some (.int (if j > i then j else i))
def bMin : D → D → Sto → Option D := sint fun i j => some (.int (if j < i then j else i))
theorem cd_max (hc : X.calm = true) : CallR X (.builtin "max") (rCD P (two bMax)) := cr_two (call_max2 hc) fun α S H d e z v u Q sm r1 r2 h k => by
  cases d <;> try (simp [bMax, sint] at h; done)
  cases e <;> simp [bMax, sint] at h
  subst h
  exact ⟨_, _, by rw [rep_int.mp r1, rep_int.mp r2], k _ (rep_int.mpr rfl)⟩
theorem cd_min (hc : X.calm = true) : CallR X (.builtin "min") (rCD P (two bMin)) := cr_two (call_min2 hc) fun α S H d e z v u Q sm r1 r2 h k => by
  cases d <;> try (simp [bMin, sint] at h; done)
  cases e <;> simp [bMin, sint] at h
  subst h
  exact ⟨_, _, by rw [rep_int.mp r1, rep_int.mp r2], k _ (rep_int.mpr rfl)⟩
def intsOf : List D → Option (List Int) := allSome fun d => match d with | .int i => some i | _ => none
def boolsOf : List D → Option (List Bool) := allSome fun d => match d with | .bl i => some i | _ => none
theorem reps_intsOf : ∀ {ds : List D} {is : List Int} {vs : List V}, intsOf ds = some is → Reps P α H ds vs → vs = is.map V.int
  | [], is, vs, h, r => by
    simp [intsOf, allSome] at h
    simp only [Reps] at r
    subst h; subst r; rfl
  | d :: ds, is, vs, h, r => by
    simp only [Reps] at r
    obtain ⟨v, r2, rfl, h2, h3⟩ := r
    cases d <;> simp only [intsOf, allSome] at h <;> try (cases h; done)
    split at h
    · rename_i ps hp
      cases h
      simp only [Rep0] at h2
      rw [h2, reps_intsOf hp h3]
      rfl
    · cases h
theorem reps_boolsOf : ∀ {ds : List D} {is : List Bool} {vs : List V}, boolsOf ds = some is → Reps P α H ds vs → vs = is.map V.bl
  | [], is, vs, h, r => by
    simp [boolsOf, allSome] at h
    simp only [Reps] at r
    subst h; subst r; rfl
  | d :: ds, is, vs, h, r => by
    simp only [Reps] at r
    obtain ⟨v, r2, rfl, h2, h3⟩ := r
    cases d <;> simp only [boolsOf, allSome] at h <;> try (cases h; done)
    split at h
    · rename_i ps hp
      cases h
      simp only [Rep0] at h2
      rw [h2, reps_boolsOf hp h3]
      rfl
    · cases h
def bSum (d : D) (S : Sto) : Option D := match listOf d S with
  | some ds => (intsOf ds).map fun is => .int is.sum
  | none => none
theorem cd_sum (hK : X.K = P.K) (hc : X.calm = true) : CallR X (.builtin "sum") (rCD P (one bSum)) := cr_one (cr_sum hc) fun α S H d z v Q sm r h k => by
  unfold bSum at h
  split at h
  · rename_i ds hl
    obtain ⟨p, vs, rfl, q1, q2⟩ := list_of sm r hl
    cases hi : intsOf ds with
    | none => rw [hi] at h; cases h
    | some is =>
      rw [hi] at h
      cases h
      exact ⟨p, is, rfl, by rw [hK, ← reps_intsOf hi q2]; exact q1, k _ (rep_int.mpr rfl)⟩
  · cases h
def bAll (d : D) (S : Sto) : Option D := match listOf d S with
  | some ds => (boolsOf ds).map fun is => .bl (is.all id)
  | none => none
def bAny (d : D) (S : Sto) : Option D := match listOf d S with
  | some ds => (boolsOf ds).map fun is => .bl (is.any id)
  | none => none
theorem cd_all (hK : X.K = P.K) (hc : X.calm = true) : CallR X (.builtin "all") (rCD P (one bAll)) := cr_one (cr_all hc) fun α S H d z v Q sm r h k => by
  unfold bAll at h
  split at h
  · rename_i ds hl
    obtain ⟨p, vs, rfl, q1, q2⟩ := list_of sm r hl
    cases hi : boolsOf ds with
    | none => rw [hi] at h; cases h
    | some is =>
      rw [hi] at h
      cases h
      exact ⟨p, is, rfl, by rw [hK, ← reps_boolsOf hi q2]; exact q1, k _ (rep_bl.mpr rfl)⟩
  · cases h
theorem cd_any (hK : X.K = P.K) (hc : X.calm = true) : CallR X (.builtin "any") (rCD P (one bAny)) := cr_one (cr_any hc) fun α S H d z v Q sm r h k => by
  unfold bAny at h
  split at h
  · rename_i ds hl
    obtain ⟨p, vs, rfl, q1, q2⟩ := list_of sm r hl
    cases hi : boolsOf ds with
    | none => rw [hi] at h; cases h
    | some is =>
      rw [hi] at h
      cases h
      exact ⟨p, is, rfl, by rw [hK, ← reps_boolsOf hi q2]; exact q1, k _ (rep_bl.mpr rfl)⟩
  · cases h
/-! ### kinds -/
inductive Kd where
  | non | bool | int | str | tup | lst
  deriving DecidableEq
def Kd.nm : Kd → String
  | .non => "NoneType" | .bool => "bool" | .int => "int" | .str => "str" | .tup => "tuple" | .lst => "list"
def kdOf : D → Option Kd
  | .non => some .non
  | .bl _ => some .bool
  | .int _ => some .int
  | .str _ => some .str
  | .tup _ => some .tup
  | .ref _ => some .lst
  | .scr _ => some .lst
  | _ => none
def isK (a b : Kd) : Bool := decide (a = b) || (decide (a = .bool) && decide (b = .int))
theorem kit_k (a b : Kd) (h : b ≠ .non) : kitB a.nm b.nm = some (isK a b) := by
  cases a <;> cases b <;> first | exact absurd rfl h | decide +kernel
theorem ty_of {d : D} {k : Kd} (sm : Sim P α S H) (r : Rep P α H d v) (h : kdOf d = some k) : TyX P.K H v (.type k.nm) := by
  cases d <;> simp only [kdOf] at h <;> cases h
  · rw [rep_non.mp r]; exact .base .non
  · rw [rep_bl.mp r]; exact .base (.bl _)
  · rw [rep_int.mp r]; exact .base (.int _)
  · rw [rep_str.mp r]; exact .base (.str _)
  · obtain ⟨a, vs, rfl, h1, h2⟩ := rep_tup.mp r
    rcases h1 with h1 | ⟨o, its, n, h1, h2, _⟩
    · rcases h1 with h1 | ⟨o, h1⟩
      · exact .base (.tup h1)
      · exact .fTuple h1
    · exact .kTuple h1 h2
  · obtain ⟨a, h1, rfl⟩ := rep_ref.mp r
    obtain ⟨o, h2, vs, rfl⟩ := sm.tracked (List.mem_of_getElem? h1)
    exact .base (.lst h2)
  · obtain ⟨a, rfl, h1⟩ := rep_scr.mp r
    rcases h1 with ⟨o, h1⟩ | ⟨o, its, n, h1, h2, _⟩
    · exact .base (.frz h1)
    · exact .kList h1 h2
def bIsi (d e : D) (_ : Sto) : Option D := match d, e with
  | d, .ty n => match kdOf d with
    | some k => match [Kd.bool, .int, .str, .tup, .lst].find? fun (q : Kd) => decide (q.nm = n) with
      | some q => some (.bl (isK k q))
      | none => none
    | none => none
  | _, _ => none
theorem rep_ty {n : String} : Rep P α H (.ty n) v ↔ v = .ty n := by show Rep0 _ _ _ _ _ ↔ _; simp only [Rep0]
theorem cd_isi (hK : X.K = P.K) : CallR X (.builtin "isinstance") (rCD P (two bIsi)) := cr_two call_isi fun α S H d e z v u Q sm r1 r2 h k => by
  cases e <;> simp only [bIsi] at h <;> try (cases h; done)
  rename_i n
  split at h
  · rename_i kd hk
    split at h
    · rename_i q hq
      cases h
      have hn : q.nm = n := of_decide_eq_true (List.find?_some (p := fun (q : Kd) => decide (q.nm = n)) hq)
      have hnn : q ≠ .non := by
        rintro rfl
        have := List.mem_of_find?_eq_some hq
        simp at this
      refine ⟨v, u, _, .type n, isK kd q, rfl, by rw [rep_ty.mp r2]; exact .ty n, by rw [hK]; exact ty_of sm r1 hk, ?_, k _ (rep_bl.mpr rfl)⟩
      rw [← hn]
      exact kit_ty (kit_k kd q hnn)
    · cases h
  · cases h
end
end Vi
set_option Elab.async false
set_option linter.all false
set_option maxRecDepth 100000
set_option maxHeartbeats 2000000
/-! Own errors: made by the class above that keeps a value, raised. -/
namespace Vi
open PySem L2
theorem nostar_all : ∀ {es : List Expr} {pos : Pos} {env : Env}, es.all notStar = true → (backTo pos (starEach es env)).all (!·.1) = true
  | [], _, _, _ => rfl
  | e :: es, pos, env, h => by
    rw [List.all_cons, Bool.and_eq_true] at h
    rw [star_ok h.1]
    show (true && (backTo pos (starEach es env)).all (!·.1)) = true
    rw [Bool.true_and]
    exact nostar_all h.2
/-- a call o.name(..) on one line, of few arguments -/
theorem mcall_eq {o : Expr} {name : Str} {apos pos : Pos} {es : List Expr} {env : Env} (hl : (apos.endLine == pos.line) = true) (hs : es.all notStar = true) (hn : es.length < 30) :
    eval (.Call (.Attribute o name apos) es [] pos) env = (do
      let ov ← attributeBase o name env (eval o env)
      standAt apos.atName
      let (f, first) ← holding [ov] (getMethod ov name (do return (← importBound o env).getD true))
      callWith pos f first (backTo pos (starEach es env)) (backToKw pos (keywordEach [] env))) := by
  rw [arm_eval_Call]
  have hf : methodCallForm (es.length + 0) (backTo pos (starEach es env)) (backToKw pos (keywordEach [] env)) = true := by
    unfold methodCallForm
    rw [nostar_all hs]
    show (true && true && decide (es.length + 0 + 0 < 30)) = true
    simpa using hn
  unfold methodCall calleeOf methodCallPos
  simp only [List.length_nil, hf, hl, Bool.not_true, Bool.false_or, if_true, if_pos, pure_bind]
end Vi
namespace PySem
namespace ShX
open PySem.W PySem.Calls PyProof.Rows PySem.HandSPX
/-- the text of the maker: self, value; super().__init__(value); self.value = value -/
def mA (p1 p2 : Pos) : Arguments := { posonlyargs := [], args := [{ arg := "self", annotation := none, pos := p1 }, { arg := "value", annotation := none, pos := p2 }], vararg := none, kwonlyargs := [], kw_defaults := [], kwarg := none, defaults := [] }
def mB (q1 q2 q3 q4 q5 q6 r1 r2 r3 r4 : Pos) : List Stmt := [.Expr (.Call (.Attribute (.Call (.Name "super" q1) [] [] q2) "__init__" q3) [.Name "value" q4] [] q5) q6, .Assign [.Attribute (.Name "self" r1) "value" r2] (.Name "value" r3) r4]
/-- the maker as it stands in the module: class D above -/
structure Maker (prog : Program) (K : Frag) (D fI : Addr) : Prop where
  fn : ∃ (oc : Value) (od : Option Addr) (doc pm : Value) (an : Option Addr) (cda cc : Addr) (ct : Value) (osl : Array (Option Value)) (p1 p2 q1 q2 q3 q4 q5 q6 r1 r2 r3 r4 : Pos) (sc : Scope),
    K.lookup fI = some ⟨oc, od, .func (ksFn "__init__" "ShallowError.__init__" (mA p1 p2) (mB q1 q2 q3 q4 q5 q6 r1 r2 r3 r4) sc .none .none doc pm an (.ref cda) ct cc), osl⟩ ∧ codeIn K (.ref cda) "ShallowError.__init__" = true ∧ (q3.endLine == q5.line) = true ∧
      (sc.kind = .function ∧ sc.isCoroutine = false ∧ sc.isGenerator = false ∧ (∀ x ∈ sc.names, x.2 ≠ .cell) ∧ sc.names.lookup ("super" : Str) = some .globalImplicit ∧ sc.names.lookup ("__class__" : Str) = some .free ∧ sc.names.lookup ("self" : Str) = some .local ∧ sc.names.lookup ("value" : Str) = some .local) ∧
      (∃ (ccl : Value) (cdd : Option Addr) (vs : Array Value) (ccs : Array (Option Value)) (file : Str) (tf : Tok), K.lookup cda = some ⟨ccl, cdd, .fields vs, ccs⟩ ∧ vs[2]? = some (.str file tf) ∧ ((prog.main.file : Str) == file) = true) ∧
      ∃ (cl : Value) (cld : Option Addr) (csl : Array (Option Value)), K.lookup cc = some ⟨cl, cld, .cell (some (.ref D)), csl⟩
  top : (prog.main.scope.names.lookup ("super" : Str)).isSome = false
  cls : ∃ cd, clsIn K D = some cd
/-- an own class below it, at C -/
structure Own (K : Frag) (C D fI : Addr) : Prop where
  cls : ∃ nm q N bs bm sn sub ab col dd k0 k1 k2 k3 k5, K.lookup C = some (excClassObj nm q C N bs bm true sn sub ab col dd k0 k1 k2 k3 k5 "ValueError.__new__") ∧ refsVE bm = true
  sup : ks_superIn K C D "__init__" = some (some (.builtin "ValueError.__init__"))
  opq : nsIn K cStatics "thirdparty.any" = some none
  subD : mroIn K C (.ref D) = some true
  sa : findIn K (.ref C) "__setattr__" = some (some (.builtin "object.__setattr__"))
  ga : findIn K (.ref C) "__getattribute__" = some (some (.builtin "BaseException.__getattribute__"))
  gg : findIn K (.ref C) "__getattr__" = some none
  noN : findIn K (.ref C) "value" = some none
  iC : findIn K (.ref C) "__init__" = some (some (.ref fI))
  tC : typeIn K (.ref fI) = some (.type "function")
  kC : keepIn K (.ref C) = true
  exC : subIn K (.ref C) (.type "BaseException") = some true
  veC : subIn K (.ref C) (.type "ValueError") = some true
  tyC : typeIn K (.ref C) = some (.type "type")
  hdC : hasDictIn K C = true
theorem one_fits (v : Value) : [v].length ≤ sizeLine := by
  rw [sizeLine_eq]
  exact (by decide : 1 ≤ 16777216)
/-- what the maker leaves of a fresh error at x -/
structure Made0 (h h' : Heap) (x C dx t1 : Addr) (v : Value) : Prop where
  keep : ∀ b o, b ≠ x → h.get? b = some o → h'.get? b = some o
  obj : h'.get? x = some { cls := .ref C, dict := some dx, data := .fields #[.ref t1, .none, .none, .none, .bool false, .none] }
  dbig : h.objs.size ≤ dx
  dne : dx ≠ x
  ns : h'.Ns1 dx (fun y => if y = "value" then some v else none)
section
variable {prog : Program} {w : World} {A : Around} {E : Value → Shared → Prop} {h : Heap} {g : Array GenState} {d : Drawn} {t : Nat} {os : OsState}
/-- the wrapper of ValueError.__init__, called -/
theorem call_mw {nm q : Str} {C N : Addr} {bs bm : List Value} {hdct : Bool} {sn : List Str} {sub : List Value} {ab : Bool} {col : Option Bool} {dd : Option Addr} {k0 k1 k2 k3 k5 : Option Value} {u e t0 : Addr} {rest : List Value} {Q : Value → Shared → Prop}
    (hC : h.get? C = some (excClassObj nm q C N bs bm hdct sn sub ab col dd k0 k1 k2 k3 k5 "ValueError.__new__")) (he : h.get? e = some (excO C t0)) (hu : h.get? u = some (kxs_mw "ValueError.__init__" e)) (hrest : rest.length ≤ sizeLine)
    (hq : ∀ h' t1, (∀ b o, b ≠ e → h.get? b = some o → h'.get? b = some o) → h'.get? e = some (excO C t1) → Q .none ⟨h', g, d, t, os⟩) :
    wpAny (model prog w) A (call (.ref u) rest) Q E ⟨h, g, d, t, os⟩ := by
  refine wpAny_call (codeAny_of_tree ?_)
  show wpAny _ A.in1 (callAny (.ref u) ⟨rest, []⟩) _ _ _
  simp only [callAny]
  refine wpAny_bind (wpAny_load hu ?_)
  simp only [kxs_mw, show (Value.type "method-wrapper" == Value.type "method" || Value.type "method-wrapper" == Value.type "builtin_function_or_method" || Value.type "method-wrapper" == Value.type "method-wrapper") = true by decide, if_true]
  refine KFB.if_so (by decide) ?_
  refine wpAny_bind (ESX.check_bound F.excBase_ValueError hC he rfl ?_)
  refine wpAny_bind (wpAny_pure (wpAny_pure ?_))
  refine ⟨Code.quiet_builtin _ (by decide +kernel), codeAny_builtin F.excBase_ValueError.initEntry ?_⟩
  rw [Around.under_plainId F.excBase_ValueError.init.plain _]
  wp_walk
  refine hq _ h.objs.size (fun b o hb ho => ?_) ?_
  · rw [Heap.get?_update_other _ _ (Ne.symm hb)]
    exact Heap.get?_push_of_some _ ho
  · rw [Heap.get?_update_self _ (Heap.get?_push_of_some _ he) rfl]
    rfl
end
section
variable {prog : Program} {w : World} {A : Around} {E : Value → Shared → Prop} {R : Result → Shared → Prop} {s : Shared} {K : Frag} {mg mb : Str → Option Value} {C D fI : Addr}
theorem made_init (M : Maker prog K D fI) (T : Own K C D fI) {x t0 : Addr} {v : Value} (X : K.In s.heap) (hlim : s.heap.NoLimit) (hx : s.heap.get? x = some (excO C t0)) (hKx : K.lookup x = none) (hroom : A.depth < recursionLimit)
    (hgl : s.heap.Ns mainGlobals mg) (hms : mg "super" = none) (hbl : s.heap.Ns builtinsNs mb) (hbb : mb "super" = some (.type "super"))
    (hq : ∀ h' tk dx t1, Made0 s.heap h' x C dx t1 v → R (.ok (.ret .none)) { s with heap := h', toks := tk }) :
    codeAny (model prog w) A (.call (.ref fI) ⟨[.ref x, v], []⟩) R s := by
  obtain ⟨oc, od, doc, pm, an, cda, cc, ct, osl, p1, p2, q1, q2, q3, q4, q5, q6, r1, r2, r3, r4, sc, ho, hcd, hln, ⟨hk, hco, hgen, hnc, hks, hkc, hka, hkv⟩, ⟨ccl, cdd, vs, ccs, file, tf, hcode, hvs, hfile⟩, cl, cld, csl, hcell⟩ := M.fn
  obtain ⟨cdD, hD⟩ := M.cls
  obtain ⟨nm, q, N, bs, bm, sn, sub, ab, col, dd, k0, k1, k2, k3, k5, hC, hbm⟩ := T.cls
  have hcl : clsIn K C = some { name := nm, bases := bs, mro := .ref C :: bm, ns := N, qualname := q, hasDict := true, slotNames := sn, subclasses := sub, abstract := ab, collection := col, hasDel := false } := by unfold clsIn; rw [hC] <;> rfl
  refine ks_codeAny_call_defAt (fd := ksFn "__init__" "ShallowError.__init__" (mA p1 p2) (mB q1 q2 q3 q4 q5 q6 r1 r2 r3 r4) sc .none .none doc pm an (.ref cda) ct cc) (body := mB q1 q2 q3 q4 q5 q6 r1 r2 r3 r4) (binds := [("self", .ref x), ("value", v)]) hroom (X _ _ ho) rfl hlim (codeRec_of X hcd) rfl (BindsTo.of_eq (by first | rfl | with_unfolding_all rfl)) hnc (fun y hy => ?_) (fun h₁ hns k => ?_) hco hgen hk
  · rcases List.mem_cons.mp hy with rfl | hy
    · exact hka
    · rcases List.mem_cons.mp hy with rfl | hy
      · exact hkv
      · cases hy
  have X₁ : K.In h₁ := X.keeps k
  have hx₁ := k _ _ hx
  obtain ⟨oD, hD1, hD2⟩ : ∃ oD, h₁.get? D = some oD ∧ oD.data = .cls cdD := by
    unfold clsIn at hD
    split at hD
    · rename_i c d cd' sl ho
      cases hD
      exact ⟨_, X₁ _ _ ho, rfl⟩
    · cases hD
  -- super().__init__(value)
  refine ks_wpAt_execs_cons (ks_wpAt_Expr_any (ks_wpAt_MethodCall ?_ (Vi.mcall_eq hln rfl (show (1 : Nat) < 30 by decide))) (by show interactive _ = false; unfold interactive; show (sc.kind == .module && _) = false; rw [hk]; rfl))
  refine ks_wpAt_super_base (cc := cda) (vs := vs) hks hkc (by decide +kernel) rfl (X₁ _ _ ho) rfl (ar := { arg := "self", annotation := none, pos := p1 }) rfl rfl (X₁ _ _ hcode) rfl hvs hfile M.top ?_
  refine ks_loadName_global hk hks (loadGlobal_builtin (hgl.keeps k) hms (hbl.keeps k) hbb ⟨rfl, ?_⟩)
  refine wpAny_loadName_free hk hkc rfl ⟨_, X₁ _ _ hcell, rfl⟩ ?_
  refine wpAny_loadName_local hk hka hns (by first | rfl | (simp [List.lookup])) ?_
  refine ks_wpAny_isType_cls hD1 hD2 ⟨rfl, ?_⟩
  refine ks_wpAny_call_super hD1 hD2 hx₁ rfl (fun c e => by cases e) (looks_mroIn X₁ T.subD) (fun h₂ e₂ k₂ => ?_)
  have X₂ : K.In h₂ := X₁.keeps k₂
  have hx₂ := k₂ _ _ hx₁
  -- its __init__
  have hne : x ≠ C := fun z => by
    have q := X₂ _ _ hC
    rw [← z, hx₂] at q
    cases q
  have hsup := T.sup
  unfold ks_superIn at hsup
  rw [hcl, Option.bind_some] at hsup
  refine kxs_getMethod kxs_ValueError e₂ (looks_opaque X₂ T.opq) (l₀ := .ref C :: bm) ?_ rfl X₂ hsup ?_ hne (by decide +kernel) ?_
  · exact fun A Q E s k q => wpAny_bind ((looks_clsIn X₂ hcl) A _ E s k (wpAny_pure q))
  · have I : InstAt h₂ x (excO C t0) C none := ⟨hx₂, rfl, rfl, trivial⟩
    exact I.type.andThen (looks_subIn X₂ T.veC)
  -- the call
  have k₃ : ∀ b o, h₂.get? b = some o → (h₂.push (kxs_mw "ValueError.__init__" x)).get? b = some o := fun b o e => Heap.get?_push_of_some _ e
  refine kxs_callWith (i := "ValueError.__init__") (x := x) rfl (L2.FK.evalArgs_any rfl (spliced_more ?_))
  have ldv : ∀ {h3 : Heap} {tk : Nat} {p : Pos} {Q : Value → Shared → Prop} {E : Value → Shared → Prop} {A : Around} {y : Str} {u : Value}, (∀ b o, h₁.get? b = some o → h3.get? b = some o) → sc.names.lookup y = some .local → (y == ("__debug__" : Str)) = false →
      (([(("self" : Str), Value.ref x), (("value" : Str), v)] : List (Str × Value)).reverse).lookup y = some u → Q u ⟨h3, s.gens, s.drawn, tk, s.os⟩ →
      wpAny (model prog w) A (eval (.Name y p) (callEnv (ksFn "__init__" "ShallowError.__init__" (mA p1 p2) (mB q1 q2 q3 q4 q5 q6 r1 r2 r3 r4) sc .none .none doc pm an (.ref cda) ct cc) s.heap.objs.size fI)) Q E ⟨h3, s.gens, s.drawn, tk, s.os⟩ := by
    intro h3 tk p Q E A y u kk hl hd hu q
    refine wpAny_Name (wpAny_loadName_local hk hl (hns.keeps kk) hu q) hd
  have k13 : ∀ b o, h₁.get? b = some o → (h₂.push (kxs_mw "ValueError.__init__" x)).get? b = some o := fun b o e => k₃ b o (k₂ b o e)
  have gv : (([(("self" : Str), Value.ref x), (("value" : Str), v)] : List (Str × Value)).reverse).lookup ("value" : Str) = some v := by first | rfl | with_unfolding_all rfl | kernel_rfl
  have gs : (([(("self" : Str), Value.ref x), (("value" : Str), v)] : List (Str × Value)).reverse).lookup ("self" : Str) = some (.ref x) := by first | rfl | with_unfolding_all rfl | kernel_rfl
  refine ldv k13 hkv (by decide +kernel) gv ?_
  refine Calls.spliced_nil ⟨Heap.get?_push_size _ rfl, ?_⟩
  refine call_mw (k13 _ _ (X₁ _ _ hC)) (k13 _ _ hx₁) (Heap.get?_push_size _ rfl) (one_fits v) (fun h₄ t1 k₄ hx₄ => ?_)
  -- self.value = value
  show wpAt _ _ _ (execs _ _) _ _ _
  have nx : ∀ b o, h₁.get? b = some o → b ≠ x → h₄.get? b = some o := fun b o e hb => k₄ b o hb (k13 b o e)
  have hxL : s.heap.objs.size ≠ x := Nat.ne_of_gt (Heap.lt_size hx)
  have X₄ : K.In h₄ := fun a o e => nx a o (X₁ a o e) fun z => by rw [z, hKx] at e; cases e
  have ldw : ∀ {h3 : Heap} {tk : Nat} {p : Pos} {Q : Value → Shared → Prop} {E : Value → Shared → Prop} {A : Around} {y : Str} {u : Value}, (∀ b o, h₁.get? b = some o → b ≠ x → h3.get? b = some o) → sc.names.lookup y = some .local → (y == ("__debug__" : Str)) = false →
      (([(("self" : Str), Value.ref x), (("value" : Str), v)] : List (Str × Value)).reverse).lookup y = some u → Q u ⟨h3, s.gens, s.drawn, tk, s.os⟩ →
      wpAny (model prog w) A (eval (.Name y p) (callEnv (ksFn "__init__" "ShallowError.__init__" (mA p1 p2) (mB q1 q2 q3 q4 q5 q6 r1 r2 r3 r4) sc .none .none doc pm an (.ref cda) ct cc) s.heap.objs.size fI)) Q E ⟨h3, s.gens, s.drawn, tk, s.os⟩ := by
    intro h3 tk p Q E A y u kk hl hd hu q
    have hn3 : h3.Ns s.heap.objs.size (fun x_1 => ([(("self" : Str), Value.ref x), (("value" : Str), v)] : List (Str × Value)).reverse.lookup x_1) := by
      obtain ⟨oL, es, ep, hL, r⟩ := hns
      exact ⟨oL, es, ep, kk _ _ hL hxL, r⟩
    refine wpAny_Name (wpAny_loadName_local hk hl hn3 hu q) hd
  refine ks_wpAt_execs_cons (ks_wpAt_Assign_Attr (wpAt_of_wpAny (ldw nx hkv (by decide +kernel) gv (ldw nx hka (by decide +kernel) gs ?_))))
  refine set_plain X₄ (ox := excO C t1) (od := none) ⟨hx₄, rfl, rfl, trivial⟩ T.sa ?_
  refine exc_osa X₄ hx₄ hcl (show refsVE (.ref C :: bm) = true from hbm) rfl T.noN (fun h₅ tk₅ dx k₅ dn dne hx₅ hn₅ => ?_)
  show wpAt _ _ _ (execs _ _) _ _ _
  have z1 : s.heap.objs.size < h₁.objs.size := hns.lt
  have z4 : s.heap.objs.size < h₄.objs.size := by
    obtain ⟨oL, es, ep, hL, r⟩ := hns
    exact Heap.lt_size (nx _ _ hL hxL)
  exact wpAt_of_wpAny (wpAny_execs_nil (hq h₅ tk₅ dx t1 ⟨fun b o hb e => k₅ b o hb (nx b o (k b o e) hb), hx₅, Nat.le_of_lt (Nat.lt_of_lt_of_le z4 dn), dne, hn₅⟩))
/-- a made error -/
structure Made (h h' : Heap) (e C d : Addr) (v : Value) : Prop where
  keep : ∀ b o, h.get? b = some o → h'.get? b = some o
  new : h.objs.size ≤ e
  obj : ∃ oe vs, h'.get? e = some oe ∧ oe.cls = .ref C ∧ oe.dict = some d ∧ oe.data = .fields vs ∧ vs[1]? = some .none
  dbig : h.objs.size ≤ d
  dne : d ≠ e
  ns : h'.Ns1 d (fun y => if y = "value" then some v else none)
theorem made (M : Maker prog K D fI) (T : Own K C D fI) {v : Value} (X : K.In s.heap) (hlim : s.heap.NoLimit) (hroom : A.depth + 1 < recursionLimit)
    (hgl : s.heap.Ns mainGlobals mg) (hms : mg "super" = none) (hbl : s.heap.Ns builtinsNs mb) (hbb : mb "super" = some (.type "super"))
    (hq : ∀ h' tk e d, Made s.heap h' e C d v → R (.ok (.ret (.ref e))) { s with heap := h', toks := tk }) :
    codeAny (model prog w) A (.call (.ref C) ⟨[v], []⟩) R s := by
  obtain ⟨nm, q, N, bs, bm, sn, sub, ab, col, dd, k0, k1, k2, k3, k5, hC, hbm⟩ := T.cls
  obtain ⟨hp, g, dr, tk, os⟩ := s
  have k : ∀ b o, hp.get? b = some o → ((hp.push (kdv_tup [v])).push (excO C hp.objs.size)).get? b = some o := fun b o e => Heap.get?_push_of_some _ (Heap.get?_push_of_some _ e)
  have hget : ((hp.push (kdv_tup [v])).push (excO C hp.objs.size)).get? (hp.objs.size + 1) = some (excO C hp.objs.size) := by heap_get
  have hKx : K.lookup (hp.objs.size + 1) = none := by
    cases e : K.lookup (hp.objs.size + 1) with
    | none => rfl
    | some o =>
      have z : hp.get? (hp.objs.size + 1) = some o := X _ _ e
      exact absurd (Nat.lt_of_succ_lt (Heap.lt_size z)) (Nat.lt_irrefl _)
  refine call_own F.excBase_ValueError (fun X => refsVE_contains X bm hbm) (X _ _ hC) (looks_findIn X T.iC) (fun self => bind_fn X self T.tC) (one_fits v) ?_
  refine made_init (s := ⟨(hp.push (kdv_tup [v])).push (excO C hp.objs.size), g, dr, tk, os⟩) M T (X.keeps k) (hlim.keeps k) hget hKx ?_ (hgl.keeps k) hms (hbl.keeps k) hbb fun h' tk' dx t1 ⟨k', hx, dn, dne, hns⟩ => ?_
  · show A.depth + 1 < recursionLimit
    exact hroom
  · have old : ∀ b o, hp.get? b = some o → h'.get? b = some o := fun b o e => k' b o (Nat.ne_of_lt (Nat.lt_succ_of_lt (Heap.lt_size e))) (k b o e)
    have z : hp.objs.size + 1 + 1 ≤ dx := by
      first
        | (simpa only [Heap.size_push] using dn)
        | exact dn
        | (have q := dn; rw [Heap.size_push, Heap.size_push] at q; exact q)
    exact ⟨rfl, hq h' tk' (hp.objs.size + 1) dx ⟨old, Nat.le_succ _, ⟨_, _, hx, rfl, rfl, rfl, rfl⟩, Nat.le_trans (Nat.le_trans (Nat.le_succ _) (Nat.le_succ _)) z, dne, hns⟩⟩
end
end ShX
end PySem
set_option Elab.async false
set_option linter.all false
set_option maxRecDepth 100000
/-! Functions: what a call promises, with the guards known. -/
namespace Vi
open PySem L2
/-- what functions compute: the module's, those made here -/
structure GT where
  fn : Nat → List D → Sto → R D
  lam : Nat → List (Option D) → Sto → R D
structure FnG (prog : Program) (w : World) (K : PySem.W.Frag) (mg : Str → Option Value) (base : Heap) (k : Nat) (f : Addr) (fd : FuncData) (ps : List Str) (sp : Sp) : Prop where
  len : ∀ vs H Q E, sp vs H Q E → vs.length = ps.length
  run : ∀ (A : Around) (outer : List Env) (s : Shared) (H : Hp) (args : Args) (us : List Value) (vs : List V) (Q : VK) (E : XK), Room k A → A.guards = some [] → Env0 prog w K mg base A outer s H → BindsTo s fd args (ps.zip us) → Vals vs us → sp vs H Q E →
    codeAny (model prog w) A (.call (.ref f) args) (CR (L2.CX prog w) outer prog w H s Q E) s
theorem FnG.mono {prog : Program} {w : World} {K : PySem.W.Frag} {mg : Str → Option Value} {base : Heap} {j k : Nat} {f : Addr} {fd : FuncData} {ps : List Str} {sp : Sp} (F : FnG prog w K mg base j f fd ps sp) (h : j ≤ k) : FnG prog w K mg base k f fd ps sp :=
  ⟨F.len, fun A outer s H args us vs Q E hr => F.run A outer s H args us vs Q E (hr.mono h)⟩
def spG (P : Pr) (n : Nat) (g : List D → Sto → R D) : Sp := fun vs H Q E => ∃ α S ds, Sim P α S H ∧ RepA P α H ds vs ∧ ds.length = n ∧ Post P (Rep P) E (g ds S) α H Q
def FOk (P : Pr) (prog : Program) (w : World) (base : Heap) (k : Nat) (x : Str) (g : List D → Sto → R D) : Prop :=
  ∃ f fd ps, P.mg x = some (.ref f) ∧ PySem.W.keepIn P.K (.ref f) = true ∧ Binds P.K fd ps [] ∧ FnG prog w P.K P.mg base k f fd ps (spG P ps.length g) ∧ ∀ ds S, ds.length ≠ ps.length → g ds S = .bad
/-- a function made here, called -/
def CloOk (P : Pr) (prog : Program) (w : World) (base : Heap) (k : Nat) (L : Lam) (g : List (Option D) → Sto → R D) : Prop :=
  ∀ (A : Around) (outer : List Env) (s : Shared) (H : Hp) (α : List Addr) (S : Sto) (cs : List (Option D)) (fl c' : Addr) (cl : List (Str × Addr)) (pm ctv : Value) (Q : VK) (E : XK), Room k A → A.guards = some [] → Env0 prog w P.K P.mg base A outer s H →
    CloAt P α H L cs fl c' cl pm ctv → Sim P α S H → Post P (Rep P) E (g cs S) α H Q → codeAny (model prog w) A (.call (.ref fl) ⟨[], []⟩) (CR (L2.CX prog w) outer prog w H s Q E) s
structure GOk (P : Pr) (prog : Program) (w : World) (base : Heap) (k : Nat) (G : GT) : Prop where
  fn : ∀ (i : Nat) (x : Str), P.T.fns[i]? = some x → FOk P prog w base k x (G.fn i)
  lam : ∀ (i : Nat) (L : Lam), P.T.lams[i]? = some L → CloOk P prog w base k L (G.lam i)
def visB (sc : Scope) (x : Str) : Bool := match sc.names.lookup x with
  | some .local => true
  | some .cell => true
  | some .free => true
  | _ => false
def stoB (sc : Scope) (x : Str) : Bool := match sc.names.lookup x with
  | some .local => true
  | some .cell => true
  | _ => false
def shN : Str := "ShallowError"
/-- the own errors: the class above, its maker, the classes below it -/
structure PrOk (P : Pr) (prog : Program) (D fI : Addr) : Prop where
  mkr : PySem.ShX.Maker prog P.K D fI
  own : ∀ (c : Nat) (x : Str), P.T.cls[c]? = some x → ∃ C, P.mg x = some (.ref C) ∧ PySem.ShX.Own P.K C D fI ∧ L2.ExcC P.K C ∧ PySem.W.exmOne P.K (.ref C) (.ref D) = some true
  sup : P.mg "super" = none
  top : P.mg shN = some (.ref D)
  cs : ∀ (x : Str) (d : Vi.D), (x, d) ∈ P.T.consts → ∃ u v, P.mg x = some u ∧ RelV v u ∧ ∀ α H, Rep0 P α H d v
  isi : ∀ (c : Nat) (x : Str) (C : Addr) (c2 : Nat) (x2 : Str) (C2 : Addr), P.T.cls[c]? = some x → P.mg x = some (.ref C) → P.T.cls[c2]? = some x2 → P.mg x2 = some (.ref C2) → PySem.W.kitOne P.K (.ref C) (.ref C2) = some (decide (c = c2))
/-- what a frame must have for functions made in it: q their name -/
def LamCx (P : Pr) (q : Str) (X : Cx) : Prop := ∃ c Pt, X.env.code = .ref c ∧ LamX.TabB X.base X.mg c Pt ∧ X.env.qual ++ "<lambda>" = q ∧ (Pt, q) ∈ P.tabs ∧ (∀ p ∈ P.tabs, p.1 = Pt → p.2 = q) ∧ ∀ x, X.fn x = true
structure XOk (P : Pr) (k : Nat) (G : GT) (N : List Str) (sc : Scope) (lq : Option Str) (W : WX) (X : Cx) : Prop where
  K : X.K = P.K
  mg : X.mg = P.mg
  hN : X.N = N
  nd : N.Nodup
  calm : X.calm = true
  tk : Takes X W
  room : Room k X.A
  gd : X.A.guards = some []
  fns : GOk P X.prog X.w X.base k G
  st : ∃ D fI, PrOk P X.prog D fI
  lm : ∀ q, lq = some q → LamCx P q X
  vis : ∀ x, visB sc x = true → Vis X.env.scope x
  gl : ∀ x, sc.names.lookup x = some .globalImplicit → Gl X x
  sto : ∀ x, stoB sc x = true → Loc X.env.scope x ∧ (X.fn x = true ∨ X.env.scope.names.lookup x = some .local)
  loc : ∀ x, sc.names.lookup x = some .local → X.env.scope.names.lookup x = some .local
  cel : ∀ x, sc.names.lookup x = some .cell → X.env.scope.names.lookup x = some .cell
  fr : ∀ x, sc.names.lookup x = some .cell ∨ sc.names.lookup x = some .free → X.env.scope.names.lookup x = some .cell ∨ X.env.scope.names.lookup x = some .free
  kd : X.env.scope.kind = .function
structure XOkS (P : Pr) (k : Nat) (G : GT) (N : List Str) (sc : Scope) (lq : Option Str) (W : WX) (X : Cx) extends XOk P k G N sc lq W X where
  hex : X.ex = []
  stk : X.stack = X.env :: X.outer
  frm : X.env.frame = some X.env.locals
  ow : PassesOwn (model X.prog X.w) X.A X.env X.xe
section
variable {P : Pr} {k : Nat} {G : GT} {N : List Str} {sc : Scope} {lq : Option Str} {W : WX} {X : Cx}
theorem XOk.hu (x : XOk P k G N sc lq W X) : X.A.units + 64 < cLine := x.room.units
/-- a call by value -/
theorem run_G {x : Str} {g : List D → Sto → R D} {E : St → XK} {pins : List (Addr × Obj)} {σ : St} {H : Hp} {s : Shared} {Q : VK} {us : List Value} {vs : List V} {f : Addr} (xo : XOk P k G N sc lq W X) (F : FOk P X.prog X.w X.base k x g) (hm : P.mg x = some (.ref f))
    (I : Inv X pins σ H s) (r : Vals vs us) {α : List Addr} {S : Sto} {ds : List D} (sm : Sim P α S H) (ra : RepA P α H ds vs) (h : Post P (Rep P) (fun c d H => W c d σ H) (g ds S) α H Q) : wpAny (model X.prog X.w) X.A (call (.ref f) us) (EP X pins σ Q) X.xe s := by
  obtain ⟨f', fd, ps, hm', hk, hb, F, ar⟩ := F
  rw [hm] at hm'
  cases hm'
  have hl : ds.length = ps.length := Classical.byContradiction fun z => by rw [ar ds S z] at h; exact h
  have hlu : us.length = ps.length := by rw [← r.length, ← ra.len]; exact hl
  have b := hb s us (by rw [← xo.K]; exact I.kIn) (by rw [List.append_nil]; exact hlu)
  rw [List.append_nil] at b
  have e0 := I.env0
  rw [xo.K, xo.mg] at e0
  refine wpAny_call (codeAny_mono (F.run X.A X.stack s H ⟨us, []⟩ us vs Q (fun c d H => W c d σ H) xo.room xo.gd e0 b r ⟨α, S, ds, sm, ra, hl, h⟩) fun r s' hq => ?_)
  cases r with
  | error e => exact passAt xo.tk σ pins H s e s' I hq
  | ok fl =>
    cases fl with
    | ret u => exact I.after hq
    | next => exact False.elim hq
    | brk => exact False.elim hq
    | cont => exact False.elim hq
variable {e : Expr} {es : List Expr} {p pos : Pos} {mr : MA} {x : Str} {i : Nat}
theorem pd_callG (xo : XOk P k G N sc lq W X) (hi : P.T.fns[i]? = some x) (hg : sc.names.lookup x = some .globalImplicit) (ha : PA X (e :: es) (tA P W mr)) (hdb : (x == ("__debug__" : Str)) = false) (hs : (e :: es).all notStar = true) :
    PE X (.Call (.Name x p) (e :: es) [] pos) (tE P W (mCall (G.fn i) mr)) := by
  refine ⟨fun pins s σ H Q I h => ?_⟩
  have F := xo.fns.fn i x hi
  obtain ⟨f, fd, ps, hm, hk, _⟩ := id F
  rw [List.all_cons, Bool.and_eq_true] at hs
  refine wpAny_Call_Name_kw (ld_glob I (xo.gl x hg) (by rw [xo.mg]; exact hm) ?_ hdb)
  refine PySem.W.callWith_K (h₀ := X.base) I.ok.mod.kin (by rw [xo.K]; exact hk) (thn (ha.run pos pins s σ H (fun vs H1 => ∃ α S ds, Sim P α S H1 ∧ RepA P α H1 ds vs ∧ Post P (Rep P) (fun c d H => W c d σ H) (G.fn i ds S) α H1 Q) I ?_) fun us s1 ⟨vs, H1, I1, r, α, S, ds, sm, ra, q⟩ => ⟨I1.kIn, ?_⟩) (star_ok hs.1 _) (notStars hs.2 _)
  · obtain ⟨α, S, ρ, sm, er, q⟩ := h
    exact ⟨α, S, ρ, sm, er, Post.bind q fun α1 H1 ds S1 vs e1 sm1 r1 q1 => ⟨α1, S1, ds, sm1, r1, q1⟩⟩
  · exact run_G (E := fun σ => fun c d H => W c d σ H) xo F hm I1 r sm ra q
/-- of a function that stands in a name -/
def mCallV (G : GT) (iv : Nat) (mr : MA) : ME := fun ρ S => match ρ[iv]? with
  | some (some (.fn i)) => (mr ρ S).bind (G.fn i)
  | _ => .bad
theorem pd_callV {iv : Nat} (xo : XOk P k G N sc lq W X) (hN : N[iv]? = some x) (hv : visB sc x = true) (ha : PA X (e :: es) (tA P W mr)) (hdb : (x == ("__debug__" : Str)) = false) (hcd : (x == ("__classdict__" : Str)) = false) (hs : (e :: es).all notStar = true) :
    PE X (.Call (.Name x p) (e :: es) [] pos) (tE P W (mCallV G iv mr)) := by
  refine ⟨fun pins s σ H Q I h => ?_⟩
  obtain ⟨α, S, ρ, sm, er, q⟩ := h
  unfold mCallV at q
  split at q
  · rename_i j hj
    obtain ⟨v, hv1, hv2⟩ := er.2 iv _ hj
    obtain ⟨y, f, hy, hm, rfl⟩ := rep_fn.mp hv2
    have F := xo.fns.fn j y hy
    obtain ⟨f', fd, ps, hm', hk, _⟩ := id F
    rw [hm] at hm'
    cases hm'
    rw [List.all_cons, Bool.and_eq_true] at hs
    have hvr := (pe_var (X := X) (i := iv) (x := x) (pos := p) (by rw [xo.hN]; exact hN) (xo.vis x hv) hdb hcd).run pins s σ H (fun v H' => v = .ref f ∧ H' = H) I ⟨_, hv1, rfl, rfl⟩
    refine wpAny_Call_Name_kw (thn hvr fun u s0 ⟨w, H', I0, rw0, e1, e2⟩ => ?_)
    subst e1; subst e2
    cases rw0
    refine PySem.W.callWith_K (h₀ := X.base) I0.ok.mod.kin (by rw [xo.K]; exact hk) (thn (ha.run pos pins s0 σ H' (fun vs H1 => ∃ α S ds, Sim P α S H1 ∧ RepA P α H1 ds vs ∧ Post P (Rep P) (fun c d H => W c d σ H) (G.fn j ds S) α H1 Q) I0 ?_) fun us s1 ⟨vs, H1, I1, r, α, S, ds, sm, ra, q⟩ => ⟨I1.kIn, ?_⟩) (star_ok hs.1 _) (notStars hs.2 _)
    · exact ⟨α, S, ρ, sm, er, Post.bind q fun α1 H1 ds S1 vs e1 sm1 r1 q1 => ⟨α1, S1, ds, sm1, r1, q1⟩⟩
    · exact run_G (E := fun σ => fun c d H => W c d σ H) xo F hm I1 r sm ra q
  · exact q.elim
end
abbrev MS := Ev → Sto → RS
def startD (N : List Str) (ds : List D) : Ev := ds.map some ++ List.replicate (N.length - ds.length) none
/-- a def's body as a function of its arguments -/
def RS.out : RS → R D
  | .nx _ S => .ok .non S
  | .rt d S => .ok d S
  | .exc _ c d S => .exc c d S
  | _ => .bad
def runF (N : List Str) (n : Nat) (m : MS) : List D → Sto → R D := fun ds S => if ds.length = n then (m (startD N ds) S).out else .bad
theorem start_rep {P : Pr} {α : List Addr} {H : Hp} {N : List Str} {ds : List D} {vs : List V} (r : RepA P α H ds vs) : ERep P α H (startD N ds) (L2.start N vs) := by
  have hl := r.len
  refine ⟨by unfold startD L2.start; simp [hl], fun i d h => ?_⟩
  unfold startD at h
  unfold L2.start
  by_cases hi : i < ds.length
  · rw [List.getElem?_append_left (by simpa using hi)] at h
    rw [List.getElem?_append_left (by simpa [← hl] using hi)]
    rw [List.getElem?_map] at h ⊢
    cases q : ds[i]? with
    | none => rw [q] at h; cases h
    | some d' =>
      rw [q] at h
      simp at h
      subst h
      obtain ⟨v, h1, h2⟩ := r.get q
      exact ⟨v, by rw [h1]; rfl, h2⟩
  · rw [List.getElem?_append_right (by simpa using hi)] at h
    have := List.mem_of_getElem? h
    rw [List.mem_replicate] at this
    cases this.2
/-- a def of the module; lq: the name of the functions that it makes -/
structure FunL (P : Pr) (base : Heap) (x qual : Str) (lq : Option Str) (st : Stmt) (f : Addr) (fd : FuncData) : Prop where
  ex : ∃ (oc : Value) (od : Option Addr) (kV doc pm : Value) (an : Option Addr) (cdv ct : Value) (osl : Array (Option Value)),
    fd = PySem.W.fnOf x qual (defArgs st) (defBody st) (defScope st) .none kV doc pm an cdv ct ∧ P.K.lookup f = some ⟨oc, od, .func fd, osl⟩ ∧ PySem.W.codeIn P.K cdv qual = true ∧
      ∀ q, lq = some q → ∃ c Pt, cdv = .ref c ∧ LamX.TabB base P.mg c Pt ∧ (qual ++ ".<locals>.") ++ "<lambda>" = q ∧ (Pt, q) ∈ P.tabs ∧ ∀ p ∈ P.tabs, p.1 = Pt → p.2 = q
section
variable {P : Pr} {prog : Program} {w : World} {base : Heap} {k : Nat} {G : GT} {N ps : List Str} {x qual : Str} {st : Stmt} {f : Addr} {fd : FuncData} {m : MS}
theorem FnG.of {lq : Option Str} (F : FunL P base x qual lq st f fd) (S : FnScope N ps (defScope st)) (hG : GOk P prog w base k G) (hst : ∃ D fI, PrOk P prog D fI)
    (hb : ∀ (X : Cx) (W : WX), X.prog = prog → X.w = w → XOkS P k G N (defScope st) lq W X → PSs X (defBody st) (tS P W m)) : FnG prog w P.K P.mg base (k + 1) f fd ps (spG P ps.length (runF N ps.length m)) := by
  obtain ⟨oc, od, kV, doc, pm, an, cdv, ct, osl, rfl, lk, hcd, hlm⟩ := F.ex
  refine ⟨fun vs H Q E ⟨α, S, ds, sm, ra, hl, _⟩ => by rw [← hl, ra.len], fun A outer s H args us vs Q E hr hg e0 hbd rv hsp => ?_⟩
  obtain ⟨α, S0, ds, sm, ra, hl, q⟩ := hsp
  refine LamX.run_ofS (CX := L2.CX prog w) lk hcd S hr e0 hbd rv (by rw [← hl, ra.len]) fun hr1 => ?_
  have tk := takes_of (X := cxOf (L2.CX prog w) prog w P.K P.mg base N qual (defScope st) f cdv A outer s H E) (E := E) rfl rfl rfl rfl
  refine ⟨tS P (fun cls d _ H => E cls d H) m, hb _ _ rfl rfl ⟨⟨rfl, rfl, rfl, S.nd, rfl, tk, hr1, ?_, hG, hst, fun q h => ?_, fun x h => ?_, fun x h => h, fun x h => ⟨?_, .inl rfl⟩, fun x h => h, fun x h => h, fun x h => h, S.kind⟩, rfl, rfl, rfl, passes_of rfl⟩, ?_⟩
  · show (A.deeper _).guards = some []
    exact hg
  · obtain ⟨c, Pt, h1, h2, h3, h4, h5⟩ := hlm q h
    exact ⟨c, Pt, h1, h2, h3, h4, h5, fun _ => rfl⟩
  · show (defScope st).names.lookup x = _ ∨ _
    unfold visB at h
    split at h
    · rename_i e; exact .inl e
    · rename_i e; exact .inr (.inl e)
    · rename_i e; exact .inr (.inr e)
    · cases h
  · show (defScope st).names.lookup x = _ ∨ _
    unfold stoB at h
    split at h
    · rename_i e; exact .inl e
    · rename_i e; exact .inr e
    · cases h
  · refine ⟨α, S0, startD N ds, sm, start_rep ra, ?_⟩
    unfold runF at q
    rw [if_pos hl] at q
    cases h : m (startD N ds) S0 with
    | nx ρ S' => rw [h] at q; exact fun α' H' σ' e' s' _ => q α' H' .non e' s' (rep_non.mpr rfl)
    | rt d S' => rw [h] at q; exact q
    | bk ρ S' => rw [h] at q; exact q.elim
    | ct ρ S' => rw [h] at q; exact q.elim
    | exc ρ c d S' => rw [h] at q; exact fun α' H' σ' C dx e' s' _ z => q α' H' C dx e' s' z
    | bad => rw [h] at q; exact q.elim
end
end Vi
set_option Elab.async false
set_option linter.all false
set_option maxRecDepth 100000
/-! Statements, loops. -/
namespace Vi
open PySem L2
def ofR {β : Type} (r : R β) (ρ : Ev) (f : β → Sto → RS) : RS := match r with
  | .ok b S => f b S
  | .exc c d S => .exc ρ c d S
  | .bad => .bad
section
variable {P : Pr} {X : Cx} {W : WX}
theorem PS.imp {st : Stmt} {t u : TS} (h : PS X st t) (k : ∀ D σ H, u D σ H → t D σ H) : PS X st u := ⟨fun pins s σ H D I q => h.run pins s σ H D I (k D σ H q)⟩
theorem PSs.imp {st : List Stmt} {t u : TS} (h : PSs X st t) (k : ∀ D σ H, u D σ H → t D σ H) : PSs X st u := ⟨fun pins s σ H D I q => h.run pins s σ H D I (k D σ H q)⟩
theorem PostS.ofR {β γ : Type} {rel : List Addr → Hp → β → γ → Prop} {r : R β} {ρ : Ev} {σ : St} {f : β → Sto → RS} {α : List Addr} {H : Hp} {D : Ends} {Q : γ → Hp → Prop} (h : PostS P W (ofR r ρ f) α H D) (er : ERep P α H ρ σ)
    (k : ∀ α1 H1 b S1 g, Ext P.K α H α1 H1 → Sim P α1 S1 H1 → rel α1 H1 b g → PostS P W (f b S1) α1 H1 D → Q g H1) : Post P rel (fun c d H => W c d σ H) r α H Q := by
  cases r with
  | ok b S => exact fun α' H' g e s q => k α' H' b S g e s q (PostS.ext e h)
  | exc c d S => exact fun α' H' C dx e s z => h α' H' σ C dx e s (er.ext e) z
  | bad => exact h
def sNext : MS := fun ρ S => .nx ρ S
def sSeq (a b : MS) : MS := fun ρ S => match a ρ S with
  | .nx ρ' S' => b ρ' S'
  | r => r
theorem pd_snil : PSs X [] (tS P W sNext) := PSs.imp pss_nil fun D σ H ⟨α, S, ρ, sm, er, q⟩ => q α H σ (Ext.refl _ _ _) sm er
theorem PostS.nx_of {r : RS} {α : List Addr} {H : Hp} {D : Ends} {N : St → Hp → Prop} (h : PostS P W (match r with | .nx ρ' S' => .nx ρ' S' | r => r) α H D) : True := trivial
theorem pd_scons {st : Stmt} {rest : List Stmt} {a b : MS} (ha : PS X st (tS P W a)) (hb : PSs X rest (tS P W b)) : PSs X (st :: rest) (tS P W (sSeq a b)) := by
  refine PSs.imp (pss_cons ha hb) fun D σ H ⟨α, S, ρ, sm, er, q⟩ => ⟨α, S, ρ, sm, er, ?_⟩
  unfold sSeq at q
  cases h : a ρ S with
  | nx ρ' S' => rw [h] at q; exact fun α' H' σ' e s er' => ⟨α', S', ρ', s, er', PostS.ext e q⟩
  | rt d S' => rw [h] at q; exact q
  | bk ρ' S' => rw [h] at q; exact q
  | ct ρ' S' => rw [h] at q; exact q
  | exc ρ' c d S' => rw [h] at q; exact q
  | bad => rw [h] at q; exact q
theorem pd_sone {st : Stmt} {a : MS} (ha : PS X st (tS P W a)) : PSs X [st] (tS P W a) := pss_one ha
def sBreak : MS := fun ρ S => .bk ρ S
def sCont : MS := fun ρ S => .ct ρ S
variable {pos : Pos} {e c : Expr} {m : ME} {t : MT} {a b : MS}
theorem pd_pass : PS X (.Pass pos) (tS P W sNext) := PS.imp ps_pass fun D σ H ⟨α, S, ρ, sm, er, q⟩ => q α H σ (Ext.refl _ _ _) sm er
theorem pd_break : PS X (.Break pos) (tS P W sBreak) := PS.imp ps_break fun D σ H ⟨α, S, ρ, sm, er, q⟩ => q α H σ (Ext.refl _ _ _) sm er
theorem pd_cont : PS X (.Continue pos) (tS P W sCont) := PS.imp ps_continue fun D σ H ⟨α, S, ρ, sm, er, q⟩ => q α H σ (Ext.refl _ _ _) sm er
def notComp : Expr → Bool
  | .ListComp _ _ _ _ => false
  | .SetComp _ _ _ _ => false
  | .DictComp _ _ _ _ _ => false
  | _ => true
theorem swaps_no (h : notComp e = true) (tg : Option Expr) (l : Nat) (env : Env) : swapsWith e tg l env = pure false := by
  cases e <;> first | rfl | cases h
theorem sole_no (h : notComp e = true) (tg : Expr) (l : Nat) (env : Env) : swapsWithSole [tg] e l env = pure false := swaps_no h (some tg) l env
def sDrop (m : ME) : MS := fun ρ S => ofR (m ρ S) ρ fun _ S1 => .nx ρ S1
theorem pd_sexpr (he : PE X e (tE P W m)) (hs : notComp e = true) : PS X (.Expr e pos) (tS P W (sDrop m)) :=
  PS.imp (ps_expr he (swaps_no hs _ _ _)) fun D σ H ⟨α, S, ρ, sm, er, q⟩ => ⟨α, S, ρ, sm, er, PostS.ofR q er fun α1 H1 d S1 v e1 s1 r1 q1 => q1 α1 H1 σ (Ext.refl _ _ _) s1 (er.ext e1)⟩
def sRet (m : ME) : MS := fun ρ S => ofR (m ρ S) ρ fun d S1 => .rt d S1
theorem pd_ret (he : PE X e (tE P W m)) : PS X (.Return (some e) pos) (tS P W (sRet m)) :=
  PS.imp (ps_ret he) fun D σ H ⟨α, S, ρ, sm, er, q⟩ => ⟨α, S, ρ, sm, er, PostS.ofR q er fun α1 H1 d S1 v e1 s1 r1 q1 => q1 α1 H1 v (Ext.refl _ _ _) s1 r1⟩
def sRetN : MS := fun _ S => .rt .non S
theorem pd_retN : PS X (.Return none pos) (tS P W sRetN) := PS.imp ps_retN fun D σ H ⟨α, S, ρ, sm, er, q⟩ => q α H .non (Ext.refl _ _ _) sm (rep_non.mpr rfl)
def sIf (t : MT) (a b : MS) : MS := fun ρ S => ofR (t ρ S) ρ fun k S1 => if k = true then a ρ S1 else b ρ S1
theorem pd_sif {u v : List Stmt} (hc : PT X c (tB P W t)) (ha : PSs X u (tS P W a)) (hb : PSs X v (tS P W b)) : PS X (.If c u v pos) (tS P W (sIf t a b)) := by
  refine PS.imp (ps_if hc ha hb) fun D σ H ⟨α, S, ρ, sm, er, q⟩ => ⟨α, S, ρ, sm, er, PostS.ofR q er fun α1 H1 k S1 v e1 s1 r1 q1 => ?_⟩
  cases r1
  cases k with
  | true => rw [if_pos rfl] at q1 ⊢; exact ⟨α1, S1, ρ, s1, er.ext e1, q1⟩
  | false => rw [if_neg (by decide)] at q1 ⊢; exact ⟨α1, S1, ρ, s1, er.ext e1, q1⟩
/-! ### targets -/
/-- what is set stands at the slots is -/
def AtS (is : List Nat) (σ σ' : St) : Prop := ∀ vs, (∀ i ∈ is, i ∈ vs) → wipe σ' vs = wipe σ vs
theorem wipe_set {σ : St} {i : Nat} {v : Option V} : ∀ {vs : List Nat}, i ∈ vs → wipe (σ.set i v) vs = wipe σ vs
  | [], h => by cases h
  | j :: vs, h => by
    unfold wipe
    by_cases e : i ∈ vs
    · rw [wipe_set e]
    · have : i = j := by
        rcases List.mem_cons.mp h with h | h
        · exact h
        · exact absurd h e
      subst this
      have : wipe (σ.set i v) vs = (wipe σ vs).set i v := by
        clear h
        induction vs with
        | nil => rfl
        | cons k vs ih =>
          have n1 : i ≠ k := fun z => e (by rw [z]; exact List.mem_cons_self)
          have n2 : i ∉ vs := fun z => e (List.mem_cons_of_mem _ z)
          show (wipe (σ.set i v) vs).set k none = ((wipe σ vs).set k none).set i v
          rw [ih n2, List.set_comm _ _ n1]
      rw [this, List.set_set]
theorem AtS.one {σ : St} {i : Nat} {v : Option V} : AtS [i] σ (σ.set i v) := fun vs h => wipe_set (h i (by simp))
theorem AtS.cons {σ σ' : St} {i : Nat} {is : List Nat} {v : Option V} (h : AtS is (σ.set i v) σ') : AtS (i :: is) σ σ' := fun vs q => by
  rw [h vs fun j hj => q j (List.mem_cons_of_mem _ hj), wipe_set (q i List.mem_cons_self)]
def tG (P : Pr) (is : List Nat) (f : D → Ev → Option Ev) : TG := fun v σ H Q => ∃ α S ρ d ρ', Sim P α S H ∧ ERep P α H ρ σ ∧ Rep P α H d v ∧ f d ρ = some ρ' ∧ ∀ σ', AtS is σ σ' → ERep P α H ρ' σ' → Q σ' H
theorem PG.imp {tg : Expr} {t u : TG} (h : PG X tg t) (k : ∀ v σ H Q, u v σ H Q → t v σ H Q) : PG X tg u := ⟨fun pins s σ H v w Q I r q => h.run pins s σ H v w Q I r (k v σ H Q q)⟩
theorem PGs.imp {tg : List Expr} {t u : TGs} (h : PGs X tg t) (k : ∀ v σ H Q, u v σ H Q → t v σ H Q) : PGs X tg u := ⟨fun pins s σ H v w Q I r q => h.run pins s σ H v w Q I r (k v σ H Q q)⟩
def gN (i : Nat) : D → Ev → Option Ev := fun d ρ => some (ρ.set i (some d))
theorem pd_gname {k : Nat} {G : GT} {N : List Str} {sc : Scope} {lq : Option Str} {i : Nat} {x : Str} (xo : XOk P k G N sc lq W X) (hN : N[i]? = some x) (hs : stoB sc x = true) : PG X (.Name x pos) (tG P [i] (gN i)) := by
  obtain ⟨h1, h2⟩ := xo.sto x hs
  refine PG.imp (pg_name (by rw [xo.hN]; exact xo.nd) (by rw [xo.hN]; exact hN) h1 h2) fun v σ H Q ⟨α, S, ρ, d, ρ', sm, er, r, e, q⟩ => ?_
  cases e
  exact q _ AtS.one (er.set r)
theorem pd_gnm {k : Nat} {G : GT} {N : List Str} {sc : Scope} {lq : Option Str} {i : Nat} {x : Str} (xo : XOk P k G N sc lq W X) (hN : N[i]? = some x) (hs : stoB sc x = true) : PG X (.Name x pos) (gName i) := by
  obtain ⟨h1, h2⟩ := xo.sto x hs
  exact pg_name (by rw [xo.hN]; exact xo.nd) (by rw [xo.hN]; exact hN) h1 h2
def gL : List Nat → List D → Ev → Option Ev
  | [], [], ρ => some ρ
  | i :: is, d :: ds, ρ => gL is ds (ρ.set i (some d))
  | _, _, _ => none
def tGs (P : Pr) (is : List Nat) : TGs := fun vs σ H Q => ∃ α S ρ ds ρ', Sim P α S H ∧ ERep P α H ρ σ ∧ RepA P α H ds vs ∧ gL is ds ρ = some ρ' ∧ ∀ σ', AtS is σ σ' → ERep P α H ρ' σ' → Q σ' H
theorem tgt_ok {es : List Expr} (h : notStar e = true) (env : Env) : assignEach (e :: es) env = (false, assign e env) :: assignEach es env := by
  cases e <;> first | rfl | cases h
theorem pd_gnil : PGs X [] (tGs P []) := PGs.imp pgs_nil fun vs σ H Q ⟨α, S, ρ, ds, ρ', sm, er, r, e, q⟩ => by
  cases ds with
  | nil => cases e; exact ⟨r, q _ (fun _ _ => rfl) er⟩
  | cons d ds => cases e
theorem pd_gcons {es : List Expr} {i : Nat} {is : List Nat} (h1 : PG X e (gName i)) (h2 : PGs X es (tGs P is)) (hs : notStar e = true) : PGs X (e :: es) (tGs P (i :: is)) := by
  refine PGs.imp (pgs_cons h1 h2 (by rw [tgt_ok hs]; rfl)) fun vs σ H Q ⟨α, S, ρ, ds, ρ', sm, er, r, e, q⟩ => ?_
  cases ds with
  | nil => cases e
  | cons d ds =>
    obtain ⟨v, rr, rfl, r1, r2⟩ := r
    exact ⟨v, rr, rfl, α, S, _, ds, ρ', sm, er.set r1, r2, e, fun σ' hs => q σ' hs.cons⟩
def gT (is : List Nat) : D → Ev → Option Ev := fun d ρ => match d with
  | .tup ds => gL is ds ρ
  | _ => none
theorem gL_len : ∀ {is : List Nat} {ds : List D} {ρ ρ' : Ev}, gL is ds ρ = some ρ' → ds.length = is.length
  | [], [], _, _, _ => rfl
  | i :: is, d :: ds, _, _, h => by simp [gL_len (is := is) (ds := ds) h]
  | [], _ :: _, _, _, h => by cases h
  | _ :: _, [], _, _, h => by cases h
theorem reps_A {α : List Addr} {H : Hp} : ∀ {ds : List D} {vs : List V}, Reps P α H ds vs → RepA P α H ds vs
  | [], vs, h => by simp only [Reps] at h; exact h
  | d :: ds, vs, h => by
    simp only [Reps] at h
    obtain ⟨v, r, h1, h2, h3⟩ := h
    exact ⟨v, r, h1, h2.up, reps_A h3⟩
theorem assigns_n : ∀ {es : List Expr} (env : Env), (assignEach es env).length = es.length
  | [], _ => rfl
  | e :: es, env => by
    have := assigns_n (es := es) env
    cases e <;> simp_all [assignEach]
theorem assigns_no : ∀ {es : List Expr} (env : Env), es.all notStar = true → (assignEach es env).findIdx? (·.1) = none
  | [], _, _ => rfl
  | e :: es, env, h => by
    rw [List.all_cons, Bool.and_eq_true] at h
    have := assigns_no (es := es) env h.2
    rw [tgt_ok h.1]
    simp [List.findIdx?_cons, this]
theorem pd_gtup {k : Nat} {G : GT} {N : List Str} {sc : Scope} {lq : Option Str} {es : List Expr} {is : List Nat} {k2 : Nat} (xo : XOk P k G N sc lq W X) (h : PGs X es (tGs P is)) (hl : es.length = is.length) (hs : es.all notStar = true) : PG X (.Tuple es k2 pos) (tG P is (gT is)) := by
  refine PG.imp (pg_tup (n := is.length) xo.calm h (by rw [assigns_n]; exact hl) (assigns_no _ hs)) fun v σ H Q ⟨α, S, ρ, d, ρ', sm, er, r, e, q⟩ => ?_
  unfold gT at e
  split at e
  · rename_i ds
    obtain ⟨a, vs, rfl, h1, h2⟩ := rep_tup.mp r
    exact ⟨a, vs, rfl, by rw [xo.K]; exact h1, by rw [← h2.len]; exact gL_len e, α, S, ρ, ds, ρ', sm, er, reps_A h2, e, q⟩
  · cases e
/-! ### assignments -/
def sAsg (m : ME) (f : D → Ev → Option Ev) : MS := fun ρ S => ofR (m ρ S) ρ fun d S1 => match f d ρ with | some ρ' => .nx ρ' S1 | none => .bad
theorem asg_sound {is : List Nat} {f : D → Ev → Option Ev} {D : Ends} {σ : St} {H : Hp} (h : tS P W (sAsg m f) D σ H) : tAsg (tE P W m) (tG P is f) D σ H := by
  obtain ⟨α, S, ρ, sm, er, q⟩ := h
  refine ⟨α, S, ρ, sm, er, PostS.ofR q er fun α1 H1 d S1 v e1 s1 r1 q1 => ?_⟩
  split at q1
  · rename_i ρ' hf
    exact ⟨α1, S1, ρ, d, ρ', s1, er.ext e1, r1, hf, fun σ' _ er' => q1 α1 H1 σ' (Ext.refl _ _ _) s1 er'⟩
  · exact q1.elim
theorem pd_set {k : Nat} {G : GT} {N : List Str} {sc : Scope} {lq : Option Str} {i : Nat} {x : Str} {pos' : Pos} (xo : XOk P k G N sc lq W X) (hN : N[i]? = some x) (hst : stoB sc x = true) (he : PE X e (tE P W m)) (hs : notComp e = true) : PS X (.Assign [.Name x pos'] e pos) (tS P W (sAsg m (gN i))) := by
  obtain ⟨h1, h2⟩ := xo.sto x hst
  refine PS.imp (ps_set (by rw [xo.hN]; exact xo.nd) (by rw [xo.hN]; exact hN) h1 he (swaps_no hs _ _ _) h2) fun D σ H q => ?_
  obtain ⟨α, S, ρ, sm, er, q⟩ := q
  exact ⟨α, S, ρ, sm, er, PostS.ofR q er fun α1 H1 d S1 v e1 s1 r1 q1 => q1 α1 H1 _ (Ext.refl _ _ _) s1 ((er.ext e1).set r1)⟩
def notTup : Expr → Bool
  | .Tuple _ _ _ => false
  | .List _ _ => false
  | _ => true
theorem swapped_no {tg : Expr} (h : notTup e = true) (env : Env) : swappedStores [tg] e env = pure none := by
  unfold swappedStores
  cases e <;> first | (cases tg <;> rfl) | cases h
/-- a, b = a call's tuple -/
theorem pd_asg {tg : Expr} {is : List Nat} {f : D → Ev → Option Ev} (he : PE X e (tE P W m)) (hg : PG X tg (tG P is f)) (hs : notComp e = true) (ht : notTup e = true) (hn : notStar tg = true) : PS X (.Assign [tg] e pos) (tS P W (sAsg m f)) :=
  PS.imp (ps_asg he hg (sole_no hs _ _ _) (swapped_no ht _) (by rw [tgt_ok hn]; rfl)) fun _ _ _ => asg_sound
/-- a, b = x, y -/
def sPar (m : MA) (i j : Nat) : MS := fun ρ S => ofR (m ρ S) ρ fun ds S1 => match ds with | [d, e] => .nx ((ρ.set i (some d)).set j (some e)) S1 | _ => .bad
theorem pd_par {k : Nat} {G : GT} {N : List Str} {sc : Scope} {lq : Option Str} {i j : Nat} {x y : Str} {a b : Expr} {px py pt : Pos} {kt k2 : Nat} {pt2 : Pos} {ma : MA} (xo : XOk P k G N sc lq W X) (hN : N[i]? = some x) (hN2 : N[j]? = some y) (hij : i ≠ j) (hx : sc.names.lookup x = some .local) (hy : sc.names.lookup y = some .local) (ha : PA X [a, b] (tA P W ma))
    (hw : swappedStores [.Tuple [.Name x px, .Name y py] kt pt] (.Tuple [a, b] k2 pt2) X.env = pure (some [x, y])) :
    PS X (.Assign [.Tuple [.Name x px, .Name y py] kt pt] (.Tuple [a, b] k2 pt2) pos) (tS P W (sPar ma i j)) := by
  refine PS.imp (ps_par xo.calm (by rw [xo.hN]; exact xo.nd) (by rw [xo.hN]; exact hN) (by rw [xo.hN]; exact hN2) hij (xo.loc x hx) (xo.loc y hy) ha hw) fun D σ H ⟨α, S, ρ, sm, er, q⟩ => ?_
  refine ⟨α, S, ρ, sm, er, PostS.ofR q er fun α1 H1 ds S1 v e1 s1 r1 q1 => ?_⟩
  split at q1
  · rename_i d e
    obtain ⟨u, r, rfl, h1, w, r', rfl, h2, h3⟩ := r1
    have h3 : r' = [] := h3
    subst h3
    exact ⟨u, w, rfl, q1 α1 H1 _ (Ext.refl _ _ _) s1 (((er.ext e1).set h1).set h2)⟩
  · exact q1.elim
def sPar3 (m : MA) (i j l : Nat) : MS := fun ρ S => ofR (m ρ S) ρ fun ds S1 => match ds with | [d, e, f] => .nx (((ρ.set i (some d)).set j (some e)).set l (some f)) S1 | _ => .bad
theorem pd_par3 {k : Nat} {G : GT} {N : List Str} {sc : Scope} {lq : Option Str} {i j l : Nat} {x y z : Str} {a b c : Expr} {px py pz pt : Pos} {kt k2 : Nat} {pt2 : Pos} {ma : MA} (xo : XOk P k G N sc lq W X) (hN : N[i]? = some x) (hN2 : N[j]? = some y) (hN3 : N[l]? = some z) (hij : i ≠ j) (hil : i ≠ l) (hjl : j ≠ l)
    (hx : sc.names.lookup x = some .local) (hy : sc.names.lookup y = some .local) (hz : sc.names.lookup z = some .local) (ha : PA X [a, b, c] (tA P W ma))
    (hw : swappedStores [.Tuple [.Name x px, .Name y py, .Name z pz] kt pt] (.Tuple [a, b, c] k2 pt2) X.env = pure (some [x, y, z])) :
    PS X (.Assign [.Tuple [.Name x px, .Name y py, .Name z pz] kt pt] (.Tuple [a, b, c] k2 pt2) pos) (tS P W (sPar3 ma i j l)) := by
  refine PS.imp (ps_par3 xo.calm (by rw [xo.hN]; exact xo.nd) (by rw [xo.hN]; exact hN) (by rw [xo.hN]; exact hN2) (by rw [xo.hN]; exact hN3) hij hil hjl (xo.loc x hx) (xo.loc y hy) (xo.loc z hz) ha hw) fun D σ H ⟨α, S, ρ, sm, er, q⟩ => ?_
  refine ⟨α, S, ρ, sm, er, PostS.ofR q er fun α1 H1 ds S1 v e1 s1 r1 q1 => ?_⟩
  split at q1
  · rename_i d e f
    obtain ⟨u, r, rfl, h1, w, r', rfl, h2, u3, r'', rfl, h3, h4⟩ := r1
    have h4 : r'' = [] := h4
    subst h4
    exact ⟨u, w, u3, rfl, q1 α1 H1 _ (Ext.refl _ _ _) s1 ((((er.ext e1).set h1).set h2).set h3)⟩
  · exact q1.elim
/-- o[i] = e, of a list -/
def putD (o i d : D) (S : Sto) : Option Sto := if noClo d = false then none else match o, i with
  | .ref n, .int j => match S[n]? with
    | some (.lst ds) => match ixN ds.length j with
      | some q => some (S.set n (.lst (ds.set q d)))
      | none => none
    | none => none
  | _, _ => none
def sPut (m mo mi : ME) : MS := fun ρ S => ofR (m ρ S) ρ fun d S1 => ofR (mo ρ S1) ρ fun o S2 => ofR (mi ρ S2) ρ fun i S3 => match putD o i d S3 with | some S4 => .nx ρ S4 | none => .bad
theorem pd_put {o i : Expr} {mo mi : ME} {p2 : Pos} (he : PE X e (tE P W m)) (ho : PE X o (tE P W mo)) (hi : PE X i (tE P W mi)) (hs : notComp e = true) (ht : notTup e = true) (hsl : notSlice i = true) : PS X (.Assign [.Subscript o i p2] e pos) (tS P W (sPut m mo mi)) := by
  refine PS.imp (ps_asg he (pg_sub ho hi set_list (by intro v; cases i <;> first | rfl | cases hsl)) (sole_no hs _ _ _) (swapped_no ht _) rfl) fun D σ H ⟨α, S, ρ, sm, er, q⟩ => ?_
  refine ⟨α, S, ρ, sm, er, PostS.ofR q er fun α1 H1 d S1 v e1 s1 r1 q1 => ?_⟩
  refine ⟨α1, S1, ρ, s1, er.ext e1, PostS.ofR q1 (er.ext e1) fun α2 H2 o S2 w e2 s2 r2 q2 => ?_⟩
  refine ⟨α2, S2, ρ, s2, (er.ext e1).ext e2, PostS.ofR q2 ((er.ext e1).ext e2) fun α3 H3 i S3 u e3 s3 r3 q3 => ?_⟩
  split at q3
  · rename_i S4 h4
    unfold putD at h4
    split at h4
    · cases h4
    rename_i hnc
    have hnc : noClo d = true := by simpa using hnc
    split at h4
    · rename_i n j
      split at h4
      · rename_i ds hd
        split at h4
        · rename_i qq hq
          cases h4
          obtain ⟨a, ha, rfl⟩ := rep_ref.mp (r2.ext e3)
          obtain ⟨vs, g1, g2⟩ := s3.at_ n a _ ha hd
          have hm : a ∈ α3 := List.mem_of_getElem? ha
          refine ⟨a, vs, j, qq, rfl, rep_int.mp r3, g1, by rw [← g2.len]; exact hq, ?_⟩
          exact q3 α3 _ σ (Ext.write g1 hm) (s3.write ha hd (g2.set (((r1.ext e2).ext e3).z hnc))) ((((er.ext e1).ext e2).ext e3).ext (Ext.write g1 hm))
        · cases h4
      · cases h4
    · cases h4
  · exact q3.elim
/-! ### while -/
def whS (t : MT) (b : MS) : Nat → MS
  | 0, _, _ => .bad
  | n + 1, ρ, S => ofR (t ρ S) ρ fun k S1 => if k = true then (match b ρ S1 with
      | .nx ρ' S' => whS t b n ρ' S'
      | .ct ρ' S' => whS t b n ρ' S'
      | .bk ρ' S' => .nx ρ' S'
      | r => r) else .nx ρ S1
theorem pd_while {body : List Stmt} (fuel : Nat) (hp : PassesOwn (model X.prog X.w) X.A X.env X.xe) (hc : PT X c (tB P W t)) (hb : PSs X body (tS P W b)) : PS X (.While c body [] pos) (tS P W (whS t b fuel)) := by
  refine PS.imp (ps_while hp hc hb) fun D σ H ⟨α, S, ρ, sm, er, q⟩ => ?_
  refine ⟨fun n σ H => ∃ α S ρ, Sim P α S H ∧ ERep P α H ρ σ ∧ PostS P W (whS t b n ρ S) α H D, ⟨fuel, α, S, ρ, sm, er, q⟩, ?_⟩
  rintro n σ H ⟨α, S, ρ, sm, er, q⟩
  cases n with
  | zero => exact q.elim
  | succ n =>
    refine ⟨α, S, ρ, sm, er, PostS.ofR q er fun α1 H1 k S1 v e1 s1 r1 q1 => ?_⟩
    cases r1
    cases k with
    | false => rw [if_neg (by decide)] at q1 ⊢; exact q1 α1 H1 σ (Ext.refl _ _ _) s1 (er.ext e1)
    | true =>
      rw [if_pos rfl] at q1 ⊢
      refine ⟨fun σ' H' => ∃ α S ρ, Sim P α S H' ∧ ERep P α H' ρ σ' ∧ PostS P W (whS t b n ρ S) α H' D, fun σ' H' h => ⟨n, Nat.lt_succ_self _, h⟩, α1, S1, ρ, s1, er.ext e1, ?_⟩
      cases h : b ρ S1 with
      | nx ρ' S' => rw [h] at q1; exact fun α' H' σ' e s er' => ⟨α', S', ρ', s, er', PostS.ext e q1⟩
      | ct ρ' S' => rw [h] at q1; exact fun α' H' σ' e s er' => ⟨α', S', ρ', s, er', PostS.ext e q1⟩
      | bk ρ' S' => rw [h] at q1; exact q1
      | rt d S' => rw [h] at q1; exact q1
      | exc ρ' c d S' => rw [h] at q1; exact q1
      | bad => rw [h] at q1; exact q1
/-! ### for -/
def forX (nxt : Nat → Sto → Option D) (fin : Nat → Sto → Bool) (f : D → Ev → Option Ev) (b : MS) : Nat → Nat → MS
  | 0, i, ρ, S => if fin i S = true then .nx ρ S else .bad
  | n + 1, i, ρ, S => match nxt i S with
    | some d => match f d ρ with
      | some ρ1 => match b ρ1 S with
        | .nx ρ' S' => forX nxt fin f b n (i + 1) ρ' S'
        | .ct ρ' S' => forX nxt fin f b n (i + 1) ρ' S'
        | .bk ρ' S' => .nx ρ' S'
        | r => r
      | none => .bad
    | none => .bad
/-- what a loop asks of its iterator -/
structure Walk (P : Pr) (J : It) (nxt : Nat → Sto → Option D) (fin : Nat → Sto → Bool) (good : List Addr → Hp → Prop) : Prop where
  ext : ∀ {α H α' H'}, Stay P.K α H α' H' → good α H → good α' H'
  stop : ∀ {i α S H}, good α H → Sim P α S H → fin i S = true → J.stop i H
  go : ∀ {i α S H d}, good α H → Sim P α S H → nxt i S = some d → J.go i H
  yld : ∀ {i α S H d x H'}, good α H → Sim P α S H → nxt i S = some d → J.yld i H x H' → H' = H ∧ Rep P α H d x
theorem for_sound {nxt : Nat → Sto → Option D} {fin : Nat → Sto → Bool} {good : List Addr → Hp → Prop} {is : List Nat} {f : D → Ev → Option Ev} {J : It} (wk : Walk P J nxt fin good) {D : Ends} {n : Nat} {α : List Addr} {S : Sto} {ρ : Ev} {σ : St} {H : Hp}
    (sm : Sim P α S H) (er : ERep P α H ρ σ) (gd : good α H) (q : PostS P W (forX nxt fin f b n 0 ρ S) α H D) :
    ∃ Wi : Nat → Nat → St → Hp → Prop, (∃ m, Wi 0 m σ H) ∧ ∀ i m σ H, Wi i m σ H →
      (J.stop i H ∧ D.nx σ H) ∨ (J.go i H ∧ ∃ N : St → Hp → Prop, (∀ σ' H', N σ' H' → ∃ m', m' < m ∧ Wi (i + 1) m' σ' H') ∧ ∀ x H', J.yld i H x H' → tG P is f x σ H' fun σ2 H2 => tS P W b { D with nx := N, ct := N, bk := D.nx } σ2 H2) := by
  refine ⟨fun i m σ H => ∃ α S ρ, Sim P α S H ∧ ERep P α H ρ σ ∧ good α H ∧ PostS P W (forX nxt fin f b m i ρ S) α H D, ⟨n, α, S, ρ, sm, er, gd, q⟩, ?_⟩
  rintro i m σ H ⟨α, S, ρ, sm, er, gd, q⟩
  cases m with
  | zero =>
    unfold forX at q
    split at q
    · rename_i hf
      exact .inl ⟨wk.stop gd sm hf, q α H σ (Ext.refl _ _ _) sm er⟩
    · exact q.elim
  | succ m =>
    unfold forX at q
    split at q
    · rename_i d hd
      split at q
      · rename_i ρ1 hf
        refine .inr ⟨wk.go gd sm hd, fun σ' H' => ∃ α S ρ, Sim P α S H' ∧ ERep P α H' ρ σ' ∧ good α H' ∧ PostS P W (forX nxt fin f b m (i + 1) ρ S) α H' D, fun σ' H' h => ⟨m, Nat.lt_succ_self _, h⟩, fun x H' y => ?_⟩
        obtain ⟨rfl, r⟩ := wk.yld gd sm hd y
        refine ⟨α, S, ρ, d, ρ1, sm, er, r, hf, fun σ' _ er' => ⟨α, S, ρ1, sm, er', ?_⟩⟩
        cases h : b ρ1 S with
        | nx ρ' S' => rw [h] at q; exact fun α' H' σ' e s er' => ⟨α', S', ρ', s, er', wk.ext e.stay gd, PostS.ext e q⟩
        | ct ρ' S' => rw [h] at q; exact fun α' H' σ' e s er' => ⟨α', S', ρ', s, er', wk.ext e.stay gd, PostS.ext e q⟩
        | bk ρ' S' => rw [h] at q; exact q
        | rt d S' => rw [h] at q; exact q
        | exc ρ' c d S' => rw [h] at q; exact q
        | bad => rw [h] at q; exact q
      · exact q.elim
    · exact q.elim
/-- a range -/
def rgNxt (lo : Int) (n : Nat) : Nat → Sto → Option D := fun i _ => if i < n then some (.int (lo + (i : Nat))) else none
def rgFin (n : Nat) : Nat → Sto → Bool := fun i _ => decide (n ≤ i)
theorem walk_rg (lo : Int) (n : Nat) : Walk P (Itr lo n) (rgNxt lo n) (rgFin n) (fun _ _ => True) where
  ext := fun _ _ => trivial
  stop := fun {i α S H} _ _ h => by unfold rgFin at h; exact (of_decide_eq_true h : n ≤ i)
  go := fun {i α S H d} _ _ h => by
    unfold rgNxt at h
    split at h
    · assumption
    · cases h
  yld := fun {i α S H d x H'} _ _ h y => by
    obtain ⟨rfl, rfl⟩ := y
    unfold rgNxt at h
    split at h
    · cases h; exact ⟨rfl, rep_int.mpr rfl⟩
    · cases h
/-- a tuple, a list that stays -/
def sqNxt (ds : List D) : Nat → Sto → Option D := fun i _ => ds[i]?
def sqFin (ds : List D) : Nat → Sto → Bool := fun i _ => decide (ds.length ≤ i)
theorem walk_tup (a : Addr) (ds : List D) : Walk P (Itt P.K a) (sqNxt ds) (sqFin ds) (fun α H => ∃ vs, SqT P.K H a vs ∧ Reps P α H ds vs) where
  ext := fun e ⟨vs, h1, h2⟩ => ⟨vs, e.sq _ _ h1, Reps.stay e h2⟩
  stop := fun ⟨vs, h1, h2⟩ _ h => ⟨vs, h1, by rw [← h2.len]; exact of_decide_eq_true h⟩
  go := fun ⟨vs, h1, h2⟩ _ h => let ⟨v, q, _⟩ := h2.get h; ⟨vs, v, h1, q⟩
  yld := fun {i α S H d x H'} ⟨vs, h1, h2⟩ _ h y => by
    obtain ⟨rfl, y⟩ := y
    obtain ⟨v, q, r⟩ := h2.get h
    have := y vs h1
    rw [q] at this
    cases this
    exact ⟨rfl, r.up⟩
theorem walk_scr (a : Addr) (is : List Int) : Walk P (Itl P.K a) (sqNxt (is.map .int)) (sqFin (is.map .int)) (fun α H => SqF P.K H a (is.map V.int)) where
  ext := fun e h => h.imp (fun ⟨o, q⟩ => ⟨o, e.frzs a o _ q⟩) id
  stop := fun h1 _ h => ⟨_, h1.sq, by have := of_decide_eq_true h; simpa using this⟩
  go := fun {i α S H d} h1 _ h => by
    obtain ⟨v, q, _⟩ := (reps_ints (P := P) (α := α) (H := H) is).get h
    exact ⟨_, v, h1.sq, q⟩
  yld := fun {i α S H d x H'} h1 _ h y => by
    obtain ⟨rfl, y⟩ := y
    obtain ⟨v, q, r⟩ := (reps_ints (P := P) (α := α) (H := H') is).get h
    have := y _ h1.sq
    rw [q] at this
    cases this
    exact ⟨rfl, r.up⟩
/-- a list by its place, of a length that stays -/
def lsNxt (n len : Nat) : Nat → Sto → Option D := fun i S => match S[n]? with
  | some (.lst ds) => if ds.length = len then ds[i]? else none
  | none => none
def lsFin (n len : Nat) : Nat → Sto → Bool := fun i S => match S[n]? with
  | some (.lst ds) => decide (ds.length = len) && decide (len ≤ i)
  | none => false
theorem walk_lst (a : Addr) (n len : Nat) : Walk P (Itl P.K a) (lsNxt n len) (lsFin n len) (fun α H => α[n]? = some a) where
  ext := fun e h => by
    obtain ⟨β, q⟩ := e.pre
    rw [q, List.getElem?_append_left (List.getElem?_eq_some_iff.mp h).1]; exact h
  stop := fun {i α S H} h1 sm h => by
    unfold lsFin at h
    split at h
    · rename_i ds hd
      rw [Bool.and_eq_true] at h
      obtain ⟨vs, q1, q2⟩ := sm.at_ n a _ h1 hd
      refine ⟨vs, .of q1, ?_⟩
      rw [← q2.len, of_decide_eq_true h.1]
      exact of_decide_eq_true h.2
    · cases h
  go := fun {i α S H d} h1 sm h => by
    unfold lsNxt at h
    split at h
    · rename_i ds hd
      split at h
      · obtain ⟨vs, q1, q2⟩ := sm.at_ n a _ h1 hd
        obtain ⟨v, q, _⟩ := q2.get h
        exact ⟨vs, v, .of q1, q⟩
      · cases h
    · cases h
  yld := fun {i α S H d x H'} h1 sm h y => by
    obtain ⟨rfl, y⟩ := y
    unfold lsNxt at h
    split at h
    · rename_i ds hd
      split at h
      · obtain ⟨vs, q1, q2⟩ := sm.at_ n a _ h1 hd
        obtain ⟨v, q, r⟩ := q2.get h
        have := y vs (.of q1)
        rw [q] at this
        cases this
        exact ⟨rfl, r.up⟩
      · cases h
    · cases h
/-- for .. in a value: tuple, list, script -/
def forV (f : D → Ev → Option Ev) (b : MS) (d : D) : MS := fun ρ S => match d with
  | .tup ds => forX (sqNxt ds) (sqFin ds) f b ds.length 0 ρ S
  | .scr is => forX (sqNxt (is.map .int)) (sqFin (is.map .int)) f b is.length 0 ρ S
  | .ref n => match S[n]? with
    | some (.lst ds) => forX (lsNxt n ds.length) (lsFin n ds.length) f b ds.length 0 ρ S
    | none => .bad
  | _ => .bad
def sFor (f : D → Ev → Option Ev) (m : ME) (b : MS) : MS := fun ρ S => ofR (m ρ S) ρ fun d S1 => forV f b d ρ S1
theorem PI.or {tg : Expr} {t u : TI} (h1 : PI X tg e t) (h2 : PI X tg e u) : PI X tg e (fun σ H R => t σ H R ∨ u σ H R) :=
  ⟨fun pins s σ H R I q => q.elim (h1.run pins s σ H R I) (h2.run pins s σ H R I)⟩
theorem PI.imp {tg : Expr} {t u : TI} (h : PI X tg e t) (k : ∀ σ H R, u σ H R → t σ H R) : PI X tg e u := ⟨fun pins s σ H R I q => h.run pins s σ H R I (k σ H R q)⟩
def notSetE : Expr → Bool
  | .Set _ _ _ => false
  | _ => true
theorem folded_no (h : notSetE e = true) (env : Env) : ∀ x, foldedSetIterable e env x = pure x := by
  intro x
  cases e <;> first | rfl | cases h
theorem pd_for {tg : Expr} {body : List Stmt} {is : List Nat} {f : D → Ev → Option Ev} (hK : X.K = P.K) (hp : PassesOwn (model X.prog X.w) X.A X.env X.xe) (hc : X.calm = true) (he : PE X e (tE P W m)) (hg : PG X tg (tG P is f)) (hb : PSs X body (tS P W b)) (hs : notSetE e = true) :
    PS X (.For tg e body [] pos) (tS P W (sFor f m b)) := by
  refine PS.imp (ps_for hp hc (PI.or (pi_list he) (pi_tup he)) hg hb (folded_no hs _)) fun D σ H ⟨α, S, ρ, sm, er, q⟩ => ?_
  have lft : ∀ (lst : ∀ d S1, m ρ S = .ok d S1 → ∀ ds, d ≠ .tup ds), iList X.K (tE P W m) σ H fun J H1 => ∃ Wi : Nat → Nat → St → Hp → Prop, (∃ m, Wi 0 m σ H1) ∧ ∀ i m σ H, Wi i m σ H →
      (J.stop i H ∧ D.nx σ H) ∨ (J.go i H ∧ ∃ N : St → Hp → Prop, (∀ σ' H', N σ' H' → ∃ m', m' < m ∧ Wi (i + 1) m' σ' H') ∧ ∀ x H', J.yld i H x H' → tG P is f x σ H' fun σ2 H2 => tS P W b { D with nx := N, ct := N, bk := D.nx } σ2 H2) := fun lst => by
    refine ⟨α, S, ρ, sm, er, ?_⟩
    cases hm : m ρ S with
    | bad => unfold sFor at q; rw [hm] at q; exact q.elim
    | exc c d S1 =>
      unfold sFor at q; rw [hm] at q
      exact fun α' H' C dx e s z => q α' H' σ C dx e s (er.ext e) z
    | ok d S1 =>
      unfold sFor at q; rw [hm] at q
      intro α1 H1 v e1 s1 r1
      have q := PostS.ext e1 q
      have hd := lst d S1 hm
      simp only [ofR, forV] at q
      split at q
      · exact absurd rfl (hd _)
      · rename_i js _
        obtain ⟨a, rfl, h1⟩ := rep_scr.mp r1
        refine ⟨a, rfl, ⟨_, by rw [hK]; exact h1.sq⟩, ?_⟩
        rw [hK]
        exact for_sound (walk_scr a js) s1 (er.ext e1) h1 q
      · rename_i n _
        split at q
        · rename_i ds hds
          obtain ⟨a, h1, rfl⟩ := rep_ref.mp r1
          obtain ⟨vs, g1, g2⟩ := s1.at_ n a _ h1 hds
          refine ⟨a, rfl, ⟨_, .of g1⟩, ?_⟩
          rw [hK]
          exact for_sound (walk_lst a n ds.length) s1 (er.ext e1) h1 q
        · exact q.elim
      · exact q.elim
  by_cases hd : ∃ ds S1, m ρ S = .ok (.tup ds) S1
  · obtain ⟨ds, S1, hm⟩ := hd
    refine .inr ⟨α, S, ρ, sm, er, ?_⟩
    unfold sFor at q
    rw [hm] at q ⊢
    intro α1 H1 v e1 s1 r1
    have q := PostS.ext e1 q
    obtain ⟨a, vs, rfl, h1, h2⟩ := rep_tup.mp r1
    refine ⟨a, rfl, ⟨_, by rw [hK]; exact h1⟩, ?_⟩
    rw [hK]
    exact for_sound (walk_tup a ds) s1 (er.ext e1) ⟨vs, h1, h2⟩ q
  · exact .inl (lft fun d S1 hm ds z => hd ⟨ds, S1, by rw [hm, z]⟩)
/-- for .. in range(..) -/
def rngD (ds : List D) : Option (Int × Int) := match ds with
  | [.int j] => if -(2 ^ 62) ≤ j ∧ j < 2 ^ 62 then some (0, j) else none
  | [.int i, .int j] => if (-(2 ^ 62) ≤ i ∧ i < 2 ^ 62) ∧ -(2 ^ 62) ≤ j ∧ j < 2 ^ 62 then some (i, j) else none
  | _ => none
def sForR (f : D → Ev → Option Ev) (m : MA) (b : MS) : MS := fun ρ S => ofR (m ρ S) ρ fun ds S1 => match rngD ds with
  | some (lo, hi) => forX (rgNxt lo (hi - lo).toNat) (rgFin (hi - lo).toNat) f b (hi - lo).toNat 0 ρ S1
  | none => .bad
theorem pd_forR1 {tg a : Expr} {p1 p2 : Pos} {body : List Stmt} {is : List Nat} {f : D → Ev → Option Ev} {ma : MA} (hp : PassesOwn (model X.prog X.w) X.A X.env X.xe) (hc : X.calm = true) (hgl : Gl X "range") (hm : X.mg "range" = none) (ha : PA X [a] (tA P W ma)) (hg : PG X tg (tG P is f)) (hb : PSs X body (tS P W b))
    (hs : notStar a = true) (h1 : ∀ S ρ ds S', ma ρ S = .ok ds S' → ds.length = 1) : PS X (.For tg (.Call (.Name "range" p1) [a] [] p2) body [] pos) (tS P W (sForR f ma b)) := by
  refine PS.imp (ps_for hp hc (pi_range1 hgl hm ha (star_ok hs _)) hg hb (by intro _; rfl)) fun D σ H ⟨α, S, ρ, sm, er, q⟩ => ?_
  refine ⟨α, S, ρ, sm, er, ?_⟩
  have h1' := h1 S ρ
  unfold sForR at q
  cases hm : ma ρ S with
  | bad => rw [hm] at q; exact q.elim
  | exc c d S1 => rw [hm] at q; exact fun α' H' C dx e s z => q α' H' σ C dx e s (er.ext e) z
  | ok ds S1 =>
    rw [hm] at q
    intro α1 H1 vs e1 s1 r1
    have q := PostS.ext e1 q
    have hl := h1' ds S1 hm
    match ds, hl with
    | [d], _ =>
      simp only [ofR] at q
      cases d <;> simp only [rngD] at q <;> try exact q.elim
      rename_i j
      split at q
      · rename_i lo hi hr
        split at hr
        · rename_i hj
          cases hr
          obtain ⟨v, r, rfl, g1, g2⟩ := r1
          have g2 : r = [] := g2
          subst g2
          rw [rep_int] at g1
          subst g1
          refine ⟨_, rfl, hj.1, hj.2, ?_⟩
          rw [Int.sub_zero] at q
          exact for_sound (walk_rg 0 _) s1 (er.ext e1) trivial q
        · cases hr
      · exact q.elim
theorem pd_forR2 {tg a a2 : Expr} {p1 p2 : Pos} {body : List Stmt} {is : List Nat} {f : D → Ev → Option Ev} {ma : MA} (hp : PassesOwn (model X.prog X.w) X.A X.env X.xe) (hc : X.calm = true) (hgl : Gl X "range") (hm : X.mg "range" = none) (ha : PA X [a, a2] (tA P W ma)) (hg : PG X tg (tG P is f)) (hb : PSs X body (tS P W b))
    (hs : notStar a = true) (hs2 : notStar a2 = true) (h1 : ∀ S ρ ds S', ma ρ S = .ok ds S' → ds.length = 2) : PS X (.For tg (.Call (.Name "range" p1) [a, a2] [] p2) body [] pos) (tS P W (sForR f ma b)) := by
  refine PS.imp (ps_for hp hc (pi_range2 hgl hm ha (by rw [star_ok hs, star_ok hs2]; rfl) (star_ok hs2 _)) hg hb (by intro _; rfl)) fun D σ H ⟨α, S, ρ, sm, er, q⟩ => ?_
  refine ⟨α, S, ρ, sm, er, ?_⟩
  have h1' := h1 S ρ
  unfold sForR at q
  cases hm : ma ρ S with
  | bad => rw [hm] at q; exact q.elim
  | exc c d S1 => rw [hm] at q; exact fun α' H' C dx e s z => q α' H' σ C dx e s (er.ext e) z
  | ok ds S1 =>
    rw [hm] at q
    intro α1 H1 vs e1 s1 r1
    have q := PostS.ext e1 q
    have hl := h1' ds S1 hm
    match ds, hl with
    | [d, d2], _ =>
      simp only [ofR] at q
      cases d <;> simp only [rngD] at q <;> try exact q.elim
      rename_i i
      cases d2 <;> simp only [rngD] at q <;> try exact q.elim
      rename_i j
      split at q
      · rename_i lo hi hr
        split at hr
        · rename_i hj
          cases hr
          obtain ⟨v, r, rfl, g1, u, r', rfl, g2, g3⟩ := r1
          have g3 : r' = [] := g3
          subst g3
          rw [rep_int] at g1 g2
          subst g1; subst g2
          refine ⟨_, _, rfl, ⟨hj.1.1, hj.1.2, hj.2.1, hj.2.2⟩, ?_⟩
          exact for_sound (walk_rg _ _) s1 (er.ext e1) trivial q
        · cases hr
      · exact q.elim
theorem cons_len {ma : ME} {mr : MA} {n : Nat} (h : ∀ S ρ ds S', mr ρ S = .ok ds S' → ds.length = n) : ∀ S ρ ds S', mCons ma mr ρ S = .ok ds S' → ds.length = n + 1 := by
  intro S ρ ds S' e
  unfold mCons at e
  cases h1 : ma ρ S with
  | ok d S1 =>
    rw [h1] at e
    simp only [R.bind] at e
    cases h2 : mr ρ S1 with
    | ok ds2 S2 =>
      rw [h2] at e
      cases e
      simp [h _ _ _ _ h2]
    | exc c d S2 => rw [h2] at e; cases e
    | bad => rw [h2] at e; cases e
  | exc c d S1 => rw [h1] at e; cases e
  | bad => rw [h1] at e; cases e
theorem nil_len : ∀ S ρ ds S', mNil ρ S = .ok ds S' → ds.length = 0 := by
  intro S ρ ds S' e
  cases e; rfl
end
end Vi
set_option Elab.async false
set_option linter.all false
set_option maxRecDepth 100000
/-! Comprehensions of one for. -/
namespace Vi
open PySem L2
/-- errors do not leave a comprehension here -/
def R.nox {β : Type} : R β → R β
  | .ok b S => .ok b S
  | _ => .bad
def lcX (nxt : Nat → Sto → Option D) (fin : Nat → Sto → Bool) (f : D → Ev → Option Ev) (tt : MT) (te : ME) : Nat → Nat → List D → Ev → Sto → R (List D)
  | 0, i, acc, _, S => if fin i S = true then .ok acc S else .bad
  | n + 1, i, acc, ρ, S => match nxt i S with
    | some d => match f d ρ with
      | some ρ1 => (tt ρ1 S).nox.bind fun k S1 => if k = true then (te ρ1 S1).nox.bind fun y S2 => if acc.length < sizeLine ∧ noClo y = true then lcX nxt fin f tt te n (i + 1) (acc ++ [y]) ρ S2 else .bad else lcX nxt fin f tt te n (i + 1) acc ρ S1
      | none => .bad
    | none => .bad
def lstO (ds : List D) (S : Sto) : R D := .ok (.ref S.length) (S ++ [.lst ds])
section
variable {P : Pr} {W : WX} {tt : MT} {te : ME}
theorem Post.nox {β γ : Type} {rel : List Addr → Hp → β → γ → Prop} {W : XK} {r : R β} {α : List Addr} {H : Hp} {Q : γ → Hp → Prop} {W' : XK} (h : Post P rel W r.nox α H Q) : Post P rel W' r α H Q := by
  cases r with
  | ok b S => exact h
  | exc c d S => exact h.elim
  | bad => exact h
theorem Post.nbind {β γ δ ε : Type} {rel : List Addr → Hp → β → γ → Prop} {rel2 : List Addr → Hp → δ → ε → Prop} {W W' : XK} {r : R β} {f : β → Sto → R δ} {α : List Addr} {H : Hp} {Q : ε → Hp → Prop} {Q1 : γ → Hp → Prop} (h : Post P rel2 W (r.nox.bind f) α H Q)
    (k : ∀ α1 H1 b S1 g, Ext P.K α H α1 H1 → Sim P α1 S1 H1 → rel α1 H1 b g → Post P rel2 W (f b S1) α1 H1 Q → Q1 g H1) : Post P rel W' r α H Q1 := by
  cases r with
  | ok b S => exact fun α' H' g e s q => k α' H' b S g e s q (Post.ext e h)
  | exc c d S => exact h.elim
  | bad => exact h
/-- the accumulator is written: what ours lean on stands -/
theorem Stay.acc {K : PySem.W.Frag} {α : List Addr} {H : Hp} {p : Addr} {xs ys : List V} (hp : H p = some (.lst xs)) : Stay K α H α (upd H p (.lst ys)) := by
  have ne : ∀ {a o}, H a = some o → (∀ xs, o ≠ .lst xs) → a ≠ p := fun h n z => by
    rw [z, hp] at h
    cases h
    exact n _ rfl
  refine ⟨⟨[], by simp⟩, fun a vs h => ?_, fun a C dx n h => ⟨by rw [upd_ne (ne h (fun _ z => by cases z))]; exact h, n⟩, fun a fs n h => ⟨by rw [upd_ne (ne h (fun _ z => by cases z))]; exact h, n⟩, fun a o u h => by rw [upd_ne (ne h (fun _ z => by cases z))]; exact h⟩
  rcases h with h | h
  · left
    obtain ⟨o, e, q⟩ := Rd.some h
    unfold Rd
    rw [upd_ne (ne e (fun _ z => by rcases q with q | ⟨_, q⟩ <;> rw [q] at z <;> cases z))]
    exact h
  · exact .inr h
theorem Sim.acc {α : List Addr} {S : Sto} {H : Hp} {p : Addr} {xs ys : List V} (s : Sim P α S H) (np : p ∉ α) (hp : H p = some (.lst xs)) : Sim P α S (upd H p (.lst ys)) := by
  refine ⟨s.len, s.nd, fun n a mo h1 h2 => ?_, tabs_stay s.tabs fun b o nl h => by
    rw [upd_ne (fun z => ?_)]
    · exact h
    · rw [z, hp] at h
      cases h
      exact nl _ rfl⟩
  have := s.at_ n a mo h1 h2
  cases mo with
  | lst ds =>
    obtain ⟨vs, q, r⟩ := this
    exact ⟨vs, by rw [upd_ne (fun z => np (by rw [← z]; exact List.mem_of_getElem? h1))]; exact q, Reps.stay (Stay.acc hp) r⟩
theorem Ext.updNone {K : PySem.W.Frag} {α1 α : List Addr} {H1 H : Hp} {p : Addr} {o : HO} (e : Ext K α1 H1 α H) (hp : H1 p = none) : Ext K α1 H1 α (upd H p o) := by
  have ne : ∀ {a o'}, H1 a = some o' → a ≠ p := fun h z => by rw [z, hp] at h; cases h
  refine ⟨e.pre, e.new, fun a o' na nt h => by rw [upd_ne (ne h)]; exact e.oth a o' na nt h, fun a vs h => ?_, fun a o' u h => by rw [upd_ne (ne h)]; exact e.frzs a o' u h⟩
  · obtain ⟨o', q, _⟩ := Rd.some h
    have := e.tups a vs h
    unfold Rd at this ⊢
    rw [upd_ne (ne q)]; exact this
/-- at the end the accumulator is ours -/
theorem acc_end {α1 α : List Addr} {S : Sto} {H1 H : Hp} {p : Addr} {ds : List D} {acc : List V} (e : Ext P.K α1 H1 α H) (hp1 : H1 p = none) (s : Sim P α S H) (np : p ∉ α) (hp : H p = some (.lst acc)) (r : Reps P α H ds acc) :
    Ext P.K α1 H1 (α ++ [p]) H ∧ Sim P (α ++ [p]) (S ++ [.lst ds]) H := by
  have st : Stay P.K α H (α ++ [p]) H := ⟨⟨[p], rfl⟩, fun _ _ h => h, fun a C dx n h => ⟨h, fun z => by
    rcases List.mem_append.mp z with z | z
    · exact n z
    · have : a = p := by simpa using z
      rw [this, hp] at h
      cases h⟩, fun a fs n h => ⟨h, fun z => by
    rcases List.mem_append.mp z with z | z
    · exact n z
    · have : a = p := by simpa using z
      rw [this, hp] at h
      cases h⟩, fun _ _ _ h => h⟩
  refine ⟨⟨?_, fun a h => ?_, e.oth, e.tups, e.frzs⟩, ⟨by simp [s.len], ?_, fun n a mo h1 h2 => ?_, s.tabs⟩⟩
  · obtain ⟨β, q⟩ := e.pre
    exact ⟨β ++ [p], by rw [q, List.append_assoc]⟩
  · rcases List.mem_append.mp h with h | h
    · exact e.new a h
    · right; left
      have : a = p := by simpa using h
      rw [this]; exact hp1
  · rw [List.nodup_append]
    refine ⟨s.nd, by simp, fun a ha b hb => ?_⟩
    have : b = p := by simpa using hb
    rw [this]
    intro z
    exact np (by rw [← z]; exact ha)
  · by_cases hn : n < α.length
    · rw [List.getElem?_append_left hn] at h1
      rw [List.getElem?_append_left (by rw [← s.len]; exact hn)] at h2
      have := s.at_ n a mo h1 h2
      cases mo with
      | lst es =>
        obtain ⟨vs, q, r⟩ := this
        exact ⟨vs, q, Reps.stay st r⟩
    · rw [List.getElem?_append_right (by omega)] at h1
      rw [List.getElem?_append_right (by rw [← s.len]; omega)] at h2
      have hz : n - α.length = 0 := by
        have := (List.getElem?_eq_some_iff.mp h1).1
        simp at this; omega
      rw [hz] at h1
      rw [← s.len, hz] at h2
      simp at h1 h2
      subst h1; subst h2
      exact ⟨acc, hp, Reps.stay st r⟩
def wipeE (ρ : Ev) : List Nat → Ev
  | [] => ρ
  | v :: vs => (wipeE ρ vs).set v none
theorem ERep.wipe {α : List Addr} {H : Hp} {ρ : Ev} {σ : St} (h : ERep P α H ρ σ) : ∀ vs : List Nat, ERep P α H (wipeE ρ vs) (L2.wipe σ vs)
  | [] => h
  | v :: vs => (h.wipe vs).unset
theorem wipe_wipe {σ : St} {vs : List Nat} : L2.wipe (L2.wipe σ vs) vs = L2.wipe σ vs := by
  have : ∀ (us : List Nat), (∀ i ∈ us, i ∈ vs) → L2.wipe (L2.wipe σ us) vs = L2.wipe σ vs := by
    intro us
    induction us with
    | nil => intro _; rfl
    | cons u us ih =>
      intro h
      show L2.wipe ((L2.wipe σ us).set u none) vs = _
      rw [wipe_set (h u List.mem_cons_self), ih fun i hi => h i (List.mem_cons_of_mem _ hi)]
  exact this vs fun _ h => h
abbrev WN : WX := fun _ _ _ _ => False
theorem lc_sound {nxt : Nat → Sto → Option D} {fin : Nat → Sto → Bool} {good : List Addr → Hp → Prop} {is vs : List Nat} {f : D → Ev → Option Ev} {J : It} (wk : Walk P J nxt fin good) (hv : ∀ i ∈ is, i ∈ vs) {Wx : XK} {Q : VK} {n : Nat} {α1 : List Addr} {S1 : Sto} {ρ : Ev} {σ : St} {H1 : Hp}
    (sm : Sim P α1 S1 H1) (er : ERep P α1 H1 ρ (L2.wipe σ vs)) (gd : good α1 H1) (q : Post P (Rep P) Wx ((lcX nxt fin f tt te n 0 [] ρ S1).bind lstO) α1 H1 Q) :
    ∀ D, H1 D = none → ∃ Wi : Nat → Nat → Hp → Prop, (∃ m, Wi 0 m (upd H1 D (.lst []))) ∧ ∀ i m H, Wi i m H →
      (J.stop i H ∧ Q (.ref D) H) ∨ (J.go i H ∧ ∃ Nx : Hp → Prop, (∀ H', Nx H' → ∃ m', m' < m ∧ Wi (i + 1) m' H') ∧ ∀ x H', J.yld i H x H' → tG P is f x (L2.wipe σ vs) H' fun σ2 H2 => L2.wipe σ2 vs = L2.wipe σ vs ∧ tB P WN tt σ2 H2 fun b H3 =>
        if b = true then tE P WN te σ2 H3 fun y H4 => ∃ acc, H4 D = some (.lst acc) ∧ acc.length < sizeLine ∧ Nx (upd H4 D (.lst (acc ++ [y]))) else Nx H3) := by
  intro p hp
  have e00 : Ext P.K α1 H1 α1 (upd H1 p (.lst [])) := (Ext.refl _ _ _).updNone hp
  refine ⟨fun i m H => ∃ α S acc ds, Ext P.K α1 H1 α H ∧ Sim P α S H ∧ p ∉ α ∧ H p = some (.lst acc) ∧ Reps P α H ds acc ∧ good α H ∧ Post P (Rep P) Wx ((lcX nxt fin f tt te m i ds ρ S).bind lstO) α1 H1 Q,
    ⟨n, α1, S1, [], [], e00, sm.alloc hp, sm.nin hp, upd_same, by simp [Reps], wk.ext e00.stay gd, q⟩, ?_⟩
  rintro i m H ⟨α, S, acc, ds, e0, s0, np, hD, ra, g0, q⟩
  cases m with
  | zero =>
    unfold lcX at q
    split at q
    · rename_i hf
      obtain ⟨g1, g2⟩ := acc_end e0 hp s0 np hD ra
      exact .inl ⟨wk.stop g0 s0 hf, q _ _ _ g1 g2 (rep_ref.mpr ⟨p, new_ref s0, rfl⟩)⟩
    · exact q.elim
  | succ m =>
    unfold lcX at q
    split at q
    · rename_i d hd
      split at q
      · rename_i ρ1 hf
        refine .inr ⟨wk.go g0 s0 hd, fun H' => ∃ α S acc ds, Ext P.K α1 H1 α H' ∧ Sim P α S H' ∧ p ∉ α ∧ H' p = some (.lst acc) ∧ Reps P α H' ds acc ∧ good α H' ∧ Post P (Rep P) Wx ((lcX nxt fin f tt te m (i + 1) ds ρ S).bind lstO) α1 H1 Q, fun H' h => ⟨m, Nat.lt_succ_self _, h⟩, fun x H' y => ?_⟩
        obtain ⟨rfl, r⟩ := wk.yld g0 s0 hd y
        refine ⟨α, S, ρ, d, ρ1, s0, er.ext e0, r, hf, fun σ' ha er' => ⟨by rw [ha vs hv, wipe_wipe], α, S, ρ1, s0, er', ?_⟩⟩
        cases h1 : tt ρ1 S with
        | bad => rw [h1] at q; exact q.elim
        | exc c d S2 => rw [h1] at q; exact q.elim
        | ok k S2 =>
          rw [h1] at q
          intro α2 H2 k' e2 s2 rk
          cases rk
          obtain ⟨hD2, np2⟩ : H2 p = some (.lst acc) ∧ p ∉ α2 := ⟨e2.oth p _ np (fun _ z => by cases z) hD, e2.nin hD np⟩
          cases k with
          | false =>
            rw [if_neg (by decide)]
            simp only [R.nox, R.bind, if_neg (show ¬ (false = true) by decide)] at q
            exact ⟨α2, S2, acc, ds, e0.trans e2, s2, np2, hD2, Reps.ext e2 ra, wk.ext e2.stay g0, q⟩
          | true =>
            rw [if_pos rfl]
            refine ⟨α2, S2, ρ1, s2, er'.ext e2, ?_⟩
            cases h2 : te ρ1 S2 with
            | bad => simp only [R.nox, R.bind, if_pos (show (true = true) from rfl), h2] at q; exact q.elim
            | exc c d S3 => simp only [R.nox, R.bind, if_pos (show (true = true) from rfl), h2] at q; exact q.elim
            | ok y S3 =>
              have q : Post P (Rep P) Wx ((if ds.length < sizeLine ∧ noClo y = true then lcX nxt fin f tt te m (i + 1) (ds ++ [y]) ρ S3 else R.bad).bind lstO) α1 H1 Q := by
                have q' := q
                simp only [R.nox, R.bind, if_pos (show (true = true) from rfl), h2] at q'
                exact q'
              intro α3 H3 v e3 s3 rv
              obtain ⟨hD3, np3⟩ : H3 p = some (.lst acc) ∧ p ∉ α3 := ⟨e3.oth p _ np2 (fun _ z => by cases z) hD2, e3.nin hD2 np2⟩
              by_cases hl : ds.length < sizeLine ∧ noClo y = true
              · rw [if_pos hl] at q
                have ra3 := Reps.ext e3 (Reps.ext e2 ra)
                refine ⟨acc, hD3, by rw [← ra.len]; exact hl.1, α3, S3, acc ++ [v], ds ++ [y], ((e0.trans e2).trans e3).updNone hp, s3.acc np3 hD3, np3, upd_same, ?_, wk.ext (Stay.acc hD3) (wk.ext e3.stay (wk.ext e2.stay g0)), q⟩
                refine Reps.stay (Stay.acc hD3) (ra3.app ?_)
                simp only [Reps]
                exact ⟨v, [], rfl, rv.z hl.2, rfl⟩
              · rw [if_neg hl] at q; exact q.elim
      · exact q.elim
    · exact q.elim

/-! ### the block -/
def rlF (env : Env) : Str × NameKind → Str × NameKind := fun (n, k) => if (k == NameKind.free && env.scope.kind == .function && env.kindOf n == some .cell) then (n, NameKind.cell) else (n, k)
theorem relab {env : Env} : ∀ {names : List (Str × NameKind)} {x : Str} {k : NameKind}, names.lookup x = some k →
    (k ≠ .free → (names.map (rlF env)).lookup x = some k) ∧ (k = .free → (names.map (rlF env)).lookup x = some .free ∨ (names.map (rlF env)).lookup x = some .cell)
  | [], x, k, h => by cases h
  | (n, q) :: r, x, k, h => by
    have ih := @relab env r x k
    rw [List.lookup_cons] at h
    have e : rlF env (n, q) = if (q == NameKind.free && env.scope.kind == .function && env.kindOf n == some .cell) = true then (n, NameKind.cell) else (n, q) := rfl
    rw [List.map_cons, e]
    by_cases hx : (x == n) = true
    · rw [hx] at h
      cases h
      by_cases hc : (q == NameKind.free && env.scope.kind == .function && env.kindOf n == some .cell) = true
      · have hq : q = .free := by
          rw [Bool.and_eq_true, Bool.and_eq_true] at hc
          exact beq_iff_eq.mp hc.1.1
        rw [if_pos hc, List.lookup_cons, hx]
        exact ⟨fun z => absurd hq z, fun _ => .inr rfl⟩
      · rw [if_neg hc, List.lookup_cons, hx]
        exact ⟨fun _ => rfl, fun z => .inl (by rw [z])⟩
    · have hx' : (x == n) = false := by simpa using hx
      rw [hx'] at h
      by_cases hc : (q == NameKind.free && env.scope.kind == .function && env.kindOf n == some .cell) = true
      · rw [if_pos hc, List.lookup_cons, hx']
        exact ih h
      · rw [if_neg hc, List.lookup_cons, hx']
        exact ih h
variable {k : Nat} {G : GT} {N : List Str} {sc scope : Scope} {lq : Option Str} {X : Cx}
theorem XOk.blk (xo : XOk P k G N sc lq W X) (hk : scope.kind = .function) (s : Shared) (H : Hp) (C : Addr) (cl : List (Str × Addr)) (fp : List Addr) : XOk P k G N scope none WN (X.blk s H scope (compEnvC scope cl C X.env) fp) := by
  have rl : ∀ {x q}, scope.names.lookup x = some q → _ := fun {x q} h => relab (env := X.env) (names := scope.names) (x := x) (k := q) h
  refine ⟨xo.K, xo.mg, xo.hN, xo.nd, xo.calm, L2.takes0, xo.room, xo.gd, xo.fns, xo.st, (fun _ z => by cases z), fun x h => ?_, fun x h => ?_, fun x h => ?_, fun x h => ?_, fun x h => ?_, fun x h => ?_, hk⟩
  · unfold visB at h
    split at h
    · rename_i e; exact .inl ((rl e).1 (by decide))
    · rename_i e; exact .inr (.inl ((rl e).1 (by decide)))
    · rename_i e
      rcases (rl e).2 rfl with z | z
      · exact .inr (.inr z)
      · exact .inr (.inl z)
    · cases h
  · exact (rl h).1 (by decide)
  · unfold stoB at h
    split at h
    · rename_i e; exact ⟨.inl ((rl e).1 (by decide)), .inr ((rl e).1 (by decide))⟩
    · rename_i e; exact ⟨.inr ((rl e).1 (by decide)), .inl (by show (scope.names.lookup x == some .cell) = true; rw [e]; rfl)⟩
    · cases h
  · exact (rl h).1 (by decide)
  · exact (rl h).1 (by decide)
  · rcases h with h | h
    · exact .inl ((rl h).1 (by decide))
    · rcases (rl h).2 rfl with z | z
      · exact .inr z
      · exact .inl z
theorem XOk.blkOk (xo : XOk P k G N sc lq W X) {own : List (Str × Nat)} (h : blkC N sc scope own = true) : BlkOk X.N X.env.scope scope own := by
  have b := blkOk_by h
  refine ⟨b.kind, b.uniq, by rw [xo.hN]; exact b.ix, fun y hy hf => xo.fr _ (b.free y hy hf), by rw [xo.hN]; exact b.own⟩
theorem PTs.imp {ifs : List Expr} {t u : TT} (h : PTs X ifs t) (k : ∀ σ H Q, u σ H Q → t σ H Q) : PTs X ifs u := ⟨fun pins s σ H Q I q => h.run pins s σ H Q I (k σ H Q q)⟩
def mYes : MT := fun _ S => .ok true S
theorem pd_ptnil : PTs X [] (tB P W mYes) := PTs.imp pts_nil fun σ H Q ⟨α, S, ρ, sm, er, q⟩ => q α H true (Ext.refl _ _ _) sm rfl
theorem pd_ptone {c : Expr} {t : MT} (h : PT X c (tB P W t)) : PTs X [c] (tB P W t) := pts_one h
def lcV (f : D → Ev → Option Ev) (tt : MT) (te : ME) (d : D) (ρ : Ev) (S : Sto) : R (List D) := match d with
  | .tup ds => lcX (sqNxt ds) (sqFin ds) f tt te ds.length 0 [] ρ S
  | .scr is => lcX (sqNxt (is.map .int)) (sqFin (is.map .int)) f tt te is.length 0 [] ρ S
  | .ref n => match S[n]? with
    | some (.lst ds) => lcX (lsNxt n ds.length) (lsFin n ds.length) f tt te ds.length 0 [] ρ S
    | none => .bad
  | _ => .bad
def mLc (vs : List Nat) (f : D → Ev → Option Ev) (m : ME) (tt : MT) (te : ME) : ME := fun ρ S => (m ρ S).bind fun d S1 => (lcV f tt te d (wipeE ρ vs) S1).bind lstO
variable {elt tg iter : Expr} {ifs : List Expr} {own : List (Str × Nat)} {pos : Pos} {is : List Nat} {f : D → Ev → Option Ev} {m : ME}
theorem lcV_sound {is vs : List Nat} (hK : X.K = P.K) (hv : ∀ i ∈ is, i ∈ vs) {σ : St} {H : Hp} {Q : VK} (h : tE P W (mLc vs f m tt te) σ H Q) :
    tLc (fun σ H R => iList X.K (tE P W m) σ H R ∨ iTup X.K (tE P W m) σ H R) (tG P is f) (tB P WN tt) (tE P WN te) vs σ H Q := by
  obtain ⟨α, S, ρ, sm, er, q⟩ := h
  by_cases hd : ∃ ds S1, m ρ S = .ok (.tup ds) S1
  · obtain ⟨ds, S1, hm⟩ := hd
    refine .inr ⟨α, S, ρ, sm, er, ?_⟩
    unfold mLc at q
    rw [hm] at q ⊢
    intro α1 H1 v e1 s1 r1
    have q := Post.ext e1 q
    obtain ⟨a, vs', rfl, h1, h2⟩ := rep_tup.mp r1
    refine ⟨a, rfl, ⟨_, by rw [hK]; exact h1⟩, ?_⟩
    rw [hK]
    exact lc_sound (walk_tup a ds) hv s1 ((er.wipe vs).ext e1) ⟨vs', h1, h2⟩ q
  · refine .inl ⟨α, S, ρ, sm, er, ?_⟩
    cases hm : m ρ S with
    | bad => unfold mLc at q; rw [hm] at q; exact q.elim
    | exc c d S1 => unfold mLc at q; rw [hm] at q; exact q
    | ok d S1 =>
      unfold mLc at q; rw [hm] at q
      intro α1 H1 v e1 s1 r1
      have q := Post.ext e1 q
      have hd : ∀ ds, d ≠ .tup ds := fun ds z => hd ⟨ds, S1, by rw [hm, z]⟩
      simp only [R.bind, lcV] at q
      cases d with
      | tup ds => exact absurd rfl (hd _)
      | scr js =>
        obtain ⟨a, rfl, h1⟩ := rep_scr.mp r1
        refine ⟨a, rfl, ⟨_, by rw [hK]; exact h1.sq⟩, ?_⟩
        rw [hK]
        exact lc_sound (walk_scr a js) hv s1 ((er.wipe vs).ext e1) h1 q
      | ref n =>
        cases hds : S1[n]? with
        | none => simp only [hds] at q; exact q.elim
        | some mo =>
          cases mo with
          | lst ds =>
            simp only [hds] at q
            obtain ⟨a, h1, rfl⟩ := rep_ref.mp r1
            obtain ⟨vs', g1, g2⟩ := s1.at_ n a _ h1 hds
            refine ⟨a, rfl, ⟨_, .of g1⟩, ?_⟩
            rw [hK]
            exact lc_sound (walk_lst a n ds.length) hv s1 ((er.wipe vs).ext e1) h1 q
      | _ => exact q.elim
theorem pd_lc (xo : XOk P k G N sc lq W X) (hb : blkC N sc scope own = true) (hv : ∀ i ∈ is, i ∈ own.map (·.2)) (he : PE X iter (tE P W m))
    (hg : ∀ X', XOk P k G N scope none WN X' → PG X' tg (tG P is f)) (ht : ∀ X', XOk P k G N scope none WN X' → PTs X' ifs (tB P WN tt)) (hel : ∀ X', XOk P k G N scope none WN X' → PE X' elt (tE P WN te)) (hs : notSetE iter = true) :
    PE X (.ListComp elt [⟨tg, iter, ifs, 0⟩] scope pos) (tE P W (mLc (own.map (·.2)) f m tt te)) := by
  have ok := xo.blkOk hb
  refine PE.imp (pe_lc xo.calm (by rw [xo.hN]; exact xo.nd) (PI.or (pi_list he) (pi_tup he)) ok (fun s H C cl fp => hg _ (xo.blk ok.kind s H C cl fp)) (fun s H C cl fp => ht _ (xo.blk ok.kind s H C cl fp)) (fun s H C cl fp => hel _ (xo.blk ok.kind s H C cl fp)) (folded_no hs _)) fun σ H Q => lcV_sound xo.K hv
/-- over a range -/
def mLcR (vs : List Nat) (f : D → Ev → Option Ev) (m : MA) (tt : MT) (te : ME) : ME := fun ρ S => (m ρ S).bind fun ds S1 => match rngD ds with
  | some (lo, hi) => (lcX (rgNxt lo (hi - lo).toNat) (rgFin (hi - lo).toNat) f tt te (hi - lo).toNat 0 [] (wipeE ρ vs) S1).bind lstO
  | none => .bad
theorem lcR1_sound {is vs : List Nat} {ma : MA} (hv : ∀ i ∈ is, i ∈ vs) (h1 : ∀ S ρ ds S', ma ρ S = .ok ds S' → ds.length = 1) {σ : St} {H : Hp} {Q : VK} (h : tE P W (mLcR vs f ma tt te) σ H Q) :
    tLc (iRng1 (tA P W ma)) (tG P is f) (tB P WN tt) (tE P WN te) vs σ H Q := by
  obtain ⟨α, S, ρ, sm, er, q⟩ := h
  refine ⟨α, S, ρ, sm, er, ?_⟩
  have h1' := h1 S ρ
  unfold mLcR at q
  cases hm : ma ρ S with
  | bad => rw [hm] at q; exact q.elim
  | exc c d S1 => rw [hm] at q; exact q
  | ok ds S1 =>
    rw [hm] at q
    intro α1 H1 vs' e1 s1 r1
    have q := Post.ext e1 q
    have hl := h1' ds S1 hm
    match ds, hl with
    | [d], _ =>
      simp only [R.bind] at q
      cases d <;> simp only [rngD] at q <;> try exact q.elim
      rename_i j
      split at q
      · rename_i lo hi hr
        split at hr
        · rename_i hj
          cases hr
          obtain ⟨v, r, rfl, g1, g2⟩ := r1
          have g2 : r = [] := g2
          subst g2
          rw [rep_int] at g1
          subst g1
          refine ⟨_, rfl, hj.1, hj.2, ?_⟩
          rw [Int.sub_zero] at q
          exact lc_sound (walk_rg 0 _) hv s1 ((er.wipe vs).ext e1) trivial q
        · cases hr
      · exact q.elim
theorem lcR2_sound {is vs : List Nat} {ma : MA} (hv : ∀ i ∈ is, i ∈ vs) (h1 : ∀ S ρ ds S', ma ρ S = .ok ds S' → ds.length = 2) {σ : St} {H : Hp} {Q : VK} (h : tE P W (mLcR vs f ma tt te) σ H Q) :
    tLc (iRng2 (tA P W ma)) (tG P is f) (tB P WN tt) (tE P WN te) vs σ H Q := by
  obtain ⟨α, S, ρ, sm, er, q⟩ := h
  refine ⟨α, S, ρ, sm, er, ?_⟩
  have h1' := h1 S ρ
  unfold mLcR at q
  cases hm : ma ρ S with
  | bad => rw [hm] at q; exact q.elim
  | exc c d S1 => rw [hm] at q; exact q
  | ok ds S1 =>
    rw [hm] at q
    intro α1 H1 vs' e1 s1 r1
    have q := Post.ext e1 q
    have hl := h1' ds S1 hm
    match ds, hl with
    | [d, d2], _ =>
      simp only [R.bind] at q
      cases d <;> simp only [rngD] at q <;> try exact q.elim
      rename_i i
      cases d2 <;> simp only [rngD] at q <;> try exact q.elim
      rename_i j
      split at q
      · rename_i lo hi hr
        split at hr
        · rename_i hj
          cases hr
          obtain ⟨v, r, rfl, g1, u, r', rfl, g2, g3⟩ := r1
          have g3 : r' = [] := g3
          subst g3
          rw [rep_int] at g1 g2
          subst g1; subst g2
          refine ⟨_, _, rfl, ⟨hj.1.1, hj.1.2, hj.2.1, hj.2.2⟩, ?_⟩
          exact lc_sound (walk_rg _ _) hv s1 ((er.wipe vs).ext e1) trivial q
        · cases hr
      · exact q.elim
variable {a a2 : Expr} {p1 p2 : Pos} {ma : MA}
theorem pd_lcR1 (xo : XOk P k G N sc lq W X) (hb : blkC N sc scope own = true) (hv : ∀ i ∈ is, i ∈ own.map (·.2)) (hgl : sc.names.lookup ("range" : Str) = some .globalImplicit) (hm : P.mg "range" = none) (ha : PA X [a] (tA P W ma)) (hsa : notStar a = true) (h1 : ∀ S ρ ds S', ma ρ S = .ok ds S' → ds.length = 1)
    (hg : ∀ X', XOk P k G N scope none WN X' → PG X' tg (tG P is f)) (ht : ∀ X', XOk P k G N scope none WN X' → PTs X' ifs (tB P WN tt)) (hel : ∀ X', XOk P k G N scope none WN X' → PE X' elt (tE P WN te)) :
    PE X (.ListComp elt [⟨tg, .Call (.Name "range" p1) [a] [] p2, ifs, 0⟩] scope pos) (tE P W (mLcR (own.map (·.2)) f ma tt te)) := by
  have ok := xo.blkOk hb
  exact PE.imp (pe_lc xo.calm (by rw [xo.hN]; exact xo.nd) (pi_range1 (xo.gl _ hgl) (by rw [xo.mg]; exact hm) ha (star_ok hsa _)) ok (fun s H C cl fp => hg _ (xo.blk ok.kind s H C cl fp)) (fun s H C cl fp => ht _ (xo.blk ok.kind s H C cl fp)) (fun s H C cl fp => hel _ (xo.blk ok.kind s H C cl fp)) (by intro _; rfl)) fun σ H Q => lcR1_sound hv h1
theorem pd_lcR2 (xo : XOk P k G N sc lq W X) (hb : blkC N sc scope own = true) (hv : ∀ i ∈ is, i ∈ own.map (·.2)) (hgl : sc.names.lookup ("range" : Str) = some .globalImplicit) (hm : P.mg "range" = none) (ha : PA X [a, a2] (tA P W ma)) (hsa : notStar a = true) (hsa2 : notStar a2 = true) (h1 : ∀ S ρ ds S', ma ρ S = .ok ds S' → ds.length = 2)
    (hg : ∀ X', XOk P k G N scope none WN X' → PG X' tg (tG P is f)) (ht : ∀ X', XOk P k G N scope none WN X' → PTs X' ifs (tB P WN tt)) (hel : ∀ X', XOk P k G N scope none WN X' → PE X' elt (tE P WN te)) :
    PE X (.ListComp elt [⟨tg, .Call (.Name "range" p1) [a, a2] [] p2, ifs, 0⟩] scope pos) (tE P W (mLcR (own.map (·.2)) f ma tt te)) := by
  have ok := xo.blkOk hb
  exact PE.imp (pe_lc xo.calm (by rw [xo.hN]; exact xo.nd) (pi_range2 (xo.gl _ hgl) (by rw [xo.mg]; exact hm) ha (by rw [star_ok hsa, star_ok hsa2]; rfl) (star_ok hsa2 _)) ok (fun s H C cl fp => hg _ (xo.blk ok.kind s H C cl fp)) (fun s H C cl fp => ht _ (xo.blk ok.kind s H C cl fp)) (fun s H C cl fp => hel _ (xo.blk ok.kind s H C cl fp)) (by intro _; rfl)) fun σ H Q => lcR2_sound hv h1
end
end Vi
set_option Elab.async false
set_option linter.all false
set_option maxRecDepth 100000
set_option maxHeartbeats 2000000
/-! Own errors: raise, try .. except .. as, .value, isinstance. -/
namespace Vi
open PySem L2
section
variable {P : Pr} {X : Cx} {W : WX} {k : Nat} {G : GT} {N : List Str} {sc : Scope} {lq : Option Str}
theorem relO_v {v : V} {v' : Value} (r : RelV v v') (f : Str) : RelO (List.lookup f [(vKey, v)]) (if f = "value" then some v' else none) := by
  by_cases hw : f = "value"
  · subst hw
    rw [if_pos rfl]
    have q : List.lookup ("value" : Str) [(vKey, v)] = some v := by simp [List.lookup, vKey]
    rw [q]; exact r
  · rw [if_neg hw]
    have qw : (f == vKey) = false := by simpa [vKey] using hw
    have q2 : List.lookup f [(vKey, v)] = none := by simp [List.lookup, qw]
    rw [q2]; trivial
/-- C(e), made to be raised -/
def tMkS (C : Addr) (ta : TA) : St → Hp → XK → Prop := fun σ H Q => ta σ H fun vs H1 => ∃ v, vs = [v] ∧ ∀ d, H1 d = none → Q (.ref C) (some d) (upd H1 d (.xd [(vKey, v)]))
theorem pmk_sh {x : Str} {C D fI : Addr} {a : Expr} {ta : TA} {p pos : Pos} {j : Nat} (M : PySem.ShX.Maker X.prog X.K D fI) (T : PySem.ShX.Own X.K C D fI) (hm : X.mg x = some (.ref C)) (hsu : X.mg "super" = none) (hr : Room j X.A) (ha : PA X [a] ta) (hg : Gl X x) (hdb : (x == ("__debug__" : Str)) = false) (hs : notStar a = true) :
    PMk X (.Call (.Name x p) [a] [] pos) (tMkS C ta) := by
  intro pins s σ H Q I h
  refine wpAny_Call_Name_kw (ld_glob I hg hm ?_ hdb)
  refine PySem.W.callWith_K (h₀ := X.base) I.ok.mod.kin T.kC (thn (ha.run pos pins s σ H _ I h) fun us s1 hh => ?_) (star_ok hs _) rfl
  obtain ⟨vs, H1, I1, r1, v, ev, q1⟩ := hh
  subst ev
  refine ⟨I1.kIn, ?_⟩
  cases r1 with
  | cons rv rn =>
    rename_i v' us'
    cases rn
    show wpAny _ _ (call (.ref C) [v']) _ _ _
    have hlim := I1.nolimit
    obtain ⟨mb, hb1, hb2⟩ := I1.mod.blt
    obtain ⟨hp, g, dr, tk, os⟩ := s1
    refine wpAny_call (PySem.ShX.made (mg := X.mg) (mb := mb) M T I1.kIn hlim (by have := hr.dp; omega) (I1.mod.glob.keeps I1.bk) hsu (hb1.keeps I1.bk) ((hb2 _ (by decide +kernel)).trans (by decide +kernel)) fun h' tk' e d Md => ?_)
    show MkP X pins σ Q (.ref e) ⟨h', g, dr, tk', os⟩
    obtain ⟨oe, fv, hoe, hc, hd, hdat, h1⟩ := Md.obj
    have hns := Md.ns
    obtain ⟨G', g1, g2⟩ := restrict h' fun b => decide (b ≠ e)
    have gk : ∀ b, b ≠ e → G'.get? b = h'.get? b := fun b hb => g1 b (decide_eq_true hb)
    have ge : G'.get? e = none := g2 e (by simp)
    have old : ∀ b o, hp.get? b = some o → G'.get? b = some o := fun b o q => (gk b (Nat.ne_of_lt (Nat.lt_of_lt_of_le (Heap.lt_size q) Md.new))).trans (Md.keep b o q)
    have ob : ObjOk X.prog X.w (upd H1 d (.xd [(vKey, v)])) G' d (.xd [(vKey, v)]) := ⟨_, hns.at (fun o q => (gk d Md.dne).trans q), fun f => relO_v rv f⟩
    have J : Inv X pins σ (upd H1 d (.xd [(vKey, v)])) ⟨G', g, dr, tk', os⟩ := I1.laid (t' := tk') old Md.dbig ob
    refine ⟨e, oe, fv, ⟨G', g, dr, tk', os⟩, _, .ref C, some d, rfl, J, fun b o q => ?_, ge, hoe, ⟨hc, hd⟩, hdat, h1, ?_, rfl, I1.bare, raises_own T.exC T.tyC, q1 d (I1.hok.fresh Md.dbig)⟩
    · by_cases hb : b = e
      · have q' : G'.get? b = some o := q
        rw [hb, ge] at q'; cases q'
      · exact (gk b hb).symm.trans q
    · rw [upd_ne (Ne.symm Md.dne)]
      exact I1.hok.fresh Md.new
def sRaise (c : Nat) (m : ME) : MS := fun ρ S => ofR (m ρ S) ρ fun d S1 => if noClo d = true then .exc ρ c d S1 else .bad
theorem pd_raise {c : Nat} {x : Str} {a : Expr} {ma : ME} {p pos pos2 : Pos} (xo : XOk P k G N sc lq W X) (hx : P.T.cls[c]? = some x) (hg : sc.names.lookup x = some .globalImplicit) (ha : PE X a (tE P W ma)) (hdb : (x == ("__debug__" : Str)) = false) (hs : notStar a = true) :
    PS X (.Raise (some (.Call (.Name x p) [a] [] pos)) none pos2) (tS P W (sRaise c ma)) := by
  obtain ⟨D, fI, st⟩ := xo.st
  obtain ⟨C, hC, ow, _, _⟩ := st.own c x hx
  have hK := xo.K
  refine PS.imp (ps_raise xo.calm xo.tk (pmk_sh (C := C) (D := D) (fI := fI) (by rw [hK]; exact st.mkr) (by rw [hK]; exact ow) (by rw [xo.mg]; exact hC) (by rw [xo.mg]; exact st.sup) xo.room (pd_cons ha pd_nil hs) (xo.gl x hg) hdb hs)) fun D σ H ⟨α, S, ρ, sm, er, q⟩ => ?_
  refine ⟨α, S, ρ, sm, er, ?_⟩
  unfold sRaise at q
  cases hm : ma ρ S with
  | bad => rw [hm] at q; exact q.elim
  | exc c' d S1 =>
    rw [hm] at q
    show Post P (RepA P) _ ((ma ρ S).bind _) α H _
    rw [hm]
    exact fun α' H' C dx e s z => q α' H' σ C dx e s (er.ext e) z
  | ok d S1 =>
    rw [hm] at q
    show Post P (RepA P) _ ((ma ρ S).bind _) α H _
    rw [hm]
    intro α1 H1 vs e1 s1 r1
    obtain ⟨v, r, rfl, h1, h2⟩ := r1
    have h2 : r = [] := h2
    subst h2
    refine ⟨v, rfl, fun d0 hd0 => ?_⟩
    have q := PostS.ext e1 q
    simp only [ofR] at q
    split at q
    · rename_i hn
      have ea : Ext P.K α1 H1 α1 (upd H1 d0 (.xd [(vKey, v)])) := Ext.alloc hd0
      exact q α1 _ σ C d0 ea (s1.alloc hd0) ((er.ext e1).ext ea) ⟨x, v, hx, hC, s1.nin hd0, upd_same, Rep0.ext ea (h1.z hn)⟩
    · exact q.elim
/-! ### an error that is caught and kept -/
theorem Inv.track {pins : List (Addr × Obj)} {σ : St} {H : Hp} {s : Shared} {a : Addr} {o : HO} (I : Inv X pins σ H s) (ha : H a = none) (n0 : X.s_0.heap.get? a = none) (nL : a ≠ X.env.locals) (nC : ∀ x c, X.env.cells.lookup x = some c → c ≠ a) (np : ∀ p ∈ X.pn ++ pins, p.1 ≠ a)
    (new : ObjOk X.prog X.w (upd H a o) s.heap a o) : Inv X pins σ (upd H a o) s := by
  have ne : ∀ {b o'}, H b = some o' → b ≠ a := fun h z => by rw [z, ha] at h; cases h
  have n1 : ∀ {b o'}, X.s_0.heap.get? b = some o' → b ≠ a := fun h z => by rw [z, n0] at h; cases h
  refine ⟨I.ok, I.os, I.bare, ⟨fun b o' e n hb hx => I.base.keep b o' e n hb hx, fun b o' e n hb hx => I.base.slot b o' e n hb hx, fun b o' e n hx => by rw [upd_ne (n1 e)]; exact I.base.free b o' e n hx, I.base.there, fun b xs e => ?_, fun b ob u e => ?_, fun b ps e => ?_⟩, I.loc, I.cell, ?_, fun x c e => ?_, fun p hp => ?_, fun b u e => ?_, I.len⟩
  · have := I.base.tups b xs e
    rw [upd_ne (ne this)]; exact this
  · have := I.base.frzs b ob u e
    rw [upd_ne (ne this)]; exact this
  · obtain ⟨m, this⟩ := I.base.tbls b ps e
    exact ⟨m, by rw [upd_ne (ne this)]; exact this⟩
  · rw [upd_ne (Ne.symm nL)]; exact I.free
  · rw [upd_ne (nC x c e)]; exact I.freeC x c e
  · obtain ⟨h1, h2, h3⟩ := I.pin p hp
    exact ⟨h1, by rw [upd_ne (np p hp)]; exact h2, h3⟩
  · by_cases hb : b = a
    · subst hb; rw [upd_same] at e; cases e; exact new
    · rw [upd_ne hb] at e
      exact (I.hok b u e).stay (fun c v _ q => q) (fun c q => by rw [upd_ne (ne q)]; exact q) fun c xs q => by rw [upd_ne (ne q)]; exact q
theorem Inv.suite0 {pins : List (Addr × Obj)} {σ : St} {H : Hp} {s : Shared} (I : Inv X pins σ H s) (a : Addr) : Inv (X.suite a (X.pn ++ pins)) [] σ H s :=
  ⟨I.ok.suite a _, I.os, I.bare, I.base, I.loc, I.cell, I.free, I.freeC, fun p hp => I.pin p (by simpa using hp), I.hok, I.len⟩
theorem Inv.unsuite0 {pins : List (Addr × Obj)} {σ : St} {H : Hp} {s : Shared} {a : Addr} (I : Inv (X.suite a (X.pn ++ pins)) [] σ H s) (ok : X.Ok) : Inv X pins σ H s :=
  ⟨ok, I.os, I.bare, I.base, I.loc, I.cell, I.free, I.freeC, fun p hp => I.pin p (by simpa using hp), I.hok, I.len⟩
def wKeep (K : PySem.W.Frag) (c : Value) (i len : Nat) (ts : TS) (Wout : WX) (D : Ends) : WX := fun cls d σ H =>
  ∃ b, PySem.W.exmOne K cls c = some b ∧ (b = true → σ.length = len → ∀ a, H a = none → ∃ C dx, cls = .ref C ∧ d = some dx ∧
      ts { nx := fun σ' H' => D.nx (σ'.set i none) H', rt := D.rt, bk := fun σ' H' => D.bk (σ'.set i none) H', ct := fun σ' H' => D.ct (σ'.set i none) H' } (σ.set i (some (.ref a))) (upd H a (ExO a C dx))) ∧
    (b = false → Wout cls d σ H)
end
section
variable {X : Cx} {x n : Str} {c : Value} {i : Nat} {body suite : List Stmt} {b₀ : Stmt} {np pos pos' : Pos} {tb : WX → TS} {ts : TS} {Wout : WX}
theorem ps_try_keep (hs : X.stack = X.env :: X.outer) (hf : X.env.frame = some X.env.locals) (hex : X.ex = []) (hN : X.N.Nodup) (hi : X.N[i]? = some n) (hln : X.env.kindOf n = some .local) (hc : Names X x c) (tk : Takes X Wout)
    (hb : ∀ (W : WX) (pn : List (Addr × Obj)) (xe : Value → Shared → Prop), Takes (X.tr pn xe) W → PassesOwn (model X.prog X.w) X.A X.env xe → PSs (X.tr pn xe) body (tb W))
    (hsu : ∀ (a : Addr) (pn : List (Addr × Obj)), PSs (X.suite a pn) (b₀ :: suite) ts) :
    PS X (.Try body [.ExceptHandler (some (.Name x np)) (some n) (b₀ :: suite) pos'] [] [] pos) (fun D σ H => tb (wKeep X.K c i X.N.length ts Wout D) D σ H) := by
  refine ⟨fun pins s σ H D I h => ?_⟩
  have ok := I.ok
  have hfr : X.A.frames = some (X.env :: X.outer) := by rw [ok.frames, hs]
  have hloc : Loc X.env.scope n := .inl hln
  refine wpAny_Try_except ?_
  refine wpAny_mono ((hb (wKeep X.K c i X.N.length ts Wout D) (X.pn ++ pins) (fun e s₁ => wpAny (model X.prog X.w) X.A (noteFrame e X.env) (fun _ s₂ => wpAny (model X.prog X.w) X.A (setFlight e none) (fun _ s₃ =>
    wpAny (model X.prog X.w) X.A (handleBy e X.env [.ExceptHandler (some (.Name x np)) (some n) (b₀ :: suite) pos']) (SP X pins D) X.xe s₃) X.xe s₂) X.xe s₁) (fun u s' xx => ?_) PassesOwn.looking).run [] s σ H D (I.toTry _) h) (fun f s1 hsp => ?_) (fun e s1 he => he)
  · obtain ⟨a, B, sI, pins', σ', H', cls, d, rfl, J', nb, up, sky, na, os, ag, b, hb1, hyes, hno⟩ := xx
    have J : Inv X pins σ' H' sI := J'.ofTry ok
    have sky' : Sky B (X.env :: X.outer) a (Zc cls d) X.env.locals s'.heap := by rw [← hs]; exact sky
    show wpAny (model X.prog X.w) X.A (noteFrame (.ref a) X.env) _ _ _
    refine Sky.land Zc.steady hfr hf sky' fun h3 fl3 up3 => ?_
    have J3 : Inv X pins σ' H' { s' with heap := h3 } := J.landed nb fl3.1 (up.trans up3) os ag
    obtain ⟨oe3, vs3, he3, hz3, hd3⟩ := fl3.there
    have notFr : ∀ {h : Heap} {o : Obj} {vs : Array Value}, h.FunFrames B (X.env :: X.outer) → h.get? a = some o → o.data = .fields vs → a ∉ frs (X.env :: X.outer) := fun {h o vs} ff e dd hm => by
      obtain ⟨_, o', e', hnf⟩ := ff.mem hm
      rw [e] at e'; cases e'
      exact hnf _ dd
    have nfr := notFr fl3.2.2.1 he3 hd3
    have nL : a ≠ X.env.locals := fun z => nfr (List.mem_filterMap.mpr ⟨X.env, List.mem_cons_self, by rw [hf, z]⟩)
    have nF : a ∉ X.fs := fun hm => by
      obtain ⟨e, he, q⟩ := List.mem_filterMap.mp hm
      exact nfr (List.mem_filterMap.mpr ⟨e, List.mem_cons_of_mem _ he, q⟩)
    have nB : B.get? a = none := fl3.2.1
    -- what stands ahead of the error is not the error
    have nI : ∀ {o : Obj}, sI.heap.get? a = some o → False := fun {o} e => by
      have z := nb a o e (by rw [hs]; exact nfr)
      rw [nB] at z; cases z
    have S3 := J3.suite he3 hd3 na nL nF
    refine wpAny_handleBy_cons (codeAny_handlers_test ?_) (by intro q; cases q)
    have LT : PySem.W.Looks (model X.prog X.w) h3 (typeOf (.ref a)) cls := fun A Q E s k q => wpAny_typeOf_ref (k _ _ he3) (by rw [hz3.1]; exact q)
    have LM := PySem.W.exm_one (M := model X.prog X.w) (J3.kIn) LT hb1
    have test : ∀ {Q : Value → Shared → Prop} {E : Value → Shared → Prop}, Q c { s' with heap := h3 } → wpAny (model X.prog X.w) (X.A.mark (some (.ref a))) (eval (.Name x np) X.env) Q E { s' with heap := h3 } := fun {Q E} q => by
      obtain ⟨hg, hdbg, hm | ⟨hm, hv, hnn⟩⟩ := hc
      · exact ld_glob (X := X.suite a ((a, oe3) :: (X.pn ++ pins))) S3 hg hm q hdbg
      · exact ld_blt (X := X.suite a ((a, oe3) :: (X.pn ++ pins))) S3 hg hm hv q hnn hdbg
    refine test (LM.here ?_)
    cases b with
    | true =>
      refine codeAny_handlers_suite_as ?_
      refine HandSPX.lands_againZ fl3 fun h4 fl4 up4 => ?_
      have J4 : Inv X pins σ' H' { s' with heap := h4 } := J.landed nb fl4.1 ((up.trans up3).trans up4) os ag
      obtain ⟨oe4, vs4, he4, hz4, hd4⟩ := fl4.there
      obtain ⟨C, dx, rfl, rfl, hts⟩ := hyes rfl J.len a na
      have JT : Inv X pins σ' (upd H' a (ExO a C dx)) { s' with heap := h4 } := by
        refine Vi.Inv.track J4 na ?_ nL (fun y cc e z => ?_) (fun p hp z => ?_) ?_
        · cases e0 : X.s_0.heap.get? a with
          | none => rfl
          | some o =>
            obtain ⟨o', e'⟩ := J.base.there a o e0 (by rw [hex]; simp)
            exact (nI e').elim
        · obtain ⟨v, o, ho, hdc⟩ := J.cell y cc e
          rw [z] at ho
          exact nI ho
        · obtain ⟨e, _⟩ := J.pin p hp
          rw [z] at e
          exact nI e
        · exact ⟨⟨oe4, vs4, he4, hz4.1, hz4.2, hd4⟩, ⟨oe4, he4⟩, fun h1 h2 ⟨o, vs, e1, e2⟩ kk => ⟨o, vs, kk o e1, e2⟩⟩
      have S4 := Vi.Inv.suite0 JT a
      refine store_ok (X := X.suite a (X.pn ++ pins)) (v := .ref a) S4 hN hi hloc rfl (fun s5 S5 => ?_) (.inr hln)
      refine wpAny_mono ((hsu a (X.pn ++ pins)).run [] s5 _ _ _ S5 hts) (fun f s6 hsp => ?_) (fun _ _ z => False.elim z)
      have end_ : ∀ {σ6 : St} {H6 : Hp} {Q : Shared → Prop}, Inv (X.suite a (X.pn ++ pins)) [] σ6 H6 s6 → (∀ s7, Inv X pins (σ6.set i none) H6 s7 → Q s7) →
          wpAny (model X.prog X.w) X.A (do bindName X.env n .none; unbindBehindTheSuite X.env n pos') (fun _ s7 => Q s7) X.xe s6 := fun {σ6 H6 Q} S6 hq => gone_ok (Vi.Inv.unsuite0 S6 ok) hN hi hln hq
      cases f with
      | next =>
        obtain ⟨σ6, H6, S6, q6⟩ := hsp
        exact end_ S6 fun s7 J7 => ⟨_, _, J7, q6⟩
      | brk =>
        obtain ⟨σ6, H6, S6, q6⟩ := hsp
        exact end_ S6 fun s7 J7 => ⟨_, _, J7, q6⟩
      | cont =>
        obtain ⟨σ6, H6, S6, q6⟩ := hsp
        exact end_ S6 fun s7 J7 => ⟨_, _, J7, q6⟩
      | ret u =>
        obtain ⟨v6, σ6, H6, S6, r6, q6⟩ := hsp
        exact end_ S6 fun s7 J7 => ⟨_, _, _, J7, r6, q6⟩
    | false =>
      show wpAny _ X.A (handleBy (.ref a) X.env []) _ _ _
      refine wpAny_handleBy_nil ?_
      obtain ⟨k1, k2, k3, oe, vs, T, oT, ts', he, hz, hd, h1, hr⟩ := id fl3
      unfold PySem.passOn
      refine wpAny_bind (wpAny_field he hd h1 ?_)
      rw [if_neg (show ¬ ((Value.ref T == Value.none) = true) from by simp)]
      have fin : wpAny (model X.prog X.w) X.A (setFlight (.ref a) X.env.frame) (fun _ s4 => wpAny (model X.prog X.w) X.A (throw (.ref a) : Sem Flow) (SP X pins D) X.xe s4) X.xe { s' with heap := h3 } := by
        rw [hf]
        refine HandSPX.setFlight_upZ fl3 fun h4 hh4 up4 => wpAny_throw (tk _ _ ?_)
        exact ⟨a, B, sI, pins, σ', H', cls, d, rfl, J, nb, (up.trans up3).trans up4, .inr (.inr (by rw [hs]; exact hh4)), na, os, ag, hno rfl⟩
      first
        | exact wpAny_bind (wpAny_pure (wpAny_bind fin))
        | exact wpAny_bind fin
  · cases f with
    | next => exact let ⟨σ', H', J', q⟩ := hsp; wpAny_execs_nil ⟨σ', H', J'.ofTry ok, q⟩
    | brk => exact let ⟨σ', H', J', q⟩ := hsp; ⟨σ', H', J'.ofTry ok, q⟩
    | cont => exact let ⟨σ', H', J', q⟩ := hsp; ⟨σ', H', J'.ofTry ok, q⟩
    | ret u => exact let ⟨v, σ', H', J', r, q⟩ := hsp; ⟨v, σ', H', J'.ofTry ok, r, q⟩
end
section
variable {P : Pr} {X : Cx} {W : WX} {k : Nat} {G : GT} {N : List Str} {sc : Scope} {lq : Option Str}
/-- try: .. except ShallowError as n: y = n -/
def sTryK (i j : Nat) (mb : MS) : MS := fun ρ S => match mb ρ S with
  | .exc ρ' c d S' => .nx (((ρ'.set i (some (.exo c d))).set j (some (.exo c d))).set i none) S'
  | r => r
theorem XOkS.tr {W' : WX} (xo : XOkS P k G N sc lq W X) (pn : List (Addr × Obj)) (xe : Value → Shared → Prop) (tk : Takes (X.tr pn xe) W') (ow : PassesOwn (model X.prog X.w) X.A X.env xe) : XOkS P k G N sc lq W' (X.tr pn xe) :=
  ⟨⟨xo.K, xo.mg, xo.hN, xo.nd, xo.calm, tk, xo.room, xo.gd, xo.fns, xo.st, xo.lm, xo.vis, xo.gl, xo.sto, xo.loc, xo.cel, xo.fr, xo.kd⟩, xo.hex, xo.stk, xo.frm, ow⟩
theorem pd_tryk {i j : Nat} {n y : Str} {body : List Stmt} {np pos pos' py pn' p' : Pos} {mb : MS} (xo : XOkS P k G N sc lq W X) (hg : sc.names.lookup shN = some .globalImplicit) (hi : N[i]? = some n) (hln : sc.names.lookup n = some .local) (hj : N[j]? = some y) (hy : stoB sc y = true)
    (hdn : (n == ("__debug__" : Str)) = false) (hcn : (n == ("__classdict__" : Str)) = false)
    (hb : ∀ (X' : Cx) (W' : WX), X'.prog = X.prog → X'.w = X.w → XOkS P k G N sc lq W' X' → PSs X' body (tS P W' mb)) :
    PS X (.Try body [.ExceptHandler (some (.Name shN np)) (some n) [.Assign [.Name y py] (.Name n pn') p'] pos'] [] [] pos) (tS P W (sTryK i j mb)) := by
  obtain ⟨D, fI, st⟩ := xo.st
  have hN' : X.N.Nodup := by rw [xo.hN]; exact xo.nd
  obtain ⟨hy1, hy2⟩ := xo.sto y hy
  have hnk : X.env.kindOf n = some .local := xo.loc n hln
  refine PS.imp (ps_try_keep (c := .ref D) (i := i) (tb := fun W' => tS P W' mb) (ts := tAsg (tVar i) (gName j)) (Wout := W) xo.stk xo.frm xo.hex hN' (by rw [xo.hN]; exact hi) hnk ⟨xo.gl _ hg, by decide +kernel, .inl (by rw [xo.mg]; exact st.top)⟩ xo.tk
    (fun W' pn xe tk ow => hb _ W' rfl rfl (xo.tr pn xe tk ow)) (fun a pn => pss_one ?_)) fun D0 σ H ⟨α, S, ρ, sm, er, q⟩ => ?_
  · exact ps_set (X := X.suite a pn) hN' (by show X.N[j]? = _; rw [xo.hN]; exact hj) hy1 (pe_var (X := X.suite a pn) (by show X.N[i]? = _; rw [xo.hN]; exact hi) (.inl hnk) hdn hcn) rfl hy2
  · refine ⟨α, S, ρ, sm, er, ?_⟩
    unfold sTryK at q
    cases h : mb ρ S with
    | exc ρ' c d S' =>
      rw [h] at q
      intro α1 H1 σ1 C dx e1 s1 er1 ex
      obtain ⟨x, w, h1, h2, h3, h4, h5⟩ := ex
      obtain ⟨C', hC', ow, ec, te⟩ := st.own c x h1
      rw [h2] at hC'
      cases hC'
      refine ⟨true, by rw [xo.K]; exact te, fun _ hl a ha => ⟨C, dx, rfl, rfl, ?_⟩, fun z => by cases z⟩
      have ea : Ext P.K α1 H1 α1 (upd H1 a (ExO a C dx)) := Ext.alloc ha
      have hil : i < σ1.length := by rw [hl, xo.hN]; exact (List.getElem?_eq_some_iff.mp hi).1
      have ne : dx ≠ a := fun z => by rw [z, ha] at h4; cases h4
      have r : Rep P α1 (upd H1 a (ExO a C dx)) (.exo c d) (.ref a) := rep_exo.mpr ⟨a, x, C, dx, w, h1, h2, rfl, s1.nin ha, h3, upd_same, by rw [upd_ne ne]; exact h4, Rep0.ext ea h5⟩
      refine ⟨.ref a, List.getElem?_set_self hil, ?_⟩
      exact q α1 _ _ (e1.trans ea) (s1.alloc ha) (((er1.ext ea).set r).set r).unset
    | nx ρ' S' => rw [h] at q; exact q
    | rt d S' => rw [h] at q; exact q
    | bk ρ' S' => rw [h] at q; exact q
    | ct ρ' S' => rw [h] at q; exact q
    | bad => rw [h] at q; exact q
/-! ### .value -/
def notCall : Expr → Bool
  | .Call _ _ _ _ => false
  | _ => true
theorem base_ok {e : Expr} {f : Str} (h : notCall e = true) (env : Env) (w : Sem Value) : attributeBase e f env w = w := by
  cases e <;> first | rfl | cases h
def mVal (m : ME) : ME := fun ρ S => (m ρ S).bind fun d S1 => match d with | .exo _ d => .ok d S1 | _ => .bad
theorem exo_inst {pins : List (Addr × Obj)} {σ : St} {H : Hp} {s : Shared} {a C dx : Addr} {w : V} (I : Inv X pins σ H s) (h1 : H a = some (ExO a C dx)) (h2 : H dx = some (.xd [(vKey, w)])) :
    ∃ o od, PySem.W.InstAt s.heap a o C (some od) ∧ ∃ u, PySem.W.lookIn vKey od = some (some u) ∧ RelV w u := by
  obtain ⟨⟨o, vs, g1, g2, g3, g4⟩, _⟩ := I.hok a _ h1
  obtain ⟨mA, hns, hr⟩ := I.hok dx _ h2
  obtain ⟨od, ho, hl⟩ := lookIn_ns hns
  have l : List.lookup vKey [(vKey, w)] = some w := by simp [List.lookup]
  obtain ⟨u, hu, ru⟩ := RelO.some_of (v := w) (o := mA vKey) (by rw [← l]; exact hr vKey)
  exact ⟨o, od, ⟨g1, g2, by unfold PySem.W.notCls; rw [g4], by rw [g3]; exact ho⟩, u, by rw [hl, hu], ru⟩
theorem pd_val {e : Expr} {m : ME} {pos : Pos} (xo : XOk P k G N sc lq W X) (he : PE X e (tE P W m)) (hn : notCall e = true) : PE X (.Attribute e vKey pos) (tE P W (mVal m)) := by
  refine ⟨fun pins s σ H Q I ⟨α, S, ρ, sm, er, q⟩ => ?_⟩
  have h : tE P W m σ H (fun v H1 => ∃ α1 S1 c d, Sim P α1 S1 H1 ∧ Rep P α1 H1 (.exo c d) v ∧ ∀ w, Rep0 P α1 H1 d w → Q w H1) := by
    refine ⟨α, S, ρ, sm, er, Post.bind q fun α1 H1 d S1 v e1 s1 r1 q1 => ?_⟩
    cases d <;> try exact q1.elim
    rename_i c d
    exact ⟨α1, S1, c, d, s1, r1, fun w hw => q1 α1 H1 w (Ext.refl _ _ _) s1 hw.up⟩
  refine attr_of (base_ok hn _ _) (thn (he.run pins s σ H _ I h) fun u s1 ⟨v, H1, I1, rv, α1, S1, c, d, sm1, r, kk⟩ => ?_)
  obtain ⟨a, x, C, dx, w, h1, h2, rfl, h4, h5, h6, h7, h8⟩ := rep_exo.mp r
  cases rv
  obtain ⟨o, od, J, u, hu, ru⟩ := exo_inst I1 h6 h7
  obtain ⟨D, fI, st⟩ := xo.st
  obtain ⟨C', hC', ow, ec, te⟩ := st.own c x h1
  rw [h2] at hC'
  cases hC'
  rw [← xo.K] at ow
  exact HandSPX.exc_get I1.kIn J ow.ga ow.gg ow.exC (PySem.W.findObj_own ow.hdC ow.noN rfl hu) (handed_of ru) ⟨w, H1, I1.tok _, ru, kk w h8⟩
end
end Vi
set_option Elab.async false
set_option linter.all false
set_option maxRecDepth 100000
set_option maxHeartbeats 4000000
/-! isinstance of an own error that is kept; repr of data. -/
namespace PySem.W
open PySem PySem.Spec PySem.Calls PyProof.Rows
section
variable {prog : Program} {w : World} {A : Around} {E : Value → Shared → Prop} {s : Shared} {K : Frag} {x D : Addr} {ox : Obj} {od : Obj}
theorem vi_classOf {Q : Option Value → Shared → Prop} (Y : L2.ExcC K D) (X : K.In s.heap) (I : InstAt s.heap x ox D (some od)) (h : Q (some (.ref D)) { s with toks := s.toks + 1 }) : wpAny (model prog w) A (getAttr? (.ref x) "__class__") Q E s := by
  obtain ⟨cd, hcd, _⟩ := any_some Y.hd
  have hf : findObj K D (some od) "__class__" = some (.bind (.builtin "getset_descriptor.__get__") (.builtin "object.__class__")) := findObj_data (by rw [hcd]; rfl) Y.ha Y.hn Y.ht
  obtain ⟨hp, g, d, t, os⟩ := s
  have LT := I.type (M := model prog w)
  have LG := looks_findIn (M := model prog w) X Y.hg
  have LK := looks_findIn (M := model prog w) X Y.hk
  have LF := looks_find (M := model prog w) X I hf
  have sub : Looks (model prog w) hp (isInstance (.ref x) (.type "BaseException")) true := LT.andThen (looks_subIn X Y.hs)
  have ne : (Value.builtin "BaseException.__getattribute__" == Value.builtin "object.__getattribute__") = false := by decide +kernel
  unfold getAttr? getAttrBy? getAttrBy
  refine wpAny_bind (wpAny_mkText (wpAny_bind (wpAny_attempt (wpAny_holding (wpAny_bind (LT.at (wpAny_bind (LG.at ?_))))))))
  show wpAny _ _ (if (onTheHeap (Value.ref D) && Value.builtin "BaseException.__getattribute__" == Value.builtin "object.__getattribute__") = true then _ else _) _ _ _
  rw [if_neg (show ¬ (onTheHeap (Value.ref D) && Value.builtin "BaseException.__getattribute__" == Value.builtin "object.__getattribute__") = true by rw [ne, Bool.and_false]; decide)]
  unfold getAttrByItsOwn hookBefore; refine wpAny_bind ?_; rw [if_pos (show onTheHeap (Value.ref D) = true from rfl)]
  refine LK.at ?_; refine wpAny_bind (wpAny_attempt (wpAny_holding ?_)); unfold callGetattribute
  rw [if_neg (show ¬ (false && onTheHeap (Value.builtin "BaseException.__getattribute__")) = true by decide)]
  unfold boundAndCalled; rw [PySem.F.excAttr_ValueError.ga.bind (.ref x)]; refine wpAny_bind (wpAny_pure ?_)
  show wpAny _ _ (call (.builtin "BaseException.__getattribute__") [.ref x, .str "__class__" t]) _ _ _
  refine wpAny_call (codeAny_call_builtin PySem.F.excAttr_ValueError.ga.plain PySem.F.entry_bexc_ga ?_)
  refine @check_slot (model prog w) _ _ ⟨hp, g, d, t + 1, os⟩ "BaseException.__getattribute__" "BaseException" "__getattribute__" (.ref x) [.str "__class__" t] [] _ (by decide +kernel) (by decide +kernel) sub (PySem.F.args_bexc_ga (.ref x) (.str "__class__" t)) ?_
  unfold Builtin.«object.__getattribute__»; refine wpAny_bind (wpAny_of_eq (a := ((Value.ref x : Value), [Value.str "__class__" t])) (by first | rfl | (simp only [slotArgs]; rfl)) ?_)
  refine wpAny_bind (wpAny_pure (wpAny_bind (LT.at (wpAny_bind (LF.at ?_)))))
  show wpAny _ _ (holding [Value.builtin "object.__class__"] (call (.builtin "getset_descriptor.__get__") [.builtin "object.__class__", .ref x, .ref D]) >>= ret) _ _ _
  refine wpAny_bind (wpAny_holding (wpAny_call (class_get (s := ⟨hp, g, d, t + 1, os⟩) (ox := ox) (od := some od) X I Y.hm ?_)))
  refine wpAny_pure ?_
  show wpAny _ _ (handedOut (.ref D)) _ _ _
  rw [handedOut_of (v := .ref D) rfl]
  first
    | exact wpAny_pure (wpAny_pure h)
    | exact wpAny_pure h
    | exact wpAny_pure (wpAny_bind (wpAny_pure (wpAny_pure h)))
theorem vi_kitx (Y : L2.ExcC K D) : KitX K (.ref x) (.ref D) (fun h => InstAt h x ox D (some od)) := by
  obtain ⟨cd, hcd, _⟩ := any_some Y.hd
  obtain ⟨oc, ho, hdat⟩ : ∃ oc, K.lookup D = some oc ∧ oc.data = .cls cd := by
    unfold clsIn at hcd
    split at hcd
    · rename_i c' d' cd' sl' ho
      cases hcd
      exact ⟨_, ho, rfl⟩
    · cases hcd
  refine ⟨fun _ _ _ I => I.type, fun _ _ X _ => ?_, fun h tp dd its n sl X htp => ?_, fun X I k => vi_classOf Y X I k⟩
  · intro A' Q' E' s' k q
    obtain ⟨c0, d0, da0, s0⟩ := oc
    cases hdat
    unfold isType loadHead
    exact wpAny_bind (wpAny_loadPart (k _ _ (X _ _ ho)) (wpAny_pure q))
  · refine Bool.eq_false_iff.mpr fun q => ?_
    have e : D = tp := Value.ref.inj (beq_iff_eq.mp q)
    subst e
    have z := (X _ _ ho).symm.trans htp
    cases z
    cases hdat
end
end PySem.W
namespace Vi
open PySem L2
section
variable {P : Pr} {X : Cx} {W : WX} {k : Nat} {G : GT} {N : List Str} {sc : Scope} {lq : Option Str}
def bIsO (d e : D) (_ : Sto) : Option D := match d, e with
  | .exo c _, .cls c2 => some (.bl (decide (c = c2)))
  | _, _ => none
def rIsO (P : Pr) : List V → Hp → VK → Prop := fun xs H Q => ∃ (a C dx c c2 : Nat) (x x2 : Str) (C2 : Addr) (w : V), xs = [.ref a, .ref C2] ∧ P.T.cls[c]? = some x ∧ P.mg x = some (.ref C) ∧ P.T.cls[c2]? = some x2 ∧ P.mg x2 = some (.ref C2) ∧ H a = some (ExO a C dx) ∧ H dx = some (.xd [(vKey, w)]) ∧ Q (.bl (decide (c = c2))) H
theorem call_isO (xo : XOk P k G N sc lq W X) : CallR X (.builtin "isinstance") (rIsO P) := by
  intro pins s σ H xs us Q I r h
  obtain ⟨a, C, dx, c, c2, x, x2, C2, w, rfl, h1, h2, h3, h4, h5, h6, q⟩ := h
  obtain ⟨D, fI, st⟩ := xo.st
  obtain ⟨C', hC', ow, ec, te⟩ := st.own c x h1
  rw [h2] at hC'
  cases hC'
  obtain ⟨u1, u2, rfl, r1, r2⟩ := vals2 r
  cases r1
  cases r2
  obtain ⟨o, od, J, _⟩ := exo_inst I h5 h6
  rw [← xo.K] at ec
  exact PySem.W.kia_one (PySem.W.vi_kitx ec) I.kIn J (by rw [xo.K]; exact st.isi c x C c2 x2 C2 h1 h2 h3 h4) (fun z => nomatch z) fun tk => ⟨.bl _, H, I.kept (t' := tk) fun _ _ z => z, rfl, q⟩
theorem cd_isO (xo : XOk P k G N sc lq W X) : CallR X (.builtin "isinstance") (rCD P (two bIsO)) := cr_two (call_isO xo) fun α S H d e z v u Q sm r1 r2 h kk => by
  cases d <;> try (simp [bIsO] at h; done)
  cases e <;> simp only [bIsO] at h <;> try (cases h; done)
  cases h
  rename_i c d0 c2
  obtain ⟨a, x, C, dx, w, h1, h2, rfl, h4, h5, h6, h7, h8⟩ := rep_exo.mp r1
  obtain ⟨x2, C2, g1, g2, rfl⟩ := rep_cls.mp r2
  exact ⟨a, C, dx, c, c2, x, x2, C2, w, rfl, h1, h2, g1, g2, h6, h7, kk _ (rep_bl.mpr rfl)⟩
/-- isinstance of all that is known -/
def bIsA (d e : D) (S : Sto) : Option D := match bIsi d e S with
  | some r => some r
  | none => bIsO d e S
theorem cd_isA (xo : XOk P k G N sc lq W X) : CallR X (.builtin "isinstance") (rCD P (two bIsA)) := by
  intro pins s σ H xs us Q I rv ⟨α, S, ds, W0, sm, ra, q⟩
  match ds, q with
  | [d, e], q =>
    cases h : bIsi d e S with
    | some z =>
      refine cd_isi (P := P) xo.K pins s σ H xs us Q I rv ⟨α, S, [d, e], W0, sm, ra, ?_⟩
      have q' : Post P (Rep P) W0 (oR (bIsA d e S) S) α H Q := q
      unfold bIsA at q'
      rw [h] at q'
      show Post P (Rep P) W0 (oR (bIsi d e S) S) α H Q
      rw [h]; exact q'
    | none =>
      refine cd_isO (P := P) xo pins s σ H xs us Q I rv ⟨α, S, [d, e], W0, sm, ra, ?_⟩
      have q' : Post P (Rep P) W0 (oR (bIsA d e S) S) α H Q := q
      unfold bIsA at q'
      rw [h] at q'
      exact q'
  | [], q => exact q.elim
  | [_], q => exact q.elim
  | _ :: _ :: _ :: _, q => exact q.elim
/-! ### repr -/
theorem noDict : ∀ (S : Sto) (n : Nat) (d : D) (p : PyData), toP S n d = some p → p.hasDict = false := by
  intro S n
  induction n with
  | zero =>
    intro d p h
    cases d <;> simp [toP] at h <;> subst h <;> rfl
  | succ n ih =>
    have all : ∀ (ds : List D) (ps : List PyData), allSome (toP S n) ds = some ps → PyData.hasDictAll ps = false := by
      intro ds
      induction ds with
      | nil => intro ps h; simp [allSome] at h; subst h; rfl
      | cons d ds ih2 =>
        intro ps h
        simp only [allSome] at h
        split at h
        · rename_i p hp
          split at h
          · rename_i qs hq
            cases h
            simp only [PyData.hasDictAll, ih d p hp, ih2 qs hq, Bool.or_self]
          · cases h
        · cases h
    intro d p h
    cases d <;> simp [toP] at h
    · subst h; rfl
    · subst h; rfl
    · subst h; rfl
    · subst h; rfl
    · obtain ⟨ps, hp, rfl⟩ := h
      simp only [PyData.hasDict]; exact all _ _ hp
    · split at h
      · simp at h
        obtain ⟨ps, hp, rfl⟩ := h
        simp only [PyData.hasDict]; exact all _ _ hp
      · cases h
def reprOk (p : PyData) : Bool := p.showable && decide (p.depth ≤ 64) && decide (p.shown.length ≤ sizeLine)
def bRepr (d : D) (S : Sto) : Option D := match toP S 70 d with
  | some p => if reprOk p then some (.str p.shown) else none
  | none => none
def rRepr (K : PySem.W.Frag) : List V → Hp → VK → Prop := fun xs H Q => ∃ v p, xs = [v] ∧ Dp K H v p ∧ p.hasDict = false ∧ reprOk p = true ∧ Q (.str p.shown) H
theorem call_repr (xo : XOk P k G N sc lq W X) : CallR X (.builtin "repr") (rRepr X.K) := by
  intro pins s σ H xs us Q I r h
  obtain ⟨v, p, rfl, hd, nd, ok, q⟩ := h
  obtain ⟨u, rfl, ru⟩ := vals1 r
  obtain ⟨as, hr⟩ := Dp.reads I p v u hd ru
  have fin : ∀ tk tk', EP X pins σ Q (.str p.shown tk) { s with toks := tk' } := fun tk tk' => ⟨.str _, H, I.tok tk', ⟨_, rfl⟩, q⟩
  have ok' : (p.showable = true ∧ p.depth ≤ 64) ∧ p.shown.length ≤ sizeLine := by
    have := ok
    unfold reprOk at this
    simpa [Bool.and_eq_true] using this
  have hu := xo.hu
  cases hr with
  | none => exact PySem.P.repr_of_none (fin _ _)
  | bool b => exact PySem.P.repr_of_bool (fin _ _)
  | int i t => exact PySem.P.repr_of_int (by simpa [PyData.showable] using ok'.1.1) (fin _ _)
  | str x t => exact PySem.P.repr_of_str (fin _ _) ok'.2
  | list a b c d => exact PySem.repr_of_reads' (.list a b c d) ok'.1.1 (fun z => by rw [nd] at z; cases z) xo.gd (by have := ok'.1.2; have := xo.room.un; omega) (fun _ _ e => e) (fun h' u tk k => ⟨.str _, H, I.kept (t' := tk) k, ⟨_, rfl⟩, q⟩) ok'.2
  | tuple a b c d => exact PySem.repr_of_reads' (.tuple a b c d) ok'.1.1 (fun z => by rw [nd] at z; cases z) xo.gd (by have := ok'.1.2; have := xo.room.un; omega) (fun _ _ e => e) (fun h' u tk k => ⟨.str _, H, I.kept (t' := tk) k, ⟨_, rfl⟩, q⟩) ok'.2
  | dict _ _ _ _ _ => cases nd
theorem cd_repr (xo : XOk P k G N sc lq W X) : CallR X (.builtin "repr") (rCD P (one bRepr)) := cr_one (call_repr xo) fun α S H d z v Q sm r h kk => by
  unfold bRepr at h
  split at h
  · rename_i p hp
    split at h
    · rename_i ok
      cases h
      exact ⟨v, p, rfl, by rw [xo.K]; exact dp_of sm _ _ _ _ hp (r.z (toP_no hp)), noDict _ _ _ _ hp, ok, kk _ (rep_str.mpr rfl)⟩
    · cases h
  · cases h
end
end Vi
set_option Elab.async false
set_option linter.all false
set_option maxRecDepth 100000
set_option maxHeartbeats 4000000
/-! Functions made by lambda: called. -/
namespace Vi
open PySem L2
def unp (B : List Addr) (H : Hp) : Hp := fun b => if b ∈ B then none else H b
def rep (B : List Addr) (H0 H : Hp) : Hp := fun b => if b ∈ B then H0 b else H b
theorem unp_in {B : List Addr} {H : Hp} {b : Addr} (h : b ∈ B) : unp B H b = none := by unfold unp; rw [if_pos h]
theorem unp_out {B : List Addr} {H : Hp} {b : Addr} (h : b ∉ B) : unp B H b = H b := by unfold unp; rw [if_neg h]
theorem rep_in {B : List Addr} {H0 H : Hp} {b : Addr} (h : b ∈ B) : rep B H0 H b = H0 b := by unfold rep; rw [if_pos h]
theorem rep_out {B : List Addr} {H0 H : Hp} {b : Addr} (h : b ∉ B) : rep B H0 H b = H b := by unfold rep; rw [if_neg h]
/-- pinned things: functions, cells -/
def Pins (B : List Addr) (H : Hp) (α : List Addr) : Prop := ∀ b ∈ B, ∃ o, H b = some (PinO b o) ∧ b ∉ α ∧ ((∃ fd, o.data = .func fd) ∨ ∃ w, o.data = .cell w)
section
variable {P : Program} {w : World} {B : List Addr} {H H' : Hp} {h h' : Heap} {α : List Addr}
theorem Pins.out (p : Pins B H α) {b : Addr} {o : HO} (e : H b = some o) (n : ∀ x, o ≠ PinO b x) : b ∉ B := fun z => by
  obtain ⟨x, q, _⟩ := p b z
  rw [e] at q; cases q
  exact n x rfl
theorem Pins.outN (p : Pins B H α) {b : Addr} (e : H b = none) : b ∉ B := fun z => by
  obtain ⟨x, q, _⟩ := p b z
  rw [e] at q; cases q
theorem Pins.rd (p : Pins B H α) {b : Addr} {u : HO} (r : Rd H b u) (n : ∀ x, u ≠ PinO b x) : b ∉ B := by
  rcases r with r | ⟨o, r⟩
  · exact p.out r n
  · exact p.out r (fun x z => by cases z)
theorem hok_unp (p : Pins B H α) (ok : HOk P w H h) : HOk P w (unp B H) h := fun b u e => by
  by_cases hb : b ∈ B
  · rw [unp_in hb] at e; cases e
  · rw [unp_out hb] at e
    exact (ok b u e).stay (fun c v _ q => q) (fun c q => by rw [unp_out (p.out q (fun x z => by cases z))]; exact q) fun c xs q => by rw [unp_out (p.out q (fun x z => by cases z))]; exact q
theorem hok_rep (p : Pins B H α) (ok : HOk P w H' h') (nn : ∀ b ∈ B, H' b = none) (k : ∀ b ∈ B, ∀ o, H b = some (PinO b o) → h'.get? b = some o) : HOk P w (rep B H H') h' := fun b u e => by
  by_cases hb : b ∈ B
  · rw [rep_in hb] at e
    obtain ⟨o, q, _⟩ := p b hb
    rw [e] at q; cases q
    have z := k b hb o e
    exact ⟨z, ⟨o, z⟩, fun h1 h2 e1 kk => kk o e1⟩
  · rw [rep_out hb] at e
    have out : ∀ {c o}, H' c = some o → c ∉ B := fun q z => by rw [nn _ z] at q; cases q
    exact (ok b u e).stay (fun c v _ q => q) (fun c q => by rw [rep_out (out q)]; exact q) fun c xs q => by rw [rep_out (out q)]; exact q
theorem PinO_inj {a b : Addr} {o u : Obj} (h : PinO a o = PinO b u) {h0 : Heap} (e : h0.get? a = some o) : h0.get? b = some u := by
  have : (fun h : Heap => h.get? a = some o) = (fun h : Heap => h.get? b = some u) := HO.ext.inj h
  exact (congrFun this h0).mp e
/-- the data's view without the pinned things -/
theorem Pins.stay {K : PySem.W.Frag} (p : Pins B H α) (ok : HOk P w H h) : Stay K α H α (unp B H) := by
  have pin : ∀ {b : Addr} {o : Obj}, H b = some (PinO b o) → h.get? b = some o := fun {b o} e => (ok b _ e).1
  refine ⟨⟨[], by simp⟩, fun a vs q => ?_, fun a C dx na q => ⟨?_, na⟩, fun a fs na q => ⟨by rw [unp_out (p.out q (fun x z => by cases z))]; exact q, na⟩, fun a o u q => by rw [unp_out (p.out q (fun x z => by cases z))]; exact q⟩
  · rcases q with q | q
    · left
      unfold Rd
      rw [unp_out (p.rd q (fun x z => by cases z))]; exact q
    · exact .inr q
  · rw [unp_out]; exact q
    intro hb
    obtain ⟨o, e1, _, e3⟩ := p a hb
    obtain ⟨o', vs, g1, g2, g3, g4⟩ := (ok a _ q).1
    have z := pin e1
    rw [g1] at z
    cases z
    rcases e3 with ⟨fd, e3⟩ | ⟨w0, e3⟩ <;> rw [g4] at e3 <;> cases e3
theorem sim_unp {Q : Pr} {S : Sto} (p : Pins B H α) (ok : HOk P w H h) (sm : Sim Q α S H) : Sim Q α S (unp B H) := by
  refine ⟨sm.len, sm.nd, fun n a mo h1 h2 => ?_, fun q hq => ?_⟩
  · have := sm.at_ n a mo h1 h2
    cases mo with
    | lst ds =>
      obtain ⟨vs, g1, g2⟩ := this
      exact ⟨vs, by rw [unp_out (p.out g1 (fun x z => by cases z))]; exact g1, Reps.stay (p.stay ok) g2⟩
  · obtain ⟨ps, h1, h2, h3⟩ := sm.tabs q hq
    refine ⟨ps, by rw [unp_out (p.out h1 (fun x z => by cases z))]; exact h1, h2, fun pos cv e => ?_⟩
    obtain ⟨c, e1, e2⟩ := h3 pos cv e
    refine ⟨c, e1, ?_⟩
    rw [unp_out]; exact e2
    intro hb
    obtain ⟨o, k1, _, k3⟩ := p c hb
    obtain ⟨oc, vs, t, g1, g2, _⟩ := (ok c _ e2).1
    have z : h.get? c = some o := (ok c _ k1).1
    rw [g1] at z
    cases z
    rcases k3 with ⟨fd, k3⟩ | ⟨w0, k3⟩ <;> rw [g2] at k3 <;> cases k3
/-- back with the pinned things: more than ahead of it -/
theorem ext_rep {K : PySem.W.Frag} {α' : List Addr} (nn : ∀ b ∈ B, H' b = none) : Ext K α' H' α' (rep B H H') := by
  have out : ∀ {c o}, H' c = some o → c ∉ B := fun q z => by rw [nn _ z] at q; cases q
  refine ⟨⟨[], by simp⟩, fun a h => .inl h, fun a o _ _ q => by rw [rep_out (out q)]; exact q, fun a vs q => ?_, fun a o u q => by rw [rep_out (out q)]; exact q⟩
  obtain ⟨o, e, _⟩ := Rd.some q
  unfold Rd
  rw [rep_out (out e)]; exact q
theorem sim_rep {Q : Pr} {S : Sto} {α' : List Addr} (nn : ∀ b ∈ B, H' b = none) (sm : Sim Q α' S H') : Sim Q α' S (rep B H H') := by
  have out : ∀ {c o}, H' c = some o → c ∉ B := fun q z => by rw [nn _ z] at q; cases q
  refine ⟨sm.len, sm.nd, fun n a mo h1 h2 => ?_, tabs_stay sm.tabs fun b o _ q => by rw [rep_out (out q)]; exact q⟩
  have := sm.at_ n a mo h1 h2
  cases mo with
  | lst ds =>
    obtain ⟨vs, g1, g2⟩ := this
    exact ⟨vs, by rw [rep_out (out g1)]; exact g1, Reps.ext (ext_rep nn) g2⟩
theorem ext_back {K : PySem.W.Frag} {α' : List Addr} (p : Pins B H α) (nn : ∀ b ∈ B, H' b = none) (s' : ∀ a ∈ α', ∃ o, H' a = some o) (e : Ext K α (unp B H) α' H') : Ext K α H α' (rep B H H') := by
  have out : ∀ {c o}, H' c = some o → c ∉ B := fun q z => by rw [nn _ z] at q; cases q
  refine ⟨e.pre, fun a ha => ?_, fun a o na nt q => ?_, fun a vs q => ?_, fun a o u q => ?_⟩
  · obtain ⟨o, ho⟩ := s' a ha
    rcases e.new a ha with z | z
    · exact .inl z
    · rw [unp_out (out ho)] at z; exact .inr z
  · by_cases hb : a ∈ B
    · rw [rep_in hb]; exact q
    · rw [rep_out hb]; exact e.oth a o na nt (by rw [unp_out hb]; exact q)
  · have hb := p.rd q (fun x z => by cases z)
    have := e.tups a vs (by unfold Rd; rw [unp_out hb]; exact q)
    unfold Rd at this ⊢
    rw [rep_out hb]; exact this
  · have hb := p.out q (fun x z => by cases z)
    rw [rep_out hb]; exact e.frzs a o u (by rw [unp_out hb]; exact q)
end
/-- what is wanted behind the body, without the pinned things -/
theorem post_unp {Q : Pr} {B : List Addr} {H : Hp} {α : List Addr} {r : R D} {E : XK} {K : VK} (p : Pins B H α) (q : Post Q (Rep Q) E r α H K) :
    Post Q (Rep Q) (fun c d H' => (∀ b ∈ B, H' b = none) → E c d (rep B H H')) r α (unp B H) (fun v H' => (∀ b ∈ B, H' b = none) → K v (rep B H H')) := by
  cases r with
  | bad => exact q
  | ok d S' =>
    intro α' H' v e sm rv nn
    exact q α' _ v (ext_back p nn (fun a ha => (sm.tracked ha).imp fun _ x => x.1) e) (sim_rep nn sm) (rv.ext (ext_rep nn))
  | exc c d S' =>
    intro α' H' C dx e sm ⟨x, w, h1, h2, h3, h4, h5⟩ nn
    refine q α' _ C dx (ext_back p nn (fun a ha => (sm.tracked ha).imp fun _ x => x.1) e) (sim_rep nn sm) ⟨x, w, h1, h2, h3, ?_, Rep0.ext (ext_rep nn) h5⟩
    rw [rep_out (fun z => by rw [nn _ z] at h4; cases h4)]; exact h4
section
variable {prog : Program} {w : World} {B : List Addr} {H H' : Hp} {α : List Addr} {outer : List Env} {s s' : Shared} {Q : VK} {E : XK} {r : Result}
theorem un_rep (p : Pins B H α) (hfr : ∀ b ∈ frs outer, H b = none) (hok : HOk prog w H s.heap) {h' : Heap} (u : Un (frs outer) [] (unp B H) H' s.heap h') : (∀ b ∈ B, H' b = none) ∧ (∀ b ∈ B, ∀ o, H b = some (PinO b o) → h'.get? b = some o) ∧ Un (frs outer) [] H (rep B H H') s.heap h' := by
  have out : ∀ {b : Addr}, H b = none → b ∉ B := fun e => p.outN e
  have nn : ∀ b ∈ B, H' b = none := fun b hb => by
    obtain ⟨o, e, _⟩ := p b hb
    exact u.free b o (hok b _ e).1 (unp_in hb) (by simp)
  refine ⟨nn, fun b hb o e => ?_, fun b o e n hb hx => ?_, fun b o e n hb hx => ?_, fun b o e n hx => ?_, u.there, fun b xs e => ?_, fun b o x e => ?_, fun b ps e => ?_⟩
  · exact u.keep b o (hok b _ e).1 (unp_in hb) (fun z => by rw [hfr b z] at e; cases e) (by simp)
  · exact u.keep b o e (by rw [unp_out (out n)]; exact n) hb hx
  · exact u.slot b o e (by rw [unp_out (out n)]; exact n) hb hx
  · rw [rep_out (out n)]; exact u.free b o e (by rw [unp_out (out n)]; exact n) hx
  · have hb := p.out e (fun x z => by cases z)
    rw [rep_out hb]; exact u.tups b xs (by rw [unp_out hb]; exact e)
  · have hb := p.out e (fun x z => by cases z)
    rw [rep_out hb]; exact u.frzs b o x (by rw [unp_out hb]; exact e)
  · have hb := p.out e (fun x z => by cases z)
    rw [rep_out hb]; exact u.tbls b ps (by rw [unp_out hb]; exact e)
theorem cr_rep (p : Pins B H α) (hfr : ∀ b ∈ frs outer, H b = none) (hok : HOk prog w H s.heap)
    (h : CR (L2.CX prog w) outer prog w (unp B H) s (fun v H' => (∀ b ∈ B, H' b = none) → Q v (rep B H H')) (fun c d H' => (∀ b ∈ B, H' b = none) → E c d (rep B H H')) r s') : CR (L2.CX prog w) outer prog w H s Q E r s' := by
  cases r with
  | ok fl =>
    cases fl with
    | ret u =>
      obtain ⟨v, H', os, bare, un, ok', rv, q⟩ := h
      obtain ⟨nn, kp, un'⟩ := un_rep p hfr hok un
      exact ⟨v, _, os, bare, un', hok_rep p ok' nn kp, rv, q nn⟩
    | next => exact h
    | brk => exact h
    | cont => exact h
  | error e =>
    obtain ⟨a, G, H', cls, d, he, fl, ok', ub, na, os, ag, q⟩ := h
    have out : ∀ {b : Addr}, H b = none → b ∉ B := fun e => p.outN e
    have nfr : ∀ {b o}, H b = some (PinO b o) → b ∉ frs outer := fun e z => by rw [hfr _ z] at e; cases e
    have kp : ∀ b ∈ B, ∀ o, H b = some (PinO b o) → G.get? b = some o := fun b hb o e => ub.keep b o (hok b _ e).1 (unp_in hb) (nfr e)
    have nn : ∀ b ∈ B, H' b = none := fun b hb => by
      obtain ⟨o, e, _⟩ := p b hb
      exact ub.free b o (hok b _ e).1 (unp_in hb)
    have aB : a ∉ B := fun z => by
      obtain ⟨o, e, _⟩ := p a z
      have := kp a z o e
      rw [fl.2.1] at this; cases this
    refine ⟨a, G, _, cls, d, he, fl, hok_rep p ok' nn kp, ⟨fun b o e n hb => ?_, ub.slot, fun b o e n => ?_, ub.there, fun b xs e => ?_, fun b o x e => ?_, fun b ps e => ?_⟩, by rw [rep_out aB]; exact na, os, ag, q nn⟩
    · exact ub.keep b o e (by rw [unp_out (out n)]; exact n) hb
    · rw [rep_out (out n)]; exact ub.free b o e (by rw [unp_out (out n)]; exact n)
    · have hb := p.out e (fun x z => by cases z)
      rw [rep_out hb]; exact ub.tups b xs (by rw [unp_out hb]; exact e)
    · have hb := p.out e (fun x z => by cases z)
      rw [rep_out hb]; exact ub.frzs b o x (by rw [unp_out hb]; exact e)
    · have hb := p.out e (fun x z => by cases z)
      rw [rep_out hb]; exact ub.tbls b ps (by rw [unp_out hb]; exact e)
end
def startC (N : List Str) (cs : List (Option D)) : Ev := cs ++ List.replicate (N.length - cs.length) none
def runL (N : List Str) (m : ME) : List (Option D) → Sto → R D := fun cs S => m (startC N cs) S
/-- the text of a function made by lambda: its names, the captured ones first -/
structure LamOk (L : Lam) (N : List Str) : Prop where
  sc : NdefX.NScope N [] L.fr L.scope
  bind : ∀ (q : Str) (cl : List (Str × Addr)) (pm cv ctv : Value), bindArgs (PySem.W.kla_fn "<lambda>" q L.params L.body L.scope cl pm cv ctv) ⟨[], []⟩ = pure []
def cellsOfL (cl : List (Str × Addr)) : List Addr := cl.filterMap fun p => cl.lookup p.1
theorem cells_in {cl : List (Str × Addr)} {y : Str} {c : Addr} (h : cl.lookup y = some c) : c ∈ cellsOfL cl := by
  have hm : (y, c) ∈ cl := mem_of_lookup h
  exact List.mem_filterMap.mpr ⟨(y, c), hm, h⟩
theorem of_cells {cl : List (Str × Addr)} {c : Addr} (h : c ∈ cellsOfL cl) : ∃ y, cl.lookup y = some c := by
  obtain ⟨p, _, e⟩ := List.mem_filterMap.mp h
  exact ⟨p.1, e⟩
section
variable {P : Pr} {prog : Program} {w : World} {base : Heap} {k : Nat} {G : GT} {L : Lam} {N : List Str} {m : ME}
theorem CloAt.pins {α : List Addr} {H : Hp} {cs : List (Option D)} {fl c' : Addr} {cl : List (Str × Addr)} {pm ctv : Value} (C : CloAt P α H L cs fl c' cl pm ctv) : Pins (fl :: cellsOfL cl) H α := fun b hb => by
  rcases List.mem_cons.mp hb with rfl | hb
  · exact ⟨_, C.ob, C.nf, .inl ⟨_, rfl⟩⟩
  · obtain ⟨y, e⟩ := of_cells hb
    obtain ⟨h1, o, v, h2, h3⟩ := C.all y b e
    exact ⟨o, h3, h1, .inr ⟨v, h2⟩⟩
theorem CloOk.of (T : LamOk L N) (hG : GOk P prog w base k G) (hst : ∃ D fI, PrOk P prog D fI)
    (hb : ∀ (X : Cx) (W : WX), X.prog = prog → X.w = w → XOk P k G N L.scope none W X → PE X L.body (tE P W m)) : CloOk P prog w base (k + 1) L (runL N m) := by
  intro A outer s H α S cs fl c' cl pm ctv Q E hr hg e0 C sm q
  have p := C.pins
  have hok := e0.hok
  have of1 : s.heap.get? fl = some (PySem.W.kla_obj "<lambda>" L.qual L.params L.body L.scope cl pm c' ctv) := (hok fl _ C.ob).1
  have post := post_unp p q
  generalize hB : fl :: cellsOfL cl = B at p post
  have inB : ∀ {y c}, cl.lookup y = some c → c ∈ B := fun e => by rw [← hB]; exact List.mem_cons_of_mem _ (cells_in e)
  refine codeAny_mono ?_ fun r s' hq => cr_rep (B := B) p e0.frf hok hq
  have st := p.stay (K := P.K) hok
  have sm0 := sim_unp p hok sm
  have e0' : Env0 prog w P.K P.mg base A outer s (unp B H) := ⟨e0.frames, e0.mod, fun b o e => ⟨(e0.bs b o e).1, by
      have n := (e0.bs b o e).2
      rw [unp_out (p.outN n)]; exact n⟩, e0.bsz, e0.funs, fun b hb => by
      have n := e0.frf b hb
      rw [unp_out (p.outN n)]; exact n, hok_unp p hok, e0.bare⟩
  -- the captured values
  have ex : ∀ i : Nat, ∃ wv : Option V, (∀ d, cs[i]? = some (some d) → ∃ v, wv = some v ∧ Rep0 P α H d v) ∧ ∀ y v, L.fr[i]? = some y → wv = some v → ∃ c u, cl.lookup y = some c ∧ RelV v u ∧ s.heap.IsCell c (some u) := by
    intro i
    cases hi : cs[i]? with
    | none => exact ⟨none, (fun d h => by cases h), (fun y v _ h => by cases h)⟩
    | some od =>
      cases od with
      | none => exact ⟨none, (fun d h => by cases h), (fun y v _ h => by cases h)⟩
      | some d =>
        have hil : i < L.fr.length := by rw [← C.len]; exact (List.getElem?_eq_some_iff.mp hi).1
        obtain ⟨c, h1, h2⟩ := C.has i L.fr[i] (List.getElem?_eq_getElem hil)
        obtain ⟨o, u, v, g1, g2, g3, g4⟩ := h2 d hi
        refine ⟨some v, fun d' h => by cases h; exact ⟨v, rfl, g4⟩, fun y v' hy hv => ?_⟩
        cases hv
        rw [List.getElem?_eq_getElem hil] at hy
        cases hy
        exact ⟨c, u, h1, g3, o, (hok c _ g1).1, g2⟩
  obtain ⟨g, hgx⟩ := Classical.axiomOfChoice ex
  have CA : NdefX.CellsAt cl L.fr ((List.range L.fr.length).map g) s.heap (unp B H) := by
    refine ⟨by simp, fun y c e => ⟨unp_in (inB e), ?_⟩, C.inj, fun i y hy => ?_⟩
    · obtain ⟨h1, o, v, h2, h3⟩ := C.all y c e
      exact ⟨v, o, (hok c _ h3).1, h2⟩
    · obtain ⟨c, h1, _⟩ := C.has i y hy
      refine ⟨c, h1, fun v hv => ?_⟩
      have hil := (List.getElem?_eq_some_iff.mp hy).1
      rw [List.getElem?_map, List.getElem?_range hil] at hv
      simp at hv
      obtain ⟨c2, u, k1, k2, k3⟩ := (hgx i).2 y v hy hv
      rw [h1] at k1
      cases k1
      exact ⟨u, k2, k3⟩
  obtain ⟨⟨oc, vs, t, hoc, hdc, hvc⟩, _, _⟩ := hok c' _ C.co
  refine PySem.W.kla_callFunE hr.depth of1 rfl T.sc.co T.sc.gen rfl ⟨c', oc, vs, t, rfl, hoc, hdc, hvc⟩ ?_
  rw [T.bind]
  refine wpAny_pure (wpAny_newFunctionEnv (fun y hy => T.sc.nocell y hy) (fun y hy => absurd hy (by simp)) (fun h₁ hns hsb => ⟨(e0.mod.nolimit.keeps fun b o e => (e0.bs b o e).1).fresh _ hsb, ?_⟩) T.sc.kind)
  have kp : ∀ b o, s.heap.get? b = some o → h₁.get? b = some o := fun b o e => hsb.extBut b o (Nat.ne_of_lt (Heap.lt_size e)) (Heap.get?_push_of_some _ e)
  let F : NdefX.NF := ⟨"<lambda>", L.qual, L.params, [], L.scope, cl, c'⟩
  let E0 : XK := fun c d H' => (∀ b ∈ B, H' b = none) → E c d (rep B H H')
  have J : Inv (NdefX.ncx (L2.CX prog w) prog w P.K P.mg base N F fl A outer s (unp B H) E0) [] (NdefX.startF N [] ((List.range L.fr.length).map g)) (unp B H) { s with heap := h₁, toks := s.toks + ([] : List (Str × Value)).length } :=
    NdefX.inv_startN (F := F) (us := []) T.sc hr.hd e0' rfl .nil CA hns kp
  have hrk : Room k (A.deeper (NdefX.envF F fl s.heap.objs.size)) := hr.deeper _
  have tk := takes_of (X := NdefX.ncx (L2.CX prog w) prog w P.K P.mg base N F fl A outer s (unp B H) E0) (E := E0) rfl rfl rfl rfl
  have noc : ∀ {y : Str}, L.scope.names.lookup y ≠ some .cell := fun {y} h => T.sc.nocell (y, .cell) (mem_of_lookup h) rfl
  have xo : XOk P k G N L.scope none (fun cls d _ H => E0 cls d H) (NdefX.ncx (L2.CX prog w) prog w P.K P.mg base N F fl A outer s (unp B H) E0) := by
    refine ⟨rfl, rfl, rfl, T.sc.nd, rfl, tk, hrk, hg, hG, hst, (fun _ z => by cases z), fun x h => ?_, fun x h => h, fun x h => ?_, fun x h => h, fun x h => h, fun x h => h, T.sc.kind⟩
    · show L.scope.names.lookup x = _ ∨ _
      unfold visB at h
      split at h
      · rename_i e; exact .inl e
      · rename_i e; exact .inr (.inl e)
      · rename_i e; exact .inr (.inr e)
      · cases h
    · unfold stoB at h
      split at h
      · rename_i e; exact ⟨.inl e, .inr e⟩
      · rename_i e; exact absurd e noc
      · cases h
  refine PySem.W.kla_codeExpr (wpAny_mono ((hb _ _ rfl rfl xo).run [] _ _ (unp B H) _ J ⟨α, S, startC N cs, sm0, ?_, post⟩) (fun v s' hq => ?_) fun e s' hq => hq)
  · unfold startC NdefX.startF
    refine ⟨by simp [C.len], fun i d h => ?_⟩
    have hi : i < cs.length := by
      by_cases hi : i < cs.length
      · exact hi
      · rw [List.getElem?_append_right (by omega)] at h
        have := List.mem_of_getElem? h
        rw [List.mem_replicate] at this
        cases this.2
    rw [List.getElem?_append_left hi] at h
    obtain ⟨v, h1, h2⟩ := (hgx i).1 d h
    refine ⟨v, ?_, Rep0.up (Rep0.stay st h2)⟩
    have hil : i < L.fr.length := by rw [← C.len]; exact hi
    show (([] : List V).map some ++ _)[i]? = _
    rw [List.map_nil, List.nil_append, List.getElem?_append_left (by simpa using hil), List.getElem?_map, List.getElem?_range hil]
    simp [h1]
  · obtain ⟨w', H', J', rv, q'⟩ := hq
    exact ⟨w', H', J'.os, J'.bare, J'.base, J'.hok, rv, q'⟩
end
end Vi
set_option Elab.async false
set_option linter.all false
set_option maxRecDepth 100000
set_option maxHeartbeats 4000000
/-! Functions made by lambda: made in a call's first place; called by a name. -/
namespace Vi
open PySem L2
section
variable {X : Cx} {pins : List (Addr × Obj)} {σ : L2.St} {H : Hp} {s : Shared}
/-- a function made, at a new place -/
theorem lam_made {T : List (Addr × Str)} {c Pt : Addr} {params : Arguments} {body : Expr} {scope : Scope} {pos : Pos} {E : Value → Shared → Prop} {Q : Value → Shared → Prop} (I : Inv X pins σ H s) (TB : LamX.TabB X.base X.mg c Pt) (hcode : X.env.code = .ref c)
    (hm : (Pt, X.env.qual ++ "<lambda>") ∈ T) (hu : ∀ p ∈ T, p.1 = Pt → p.2 = X.env.qual ++ "<lambda>") (hT : LamX.Tabs T H) (hdef : defaultsOf params X.env = ([], [])) (hfree : ∀ y ∈ scope.names, y.2 = .free → ∃ c, X.env.cells.lookup y.1 = some c)
    (h : ∀ (fl c' : Addr) (pm ctv : Value) (H1 : Hp) (s' : Shared), Inv X pins σ H1 s' → LamX.ExtN H H1 → LamX.Tabs T H1 → (∀ b ps, H1 b = some (.lst ps) → H b = some (.lst ps)) →
      s'.heap.get? fl = some (PySem.W.kla_obj "<lambda>" (X.env.qual ++ "<lambda>") params body scope (cloFrom X.env.cells scope.names []) pm c' ctv) → H1 fl = none → s.heap.objs.size ≤ fl → H1 c' = some (LamX.CodeO c' (X.env.qual ++ "<lambda>")) → Q (.ref fl) s') :
    wpAny (model X.prog X.w) X.A (eval (.Lambda params body scope pos) X.env) Q E s := by
  obtain ⟨ps, hP, ht, ha⟩ := hT _ hm
  have tab : s.heap.get? Pt = some { cls := .none, data := .fields ps } := I.hok Pt _ hP
  have bm : s.heap.BuiltinsAt X.mg Pt := TB.bm.keeps I.bk
  have hd : PySem.W.CodeHd s.heap c Pt := TB.code.keeps I.bk
  refine PySem.W.kla_eval hdef ?_
  cases hc : codeAmong pos ps.toList with
  | some cv =>
    obtain ⟨c', rfl, hco⟩ := ha pos cv hc
    refine PySem.W.kla_makeFunctionHit (closure_ok hfree) I.ok.glob (I.mod.glob.keeps I.bk) hcode hd tab ht hc bm fun ctv h' tk hx hsz => ?_
    exact h h'.objs.size c' ((X.mg "__name__").getD .none) ctv H _ (I.kept (t' := tk) fun b o e => Heap.get?_push_of_some _ (hx b o e)) (LamX.ExtN.refl H) hT (fun _ _ e => e) (Heap.get?_push_size _ rfl) (I.hok.fresh hsz) hsz hco
  | none =>
    refine PySem.W.kla_makeFunction (closure_ok hfree) I.ok.glob (I.mod.glob.keeps I.bk) hcode hd tab ht hc TB.gP bm fun c' ctv h' tk hx hge hlt hrec htb => ?_
    obtain ⟨c2, oc, vs, t, e2, hoc, hdt, hv⟩ := hrec
    cases e2
    have big : s.heap.objs.size ≤ h'.objs.size := Nat.le_trans hge (Nat.le_of_lt hlt)
    have nC : H c' = none := I.hok.fresh hge
    have nP : ∀ {b o}, H b = some o → (∀ ps, o ≠ .tbl ps) → b ≠ Pt := fun e n z => by rw [z, hP] at e; cases e; exact n _ rfl
    have J := LamX.inv_table (t' := tk) (more := #[rawInt pos.line, rawInt pos.col, .ref c']) (h' := h'.push (PySem.W.kla_obj "<lambda>" (X.env.qual ++ "<lambda>") params body scope (cloFrom X.env.cells scope.names []) ((X.mg "__name__").getD .none) c' ctv)) I hP
      (fun b o hb e => Heap.get?_push_of_some _ (hx b o hb e)) (Heap.get?_push_of_some _ htb) hge ⟨oc, vs, t, Heap.get?_push_of_some _ hoc, hdt, hv⟩
    have eN : LamX.ExtN H (upd (upd H Pt (.tbl (ps ++ #[rawInt pos.line, rawInt pos.col, .ref c']))) c' (LamX.CodeO c' (X.env.qual ++ "<lambda>"))) := fun b o e n => by
      rw [upd_ne (ne_of_none e nC), upd_ne (nP e n)]; exact e
    have eL : (ps ++ #[rawInt pos.line, rawInt pos.col, .ref c']).toList = ps.toList ++ [rawInt pos.line, rawInt pos.col, .ref c'] := by simp
    refine h h'.objs.size c' _ ctv _ _ J eN (fun p hp => ?_) (fun b xs e => ?_) (Heap.get?_push_size _ rfl) ?_ big upd_same
    · by_cases hb : p.1 = Pt
      · rw [hu p hp hb, hb]
        refine ⟨_, by rw [upd_ne (ne_of_none hP nC), upd_same], by rw [eL]; exact PySem.TriplesOk_snoc _ _ _ _ ht, fun p' cv hcv => ?_⟩
        rw [eL] at hcv
        rcases LamX.among_app _ ht hcv with z | z
        · exact let ⟨c0, e1, e2⟩ := ha p' cv z; ⟨c0, e1, eN _ _ e2 LamX.codeO_ne⟩
        · exact ⟨c', z, upd_same⟩
      · obtain ⟨ps', a1, a2, a3⟩ := hT p hp
        exact ⟨ps', by rw [upd_ne (ne_of_none a1 nC), upd_ne hb]; exact a1, a2, fun p' cv hcv => let ⟨c0, e1, e2⟩ := a3 p' cv hcv; ⟨c0, e1, eN _ _ e2 LamX.codeO_ne⟩⟩
    · by_cases h1 : b = c'
      · rw [h1, upd_same] at e; cases e
      · rw [upd_ne h1] at e
        by_cases h2 : b = Pt
        · rw [h2, upd_same] at e; cases e
        · rw [upd_ne h2] at e; exact e
    · rw [upd_ne (Nat.ne_of_gt hlt), upd_ne (Nat.ne_of_gt (Nat.lt_of_lt_of_le (Heap.lt_size tab) big))]
      exact I.hok.fresh big
end
section
variable {P : Pr} {X : Cx} {W : WX} {k : Nat} {G : GT} {N : List Str} {sc : Scope} {lq : Option Str}
/-! ### a call by a name, of no arguments -/
def mCall0 (G : GT) (iv : Nat) : ME := fun ρ S => match ρ[iv]? with
  | some (some (.clo i cs)) => G.lam i cs S
  | _ => .bad
theorem pd_call0 {iv : Nat} {x : Str} {p pos : Pos} (xo : XOk P k G N sc lq W X) (hN : N[iv]? = some x) (hv : visB sc x = true) (hdb : (x == ("__debug__" : Str)) = false) (hcd : (x == ("__classdict__" : Str)) = false) :
    PE X (.Call (.Name x p) [] [] pos) (tE P W (mCall0 G iv)) := by
  refine ⟨fun pins s σ H Q I ⟨α, S, ρ, sm, er, q⟩ => ?_⟩
  unfold mCall0 at q
  split at q
  · rename_i i cs hj
    obtain ⟨v, hv1, hv2⟩ := er.2 iv _ hj
    obtain ⟨L, fl, c', cl, pm, ctv, hL, rfl, C⟩ := hv2
    have hvr := (pe_var (X := X) (i := iv) (x := x) (pos := p) (by rw [xo.hN]; exact hN) (xo.vis x hv) hdb hcd).run pins s σ H (fun v H' => v = .ref fl ∧ H' = H) I ⟨_, hv1, rfl, rfl⟩
    refine wpAny_Call_Name_kw (thn hvr fun u s0 ⟨w, H', I0, rw0, e1, e2⟩ => ?_)
    subst e1; subst e2
    cases rw0
    have of1 : s0.heap.get? fl = some (PySem.W.kla_obj "<lambda>" L.qual L.params L.body L.scope cl pm c' ctv) := (I0.hok fl _ C.ob).1
    refine PySem.W.callWith_F0 ⟨_, _, _, _, of1⟩ ?_
    have e0 := I0.env0
    rw [xo.K, xo.mg] at e0
    refine wpAny_call (codeAny_mono (xo.fns.lam i L hL X.A X.stack s0 H' α S cs fl c' cl pm ctv Q (fun c d H => W c d σ H) xo.room xo.gd e0 C sm q) fun r s' hq => ?_)
    cases r with
    | error e => exact passAt xo.tk σ pins H' s0 e s' I0 hq
    | ok f0 =>
      cases f0 with
      | ret u => exact I0.after hq
      | next => exact False.elim hq
      | brk => exact False.elim hq
      | cont => exact False.elim hq
  · exact q.elim
/-! ### f(lambda: .., ..) -/
def capD (ρ : Ev) (j : Nat) : Option D := match ρ[j]? with
  | some o => o
  | none => none
def capOk (ρ : Ev) (js : List Nat) : Bool := js.all fun j => match capD ρ j with
  | some d => noClo d
  | none => true
def mCallL (G : GT) (i li : Nat) (js : List Nat) (mr : MA) : ME := fun ρ S => if capOk ρ js = true then (mr ρ S).bind fun ds S1 => (G.fn i (.clo li (js.map (capD ρ)) :: ds) S1).bind fun d S2 => if noClo d = true then .ok d S2 else .bad else .bad
/-- what the call is to promise, with the pinned things -/
theorem clo_post {P : Pr} {prog : Program} {w : World} {B : List Addr} {H2 T0 : Hp} {α2 : List Addr} {r : R D} {E : XK} {Q : VK} (nn : ∀ b ∈ B, H2 b = none) (pn : Pins B T0 α2)
    (q : Post P (Rep P) E (r.bind fun d S2 => if noClo d = true then .ok d S2 else .bad) α2 H2 Q) :
    Post P (Rep P) (fun c d H' => (∀ b ∈ B, H' b = T0 b) ∧ ∀ h, HOk prog w H' h → E c d (unp B H')) r α2 (rep B T0 H2) (fun v H' => (∀ b ∈ B, H' b = T0 b) ∧ ∀ h, HOk prog w H' h → Q v (unp B H')) := by
  have out : ∀ {c o}, H2 c = some o → c ∉ B := fun q z => by rw [nn _ z] at q; cases q
  have at_ : ∀ {α' H'}, Ext P.K α2 (rep B T0 H2) α' H' → ∀ b ∈ B, H' b = T0 b := fun {α' H'} e b hb => by
    obtain ⟨o, h1, h2, _⟩ := pn b hb
    rw [h1]
    exact e.oth b _ h2 (fun _ z => by cases z) (by rw [rep_in hb]; exact h1)
  have pin' : ∀ {α' H'}, Ext P.K α2 (rep B T0 H2) α' H' → Pins B H' α' := fun {α' H'} e b hb => by
    obtain ⟨o, h1, h2, h3⟩ := pn b hb
    exact ⟨o, by rw [at_ e b hb]; exact h1, e.nin (o := PinO b o) (by rw [rep_in hb]; exact h1) h2, h3⟩
  have ext' : ∀ {α' H'}, Ext P.K α2 (rep B T0 H2) α' H' → Ext P.K α2 H2 α' (unp B H') := fun {α' H'} e => by
    refine ⟨e.pre, fun a ha => ?_, fun a o na nt h => ?_, fun a vs h => ?_, fun a o u h => ?_⟩
    · rcases e.new a ha with z | z
      · exact .inl z
      · by_cases hb : a ∈ B
        · rw [rep_in hb] at z
          obtain ⟨o, h1, _⟩ := pn a hb
          rw [h1] at z
          rcases z with z | ⟨ps, z⟩ <;> cases z
        · rw [rep_out hb] at z; exact .inr z
    · have hb := out h
      rw [unp_out hb]; exact e.oth a o na nt (by rw [rep_out hb]; exact h)
    · obtain ⟨o, ho, _⟩ := Rd.some h
      have hb := out ho
      have := e.tups a vs (by unfold Rd; rw [rep_out hb]; exact h)
      unfold Rd at this ⊢
      rw [unp_out hb]; exact this
    · have hb := out h
      rw [unp_out hb]; exact e.frzs a o u (by rw [rep_out hb]; exact h)
  cases r with
  | bad => exact q
  | ok d S' =>
    intro α' H' v e sm rv
    refine ⟨at_ e, fun h ok => ?_⟩
    simp only [R.bind] at q
    split at q
    · rename_i hn
      exact q α' _ v (ext' e) (sim_unp (pin' e) ok sm) (Rep0.up (Rep0.stay ((pin' e).stay ok) (rv.z hn)))
    · exact q.elim
  | exc c d S' =>
    intro α' H' C dx e sm ⟨x, w', h1, h2, h3, h4, h5⟩
    refine ⟨at_ e, fun h ok => ?_⟩
    refine q α' _ C dx (ext' e) (sim_unp (pin' e) ok sm) ⟨x, w', h1, h2, h3, ?_, Rep0.stay ((pin' e).stay ok) h5⟩
    rw [unp_out ((pin' e).out h4 (fun x z => by cases z))]; exact h4
theorem un_unp {prog : Program} {w : World} {B : List Addr} {H2 T0 H' : Hp} {α : List Addr} {fs : List Addr} {h h' : Heap} (nn : ∀ b ∈ B, H2 b = none) (pn : Pins B T0 α) (hT : ∀ b ∈ B, ∀ o, h.get? b = some o → T0 b = some (PinO b o)) (at_ : ∀ b ∈ B, H' b = T0 b)
    (ok : HOk prog w H' h') (u : Un fs [] (rep B T0 H2) H' h h') : Un fs [] H2 (unp B H') h h' := by
  have out : ∀ {c o}, H2 c = some o → c ∉ B := fun q z => by rw [nn _ z] at q; cases q
  have same : ∀ b ∈ B, ∀ o, h.get? b = some o → h'.get? b = some o := fun b hb o e => (ok b (PinO b o) (by rw [at_ b hb]; exact hT b hb o e)).1
  refine ⟨fun b o e n hb hx => ?_, fun b o e n hb hx => ?_, fun b o e n hx => ?_, u.there, fun b xs e => ?_, fun b o x e => ?_, fun b ps e => ?_⟩
  · by_cases hB : b ∈ B
    · exact same b hB o e
    · exact u.keep b o e (by rw [rep_out hB]; exact n) hb hx
  · by_cases hB : b ∈ B
    · exact ⟨o.slots, same b hB o e⟩
    · exact u.slot b o e (by rw [rep_out hB]; exact n) hb hx
  · by_cases hB : b ∈ B
    · exact unp_in hB
    · rw [unp_out hB]; exact u.free b o e (by rw [rep_out hB]; exact n) hx
  · rw [unp_out (out e)]; exact u.tups b xs (by rw [rep_out (out e)]; exact e)
  · rw [unp_out (out e)]; exact u.frzs b o x (by rw [rep_out (out e)]; exact e)
  · rw [unp_out (out e)]; exact u.tbls b ps (by rw [rep_out (out e)]; exact e)
theorem cx_unp {prog : Program} {w : World} {B : List Addr} {H2 T0 : Hp} {α : List Addr} {outer : List Env} {s s' : Shared} {E : XK} {e : Value} (nn : ∀ b ∈ B, H2 b = none) (pn : Pins B T0 α) (hT : ∀ b ∈ B, ∀ o, s.heap.get? b = some o → T0 b = some (PinO b o))
    (c : L2.CX prog w outer (rep B T0 H2) s (fun c d H' => (∀ b ∈ B, H' b = T0 b) ∧ ∀ h, HOk prog w H' h → E c d (unp B H')) e s') : L2.CX prog w outer H2 s E e s' := by
  obtain ⟨a, G, H', cls, d, he, fl, ok, ub, na, os, ag, at_, q⟩ := c
  have out : ∀ {c o}, H2 c = some o → c ∉ B := fun q z => by rw [nn _ z] at q; cases q
  have same : ∀ b ∈ B, ∀ o, s.heap.get? b = some o → G.get? b = some o := fun b hb o e => (ok b (PinO b o) (by rw [at_ b hb]; exact hT b hb o e)).1
  have pn' : Pins B H' [] := fun b hb => by
    obtain ⟨o, h1, _, h3⟩ := pn b hb
    exact ⟨o, by rw [at_ b hb]; exact h1, by simp, h3⟩
  refine ⟨a, G, unp B H', cls, d, he, fl, hok_unp pn' ok, ⟨fun b o e n hb => ?_, ub.slot, fun b o e n => ?_, ub.there, fun b xs e => ?_, fun b o x e => ?_, fun b ps e => ?_⟩, ?_, os, ag, q G ok⟩
  · by_cases hB : b ∈ B
    · exact same b hB o e
    · exact ub.keep b o e (by rw [rep_out hB]; exact n) hb
  · by_cases hB : b ∈ B
    · exact unp_in hB
    · rw [unp_out hB]; exact ub.free b o e (by rw [rep_out hB]; exact n)
  · rw [unp_out (out e)]; exact ub.tups b xs (by rw [rep_out (out e)]; exact e)
  · rw [unp_out (out e)]; exact ub.frzs b o x (by rw [rep_out (out e)]; exact e)
  · rw [unp_out (out e)]; exact ub.tbls b ps (by rw [rep_out (out e)]; exact e)
  · by_cases hB : a ∈ B
    · exact unp_in hB
    · rw [unp_out hB]; exact na
theorem capOk_at {ρ : Ev} {js : List Nat} (h : capOk ρ js = true) {j : Nat} {d : D} (hj : j ∈ js) (hd : capD ρ j = some d) : noClo d = true ∧ ρ[j]? = some (some d) := by
  have := List.all_eq_true.mp h j hj
  rw [hd] at this
  refine ⟨this, ?_⟩
  unfold capD at hd
  split at hd
  · rename_i o ho; rw [ho, hd]
  · cases hd
theorem pd_callL {i li : Nat} {x : Str} {L : Lam} {js : List Nat} {es : List Expr} {mr : MA} {p lp pos : Pos} (xo : XOk P k G N sc lq W X) (hi : P.T.fns[i]? = some x) (hg : sc.names.lookup x = some .globalImplicit) (hli : P.T.lams[li]? = some L) (hq : lq = some L.qual)
    (hdef : ∀ env, defaultsOf L.params env = ([], [])) (hsc : ∀ y ∈ L.scope.names, y.2 = .free → sc.names.lookup y.1 = some .cell ∨ sc.names.lookup y.1 = some .free) (hfr : ∀ y ∈ L.fr, (y, NameKind.free) ∈ L.scope.names)
    (hjs : js.map (fun j => N[j]?) = L.fr.map some) (ha : PA X es (tA P W mr)) (hdb : (x == ("__debug__" : Str)) = false) (hs : es.all notStar = true) :
    PE X (.Call (.Name x p) (.Lambda L.params L.body L.scope lp :: es) [] pos) (tE P W (mCallL G i li js mr)) := by
  refine ⟨fun pins s σ H Q I ⟨α, S, ρ, sm, er, q⟩ => ?_⟩
  unfold mCallL at q
  by_cases hcap : capOk ρ js = true
  case neg => rw [if_neg hcap] at q; exact q.elim
  rw [if_pos hcap] at q
  obtain ⟨c, Pt, hcode, TB, hqual, hm, hu, hfn⟩ := xo.lm _ hq
  obtain ⟨f, fd, ps, hmf, hk, hb, Fg, ar⟩ := xo.fns.fn i x hi
  have hfree : ∀ y ∈ L.scope.names, y.2 = .free → ∃ c, X.env.cells.lookup y.1 = some c := fun y hy hf => I.ok.has y.1 (xo.fr _ (hsc y hy hf))
  refine wpAny_Call_Name_kw (ld_glob I (xo.gl x hg) (by rw [xo.mg]; exact hmf) ?_ hdb)
  refine PySem.W.callWith_K (h₀ := X.base) I.ok.mod.kin (by rw [xo.K]; exact hk) ?_ (star_ok rfl _) (notStars hs _)
  rw [star_ok (show notStar (.Lambda L.params L.body L.scope lp) = true from rfl)]
  show wpAny _ _ (spliced ((false, eval (.Lambda L.params L.body L.scope lp) X.env) :: backTo pos (starEach es X.env))) _ _ s
  refine Calls.spliced_cons (lam_made I TB hcode (by rw [hqual]; exact hm) (by rw [hqual]; exact hu) sm.tabs (hdef _) hfree fun fl c' pm ctv H1 s1 I1 eN T1 _ hob hn1 hge hco => ?_)
  rw [hqual] at hob hco
  have e1 : Ext P.K α H α H1 := ⟨⟨[], by simp⟩, fun a h => .inl h, fun a o _ nt h => eN a o h nt, fun a vs h => by
    rcases h with h | ⟨o, h⟩
    · exact .inl (eN a _ h (fun _ z => by cases z))
    · exact .inr ⟨o, eN a _ h (fun _ z => by cases z)⟩, fun a o u h => eN a _ h (fun _ z => by cases z)⟩
  have sm1 : Sim P α S H1 := ⟨sm.len, sm.nd, fun n a mo h1 h2 => by
    have := sm.at_ n a mo h1 h2
    cases mo with
    | lst ds =>
      obtain ⟨vs, g1, g2⟩ := this
      exact ⟨vs, eN a _ g1 (fun _ z => by cases z), Reps.ext e1 g2⟩, T1⟩
  have bnew : X.base.get? fl = none := Heap.get?_none_of_le (Nat.le_trans (Nat.le_trans I.ok.bsz I.sz) hge)
  have flL : fl ≠ X.env.locals := Nat.ne_of_gt (Nat.lt_of_lt_of_le I.lt hge)
  have flF : fl ∉ X.fs := I.nofs hge
  have I1p : Inv X (pins ++ [(fl, PySem.W.kla_obj "<lambda>" L.qual L.params L.body L.scope (cloFrom X.env.cells L.scope.names []) pm c' ctv)]) σ H1 s1 := I1.pins_of fun p hp => by
    rcases List.mem_append.mp hp with hp | hp
    · exact I1.pin p (List.mem_append_right _ hp)
    · have := List.mem_singleton.mp hp
      rw [this]
      exact ⟨hob, hn1, flL, flF, fun v z => by cases z⟩
  refine thn (ha.run pos _ s1 σ H1 (fun vs H2 => ∃ α2 S2 ds, Ext P.K α H1 α2 H2 ∧ Sim P α2 S2 H2 ∧ RepA P α2 H2 ds vs ∧ Post P (Rep P) (fun c d H => W c d σ H) ((G.fn i (.clo li (js.map (capD ρ)) :: ds) S2).bind fun d S2 => if noClo d = true then .ok d S2 else .bad) α2 H2 Q) I1p
    ⟨α, S, ρ, sm1, er.ext e1, Post.bind (Post.ext e1 q) fun α2 H2 ds S2 vs e2 s2 r2 q2 => ⟨α2, S2, ds, e2, s2, r2, q2⟩⟩) fun us s2 ⟨vs, H2, I2, r2, α2, S2, ds, e2, sm2, ra2, q2⟩ => ⟨I2.kIn, ?_⟩
  generalize hcl : cloFrom X.env.cells L.scope.names [] = cl at hob I1p I2
  obtain ⟨pf1, pf2, _, _, _⟩ := I2.pin (fl, PySem.W.kla_obj "<lambda>" L.qual L.params L.body L.scope cl pm c' ctv) (by simp)
  have ccm : ∀ {y c}, cl.lookup y = some c → X.env.cells.lookup y = some c := fun {y c} e => NdefX.clo_cm hfree (by rw [hcl]; exact e)
  generalize hB : fl :: cellsOfL cl = B
  generalize hT0 : (fun b => (s2.heap.get? b).map (PinO b) : Hp) = T0
  have nn : ∀ b ∈ B, H2 b = none := fun b hb => by
    rw [← hB] at hb
    rcases List.mem_cons.mp hb with rfl | hb
    · exact pf2
    · obtain ⟨y, e⟩ := of_cells hb
      exact I2.freeC y b (ccm e)
  have hT : ∀ b ∈ B, ∀ o, s2.heap.get? b = some o → T0 b = some (PinO b o) := fun b _ o e => by rw [← hT0]; show (s2.heap.get? b).map _ = _; rw [e]; rfl
  have pn : Pins B T0 α2 := fun b hb => by
    have hb' := hb
    rw [← hB] at hb'
    rcases List.mem_cons.mp hb' with rfl | hb2
    · exact ⟨_, hT _ hb _ pf1, sm2.nin pf2, .inl ⟨_, rfl⟩⟩
    · obtain ⟨y, e⟩ := of_cells hb2
      obtain ⟨v, o, ho, hd⟩ := I2.cell y b (ccm e)
      exact ⟨o, hT _ hb _ ho, sm2.nin (I2.freeC y b (ccm e)), .inr ⟨v, hd⟩⟩
  have c'nin : c' ∉ α2 := e2.nin hco (fun z => by
    obtain ⟨o, h1, vs0, rfl⟩ := sm1.tracked z
    rw [hco] at h1; cases h1)
  have hco2 : H2 c' = some (LamX.CodeO c' L.qual) := e2.oth c' _ (fun z => by
    obtain ⟨o, h1, vs0, rfl⟩ := sm1.tracked z
    rw [hco] at h1; cases h1) (fun _ z => by cases z) hco
  have inB : ∀ {y c}, cl.lookup y = some c → c ∈ B := fun e => by rw [← hB]; exact List.mem_cons_of_mem _ (cells_in e)
  have C : CloAt P α2 (rep B T0 H2) L (js.map (capD ρ)) fl c' cl pm ctv := by
    refine ⟨sm2.nin pf2, ?_, c'nin, ?_, ?_, fun y z c e1 e2 => I.ok.inj y z c (ccm e1) (ccm e2), fun y c e => ?_, fun j y hy => ?_⟩
    · have : fl ∈ B := by rw [← hB]; exact List.mem_cons_self
      rw [rep_in this]; exact hT _ this _ pf1
    · rw [rep_out (fun z => by rw [nn _ z] at hco2; cases hco2)]; exact hco2
    · have := congrArg List.length hjs
      simpa using this
    · obtain ⟨v, o, ho, hd⟩ := I2.cell y c (ccm e)
      exact ⟨sm2.nin (I2.freeC y c (ccm e)), o, v, hd, by rw [rep_in (inB e)]; exact hT _ (inB e) _ ho⟩
    · have hyf := hfr y (List.mem_of_getElem? hy)
      have hkind := xo.fr _ (hsc (y, .free) hyf rfl)
      obtain ⟨c0, hc0⟩ := hfree (y, .free) hyf rfl
      have hlk : cl.lookup y = some c0 := by rw [← hcl]; exact NdefX.clo_has hfree hyf hc0
      refine ⟨c0, hlk, fun d hd => ?_⟩
      have hjl : j < js.length := by
        have := (List.getElem?_eq_some_iff.mp hd).1
        simpa using this
      rw [List.getElem?_map, List.getElem?_eq_getElem hjl] at hd
      simp at hd
      obtain ⟨hn, hρ⟩ := capOk_at hcap (List.getElem_mem hjl) hd
      obtain ⟨v, hv1, hv2⟩ := er.2 _ _ hρ
      have hNj : N[js[j]]? = some y := by
        have := congrArg (fun l => l[j]?) hjs
        simp only [List.getElem?_map, List.getElem?_eq_getElem hjl, hy, Option.map_some, Option.some.injEq] at this
        exact this
      obtain ⟨m, hns, hl⟩ := I2.loc
      obtain ⟨u, ru, lk⟩ := hl js[j] y v (by rw [xo.hN]; exact hNj) hv1 (by rcases hkind with z | z; exact .inr (.inl z); exact .inr (.inr z))
      rcases lk with ⟨z, _⟩ | ⟨_, c3, hc3, o, ho, hdc⟩
      · have z' : X.env.scope.names.lookup y = some .local := z
        rcases hkind with z2 | z2 <;> rw [z'] at z2 <;> cases z2
      · have hc0' : X.env.cells.lookup y = some c0 := hc0
        rw [hc0'] at hc3
        cases hc3
        exact ⟨o, u, v, by rw [rep_in (inB hlk)]; exact hT _ (inB hlk) _ ho, hdc, ru, Rep0.ext (ext_rep nn) (Rep0.ext (e1.trans e2) (hv2.z hn))⟩
  have post := clo_post (prog := X.prog) (w := X.w) nn pn q2
  have e0 := I2.env0
  rw [xo.K, xo.mg] at e0
  have cB : ∀ b ∈ B, b ≠ fl → X.s_0.heap.objs.size ≤ b := fun b hb ne => by
    rw [← hB] at hb
    rcases List.mem_cons.mp hb with rfl | hb
    · exact absurd rfl ne
    · obtain ⟨y, e⟩ := of_cells hb
      exact I.ok.cab y b (hfn y) (ccm e)
  have e0t : Env0 X.prog X.w P.K P.mg X.base X.A X.stack s2 (rep B T0 H2) := by
    refine ⟨e0.frames, e0.mod, fun b o e => ⟨(e0.bs b o e).1, ?_⟩, e0.bsz, e0.funs, fun b hb => ?_, hok_rep pn e0.hok nn (fun b hb o e => ?_), e0.bare⟩
    · rw [rep_out]
      · exact (e0.bs b o e).2
      · intro z
        by_cases hf : b = fl
        · rw [hf, bnew] at e; cases e
        · exact absurd (Nat.lt_of_lt_of_le (Heap.lt_size e) I.ok.bsz) (Nat.not_lt.mpr (cB b z hf))
    · rw [rep_out]
      · exact e0.frf b hb
      · intro z
        rcases List.mem_cons.mp (I.stkSub b hb) with h1 | h1
        · rw [← hB] at z
          rcases List.mem_cons.mp z with z | z
          · exact flL (by rw [← z, h1])
          · obtain ⟨y, e⟩ := of_cells z
            exact I.cne y b (ccm e) h1
        · by_cases hf : b = fl
          · exact flF (by rw [← hf]; exact h1)
          · obtain ⟨_, o, ho, _⟩ := I.ok.funs.mem h1
            exact absurd (Heap.lt_size ho) (Nat.not_lt.mpr (cB b z hf))
    · obtain ⟨o', h1, _⟩ := pn b hb
      have h2 := hb
      rw [← hB] at h2
      have : ∃ o2, s2.heap.get? b = some o2 := by
        rcases List.mem_cons.mp h2 with rfl | h2
        · exact ⟨_, pf1⟩
        · obtain ⟨y, e⟩ := of_cells h2
          obtain ⟨v, o, ho, _⟩ := I2.cell y b (ccm e)
          exact ⟨o, ho⟩
      obtain ⟨o2, h3⟩ := this
      have h4 := hT b hb o2 h3
      rw [e] at h4
      exact PinO_inj (Option.some.inj h4).symm h3
  have hlen : (D.clo li (js.map (capD ρ)) :: ds).length = ps.length := Classical.byContradiction fun z => by
    rw [ar _ S2 z] at q2; exact q2
  have hlu : (Value.ref fl :: us).length = ps.length := by
    rw [← hlen]
    simp [← r2.length, ← ra2.len]
  have bd := hb s2 (Value.ref fl :: us) (by rw [← xo.K]; exact I2.kIn) (by rw [List.append_nil]; exact hlu)
  rw [List.append_nil] at bd
  refine wpAny_call (codeAny_mono (Fg.run X.A X.stack s2 (rep B T0 H2) ⟨Value.ref fl :: us, []⟩ (Value.ref fl :: us) (V.ref fl :: vs) _ _ xo.room xo.gd e0t bd (.cons rfl r2)
    ⟨α2, S2, D.clo li (js.map (capD ρ)) :: ds, sim_rep nn sm2, ⟨V.ref fl, vs, rfl, ⟨L, fl, c', cl, pm, ctv, hli, rfl, C⟩, RepA.ext (ext_rep nn) ra2⟩, hlen, post⟩) fun r s3 hq => ?_)
  have I2' : Inv X pins σ H2 s2 := I2.pins_of fun p hp => I2.pin p (List.mem_append_right _ (List.mem_append_left _ hp))
  cases r with
  | error e => exact passAt xo.tk σ pins H2 s2 e s3 I2' (cx_unp nn pn hT hq)
  | ok f0 =>
    cases f0 with
    | ret u =>
      obtain ⟨v, H', os, bare, un, ok', rv, at_, q'⟩ := hq
      have pn' : Pins B H' [] := fun b hb => by
        obtain ⟨o, h1, _, h3⟩ := pn b hb
        exact ⟨o, by rw [at_ b hb]; exact h1, by simp, h3⟩
      exact ⟨v, unp B H', I2'.call' os (un_unp nn pn hT at_ ok' un) (hok_unp pn' ok') bare (fun _ z => nomatch z), rv, q' _ ok'⟩
    | next => exact False.elim hq
    | brk => exact False.elim hq
    | cont => exact False.elim hq
end
end Vi
set_option Elab.async false
set_option linter.all false
set_option maxRecDepth 100000
set_option maxHeartbeats 2000000
/-! More: tuples stored in names, list methods, list(range), constants of the module. -/
namespace Vi
open PySem L2
/-! ### which way a, b = x, y is stored -/
def isStarred : Expr → Bool
  | .Starred .. => true
  | _ => false
def nameOn (kf : Str → Bool) (line : Nat) : Expr → Option Str
  | .Name id pos => if kf id && pos.line == line then some id else none
  | _ => none
/-- none: it is not told; some none: one after another, by a tuple; some (some xs): from the right -/
def swR (kf : Str → Bool) (ts vs : List Expr) : Option (Option (List Str)) :=
  if (!(ts.length == 2 || ts.length == 3) || vs.length != ts.length) = true then some none
  else if (vs.any isStarred) = true then some none
  else if ((ts.filterMap (nameOn kf ((ts.head?.map (·.pos.line)).getD 0))).length != ts.length || (ts.filterMap (nameOn kf ((ts.head?.map (·.pos.line)).getD 0))).eraseDups.length != (ts.filterMap (nameOn kf ((ts.head?.map (·.pos.line)).getD 0))).length) = true then some none
  else if vs.all (foldedForSure 8) = true then some none
  else if vs.all (constantsAlone 8) = true then none
  else some (some (ts.filterMap (nameOn kf ((ts.head?.map (·.pos.line)).getD 0))))
theorem sw_eq {env : Env} {ts vs : List Expr} {k k2 : Nat} {p p2 : Pos} {r : Option (List Str)} (hb : (env.blockKind != .function) = false) (h : swR (fun id => env.kindOf id == some .local) ts vs = some r) :
    swappedStores [.Tuple ts k p] (.Tuple vs k2 p2) env = pure r := by
  unfold swR at h
  unfold swappedStores
  simp only [hb, Bool.or_false]
  generalize hn : ts.filterMap (nameOn (fun id => env.kindOf id == some .local) ((ts.head?.map (·.pos.line)).getD 0)) = names at h
  generalize hf : vs.any isStarred = fl at h
  show (if (!(ts.length == 2 || ts.length == 3) || vs.length != ts.length) = true then pure none else if vs.any isStarred = true then pure none else
    if ((ts.filterMap (nameOn (fun id => env.kindOf id == some .local) ((ts.head?.map (·.pos.line)).getD 0))).length != ts.length || (ts.filterMap (nameOn (fun id => env.kindOf id == some .local) ((ts.head?.map (·.pos.line)).getD 0))).eraseDups.length != (ts.filterMap (nameOn (fun id => env.kindOf id == some .local) ((ts.head?.map (·.pos.line)).getD 0))).length) = true then pure none else
    if vs.all (foldedForSure 8) = true then pure none else _) = _
  rw [hn, hf]
  split at h
  · rename_i hc; cases h; rw [if_pos hc]
  rename_i h1
  rw [if_neg h1]
  split at h
  · rename_i hc; cases h; rw [if_pos hc]
  rename_i h2
  rw [if_neg h2]
  split at h
  · rename_i hc; cases h; rw [if_pos hc]
  rename_i h3
  rw [if_neg h3]
  split at h
  · rename_i hc; cases h; rw [if_pos hc]
  rename_i h4
  rw [if_neg h4]
  split at h
  · cases h
  rename_i h5
  cases h
  show (if vs.all (constantsAlone 8) = true then _ else _) = _
  rw [if_neg h5]
  show pure (some (ts.filterMap (nameOn (fun id => env.kindOf id == some .local) ((ts.head?.map (·.pos.line)).getD 0)))) = _
  rw [hn]
theorem sw_congr {kf kf' : Str → Bool} {ts vs : List Expr} (h : ∀ t ∈ ts, ∀ id pos, t = .Name id pos → kf id = kf' id) : swR kf ts vs = swR kf' ts vs := by
  have : ∀ line, ts.filterMap (nameOn kf line) = ts.filterMap (nameOn kf' line) := by
    intro line
    clear vs
    induction ts with
    | nil => rfl
    | cons t ts ih =>
      have e : nameOn kf line t = nameOn kf' line t := by
        cases t <;> first | rfl | skip
        rename_i id pos
        show (if (kf id && pos.line == line) = true then some id else none) = if (kf' id && pos.line == line) = true then some id else none
        rw [h _ List.mem_cons_self id pos rfl]
      rw [List.filterMap_cons, List.filterMap_cons, e, ih fun t ht => h t (List.mem_cons_of_mem _ ht)]
  unfold swR
  rw [this]
section
variable {P : Pr} {X : Cx} {W : WX} {k : Nat} {G : GT} {N : List Str} {sc : Scope} {lq : Option Str}
def stoName (sc : Scope) : Expr → Bool
  | .Name id _ => stoB sc id
  | _ => false
theorem XOk.sw (xo : XOk P k G N sc lq W X) {ts vs : List Expr} {k1 k2 : Nat} {p p2 : Pos} {r : Option (List Str)} (hs : ts.all (stoName sc) = true) (h : swR (fun id => sc.names.lookup id == some .local) ts vs = some r) :
    swappedStores [.Tuple ts k1 p] (.Tuple vs k2 p2) X.env = pure r := by
  refine sw_eq ?_ ?_
  · show ((if X.env.scope.kind.isAnnotationScope then ScopeKind.function else X.env.scope.kind) != .function) = false
    rw [xo.kd]; rfl
  · rw [← h]
    refine sw_congr fun t ht id pos e => ?_
    subst e
    have hh := List.all_eq_true.mp hs _ ht
    have hh : stoB sc id = true := hh
    unfold stoB at hh
    show (X.env.scope.names.lookup id == some .local) = _
    split at hh
    · rename_i e; rw [xo.loc _ e, e]
    · rename_i e; rw [xo.cel _ e, e]
    · cases hh
theorem pd_asgT {tg e : Expr} {is : List Nat} {f : D → Ev → Option Ev} {m : ME} {pos : Pos} (he : PE X e (tE P W m)) (hg : PG X tg (tG P is f)) (hs : notComp e = true) (hw : swappedStores [tg] e X.env = pure none) (hn : notStar tg = true) : PS X (.Assign [tg] e pos) (tS P W (sAsg m f)) :=
  PS.imp (ps_asg he hg (sole_no hs _ _ _) hw (by rw [tgt_ok hn]; rfl)) fun _ _ _ => asg_sound
/-! ### constants of the module -/
theorem pd_const {x : Str} {d : D} {pos : Pos} (xo : XOk P k G N sc lq W X) (hx : (x, d) ∈ P.T.consts) (hg : sc.names.lookup x = some .globalImplicit) (hdb : (x == ("__debug__" : Str)) = false) : PE X (.Name x pos) (tE P W (mC d)) := by
  obtain ⟨D, fI, st⟩ := xo.st
  obtain ⟨u, v, h1, h2, h3⟩ := st.cs x d hx
  exact pd_c (pe_glob (xo.gl x hg) (by rw [xo.mg]; exact h1) h2 hdb) fun α H => (h3 α H).up
theorem pd_fn {i : Nat} {x : Str} {pos : Pos} (xo : XOk P k G N sc lq W X) (hi : P.T.fns[i]? = some x) (hg : sc.names.lookup x = some .globalImplicit) (hdb : (x == ("__debug__" : Str)) = false) : PE X (.Name x pos) (tE P W (mC (.fn i))) := by
  obtain ⟨f, fd, ps, hm, _⟩ := xo.fns.fn i x hi
  exact pd_c (pe_glob (v := .ref f) (xo.gl x hg) (by rw [xo.mg]; exact hm) rfl hdb) fun α H => rep_fn.mpr ⟨x, f, hi, hm, rfl⟩
theorem pd_cls {c : Nat} {x : Str} {pos : Pos} (xo : XOk P k G N sc lq W X) (hc : P.T.cls[c]? = some x) (hg : sc.names.lookup x = some .globalImplicit) (hdb : (x == ("__debug__" : Str)) = false) : PE X (.Name x pos) (tE P W (mC (.cls c))) := by
  obtain ⟨D, fI, st⟩ := xo.st
  obtain ⟨C, hC, _⟩ := st.own c x hc
  exact pd_c (pe_glob (v := .ref C) (xo.gl x hg) (by rw [xo.mg]; exact hC) rfl hdb) fun α H => rep_cls.mpr ⟨x, C, hc, hC, rfl⟩
theorem pd_ty {x : Str} {n : String} {pos : Pos} (xo : XOk P k G N sc lq W X) (hg : sc.names.lookup x = some .globalImplicit) (hm : P.mg x = none) (hv : bootBuiltins x = some (.type n)) (hn : x ≠ "__name__") (hdb : (x == ("__debug__" : Str)) = false) : PE X (.Name x pos) (tE P W (mC (.ty n))) :=
  pd_c (pe_bltn (v := .ty n) (xo.gl x hg) (by rw [xo.mg]; exact hm) hv rfl hn hdb) fun α H => rep_ty.mpr rfl
/-! ### list(range(..)) -/
def rgD (a b : Int) : List D := (List.range (b - a).toNat).map fun i => .int (a + (i : Nat))
theorem reps_rg {α : List Addr} {H : Hp} (a b : Int) : Reps P α H (rgD a b) (rgV a b) := by
  unfold rgD rgV
  induction List.range (b - a).toNat with
  | nil => simp [Reps]
  | cons i l ih =>
    simp only [List.map_cons, Reps]
    exact ⟨_, _, rfl, by simp only [Rep0], ih⟩
def rgOk (a b : Int) : Bool := decide (-(2 ^ 62) ≤ a) && decide (a < 2 ^ 62) && decide (-(2 ^ 62) ≤ b) && decide (b < 2 ^ 62) && decide ((b - a).toNat ≤ 2 ^ 24)
theorem rgOk_of {a b : Int} (h : rgOk a b = true) : RgOk a b := by
  unfold rgOk at h
  simp only [Bool.and_eq_true] at h
  obtain ⟨⟨⟨⟨h1, h2⟩, h3⟩, h4⟩, h5⟩ := h
  exact ⟨of_decide_eq_true h1, of_decide_eq_true h2, of_decide_eq_true h3, of_decide_eq_true h4, of_decide_eq_true h5⟩
def mLR (ma : ME) : ME := fun ρ S => (ma ρ S).bind fun d S1 => match d with | .int b => if rgOk 0 b = true then lstO (rgD 0 b) S1 else .bad | _ => .bad
theorem pd_listRg1 {a : Expr} {ma : ME} {p p2 pos pos2 : Pos} (xo : XOk P k G N sc lq W X) (hgl : sc.names.lookup ("list" : Str) = some .globalImplicit) (hml : P.mg "list" = none) (hgr : sc.names.lookup ("range" : Str) = some .globalImplicit) (hmr : P.mg "range" = none) (ha : PE X a (tE P W ma)) (hs : notStar a = true) :
    PE X (.Call (.Name "list" p) [.Call (.Name "range" p2) [a] [] pos2] [] pos) (tE P W (mLR ma)) := by
  refine PE.imp (pe_listRg xo.calm (xo.gl _ hgl) (by rw [xo.mg]; exact hml) (prg_1 (xo.gl _ hgr) (by rw [xo.mg]; exact hmr) ha (star_ok hs _)) rfl) fun σ H Q ⟨α, S, ρ, sm, er, q⟩ => ?_
  refine ⟨α, S, ρ, sm, er, Post.bind q fun α1 H1 d S1 v e1 sm1 r1 q1 => ?_⟩
  cases d <;> try exact q1.elim
  rename_i b
  simp only at q1
  split at q1
  · rename_i hb
    exact ⟨b, rep_int.mp r1, rgOk_of hb, fun t ht => q1 _ _ _ (Ext.allocM ht) (sm1.allocM ht (reps_rg 0 b)) (rep_ref.mpr ⟨t, new_ref sm1, rfl⟩)⟩
  · exact q1.elim
/-! ### list methods -/
def isLst (d : D) (S : Sto) : Bool := match d with
  | .ref n => match S[n]? with | some (.lst _) => true | none => false
  | _ => false
def appD (o : D) (ds : List D) (S : Sto) : R D := match o, ds with
  | .ref n, [d] => match S[n]? with
    | some (.lst xs) => if xs.length < sizeLine ∧ noClo d = true then .ok .non (S.set n (.lst (xs ++ [d]))) else .bad
    | none => .bad
  | _, _ => .bad
def extD (o : D) (ds : List D) (S : Sto) : R D := match o, ds with
  | .ref n, [.ref m] => match S[n]?, S[m]? with
    | some (.lst xs), some (.lst ys) => if xs.length + ys.length ≤ sizeLine then .ok .non (S.set n (.lst (xs ++ ys))) else .bad
    | _, _ => .bad
  | _, _ => .bad
def mLm (op : D → List D → Sto → R D) (mo : ME) (mr : MA) : ME := fun ρ S => (mo ρ S).bind fun o S1 => if isLst o S1 = true then (mr ρ S1).bind fun ds S2 => op o ds S2 else .bad
def rMD (P : Pr) (op : D → List D → Sto → R D) : V → List V → Hp → VK → Prop := fun x xs H Q => ∃ α S o ds W0, Sim P α S H ∧ Rep P α H o x ∧ RepA P α H ds xs ∧ Post P (Rep P) W0 (op o ds S) α H Q
theorem mt_app : MtR X "list.append" (rMD P appD) := fun pins s σ H x xs v us Q I rx rv ⟨α, S, o, ds, W0, sm, ro, ra, q⟩ => by
  refine mt_append pins s σ H x xs v us Q I rx rv ?_
  unfold appD at q
  split at q
  · rename_i n d
    split at q
    · rename_i zs hz
      split at q
      · rename_i hl
        obtain ⟨a, h1, rfl⟩ := rep_ref.mp ro
        obtain ⟨vs, g1, g2⟩ := sm.at_ n a _ h1 hz
        obtain ⟨w, r, rfl, h2, h3⟩ := ra
        have h3 : r = [] := h3
        subst h3
        refine ⟨a, vs, w, rfl, rfl, g1, by rw [← g2.len]; exact hl.1, q α _ _ (Ext.write g1 (List.mem_of_getElem? h1)) (sm.write h1 hz (g2.app ?_)) (rep_non.mpr rfl)⟩
        simp only [Reps]
        exact ⟨w, [], rfl, h2.z hl.2, rfl⟩
      · exact q.elim
    · exact q.elim
  · exact q.elim
theorem mt_ext : MtR X "list.extend" (rMD P extD) := fun pins s σ H x xs v us Q I rx rv ⟨α, S, o, ds, W0, sm, ro, ra, q⟩ => by
  refine mt_extend pins s σ H x xs v us Q I rx rv ?_
  unfold extD at q
  split at q
  · rename_i n m
    split at q
    · rename_i zs ys hz hy
      split at q
      · rename_i hl
        obtain ⟨a, h1, rfl⟩ := rep_ref.mp ro
        obtain ⟨vs, g1, g2⟩ := sm.at_ n a _ h1 hz
        obtain ⟨w, r, rfl, h2, h3⟩ := ra
        have h3 : r = [] := h3
        subst h3
        obtain ⟨b, h4, rfl⟩ := rep_ref.mp h2
        obtain ⟨ws, g3, g4⟩ := sm.at_ m b _ h4 hy
        exact ⟨a, b, vs, ws, rfl, rfl, g1, g3, by rw [← g2.len, ← g4.len]; exact hl, q α _ _ (Ext.write g1 (List.mem_of_getElem? h1)) (sm.write h1 hz (g2.app g4)) (rep_non.mpr rfl)⟩
      · exact q.elim
    · exact q.elim
  · exact q.elim
theorem pd_lmeth {o e : Expr} {es : List Expr} {name : Str} {mid : String} {op : D → List D → Sto → R D} {mo : ME} {mr : MA} {apos pos : Pos} (slot : Slot "list" name mid) (hty : typeOf (.builtin mid) = pure (.type "method_descriptor")) (hm : MtR X mid (rMD P op)) (ho : PE X o (tE P W mo)) (ha : PA X (e :: es) (tA P W mr))
    (hn : notCall o = true) (hl : (apos.endLine == pos.line) = true) (hs : (e :: es).all notStar = true) (hlen : (e :: es).length < 30) : PE X (.Call (.Attribute o name apos) (e :: es) [] pos) (tE P W (mLm op mo mr)) := by
  have hs' := hs
  rw [List.all_cons, Bool.and_eq_true] at hs'
  refine PE.imp (pe_bm PySem.F.plainAttrs_list slot hty hm ho ha (base_ok hn _ _) ?_ hl (star_ok hs'.1 _) (notStars hs'.2 _)) fun σ H Q ⟨α, S, ρ, sm, er, q⟩ => ?_
  · rw [nostar_all hs]
    show (true && true && decide ((e :: es).length + 0 + 0 < 30)) = true
    simpa using hlen
  · refine ⟨α, S, ρ, sm, er, Post.bind q fun α1 H1 o S1 v e1 sm1 r1 q1 => ?_⟩
    by_cases hi : isLst o S1 = true
    · rw [if_pos hi] at q1
      refine ⟨?_, α1, S1, ρ, sm1, er.ext e1, Post.bind q1 fun α2 H2 ds S2 vs e2 sm2 r2 q2 => ⟨α2, S2, o, ds, _, sm2, r1.ext e2, r2, q2⟩⟩
      unfold isLst at hi
      split at hi
      · rename_i n
        obtain ⟨a, h1, rfl⟩ := rep_ref.mp r1
        obtain ⟨ob, h2, vs, rfl⟩ := sm1.tracked (List.mem_of_getElem? h1)
        exact .inl ⟨rfl, vs, .of h2⟩
      · cases hi
    · rw [if_neg hi] at q1; exact q1.elim
end
end Vi
set_option Elab.async false
set_option linter.all false
set_option maxRecDepth 100000
set_option maxHeartbeats 4000000
/-! From text to meaning, with the proof. -/
namespace Vi
open PySem L2 PyProof.Rows
/-- what the text is read with -/
structure Cp where
  T : Tab
  free : List Str
  N : List Str
  sc : Scope
  lq : Option Str
  lpos : List (Nat × Nat)
structure CpOk (c : Cp) (P : Pr) (k : Nat) (G : GT) (W : WX) (X : Cx) (ls : List (Nat × Lam)) : Prop where
  hT : P.T.fns = c.T.fns ∧ P.T.cls = c.T.cls ∧ P.T.consts = c.T.consts
  free : ∀ x ∈ c.free, P.mg x = none
  xo : XOk P k G c.N c.sc c.lq W X
  ls : ∀ p ∈ ls, P.T.lams[p.1]? = some p.2
theorem CpOk.sub {c : Cp} {P : Pr} {k : Nat} {G : GT} {W : WX} {X : Cx} {l m : List (Nat × Lam)} (o : CpOk c P k G W X l) (h : ∀ p ∈ m, p ∈ l) : CpOk c P k G W X m := ⟨o.hT, o.free, o.xo, fun p hp => o.ls p (h p hp)⟩
theorem CpOk.l {c : Cp} {P : Pr} {k : Nat} {G : GT} {W : WX} {X : Cx} {l m : List (Nat × Lam)} (o : CpOk c P k G W X (l ++ m)) : CpOk c P k G W X l := o.sub fun _ h => List.mem_append_left _ h
theorem CpOk.r {c : Cp} {P : Pr} {k : Nat} {G : GT} {W : WX} {X : Cx} {l m : List (Nat × Lam)} (o : CpOk c P k G W X (l ++ m)) : CpOk c P k G W X m := o.sub fun _ h => List.mem_append_right _ h
structure CE (c : Cp) (e : Expr) where
  m : GT → ME
  ls : List (Nat × Lam)
  ok : ∀ P k G W X, CpOk c P k G W X ls → PE X e (tE P W (m G))
structure CT (c : Cp) (e : Expr) where
  m : GT → MT
  ls : List (Nat × Lam)
  ok : ∀ P k G W X, CpOk c P k G W X ls → PT X e (tB P W (m G))
structure CW (c : Cp) (e : Expr) where
  m : GT → MT
  ls : List (Nat × Lam)
  ok : ∀ P k G W X, CpOk c P k G W X ls → PW X e (tB P W (m G))
structure CA (c : Cp) (es : List Expr) where
  m : GT → MA
  ls : List (Nat × Lam)
  st : es.all notStar = true
  len : ∀ G S ρ ds S', m G ρ S = .ok ds S' → ds.length = es.length
  ok : ∀ P k G W X, CpOk c P k G W X ls → PA X es (tA P W (m G))
structure CG (c : Cp) (tg : Expr) where
  is : List Nat
  f : D → Ev → Option Ev
  st : notStar tg = true
  ok : ∀ P k G W X, XOk P k G c.N c.sc c.lq W X → PG X tg (tG P is f)
structure Recs where
  e : ∀ c e, Option (CE c e)
  t : ∀ c e, Option (CT c e)
  w : ∀ c e, Option (CW c e)
  a : ∀ c es, Option (CA c es)
def gl (c : Cp) (x : Str) : Bool := decide (c.sc.names.lookup x = some .globalImplicit) && !(x == ("__debug__" : Str))
theorem gl_of {c : Cp} {x : Str} (h : gl c x = true) : c.sc.names.lookup x = some .globalImplicit ∧ (x == ("__debug__" : Str)) = false := by
  unfold gl at h
  rw [Bool.and_eq_true] at h
  exact ⟨of_decide_eq_true h.1, by simpa using h.2⟩
def lcl (c : Cp) (x : Str) (i : Nat) : Bool := decide (c.N[i]? = some x) && visB c.sc x && !(x == ("__debug__" : Str)) && !(x == ("__classdict__" : Str))
theorem lcl_of {c : Cp} {x : Str} {i : Nat} (h : lcl c x i = true) : c.N[i]? = some x ∧ visB c.sc x = true ∧ (x == ("__debug__" : Str)) = false ∧ (x == ("__classdict__" : Str)) = false := by
  unfold lcl at h
  simp only [Bool.and_eq_true] at h
  exact ⟨of_decide_eq_true h.1.1.1, h.1.1.2, by simpa using h.1.2, by simpa using h.2⟩
/-- the types that are named -/
def tyNames : List (Str × String) := [("int", "int"), ("bool", "bool"), ("str", "str"), ("tuple", "tuple"), ("list", "list")]
theorem ty_boot : ∀ p ∈ tyNames, bootBuiltins p.1 = some (.type p.2) ∧ p.1 ≠ "__name__" := by
  intro p hp
  simp only [tyNames, List.mem_cons, List.not_mem_nil, or_false] at hp
  rcases hp with rfl | rfl | rfl | rfl | rfl
  · exact ⟨boot_int, by decide +kernel⟩
  · exact ⟨boot_bool, by decide +kernel⟩
  · exact ⟨boot_str, by decide +kernel⟩
  · exact ⟨boot_tuple, by decide +kernel⟩
  · exact ⟨boot_list, by decide +kernel⟩
/-- a name as a value -/
def nameE (c : Cp) (x : Str) (pos : Pos) : Option (CE c (.Name x pos)) :=
  let i := c.N.idxOf x
  if h : lcl c x i = true then some ⟨fun _ => mVar i, [], fun P k G W X o => pd_var (by rw [o.xo.hN]; exact (lcl_of h).1) (o.xo.vis _ (lcl_of h).2.1) (lcl_of h).2.2.1 (lcl_of h).2.2.2⟩
  else if hg : gl c x = true then
    let j := c.T.fns.idxOf x
    if hj : c.T.fns[j]? = some x then some ⟨fun _ => mC (.fn j), [], fun P k G W X o => pd_fn o.xo (by rw [o.hT.1]; exact hj) (gl_of hg).1 (gl_of hg).2⟩
    else
    let q := c.T.cls.idxOf x
    if hq : c.T.cls[q]? = some x then some ⟨fun _ => mC (.cls q), [], fun P k G W X o => pd_cls o.xo (by rw [o.hT.2.1]; exact hq) (gl_of hg).1 (gl_of hg).2⟩
    else match hc : c.T.consts.find? (fun p => decide (p.1 = x)) with
    | some p => some ⟨fun _ => mC p.2, [], fun P k G W X o => pd_const o.xo (by
        have h1 := List.mem_of_find?_eq_some hc
        have h2 : p.1 = x := of_decide_eq_true (List.find?_some (p := fun (p : Str × D) => decide (p.1 = x)) hc)
        rw [o.hT.2.2, ← h2]; exact h1) (gl_of hg).1 (gl_of hg).2⟩
    | none => match ht : tyNames.find? (fun p => decide (p.1 = x)) with
      | some p => if hf : x ∈ c.free then some ⟨fun _ => mC (.ty p.2), [], fun P k G W X o => by
          have h1 := List.mem_of_find?_eq_some ht
          have h2 : p.1 = x := of_decide_eq_true (List.find?_some (p := fun (p : Str × String) => decide (p.1 = x)) ht)
          have h3 := ty_boot p h1
          rw [h2] at h3
          exact pd_ty o.xo (gl_of hg).1 (o.free x hf) h3.1 h3.2 (gl_of hg).2⟩ else none
      | none => none
  else none
def constE (c : Cp) (v : Const) (k : Nat) (pos : Pos) : Option (CE c (.Constant v k pos)) := match v with
  | .int i => some ⟨fun _ => mC (.int i), [], fun _ _ _ _ _ _ => pd_c pe_int fun _ _ => rep_int.mpr rfl⟩
  | .bool b => some ⟨fun _ => mC (.bl b), [], fun _ _ _ _ _ _ => pd_c pe_bl fun _ _ => rep_bl.mpr rfl⟩
  | .none => some ⟨fun _ => mC .non, [], fun _ _ _ _ _ _ => pd_c pe_non fun _ _ => rep_non.mpr rfl⟩
  | .str x => some ⟨fun _ => mC (.str x), [], fun _ _ _ _ _ _ => pd_c pe_str fun _ _ => rep_str.mpr rfl⟩
  | _ => none
def oSub : D → D → Sto → Option D := sint fun i j => some (.int (i - j))
def oMul : D → D → Sto → Option D := sint fun i j => if mulOk i j then some (.int (i * j)) else none
def oFdiv : D → D → Sto → Option D := sint fun i j => if divOk j then some (.int (i.fdiv j)) else none
def oMod : D → D → Sto → Option D := sint fun i j => if j = 0 then none else some (.int (i.fmod j))
def oPow : D → D → Sto → Option D := sint fun i j => if powOk i j then some (.int (i ^ j.toNat)) else none
def oLt : D → D → Sto → Option D := sint fun i j => some (.bl (decide (i < j)))
def oLe : D → D → Sto → Option D := sint fun i j => some (.bl (decide (i ≤ j)))
def oGt : D → D → Sto → Option D := sint fun i j => some (.bl (decide (j < i)))
def oGe : D → D → Sto → Option D := sint fun i j => some (.bl (decide (j ≤ i)))
structure BOp (op : Operator) where
  f : D → D → Sto → Option D
  ok : ∀ P X, X.K = P.K → OD P X (binaryOp op) f
def binO (op : Operator) : Option (BOp op) := match op with
  | .Add => some ⟨oAdd, fun _ _ h => od_add h⟩
  | .Sub => some ⟨oSub, fun _ _ _ => od_sub⟩
  | .Mult => some ⟨oMul, fun _ _ _ => od_mul⟩
  | .FloorDiv => some ⟨oFdiv, fun _ _ _ => od_fdiv⟩
  | .Mod => some ⟨oMod, fun _ _ _ => od_mod⟩
  | .Pow => some ⟨oPow, fun _ _ _ => od_pow⟩
  | _ => none
theorem od_is {P : Pr} {X : Cx} : OD P X (compareOp .Is) oIs := by
  intro pins s σ H α S d e z x y v u Q I sm rd re rx ry ho k
  unfold oIs at ho
  have fin : ∀ b, z = .bl b → Q (.bl b) H := fun b e => k α H _ (Ext.refl _ _ _) sm (by rw [e]; exact rep_bl.mpr rfl)
  cases e <;> try (cases d <;> simp [dIs] at ho; done)
  · have hy := rep_non.mp re
    subst hy
    refine op_isN pins s σ H x _ v u Q I rx ry ⟨rfl, ?_⟩
    have : decide (x = V.non) = isNon d := by
      cases d with
      | non => rw [rep_non.mp rd]; rfl
      | bl b => rw [rep_bl.mp rd]; rfl
      | int i => rw [rep_int.mp rd]; rfl
      | str t => rw [rep_str.mp rd]; rfl
      | tup ds => obtain ⟨a, vs, rfl, _⟩ := rep_tup.mp rd; rfl
      | ref n => obtain ⟨a, _, rfl⟩ := rep_ref.mp rd; rfl
      | fn i => obtain ⟨_, a, _, _, rfl⟩ := rep_fn.mp rd; rfl
      | ty n => rw [rep_ty.mp rd]; rfl
      | scr js => obtain ⟨a, rfl, _⟩ := rep_scr.mp rd; rfl
      | cls c => obtain ⟨_, a, _, _, rfl⟩ := rep_cls.mp rd; rfl
      | exo c d => obtain ⟨a, _, _, _, _, _, _, rfl, _⟩ := rep_exo.mp rd; rfl
      | clo i cs => obtain ⟨_, fl, _, _, _, _, _, rfl, _⟩ := (show RepC _ _ _ _ _ _ from rd); rfl
    rw [this]
    cases d <;> simp [dIs] at ho <;> exact fin _ ho.symm
  · rename_i b
    have hy := rep_bl.mp re
    subst hy
    cases d <;> simp [dIs] at ho
    rename_i a
    have hx := rep_bl.mp rd
    subst hx
    exact op_isBl pins s σ H _ _ v u Q I rx ry ⟨a, b, rfl, rfl, fin _ ho.symm⟩
theorem od_isNot {P : Pr} {X : Cx} : OD P X (compareOp .IsNot) oIsNot := by
  intro pins s σ H α S d e z x y v u Q I sm rd re rx ry ho k
  unfold oIsNot at ho
  have fin : ∀ b, z = .bl b → Q (.bl b) H := fun b e => k α H _ (Ext.refl _ _ _) sm (by rw [e]; exact rep_bl.mpr rfl)
  cases e <;> try (cases d <;> simp [dIs] at ho; done)
  · have hy := rep_non.mp re
    subst hy
    refine op_notN pins s σ H x _ v u Q I rx ry ⟨rfl, ?_⟩
    have : decide (x = V.non) = isNon d := by
      cases d with
      | non => rw [rep_non.mp rd]; rfl
      | bl b => rw [rep_bl.mp rd]; rfl
      | int i => rw [rep_int.mp rd]; rfl
      | str t => rw [rep_str.mp rd]; rfl
      | tup ds => obtain ⟨a, vs, rfl, _⟩ := rep_tup.mp rd; rfl
      | ref n => obtain ⟨a, _, rfl⟩ := rep_ref.mp rd; rfl
      | fn i => obtain ⟨_, a, _, _, rfl⟩ := rep_fn.mp rd; rfl
      | ty n => rw [rep_ty.mp rd]; rfl
      | scr js => obtain ⟨a, rfl, _⟩ := rep_scr.mp rd; rfl
      | cls c => obtain ⟨_, a, _, _, rfl⟩ := rep_cls.mp rd; rfl
      | exo c d => obtain ⟨a, _, _, _, _, _, _, rfl, _⟩ := rep_exo.mp rd; rfl
      | clo i cs => obtain ⟨_, fl, _, _, _, _, _, rfl, _⟩ := (show RepC _ _ _ _ _ _ from rd); rfl
    rw [this]
    cases d <;> simp [dIs] at ho <;> exact fin _ (by rw [← ho])
  · rename_i b
    have hy := rep_bl.mp re
    subst hy
    cases d <;> simp [dIs] at ho
    rename_i a
    have hx := rep_bl.mp rd
    subst hx
    exact op_notBl pins s σ H _ _ v u Q I rx ry ⟨a, b, rfl, rfl, fin _ (by rw [← ho])⟩
structure COp (op : CmpOp) where
  f : D → D → Sto → Option D
  ok : ∀ P X, X.K = P.K → X.A.units + 64 < cLine → OD P X (compareOp op) f
def cmpO (op : CmpOp) : Option (COp op) := match op with
  | .Eq => some ⟨oEq, fun _ _ h u => od_eq h u⟩
  | .NotEq => some ⟨oNe, fun _ _ h u => od_ne h u⟩
  | .Lt => some ⟨oLt, fun _ _ _ _ => od_lt⟩
  | .LtE => some ⟨oLe, fun _ _ _ _ => od_le⟩
  | .Gt => some ⟨oGt, fun _ _ _ _ => od_gt⟩
  | .GtE => some ⟨oGe, fun _ _ _ _ => od_ge⟩
  | .Is => some ⟨oIs, fun _ _ _ _ => od_is⟩
  | .IsNot => some ⟨oIsNot, fun _ _ _ _ => od_isNot⟩
  | _ => none
/-- builtin functions -/
structure BFn where
  nm : Str
  bid : Value
  op : List D → Sto → R D
  boot : bootBuiltins nm = some bid
  isT : (∃ n, bid = .builtin n) ∨ ∃ n, bid = .type n
  nn : nm ≠ "__name__"
  ok : ∀ P k G N sc lq W X, XOk P k G N sc lq W X → CallR X bid (rCD P op)
def bfns : List BFn := [
  ⟨"abs", .builtin "abs", one bAbs, boot_abs, .inl ⟨_, rfl⟩, by decide +kernel, fun _ _ _ _ _ _ _ _ _ => cd_abs⟩,
  ⟨"int", .type "int", one bInt, boot_int, .inr ⟨_, rfl⟩, by decide +kernel, fun _ _ _ _ _ _ _ _ _ => cd_int⟩,
  ⟨"len", .builtin "len", one bLen, PySem.boot_len, .inl ⟨_, rfl⟩, by decide +kernel, fun _ _ _ _ _ _ _ _ o => cd_len o.K⟩,
  ⟨"max", .builtin "max", two bMax, boot_max, .inl ⟨_, rfl⟩, by decide +kernel, fun _ _ _ _ _ _ _ _ o => cd_max o.calm⟩,
  ⟨"min", .builtin "min", two bMin, boot_min, .inl ⟨_, rfl⟩, by decide +kernel, fun _ _ _ _ _ _ _ _ o => cd_min o.calm⟩,
  ⟨"sum", .builtin "sum", one bSum, boot_sum, .inl ⟨_, rfl⟩, by decide +kernel, fun _ _ _ _ _ _ _ _ o => cd_sum o.K o.calm⟩,
  ⟨"all", .builtin "all", one bAll, boot_all, .inl ⟨_, rfl⟩, by decide +kernel, fun _ _ _ _ _ _ _ _ o => cd_all o.K o.calm⟩,
  ⟨"any", .builtin "any", one bAny, boot_any, .inl ⟨_, rfl⟩, by decide +kernel, fun _ _ _ _ _ _ _ _ o => cd_any o.K o.calm⟩,
  ⟨"isinstance", .builtin "isinstance", two bIsA, boot_isinstance, .inl ⟨_, rfl⟩, by decide +kernel, fun _ _ _ _ _ _ _ _ o => cd_isA o⟩,
  ⟨"repr", .builtin "repr", one bRepr, boot_repr, .inl ⟨_, rfl⟩, by decide +kernel, fun _ _ _ _ _ _ _ _ o => cd_repr o⟩]
def lamFr (scope : Scope) : List Str := (scope.names.filter fun y => decide (y.2 = .free)).map (·.1)
def lamChk (c : Cp) (params : Arguments) (scope : Scope) : Bool :=
  (match params with | ⟨[], [], none, [], [], none, []⟩ => true | _ => false) && (scope.names.all fun y => !decide (y.2 = .free) || decide (c.sc.names.lookup y.1 = some .cell) || decide (c.sc.names.lookup y.1 = some .free)) &&
    decide (((lamFr scope).map fun y => c.N.idxOf y).map (fun j => c.N[j]?) = (lamFr scope).map some)
/-- f(lambda: .., ..) -/
def lamE (r : Recs) (c : Cp) (x : Str) (p : Pos) (params : Arguments) (body : Expr) (scope : Scope) (lp : Pos) (es : List Expr) (pos : Pos) : Option (CE c (.Call (.Name x p) (.Lambda params body scope lp :: es) [] pos)) :=
  let j := c.T.fns.idxOf x
  if h : gl c x = true ∧ c.T.fns[j]? = some x ∧ lamChk c params scope = true then
    match hq : c.lq, r.a c es with
    | some q, some a =>
      let li := c.lpos.idxOf (lp.line, lp.col)
      some ⟨fun G => mCallL G j li ((lamFr scope).map fun y => c.N.idxOf y) (a.m G), (li, ⟨q, params, body, scope, lamFr scope⟩) :: a.ls, fun P k G W X o => by
        obtain ⟨h1, h2, h3⟩ := h
        unfold lamChk at h3
        simp only [Bool.and_eq_true] at h3
        refine pd_callL (L := ⟨q, params, body, scope, lamFr scope⟩) o.xo (by rw [o.hT.1]; exact h2) (gl_of h1).1 (o.ls _ List.mem_cons_self) (by rw [hq]) (fun env => ?_) (fun y hy hf => ?_) (fun y hy => ?_) (of_decide_eq_true h3.2) (a.ok P k G W X (o.sub fun _ h => List.mem_cons_of_mem _ h)) (gl_of h1).2 a.st
        · have h5 := h3.1.1
          split at h5
          · rfl
          · cases h5
        · have h5 := List.all_eq_true.mp h3.1.2 y hy
          simp only [hf, decide_true, Bool.not_true, Bool.false_or, Bool.or_eq_true] at h5
          exact h5.imp of_decide_eq_true of_decide_eq_true
        · obtain ⟨z, hz, rfl⟩ := List.mem_map.mp hy
          obtain ⟨h6, h7⟩ := List.mem_filter.mp hz
          have h7 : z.2 = .free := of_decide_eq_true h7
          rw [← h7]; exact h6⟩
    | _, _ => none
  else none
def callE (r : Recs) (c : Cp) (x : Str) (p : Pos) (es : List Expr) (pos : Pos) : Option (CE c (.Call (.Name x p) es [] pos)) :=
  let i := c.N.idxOf x
  match es with
  | [] => if h : lcl c x i = true then some ⟨fun G => mCall0 G i, [], fun P k G W X o => pd_call0 o.xo (lcl_of h).1 (lcl_of h).2.1 (lcl_of h).2.2.1 (lcl_of h).2.2.2⟩ else none
  | .Lambda params body scope lp :: es => lamE r c x p params body scope lp es pos
  | .Call (.Name y p2) [a] [] pos2 :: [] =>
    if h : x = "list" ∧ y = "range" ∧ gl c x = true ∧ gl c y = true ∧ x ∈ c.free ∧ y ∈ c.free ∧ notStar a = true then
      match r.e c a with
      | some a' => some ⟨fun G => mLR (a'.m G), a'.ls, fun P k G W X o => by
          obtain ⟨rfl, rfl, h3, h4, h5, h6, h7⟩ := h
          exact pd_listRg1 o.xo (gl_of h3).1 (o.free _ h5) (gl_of h4).1 (o.free _ h6) (a'.ok P k G W X o) h7⟩
      | none => none
    else callN r c x p (.Call (.Name y p2) [a] [] pos2) [] pos
  | e :: es => callN r c x p e es pos
where callN (r : Recs) (c : Cp) (x : Str) (p : Pos) (e : Expr) (es : List Expr) (pos : Pos) : Option (CE c (.Call (.Name x p) (e :: es) [] pos)) :=
  let i := c.N.idxOf x
  match r.a c (e :: es) with
  | none => none
  | some a =>
    if h : lcl c x i = true then some ⟨fun G => mCallV G i (a.m G), a.ls, fun P k G W X o => pd_callV o.xo (lcl_of h).1 (lcl_of h).2.1 (a.ok P k G W X o) (lcl_of h).2.2.1 (lcl_of h).2.2.2 a.st⟩
    else if hg : gl c x = true then
      let j := c.T.fns.idxOf x
      if hj : c.T.fns[j]? = some x then some ⟨fun G => mCall (G.fn j) (a.m G), a.ls, fun P k G W X o => pd_callG o.xo (by rw [o.hT.1]; exact hj) (gl_of hg).1 (a.ok P k G W X o) (gl_of hg).2 a.st⟩
      else match hb : bfns.find? (fun b => decide (b.nm = x)) with
      | some b => if hf : x ∈ c.free then some ⟨fun G => mCall b.op (a.m G), a.ls, fun P k G W X o => by
          have h2 : b.nm = x := of_decide_eq_true (List.find?_some (p := fun (b : BFn) => decide (b.nm = x)) hb)
          have hv := b.boot
          have hn := b.nn
          rw [h2] at hv hn
          have cr := b.ok P k G c.N c.sc c.lq W X o.xo
          rcases b.isT with ⟨n, hz⟩ | ⟨n, hz⟩
          · rw [hz] at hv cr
            exact pd_callB cr (o.xo.gl _ (gl_of hg).1) (by rw [o.xo.mg]; exact o.free x hf) hv (a.ok P k G W X o) hn (gl_of hg).2 a.st
          · rw [hz] at hv cr
            exact pd_callTy cr (o.xo.gl _ (gl_of hg).1) (by rw [o.xo.mg]; exact o.free x hf) hv (a.ok P k G W X o) hn (gl_of hg).2 a.st⟩ else none
      | none => none
    else none
end Vi
set_option Elab.async false
set_option linter.all false
set_option maxRecDepth 100000
set_option maxHeartbeats 8000000
namespace Vi
open PySem L2 PyProof.Rows
/-! ### targets -/
def slotOf (c : Cp) : Expr → Option Nat
  | .Name x _ => some (c.N.idxOf x)
  | _ => none
def nameG (c : Cp) (x : Str) (pos : Pos) : Option (CG c (.Name x pos)) :=
  let i := c.N.idxOf x
  if h : c.N[i]? = some x ∧ stoB c.sc x = true then some ⟨[i], gN i, rfl, fun P k G W X o => pd_gname o h.1 h.2⟩ else none
structure CGs (c : Cp) (es : List Expr) where
  is : List Nat
  len : es.length = is.length
  st : es.all notStar = true
  ok : ∀ P k G W X, XOk P k G c.N c.sc c.lq W X → PGs X es (tGs P is)
def namesG (c : Cp) : (es : List Expr) → Option (CGs c es)
  | [] => some ⟨[], rfl, rfl, fun _ _ _ _ _ _ => pd_gnil⟩
  | .Name x pos :: es =>
    let i := c.N.idxOf x
    if h : c.N[i]? = some x ∧ stoB c.sc x = true then
      match namesG c es with
      | some g => some ⟨i :: g.is, by simp [g.len], by rw [List.all_cons, g.st]; rfl, fun P k G W X o => pd_gcons (pd_gnm o h.1 h.2) (g.ok P k G W X o) rfl⟩
      | none => none
    else none
  | _ => none
def cG (c : Cp) : (tg : Expr) → Option (CG c tg)
  | .Name x pos => nameG c x pos
  | .Tuple es k pos => match namesG c es with
    | some g => some ⟨g.is, gT g.is, rfl, fun P k G W X o => pd_gtup o (g.ok P k G W X o) g.len g.st⟩
    | none => none
  | _ => none
/-! ### comprehensions -/
def ownOf (c : Cp) (scope : Scope) : List (Str × Nat) := scope.names.filterMap fun y => if (decide (y.2 = .local) || decide (y.2 = .cell)) && decide (y.1 ∈ c.N) then some (y.1, c.N.idxOf y.1) else none
structure CTs (c : Cp) (ifs : List Expr) where
  m : GT → MT
  ls : List (Nat × Lam)
  ok : ∀ P k G W X, CpOk c P k G W X ls → PTs X ifs (tB P W (m G))
def ifsT (r : Recs) (c : Cp) : (ifs : List Expr) → Option (CTs c ifs)
  | [] => some ⟨fun _ => mYes, [], fun _ _ _ _ _ _ => pd_ptnil⟩
  | [e] => match r.t c e with
    | some t => some ⟨t.m, t.ls, fun P k G W X o => pd_ptone (t.ok P k G W X o)⟩
    | none => none
  | _ => none
def lcE (r : Recs) (c : Cp) (elt tg iter : Expr) (ifs : List Expr) (as : Int) (scope : Scope) (pos : Pos) : Option (CE c (.ListComp elt [⟨tg, iter, ifs, as⟩] scope pos)) :=
  let own := ownOf c scope
  let c' : Cp := { c with sc := scope, lq := none }
  if ha : as = 0 then
    if hb : blkC c.N c.sc scope own = true then
      match cG c' tg, ifsT r c' ifs, r.e c' elt with
      | some g, some t, some e =>
        if hv : (g.is.all fun i => decide (i ∈ own.map (·.2))) = true then
          have hv' : ∀ i ∈ g.is, i ∈ own.map (·.2) := fun i hi => of_decide_eq_true (List.all_eq_true.mp hv i hi)
          match iter with
          | .Call (.Name x p1) [a] [] p2 => if hx : x = "range" then
              match r.a c [a] with
              | some a' => if hg : gl c x = true ∧ x ∈ c.free then some ⟨fun G => mLcR (own.map (·.2)) g.f (a'.m G) (t.m G) (e.m G), a'.ls ++ (t.ls ++ e.ls), fun P k G W X o => by
                  subst ha; subst hx
                  have sub : ∀ X', XOk P k G c.N scope none WN X' → CpOk c' P k G WN X' (t.ls ++ e.ls) := fun X' o' => ⟨o.hT, o.free, o', o.r.ls⟩
                  refine pd_lcR1 o.xo hb hv' (gl_of hg.1).1 (o.free _ hg.2) (a'.ok P k G W X o.l) (by have := a'.st; rw [List.all_cons, Bool.and_eq_true] at this; exact this.1) (a'.len G) (fun X' o' => g.ok P k G WN X' o') (fun X' o' => t.ok P k G WN X' (sub X' o').l) (fun X' o' => e.ok P k G WN X' (sub X' o').r)⟩ else none
              | none => none
            else none
          | .Call (.Name x p1) [a, a2] [] p2 => if hx : x = "range" then
              match r.a c [a, a2] with
              | some a' => if hg : gl c x = true ∧ x ∈ c.free then some ⟨fun G => mLcR (own.map (·.2)) g.f (a'.m G) (t.m G) (e.m G), a'.ls ++ (t.ls ++ e.ls), fun P k G W X o => by
                  subst ha; subst hx
                  have sub : ∀ X', XOk P k G c.N scope none WN X' → CpOk c' P k G WN X' (t.ls ++ e.ls) := fun X' o' => ⟨o.hT, o.free, o', o.r.ls⟩
                  have st := a'.st
                  rw [List.all_cons, List.all_cons, Bool.and_eq_true, Bool.and_eq_true] at st
                  refine pd_lcR2 o.xo hb hv' (gl_of hg.1).1 (o.free _ hg.2) (a'.ok P k G W X o.l) st.1 st.2.1 (a'.len G) (fun X' o' => g.ok P k G WN X' o') (fun X' o' => t.ok P k G WN X' (sub X' o').l) (fun X' o' => e.ok P k G WN X' (sub X' o').r)⟩ else none
              | none => none
            else none
          | iter => match r.e c iter with
            | some m => if hs : notSetE iter = true then some ⟨fun G => mLc (own.map (·.2)) g.f (m.m G) (t.m G) (e.m G), m.ls ++ (t.ls ++ e.ls), fun P k G W X o => by
                  subst ha
                  have sub : ∀ X', XOk P k G c.N scope none WN X' → CpOk c' P k G WN X' (t.ls ++ e.ls) := fun X' o' => ⟨o.hT, o.free, o', o.r.ls⟩
                  exact pd_lc o.xo hb hv' (m.ok P k G W X o.l) (fun X' o' => g.ok P k G WN X' o') (fun X' o' => t.ok P k G WN X' (sub X' o').l) (fun X' o' => e.ok P k G WN X' (sub X' o').r) hs⟩ else none
            | none => none
        else none
      | _, _, _ => none
    else none
  else none
/-! ### expressions -/
structure CO (c : Cp) (o : Option Expr) where
  m : GT → MO'
  ls : List (Nat × Lam)
  ok : ∀ P k G W X, CpOk c P k G W X ls → PO X o (tO P W (m G))
def partE (r : Recs) (c : Cp) : (o : Option Expr) → Option (CO c o)
  | none => some ⟨fun _ => mNoPart, [], fun _ _ _ _ _ _ => pd_onone⟩
  | some e => match r.e c e with
    | some m => some ⟨fun G => mPart (m.m G), m.ls, fun P k G W X o => pd_osome (m.ok P k G W X o)⟩
    | none => none
def boolE (r : Recs) (c : Cp) (op : BoolOp) (pos : Pos) : (es : List Expr) → Option (CE c (.BoolOp op es pos))
  | [] => none
  | [a] => match r.e c a with
    | some m => some ⟨m.m, m.ls, fun P k G W X o => pe_one (m.ok P k G W X o)⟩
    | none => none
  | a :: b :: es => match op with
    | .And => match r.e c a, boolE r c .And pos (b :: es) with
      | some m, some n => some ⟨fun G => mAndV (m.m G) (n.m G), m.ls ++ n.ls, fun P k G W X o => pd_and (m.ok P k G W X o.l) (n.ok P k G W X o.r)⟩
      | _, _ => none
    | .Or => match r.e c a, boolE r c .Or pos (b :: es) with
      | some m, some n => some ⟨fun G => mOrV (m.m G) (n.m G), m.ls ++ n.ls, fun P k G W X o => pd_or (m.ok P k G W X o.l) (n.ok P k G W X o.r)⟩
      | _, _ => none
def cmpE (r : Recs) (c : Cp) (a : Expr) (ops : List CmpOp) (es : List Expr) (pos : Pos) : Option (CE c (.Compare a ops es pos)) := match ops, es with
  | [op], [b] => match cmpO op, r.e c a, r.e c b with
    | some f, some m, some n => if hm : behindInMarks op b = false then some ⟨fun G => mBin f.f (m.m G) (n.m G), m.ls ++ n.ls, fun P k G W X o => pd_cmp (f.ok P X o.xo.K o.xo.hu) (m.ok P k G W X o.l) (n.ok P k G W X o.r) hm⟩ else none
    | _, _, _ => none
  | [op, op'], [b, b'] => match cmpO op, cmpO op', r.e c a, r.e c b, r.e c b' with
    | some f, some g, some m, some n, some n' => if hm : lastMarks [op, op'] [b, b'] = false then some ⟨fun G => mChain f.f g.f (m.m G) (n.m G) (n'.m G), m.ls ++ (n.ls ++ n'.ls), fun P k G W X o => pd_chain (f.ok P X o.xo.K o.xo.hu) (g.ok P X o.xo.K o.xo.hu) (m.ok P k G W X o.l) (n.ok P k G W X o.r.l) (n'.ok P k G W X o.r.r) hm⟩ else none
    | _, _, _, _, _ => none
  | _, _ => none
/-- list methods -/
structure LMe where
  nm : Str
  mid : String
  op : D → List D → Sto → R D
  slot : Slot "list" nm mid
  ty : typeOf (.builtin mid) = pure (.type "method_descriptor")
  ok : ∀ P X, MtR X mid (rMD P op)
def lmes : List LMe := [⟨"append", "list.append", appD, PySem.F.slot_list_append, PySem.F.type_list_append, fun _ _ => mt_app⟩, ⟨"extend", "list.extend", extD, PySem.F.slot_list_extend, PySem.F.type_list_extend, fun _ _ => mt_ext⟩]
def methE (r : Recs) (c : Cp) (o : Expr) (name : Str) (apos : Pos) (es : List Expr) (pos : Pos) : Option (CE c (.Call (.Attribute o name apos) es [] pos)) := match es with
  | [] => none
  | e :: es => match hb : lmes.find? (fun b => decide (b.nm = name)), r.e c o, r.a c (e :: es) with
    | some b, some m, some a => if h : notCall o = true ∧ (apos.endLine == pos.line) = true ∧ (e :: es).length < 30 then some ⟨fun G => mLm b.op (m.m G) (a.m G), m.ls ++ a.ls, fun P k G W X ok => by
        have h2 : b.nm = name := of_decide_eq_true (List.find?_some (p := fun (b : LMe) => decide (b.nm = name)) hb)
        have sl := b.slot
        rw [h2] at sl
        exact pd_lmeth sl b.ty (b.ok P X) (m.ok P k G W X ok.l) (a.ok P k G W X ok.r) h.1 h.2.1 a.st h.2.2⟩ else none
    | _, _, _ => none
def stepE (r : Recs) (c : Cp) : (e : Expr) → Option (CE c e)
  | .Name x pos => nameE c x pos
  | .Constant v k pos => constE c v k pos
  | .BinOp a op b pos => match binO op, r.e c a, r.e c b with
    | some f, some m, some n => some ⟨fun G => mBin f.f (m.m G) (n.m G), m.ls ++ n.ls, fun P k G W X o => pd_bin (f.ok P X o.xo.K) (m.ok P k G W X o.l) (n.ok P k G W X o.r)⟩
    | _, _, _ => none
  | .UnaryOp op a pos => match op with
    | .Not => match r.e c a with
      | some m => some ⟨fun G => mNotV (m.m G), m.ls, fun P k G W X o => pd_not (m.ok P k G W X o)⟩
      | none => none
    | .USub => match r.e c a with
      | some m => some ⟨fun G => mNeg (m.m G), m.ls, fun P k G W X o => pd_neg (m.ok P k G W X o)⟩
      | none => none
    | _ => none
  | .BoolOp op es pos => boolE r c op pos es
  | .Compare a ops es pos => cmpE r c a ops es pos
  | .IfExp t a b pos => match r.t c t, r.e c a, r.e c b with
    | some q, some m, some n => some ⟨fun G => mIf (q.m G) (m.m G) (n.m G), q.ls ++ (m.ls ++ n.ls), fun P k G W X o => pd_if (q.ok P k G W X o.l) (m.ok P k G W X o.r.l) (n.ok P k G W X o.r.r)⟩
    | _, _, _ => none
  | .Tuple es k pos => match r.a c es with
    | some a => some ⟨fun G => mTup (a.m G), a.ls, fun P k G W X o => pd_tup (a.ok P k G W X o)⟩
    | none => none
  | .List es pos => match r.a c es with
    | some a => some ⟨fun G => mLst (a.m G), a.ls, fun P k G W X o => pd_lst (a.ok P k G W X o)⟩
    | none => none
  | .Subscript a (.Slice lo hi none p2) pos => match r.e c a, partE r c lo, partE r c hi with
    | some m, some l, some h => some ⟨fun G => mSl (m.m G) (l.m G) (h.m G), m.ls ++ (l.ls ++ h.ls), fun P k G W X o => pd_sl o.xo.K (m.ok P k G W X o.l) (l.ok P k G W X o.r.l) (h.ok P k G W X o.r.r)⟩
    | _, _, _ => none
  | .Subscript a b pos => match r.e c a, r.e c b with
    | some m, some n => if h : notSlice b = true then some ⟨fun G => mBin dIx (m.m G) (n.m G), m.ls ++ n.ls, fun P k G W X o => pd_ix o.xo.K (m.ok P k G W X o.l) (n.ok P k G W X o.r) h⟩ else none
    | _, _ => none
  | .Attribute a f pos => match r.e c a with
    | some m => if h : f = vKey ∧ notCall a = true then some ⟨fun G => mVal (m.m G), m.ls, fun P k G W X o => by rw [h.1]; exact pd_val o.xo (m.ok P k G W X o) h.2⟩ else none
    | none => none
  | .Call (.Name x p) es [] pos => callE r c x p es pos
  | .Call (.Attribute o name apos) es [] pos => methE r c o name apos es pos
  | .ListComp elt [⟨tg, iter, ifs, as⟩] scope pos => lcE r c elt tg iter ifs as scope pos
  | _ => none
/-! ### tests -/
def plainT : Expr → Bool
  | .UnaryOp .Not _ _ => false
  | .BoolOp _ _ _ => false
  | .IfExp _ _ _ _ => false
  | .Compare _ _ _ _ => false
  | _ => true
theorem plainT_ok {a : Expr} {env : Env} (h : plainT a = true) : ∀ whole, isTrue a env whole = (do let v ← whole; standAt a.pos; holding [v] (truthy v)) := by
  intro whole
  cases a <;> first | rfl | (cases h; done) | skip
  rename_i op x pos
  cases op <;> first | rfl | (cases h; done)
def boolW (r : Recs) (c : Cp) (op : BoolOp) (pos : Pos) : (es : List Expr) → Option (CW c (.BoolOp op es pos))
  | [] => none
  | [a] => match op with
    | .And => match r.t c a with
      | some m => some ⟨m.m, m.ls, fun P k G W X o => pd_wand1 (m.ok P k G W X o)⟩
      | none => none
    | .Or => match r.t c a with
      | some m => some ⟨m.m, m.ls, fun P k G W X o => pd_wor1 (m.ok P k G W X o)⟩
      | none => none
  | a :: b :: es => match op with
    | .And => match r.t c a, boolW r c .And pos (b :: es) with
      | some m, some n => some ⟨fun G => mAnd (m.m G) (n.m G), m.ls ++ n.ls, fun P k G W X o => pd_wand (m.ok P k G W X o.l) (n.ok P k G W X o.r)⟩
      | _, _ => none
    | .Or => match r.t c a, boolW r c .Or pos (b :: es) with
      | some m, some n => some ⟨fun G => mOr (m.m G) (n.m G), m.ls ++ n.ls, fun P k G W X o => pd_wor (m.ok P k G W X o.l) (n.ok P k G W X o.r)⟩
      | _, _ => none
def cmpT (r : Recs) (c : Cp) (a : Expr) (ops : List CmpOp) (es : List Expr) (pos : Pos) : Option (CT c (.Compare a ops es pos)) := match ops, es with
  | [op], [b] => match cmpO op, r.e c a, r.e c b with
    | some f, some m, some n => if hm : behindInMarks op b = false then some ⟨fun G => mTest (mBin f.f (m.m G) (n.m G)), m.ls ++ n.ls, fun P k G W X o => pd_tcmp (f.ok P X o.xo.K o.xo.hu) (m.ok P k G W X o.l) (n.ok P k G W X o.r) hm⟩ else none
    | _, _, _ => none
  | [op, op'], [b, b'] => match cmpO op, cmpO op', r.e c a, r.e c b, r.e c b' with
    | some f, some g, some m, some n, some n' => if hm : lastMarks [op, op'] [b, b'] = false then some ⟨fun G => mTest (mChain f.f g.f (m.m G) (n.m G) (n'.m G)), m.ls ++ (n.ls ++ n'.ls), fun P k G W X o => pd_tchain (f.ok P X o.xo.K o.xo.hu) (g.ok P X o.xo.K o.xo.hu) (m.ok P k G W X o.l) (n.ok P k G W X o.r.l) (n'.ok P k G W X o.r.r) hm⟩ else none
    | _, _, _, _, _ => none
  | _, _ => none
def stepT (r : Recs) (c : Cp) : (e : Expr) → Option (CT c e)
  | .UnaryOp .Not a pos => match r.t c a with
    | some m => some ⟨fun G => mNot (m.m G), m.ls, fun P k G W X o => pd_tnot (m.ok P k G W X o)⟩
    | none => none
  | .BoolOp op es pos => match boolW r c op pos es with
    | some m => some ⟨m.m, m.ls, fun P k G W X o => (m.ok P k G W X o).pt⟩
    | none => none
  | .Compare a ops es pos => cmpT r c a ops es pos
  | e => match r.e c e with
    | some m => if h : plainT e = true then some ⟨fun G => mTru (m.m G), m.ls, fun P k G W X o => pd_truth o.xo.K (m.ok P k G W X o) (plainT_ok h)⟩ else none
    | none => none
def argsA (r : Recs) (c : Cp) : (es : List Expr) → Option (CA c es)
  | [] => some ⟨fun _ => mNil, [], rfl, fun _ => nil_len, fun _ _ _ _ _ _ => pd_nil⟩
  | e :: es => match r.e c e, argsA r c es with
    | some m, some a => if h : notStar e = true then some ⟨fun G => mCons (m.m G) (a.m G), m.ls ++ a.ls, by rw [List.all_cons, h, a.st]; rfl, fun G S ρ ds S' => cons_len (a.len G) S ρ ds S', fun P k G W X o => pd_cons (m.ok P k G W X o.l) (a.ok P k G W X o.r) h⟩ else none
    | _, _ => none
def recs : Nat → Recs
  | 0 => ⟨fun _ _ => none, fun _ _ => none, fun _ _ => none, fun _ _ => none⟩
  | n + 1 => ⟨stepE (recs n), stepT (recs n), fun _ _ => none, argsA (recs n)⟩
end Vi
set_option Elab.async false
set_option linter.all false
set_option maxRecDepth 100000
set_option maxHeartbeats 8000000
namespace Vi
open PySem L2 PyProof.Rows
structure CpOkS (c : Cp) (P : Pr) (k : Nat) (G : GT) (W : WX) (X : Cx) (ls : List (Nat × Lam)) : Prop where
  hT : P.T.fns = c.T.fns ∧ P.T.cls = c.T.cls ∧ P.T.consts = c.T.consts
  free : ∀ x ∈ c.free, P.mg x = none
  xo : XOkS P k G c.N c.sc c.lq W X
  ls : ∀ p ∈ ls, P.T.lams[p.1]? = some p.2
theorem CpOkS.l {c : Cp} {P : Pr} {k : Nat} {G : GT} {W : WX} {X : Cx} {l m : List (Nat × Lam)} (o : CpOkS c P k G W X (l ++ m)) : CpOkS c P k G W X l := ⟨o.hT, o.free, o.xo, fun p h => o.ls p (List.mem_append_left _ h)⟩
theorem CpOkS.r {c : Cp} {P : Pr} {k : Nat} {G : GT} {W : WX} {X : Cx} {l m : List (Nat × Lam)} (o : CpOkS c P k G W X (l ++ m)) : CpOkS c P k G W X m := ⟨o.hT, o.free, o.xo, fun p h => o.ls p (List.mem_append_right _ h)⟩
theorem CpOkS.e {c : Cp} {P : Pr} {k : Nat} {G : GT} {W : WX} {X : Cx} {l : List (Nat × Lam)} (o : CpOkS c P k G W X l) : CpOk c P k G W X l := ⟨o.hT, o.free, o.xo.toXOk, o.ls⟩
structure CS (c : Cp) (st : Stmt) where
  m : GT → MS
  ls : List (Nat × Lam)
  ok : ∀ P k G W X, CpOkS c P k G W X ls → PS X st (tS P W (m G))
structure CB (c : Cp) (st : List Stmt) where
  m : GT → MS
  ls : List (Nat × Lam)
  ok : ∀ P k G W X, CpOkS c P k G W X ls → PSs X st (tS P W (m G))
def whF : Nat := 10 ^ 30000
abbrev RB := ∀ c sts, Option (CB c sts)
def asgTup (r : Recs) (c : Cp) (ts : List Expr) (kt : Nat) (pt : Pos) (vs : List Expr) (k2 : Nat) (p2 : Pos) (pos : Pos) : Option (CS c (.Assign [.Tuple ts kt pt] (.Tuple vs k2 p2) pos)) :=
  if hn : ts.all (stoName c.sc) = true then
    match hs : swR (fun id => c.sc.names.lookup id == some .local) ts vs with
    | none => none
    | some none => match cG c (.Tuple ts kt pt), r.e c (.Tuple vs k2 p2) with
      | some g, some m => some ⟨fun G => sAsg (m.m G) g.f, m.ls, fun P k G W X o => pd_asgT (m.ok P k G W X o.e) (g.ok P k G W X o.xo.toXOk) rfl (o.xo.toXOk.sw hn hs) g.st⟩
      | _, _ => none
    | some (some xs) => match ts, vs, xs with
      | [.Name x px, .Name y py], [a, b], [x', y'] => match r.a c [a, b] with
        | some m =>
          let i := c.N.idxOf x
          let j := c.N.idxOf y
          if h : x' = x ∧ y' = y ∧ c.N[i]? = some x ∧ c.N[j]? = some y ∧ i ≠ j ∧ c.sc.names.lookup x = some .local ∧ c.sc.names.lookup y = some .local then
            some ⟨fun G => sPar (m.m G) i j, m.ls, fun P k G W X o => by
              obtain ⟨rfl, rfl, h3, h4, h5, h6, h7⟩ := h
              exact pd_par o.xo.toXOk h3 h4 h5 h6 h7 (m.ok P k G W X o.e) (o.xo.toXOk.sw hn hs)⟩
          else none
        | none => none
      | [.Name x px, .Name y py, .Name z pz], [a, b, d], [x', y', z'] => match r.a c [a, b, d] with
        | some m =>
          let i := c.N.idxOf x
          let j := c.N.idxOf y
          let l := c.N.idxOf z
          if h : (x' = x ∧ y' = y ∧ z' = z) ∧ (c.N[i]? = some x ∧ c.N[j]? = some y ∧ c.N[l]? = some z) ∧ (i ≠ j ∧ i ≠ l ∧ j ≠ l) ∧ c.sc.names.lookup x = some .local ∧ c.sc.names.lookup y = some .local ∧ c.sc.names.lookup z = some .local then
            some ⟨fun G => sPar3 (m.m G) i j l, m.ls, fun P k G W X o => by
              obtain ⟨⟨rfl, rfl, rfl⟩, ⟨h3, h4, h5⟩, ⟨h6, h7, h8⟩, h9, h10, h11⟩ := h
              exact pd_par3 o.xo.toXOk h3 h4 h5 h6 h7 h8 h9 h10 h11 (m.ok P k G W X o.e) (o.xo.toXOk.sw hn hs)⟩
          else none
        | none => none
      | _, _, _ => none
  else none
def asgS (r : Recs) (c : Cp) (tg e : Expr) (pos : Pos) : Option (CS c (.Assign [tg] e pos)) := match tg, e with
  | .Name x p', e => match r.e c e with
    | some m =>
      let i := c.N.idxOf x
      if h : c.N[i]? = some x ∧ stoB c.sc x = true ∧ notComp e = true then some ⟨fun G => sAsg (m.m G) (gN i), m.ls, fun P k G W X o => pd_set o.xo.toXOk h.1 h.2.1 (m.ok P k G W X o.e) h.2.2⟩ else none
    | none => none
  | .Tuple ts kt pt, .Tuple vs k2 p2 => asgTup r c ts kt pt vs k2 p2 pos
  | .Tuple ts kt pt, e => match cG c (.Tuple ts kt pt), r.e c e with
    | some g, some m => if h : notComp e = true ∧ notTup e = true then some ⟨fun G => sAsg (m.m G) g.f, m.ls, fun P k G W X o => pd_asg (m.ok P k G W X o.e) (g.ok P k G W X o.xo.toXOk) h.1 h.2 g.st⟩ else none
    | _, _ => none
  | .Subscript o i p2, e => match r.e c e, r.e c o, r.e c i with
    | some m, some mo, some mi => if h : notComp e = true ∧ notTup e = true ∧ notSlice i = true then some ⟨fun G => sPut (m.m G) (mo.m G) (mi.m G), m.ls ++ (mo.ls ++ mi.ls), fun P k G W X o => pd_put (m.ok P k G W X o.l.e) (mo.ok P k G W X o.r.l.e) (mi.ok P k G W X o.r.r.e) h.1 h.2.1 h.2.2⟩ else none
    | _, _, _ => none
  | _, _ => none
def forS (rb : RB) (r : Recs) (c : Cp) (tg iter : Expr) (body : List Stmt) (pos : Pos) : Option (CS c (.For tg iter body [] pos)) := match cG c tg, rb c body with
  | some g, some b => match iter with
    | .Call (.Name x p1) es [] p2 => if hx : x = "range" then (match es with
      | [a] => match r.a c [a] with
        | some a' => if hg : gl c x = true ∧ x ∈ c.free then some ⟨fun G => sForR g.f (a'.m G) (b.m G), a'.ls ++ b.ls, fun P k G W X o => by
            subst hx
            have st := a'.st
            rw [List.all_cons, Bool.and_eq_true] at st
            exact pd_forR1 o.xo.ow o.xo.calm (o.xo.gl _ (gl_of hg.1).1) (by rw [o.xo.mg]; exact o.free _ hg.2) (a'.ok P k G W X o.l.e) (g.ok P k G W X o.xo.toXOk) (b.ok P k G W X o.r) st.1 (a'.len G)⟩ else none
        | none => none
      | [a, a2] => match r.a c [a, a2] with
        | some a' => if hg : gl c x = true ∧ x ∈ c.free then some ⟨fun G => sForR g.f (a'.m G) (b.m G), a'.ls ++ b.ls, fun P k G W X o => by
            subst hx
            have st := a'.st
            rw [List.all_cons, List.all_cons, Bool.and_eq_true, Bool.and_eq_true] at st
            exact pd_forR2 o.xo.ow o.xo.calm (o.xo.gl _ (gl_of hg.1).1) (by rw [o.xo.mg]; exact o.free _ hg.2) (a'.ok P k G W X o.l.e) (g.ok P k G W X o.xo.toXOk) (b.ok P k G W X o.r) st.1 st.2.1 (a'.len G)⟩ else none
        | none => none
      | _ => none) else (match r.e c (.Call (.Name x p1) es [] p2) with
      | some m => some ⟨fun G => sFor g.f (m.m G) (b.m G), m.ls ++ b.ls, fun P k G W X o => pd_for o.xo.K o.xo.ow o.xo.calm (m.ok P k G W X o.l.e) (g.ok P k G W X o.xo.toXOk) (b.ok P k G W X o.r) rfl⟩
      | none => none)
    | iter => match r.e c iter with
      | some m => if hs : notSetE iter = true then some ⟨fun G => sFor g.f (m.m G) (b.m G), m.ls ++ b.ls, fun P k G W X o => pd_for o.xo.K o.xo.ow o.xo.calm (m.ok P k G W X o.l.e) (g.ok P k G W X o.xo.toXOk) (b.ok P k G W X o.r) hs⟩ else none
      | none => none
  | _, _ => none
def tryS (rb : RB) (c : Cp) (body : List Stmt) (x : Str) (np : Pos) (n : Str) (y : Str) (py : Pos) (n' : Str) (pn' p' pos' pos : Pos) : Option (CS c (.Try body [.ExceptHandler (some (.Name x np)) (some n) [.Assign [.Name y py] (.Name n' pn') p'] pos'] [] [] pos)) :=
  let i := c.N.idxOf n
  let j := c.N.idxOf y
  if h : x = shN ∧ n' = n ∧ c.sc.names.lookup x = some .globalImplicit ∧ c.N[i]? = some n ∧ c.sc.names.lookup n = some .local ∧ c.N[j]? = some y ∧ stoB c.sc y = true ∧ (n == ("__debug__" : Str)) = false ∧ (n == ("__classdict__" : Str)) = false then
    match rb c body with
    | some b => some ⟨fun G => sTryK i j (b.m G), b.ls, fun P k G W X o => by
        obtain ⟨rfl, rfl, h3, h4, h5, h6, h7, h8, h9⟩ := h
        exact pd_tryk o.xo h3 h4 h5 h6 h7 h8 h9 fun X' W' e1 e2 xo' => b.ok P k G W' X' ⟨o.hT, o.free, xo', o.ls⟩⟩
    | none => none
  else none
def stepS (rb : RB) (r : Recs) (c : Cp) : (st : Stmt) → Option (CS c st)
  | .Pass pos => some ⟨fun _ => sNext, [], fun _ _ _ _ _ _ => pd_pass⟩
  | .Break pos => some ⟨fun _ => sBreak, [], fun _ _ _ _ _ _ => pd_break⟩
  | .Continue pos => some ⟨fun _ => sCont, [], fun _ _ _ _ _ _ => pd_cont⟩
  | .Expr e pos => match r.e c e with
    | some m => if h : notComp e = true then some ⟨fun G => sDrop (m.m G), m.ls, fun P k G W X o => pd_sexpr (m.ok P k G W X o.e) h⟩ else none
    | none => none
  | .Return none pos => some ⟨fun _ => sRetN, [], fun _ _ _ _ _ _ => pd_retN⟩
  | .Return (some e) pos => match r.e c e with
    | some m => some ⟨fun G => sRet (m.m G), m.ls, fun P k G W X o => pd_ret (m.ok P k G W X o.e)⟩
    | none => none
  | .If t a b pos => match r.t c t, rb c a, rb c b with
    | some q, some m, some n => some ⟨fun G => sIf (q.m G) (m.m G) (n.m G), q.ls ++ (m.ls ++ n.ls), fun P k G W X o => pd_sif (q.ok P k G W X o.l.e) (m.ok P k G W X o.r.l) (n.ok P k G W X o.r.r)⟩
    | _, _, _ => none
  | .Assign [tg] e pos => asgS r c tg e pos
  | .While t b [] pos => match r.t c t, rb c b with
    | some q, some m => some ⟨fun G => whS (q.m G) (m.m G) whF, q.ls ++ m.ls, fun P k G W X o => pd_while whF o.xo.ow (q.ok P k G W X o.l.e) (m.ok P k G W X o.r)⟩
    | _, _ => none
  | .For tg iter body [] pos => forS rb r c tg iter body pos
  | .Raise (some (.Call (.Name x p) [a] [] pos)) none pos2 => match r.e c a with
    | some m =>
      let q := c.T.cls.idxOf x
      if h : gl c x = true ∧ c.T.cls[q]? = some x ∧ notStar a = true then some ⟨fun G => sRaise q (m.m G), m.ls, fun P k G W X o => pd_raise o.xo.toXOk (by rw [o.hT.2.1]; exact h.2.1) (gl_of h.1).1 (m.ok P k G W X o.e) (gl_of h.1).2 h.2.2⟩ else none
    | none => none
  | .Try body [.ExceptHandler (some (.Name x np)) (some n) [.Assign [.Name y py] (.Name n' pn') p'] pos'] [] [] pos => tryS rb c body x np n y py n' pn' p' pos' pos
  | _ => none
def blockB (rs : ∀ c st, Option (CS c st)) (c : Cp) : (sts : List Stmt) → Option (CB c sts)
  | [] => some ⟨fun _ => sNext, [], fun _ _ _ _ _ _ => pd_snil⟩
  | [s] => match rs c s with
    | some m => some ⟨m.m, m.ls, fun P k G W X o => pd_sone (m.ok P k G W X o)⟩
    | none => none
  | s :: t :: sts => match rs c s, blockB rs c (t :: sts) with
    | some m, some n => some ⟨fun G => sSeq (m.m G) (n.m G), m.ls ++ n.ls, fun P k G W X o => pd_scons (m.ok P k G W X o.l) (n.ok P k G W X o.r)⟩
    | _, _ => none
def recB : Nat → RB
  | 0 => fun _ _ => none
  | n + 1 => blockB (stepS (recB n) (recs n))
def lam0 : Lam := ⟨"", ⟨[], [], none, [], [], none, []⟩, default, ⟨.function, [], false, false, []⟩, []⟩
def lamAt (ls : List (Nat × Lam)) (i : Nat) : Lam := ((ls.drop i).head?.map (·.2)).getD lam0
/-! ### a module's functions -/
structure FRow (T : Tab) (fr : List Str) (lams : List Lam) where
  x : Str
  st : Stmt
  N : List Str
  ps : List Str
  lq : Option Str
  lpos : List (Nat × Nat)
  sc : FnScope N ps (defScope st)
  body : CB ⟨T, fr, N, defScope st, lq, lpos⟩ (defBody st)
  ls : ∀ p ∈ body.ls, lams[p.1]? = some p.2
structure LRow (T : Tab) (fr : List Str) (lams : List Lam) where
  L : Lam
  N : List Str
  tx : LamOk L N
  body : CE ⟨T, fr, N, L.scope, none, []⟩ L.body
  ls : ∀ p ∈ body.ls, lams[p.1]? = some p.2
def semG {T : Tab} {fr : List Str} {ll : List Lam} (rows : List (FRow T fr ll)) (lams : List (LRow T fr ll)) : Nat → GT
  | 0 => ⟨fun _ _ _ => .bad, fun _ _ _ => .bad⟩
  | k + 1 => ⟨fun i ds S => match rows[i]? with
      | some r => runF r.N r.ps.length (r.body.m (semG rows lams k)) ds S
      | none => .bad, fun i cs S => match lams[i]? with
      | some l => runL l.N (l.body.m (semG rows lams k)) cs S
      | none => .bad⟩
theorem gok_all {P : Pr} {prog : Program} {w : World} {base : Heap} {fr : List Str} {T : Tab} (hT : P.T.fns = T.fns ∧ P.T.cls = T.cls ∧ P.T.consts = T.consts) (rows : List (FRow T fr P.T.lams)) (lams : List (LRow T fr P.T.lams)) (hfr : ∀ x ∈ fr, P.mg x = none) (hst : ∃ D fI, PrOk P prog D fI)
    (hR : P.T.fns = rows.map (·.x)) (hL : P.T.lams = lams.map (·.L)) (hF : ∀ r ∈ rows, ∃ f fd, P.mg r.x = some (.ref f) ∧ PySem.W.keepIn P.K (.ref f) = true ∧ Binds P.K fd r.ps [] ∧ FunL P base r.x r.x r.lq r.st f fd) :
    ∀ k, GOk P prog w base k (semG rows lams k) := by
  intro k
  induction k with
  | zero =>
    refine ⟨fun i x hx => ?_, fun i L hl A outer s H α S cs fl c' cl pm ctv Q E _ _ _ _ _ q => q.elim⟩
    rw [hR, List.getElem?_map] at hx
    cases hr : rows[i]? with
    | none => rw [hr] at hx; cases hx
    | some r =>
      rw [hr] at hx
      cases hx
      obtain ⟨f, fd, h1, h2, h3, h4⟩ := hF r (List.mem_of_getElem? hr)
      exact ⟨f, fd, r.ps, h1, h2, h3, ⟨fun vs H Q E ⟨_, _, _, _, _, _, q⟩ => q.elim, fun A outer s H args us vs Q E _ _ _ _ _ ⟨_, _, _, _, _, _, q⟩ => q.elim⟩, fun _ _ _ => rfl⟩
  | succ k ih =>
    refine ⟨fun i x hx => ?_, fun i L hl => ?_⟩
    · rw [hR, List.getElem?_map] at hx
      cases hr : rows[i]? with
      | none => rw [hr] at hx; cases hx
      | some r =>
        rw [hr] at hx
        cases hx
        obtain ⟨f, fd, h1, h2, h3, h4⟩ := hF r (List.mem_of_getElem? hr)
        have e : (semG rows lams (k + 1)).fn i = runF r.N r.ps.length (r.body.m (semG rows lams k)) := by
          funext ds S
          simp only [semG, hr]
        rw [e]
        refine ⟨f, fd, r.ps, h1, h2, h3, FnG.of h4 r.sc ih hst fun X W _ _ xo => r.body.ok P k _ W X ⟨hT, hfr, xo, r.ls⟩, fun ds S hn => ?_⟩
        unfold runF
        rw [if_neg hn]
    · rw [hL, List.getElem?_map] at hl
      cases hr : lams[i]? with
      | none => rw [hr] at hl; cases hl
      | some r =>
        rw [hr] at hl
        cases hl
        have e : (semG rows lams (k + 1)).lam i = runL r.N (r.body.m (semG rows lams k)) := by
          funext cs S
          simp only [semG, hr]
        rw [e]
        exact CloOk.of r.tx ih hst fun X W _ _ xo => r.body.ok P k _ W X ⟨hT, hfr, xo, r.ls⟩
end Vi
set_option Elab.async false
set_option linter.all false
set_option maxRecDepth 100000
set_option maxHeartbeats 2000000
/-! The end: the law's call from the caller's heap. -/
namespace Vi
open PySem L2 PyProof.Rows
/-- the caller's heap as this layer sees it: the script and the tables -/
def hpAt (sc : Bool) (a : Addr) (ob : Obj) (xs : List V) (tb : List Addr) : Hp := fun b => if sc = true ∧ b = a then some (.frz ob (.lst xs)) else if b ∈ tb then some (.tbl #[]) else none
section
variable {prog : Program} {w : World} {P : Pr} {mb : Str → Option Value} {k : Nat} {fa a : Addr} {cs : List (Addr × Addr)} {x : Str} {g : List D → Sto → R D} {s1 : Shared} {us : List Value} {ns : List Int} {S1 : Sto}
theorem law_callG (hK : P.K.In s1.heap) (hN : s1.heap.Ns mainGlobals P.mg) (hB : s1.heap.Ns builtinsNs mb) (hBB : ∀ y : Str, y ≠ "__name__" → mb y = bootBuiltins y) (hL : s1.heap.NoLimit) (hG : s1.gens = #[])
    (tO : ∀ p ∈ cs, s1.heap.get? p.2 = some (PySem.W.tabObj #[])) (tN : ∀ p ∈ cs, P.K.lookup p.2 = none) (tC : ∀ p ∈ cs, PySem.W.CodeHd s1.heap p.1 p.2) (tP : P.tabs.map (·.1) = cs.map (·.2))
    (hM : ∃ (m : Addr) (o : Obj), P.mg "__builtins__" = some (.ref m) ∧ m ≠ builtinsNs ∧ s1.heap.get? m = some o ∧ o.cls = .type "module" ∧ o.dict = some builtinsNs ∧ o.data = .plain)
    (hA : s1.heap.get? a = some { cls := .type "list", data := .seq us.toArray }) (hI : IntsAre us ns) (hl : ns.length ≤ sizeLine) (hr : Room k callerA)
    (hx : P.mg x = some (.ref fa)) (F : ∀ base : Heap, P.K.In base → base.Ns mainGlobals P.mg → (∀ p ∈ cs, LamX.TabB base P.mg p.1 p.2) → FOk P prog w base k x g)
    (hg : g [.scr ns] [] = .ok (.bl true) S1) :
    codeAny (model prog w) callerA (.call (.ref fa) ⟨[.ref a], []⟩) (fun r s' => r = .ok (.ret (.bool true)) ∧ OldK s1.heap s'.heap ∧ s'.os = s1.os ∧ AllBare s'.gens) s1 := by
  have hv := vals_ints hI
  have hlen := hI.length
  obtain ⟨tb, htb⟩ : ∃ tb, tb = cs.map (·.2) := ⟨_, rfl⟩
  have tget : ∀ b ∈ tb, s1.heap.get? b = some (PySem.W.tabObj #[]) := fun b hb' => by
    rw [htb] at hb'
    obtain ⟨p, hp, rfl⟩ := List.mem_map.mp hb'
    exact tO p hp
  have tno : ∀ b ∈ tb, P.K.lookup b = none := fun b hb' => by
    rw [htb] at hb'
    obtain ⟨p, hp, rfl⟩ := List.mem_map.mp hb'
    exact tN p hp
  have mtb : ∀ p ∈ cs, p.2 ∈ tb := fun p hp => by rw [htb]; exact List.mem_map.mpr ⟨p, hp, rfl⟩
  have ant : a ∉ tb := fun z => by
    have q := (tget a z).symm.trans hA
    injection q with q
    have q2 := congrArg Obj.data q
    simp [PySem.W.tabObj] at q2
  -- is the script an object that the boot has made?
  obtain ⟨sc, hsc⟩ : ∃ sc : Bool, sc = (P.K.lookup a).isNone := ⟨_, rfl⟩
  let ob : Obj := { cls := .type "list", data := .seq us.toArray }
  obtain ⟨H, hH⟩ : ∃ H : Hp, H = hpAt sc a ob (ns.map V.int) tb := ⟨_, rfl⟩
  have Ha : sc = true → H a = some (.frz ob (.lst (ns.map V.int))) := fun e => by rw [hH]; unfold hpAt; exact if_pos ⟨e, rfl⟩
  have Ht : ∀ b ∈ tb, H b = some (.tbl #[]) := fun b hb' => by
    rw [hH]
    unfold hpAt
    rw [if_neg fun z : sc = true ∧ b = a => ant (by rw [← z.2]; exact hb'), if_pos hb']
  have Hc : ∀ b o, H b = some o → (sc = true ∧ b = a ∧ o = .frz ob (.lst (ns.map V.int))) ∨ (b ∈ tb ∧ o = .tbl #[]) := fun b o e => by
    rw [hH] at e
    unfold hpAt at e
    split at e
    · rename_i z
      exact .inl ⟨z.1, z.2, (Option.some.inj e).symm⟩
    · split at e
      · rename_i z
        exact .inr ⟨z, (Option.some.inj e).symm⟩
      · cases e
  have ok0 : HOk prog w H s1.heap := fun b o e => by
    rcases Hc b o e with ⟨_, rfl, rfl⟩ | ⟨h1, rfl⟩
    · exact ⟨hA, by rw [List.length_map]; exact hl, us, _, hv, hA⟩
    · exact tget b h1
  have sq0 : SqF P.K H a (ns.map V.int) := by
    cases q : P.K.lookup a with
    | none => exact .inl ⟨_, Ha (by rw [hsc, q]; rfl)⟩
    | some o =>
      have e := hK a o q
      rw [hA] at e
      cases e
      exact .inr ⟨_, us.toArray, _, q, rfl, rfl, rfl, by rw [List.size_toArray, hlen]; exact hl, by simpa using hv⟩
  -- what the abstract heap hides has no part in the base's facts
  have kp : ∀ {b : Addr} {o : Obj}, s1.heap.get? b = some o → (∀ vs n, o.data ≠ .seq vs n) → o ≠ PySem.W.tabObj #[] → (hidT s1.heap H).get? b = some o := fun {b o} e n1 n2 => hidT_get e (by
    cases q : H b with
    | none => rfl
    | some u =>
      rcases Hc b u q with ⟨_, rfl, _⟩ | ⟨h1, _⟩
      · have e3 := Option.some.inj (hA.symm.trans e)
        subst e3
        exact absurd rfl (n1 _ _)
      · exact absurd (Option.some.inj ((tget b h1).symm.trans e)).symm n2)
  have kd : ∀ {b : Addr} {m : Str → Option Value}, s1.heap.Ns b m → (hidT s1.heap H).Ns b m := fun {b m} ⟨o, es, ep, e, d, r⟩ => ⟨o, es, ep, kp e (fun _ _ z => by rw [d] at z; cases z) (fun z => by rw [z] at d; cases d), d, r⟩
  have kK : P.K.In (hidT s1.heap H) := fun b o e => hidT_get (hK b o e) (by
    cases q : H b with
    | none => rfl
    | some u =>
      rcases Hc b u q with ⟨h1, rfl, _⟩ | ⟨h1, _⟩
      · rw [hsc, e] at h1
        cases h1
      · rw [tno b h1] at e
        cases e)
  have md : L2.Mod P.K P.mg (hidT s1.heap H) := ⟨kK, kd hN, ⟨mb, kd hB, hBB⟩, let ⟨mc, h1, h2⟩ := hL; ⟨mc, kd h1, h2⟩⟩
  have TB : ∀ p ∈ cs, LamX.TabB (hidT s1.heap H) P.mg p.1 p.2 := fun p hp => by
    have e1 := tO p hp
    refine ⟨?_, ?_, fun z => ?_⟩
    · obtain ⟨o, vs, file, tf, flags, tg, inF, text, tt, g1, r1, r2, r3, r⟩ := tC p hp
      refine ⟨o, vs, file, tf, flags, tg, inF, text, tt, kp g1 (fun _ _ z => by rw [r2] at z; cases z) (fun z => ?_), r1, r2, r3, r⟩
      rw [z] at r2
      cases r2
      simp at r3
    · obtain ⟨m, o, h1, h2, h3, h4, h5, h6⟩ := hM
      refine ⟨m, o, h1, h2, fun q => ?_, fun q => ?_, kp h3 (fun _ _ z => by rw [h6] at z; cases z) (fun z => by rw [z] at h6; cases h6), h4, h5, h6⟩
      · obtain ⟨o', es, ep, e, hd, _⟩ := hN
        rw [← q, h3] at e
        cases e
        rw [h6] at hd
        cases hd
      · rw [q, e1] at h3
        cases h3
        cases h6
    · obtain ⟨o', es, ep, e, hd, _⟩ := hN
      rw [z, e1] at e
      cases e
      cases hd
  have en : Env0 prog w P.K P.mg (hidT s1.heap H) callerA [] s1 H := ⟨rfl, md, fun b o e => of_hidT e, Nat.le_of_eq (hidT_size _ _), trivial, fun b hb' => (by cases hb'), ok0, .of_eq hG⟩
  have sm : Sim P [] [] H := ⟨rfl, List.nodup_nil, fun n b mo e => by simp at e, fun p hp => LamX.TabS.nil (Ht p.1 (by rw [htb, ← tP]; exact List.mem_map.mpr ⟨p, hp, rfl⟩))⟩
  obtain ⟨f, fd, ps, e1, _, e2, e3, e4⟩ := F _ kK (kd hN) TB
  rw [hx] at e1
  cases e1
  have e5 : ps.length = 1 := by
    by_cases e : ps.length = 1
    · exact e
    · have z := e4 [.scr ns] [] fun z => e z.symm
      rw [hg] at z
      cases z
  refine codeAny_mono (e3.run callerA [] s1 H ⟨[.ref a], []⟩ ([Value.ref a] ++ []) [V.ref a] (fun v _ => v = .bl true) (fun _ _ _ => False) hr rfl en (e2 s1 [Value.ref a] hK (by rw [e5]; rfl)) (show Vals [V.ref a] [Value.ref a] from .cons rfl .nil) ⟨[], [], [.scr ns], sm, ⟨_, _, rfl, ⟨a, rfl, sq0⟩, rfl⟩, by rw [e5]; rfl, ?_⟩) fun r s' h => ?_
  · rw [hg]
    exact fun _ _ v _ _ rv => rv
  · cases r with
    | error e =>
      obtain ⟨_, _, _, _, _, _, _, _, _, _, _, _, z⟩ := h
      exact z.elim
    | ok fl =>
      cases fl with
      | next => exact False.elim h
      | brk => exact False.elim h
      | cont => exact False.elim h
      | ret u =>
        obtain ⟨v, H2, os, bare, un, ok2, rv, qv⟩ := h
        have qv' : v = .bl true := qv
        subst qv'
        have eu : u = Value.bool true := rv
        subst eu
        have old : ∀ b o, b ∉ tb → s1.heap.get? b = some o → s'.heap.get? b = some o := fun b o nb e => by
          cases q : H b with
          | none => exact un.keep b o e q (fun z => by cases z) (by simp)
          | some u =>
            rcases Hc b u q with ⟨_, _, rfl⟩ | ⟨h1, _⟩
            · have e1 := (ok0 b _ q).1
              rw [e] at e1
              rw [e1]
              exact (ok2 b _ (un.frzs b _ _ q)).1
            · exact absurd h1 nb
        have grow : ∀ b ∈ tb, ∃ more : Array Value, s'.heap.get? b = some { cls := .none, data := .fields more } := fun b h1 => by
          obtain ⟨more, z⟩ := un.tbls b #[] (Ht b h1)
          exact ⟨_, ok2 b _ z⟩
        refine ⟨rfl, ⟨fun b o e => ?_, fun b o e => ?_⟩, os, bare⟩
        · by_cases hb' : b ∈ tb
          · obtain ⟨more, hm⟩ := grow b hb'
            have e2 := tget b hb'
            rw [e] at e2
            cases e2
            have hb2 := hb'
            rw [htb] at hb2
            obtain ⟨p, hp, rfl⟩ := List.mem_map.mp hb2
            exact .inr (.inl ⟨((tC p hp).tab (tO p hp)).isCodeTable, rfl, #[], more, rfl, by rw [Array.empty_append]; exact hm⟩)
          · exact .inl (old b o hb' e)
        · by_cases hb' : b ∈ tb
          · obtain ⟨more, hm⟩ := grow b hb'
            exact ⟨_, hm⟩
          · exact ⟨o, old b o hb' e⟩
end
end Vi
set_option Elab.async false
set_option linter.all false
set_option maxRecDepth 100000
set_option maxHeartbeats 2000000
/-! What the head leaves: all facts that the functions, errors, constants ask, told by one Bool and the functions' data. -/
namespace Vi
open PySem L2 PyProof.Rows
open PySem.W (Frag)
def isTab (o : Obj) : Bool := match o.data with
  | .fields vs => vs.toList.isEmpty
  | _ => false
def kOf (g : Addr → Option Obj) (n : Nat) : Frag := (He.frG g (cStatics :: He.asD g n)).filter fun p => !isTab p.2
theorem lookup_mem {a : Addr} {o : Obj} : ∀ {l : List (Addr × Obj)}, l.lookup a = some o → (a, o) ∈ l
  | [], h => by cases h
  | (b, u) :: r, h => by
    rw [List.lookup_cons] at h
    cases q : a == b with
    | true =>
      rw [q] at h
      cases h
      rw [beq_iff_eq.mp q]
      exact List.mem_cons_self
    | false =>
      rw [q] at h
      exact List.mem_cons_of_mem _ (lookup_mem h)
theorem kOf_at {g : Addr → Option Obj} {n : Nat} {a : Addr} {o : Obj} (h : (kOf g n).lookup a = some o) : g a = some o ∧ isTab o = false := by
  have m := lookup_mem h
  obtain ⟨m1, m2⟩ := List.mem_filter.mp m
  unfold He.frG at m1
  obtain ⟨b, hb, e⟩ := List.mem_filterMap.mp m1
  cases q : g b with
  | none => rw [q] at e; cases e
  | some u =>
    rw [q] at e
    cases e
    refine ⟨q, ?_⟩
    have m3 : (!isTab o) = true := m2
    simpa using m3
/-- constants -/
def relVD (K : Frag) : Nat → D → Value → Bool
  | _, .non, .none => true
  | _, .bl b, .bool c => b == c
  | _, .int i, .int j _ => decide (i = j)
  | _, .str x, .str y _ => decide (x = y)
  | n + 1, .tup ds, .ref a => (match K.lookup a with
    | some ⟨.type c, _, .seq its _, _⟩ => decide (c = "tuple") && (decide (its.size ≤ sizeLine) && relVDs K n ds its.toList)
    | _ => false)
  | _, _, _ => false
where relVDs (K : Frag) : Nat → List D → List Value → Bool
  | _, [], [] => true
  | n + 1, d :: ds, u :: us => relVD K n d u && relVDs K n ds us
  | _, _, _ => false
theorem ba {a b : Bool} (h : (a && b) = true) : a = true ∧ b = true := Bool.and_eq_true_iff.mp h
mutual
theorem relVD_ok {P : Pr} : ∀ {n : Nat} {d : D} {u : Value}, relVD P.K n d u = true → ∃ v, RelV v u ∧ ∀ α H, Rep0 P α H d v := by
  intro n d u h
  cases d with
  | non => cases u <;> first | exact ⟨.non, rfl, fun _ _ => rfl⟩ | (cases n <;> simp [relVD] at h)
  | bl b =>
    cases u with
    | bool c =>
      have e : b = c := by
        unfold relVD at h
        exact eq_of_beq h
      rw [e]
      exact ⟨.bl c, rfl, fun _ _ => rfl⟩
    | _ => cases n <;> simp [relVD] at h
  | int i =>
    cases u with
    | int j t =>
      have e : i = j := by
        unfold relVD at h
        exact of_decide_eq_true h
      rw [e]
      exact ⟨.int j, ⟨t, rfl⟩, fun _ _ => rfl⟩
    | _ => cases n <;> simp [relVD] at h
  | str x =>
    cases u with
    | str y t =>
      have e : x = y := by
        unfold relVD at h
        exact of_decide_eq_true h
      rw [e]
      exact ⟨.str y, ⟨t, rfl⟩, fun _ _ => rfl⟩
    | _ => cases n <;> simp [relVD] at h
  | tup ds =>
    cases u with
    | ref a =>
      cases n with
      | zero => unfold relVD at h; cases h
      | succ n =>
        unfold relVD at h
        split at h
        · rename_i c od its ep sl q
          obtain ⟨h1, h2⟩ := ba h
          obtain ⟨h3, h4⟩ := ba h2
          have e : c = "tuple" := of_decide_eq_true h1
          subst e
          obtain ⟨vs, e1, e2⟩ := relVDs_ok h4
          exact ⟨.ref a, rfl, fun α H => ⟨a, vs, rfl, .inr ⟨_, its, ep, q, rfl, rfl, of_decide_eq_true h3, e1⟩, e2 α H⟩⟩
        · cases h
    | _ => cases n <;> simp [relVD] at h
  | _ => cases n <;> cases u <;> simp [relVD] at h
theorem relVDs_ok {P : Pr} : ∀ {n : Nat} {ds : List D} {us : List Value}, relVD.relVDs P.K n ds us = true → ∃ vs, Vals vs us ∧ ∀ α H, Reps P α H ds vs := by
  intro n ds us h
  cases ds with
  | nil => cases us with
    | nil => exact ⟨[], .nil, fun _ _ => rfl⟩
    | cons u us => cases n <;> simp [relVD.relVDs] at h
  | cons d ds => cases us with
    | nil => cases n <;> simp [relVD.relVDs] at h
    | cons u us => cases n with
      | zero => simp [relVD.relVDs] at h
      | succ n =>
        unfold relVD.relVDs at h
        obtain ⟨h1, h2⟩ := ba h
        obtain ⟨v, r1, r2⟩ := relVD_ok h1
        obtain ⟨vs, s1, s2⟩ := relVDs_ok h2
        exact ⟨v :: vs, .cons r1 s1, fun α H => ⟨v, vs, rfl, r2 α H, s2 α H⟩⟩
end
def constB (K : Frag) (p : Str × D) : Bool := match PySem.W.nsIn K mainGlobals p.1 with
  | some (some u) => relVD K 40 p.2 u
  | _ => false
/-- a class of own errors -/
def clsB (K : Frag) (C : Addr) : Bool := match K.lookup C with
  | some ⟨.type t, _, .cls cd, sl⟩ => (match cd.mro, sl.toList with
    | .ref C' :: bm, [_, _, _, _, some (.builtin n), _] => decide (t = "type") && (C' == C && (n == "ValueError.__new__" && (!cd.hasDel && (cd.hasDict && PySem.HandSPX.refsVE bm))))
    | _, _ => false)
  | _ => false
theorem clsB_ok {K : Frag} {C : Addr} (h : clsB K C = true) : ∃ nm q N bs bm sn sub ab col dd k0 k1 k2 k3 k5, K.lookup C = some (excClassObj nm q C N bs bm true sn sub ab col dd k0 k1 k2 k3 k5 "ValueError.__new__") ∧ PySem.HandSPX.refsVE bm = true := by
  unfold clsB at h
  split at h
  · rename_i t dd cd sl ho
    split at h
    · rename_i C' bm k0 k1 k2 k3 n k5 hm hs
      simp only [Bool.and_eq_true, beq_iff_eq, Bool.not_eq_true', decide_eq_true_eq] at h
      obtain ⟨rfl, rfl, rfl, hdel, hdi, ht⟩ := h
      obtain ⟨nm, bs, mro, ns, qn, hd, sn, sub, ab, col, del⟩ := cd
      dsimp only at hm hdel hdi
      subst hm hdel hdi
      have hsl : sl = #[k0, k1, k2, k3, some (.builtin "ValueError.__new__"), k5] := by
        obtain ⟨l⟩ := sl
        simp only at hs
        rw [hs]
      subst hsl
      exact ⟨nm, qn, ns, bs, bm, sn, sub, ab, col, dd, k0, k1, k2, k3, k5, ho, ht⟩
    · cases h
  · cases h
def ownB (K : Frag) (C D fI : Addr) : Bool := clsB K C && (
  decide (PySem.W.ks_superIn K C D "__init__" = some (some (.builtin "ValueError.__init__"))) && (
  decide (PySem.W.mroIn K C (.ref D) = some true) && (
  He.eqO (PySem.W.findIn K (.ref C) "__setattr__") (some (some (.builtin "object.__setattr__"))) && (
  He.eqO (PySem.W.findIn K (.ref C) "__getattribute__") (some (some (.builtin "BaseException.__getattribute__"))) && (
  He.eqO (PySem.W.findIn K (.ref C) "__getattr__") (some none) && (
  He.eqO (PySem.W.findIn K (.ref C) "value") (some none) && (
  He.eqO (PySem.W.findIn K (.ref C) "__init__") (some (some (.ref fI))) && (
  decide (PySem.W.typeIn K (.ref fI) = some (.type "function")) && (
  PySem.W.keepIn K (.ref C) && (
  decide (PySem.W.subIn K (.ref C) (.type "BaseException") = some true) && (
  decide (PySem.W.subIn K (.ref C) (.type "ValueError") = some true) && (
  decide (PySem.W.typeIn K (.ref C) = some (.type "type")) && (
  PySem.W.hasDictIn K C && (
  He.eqO (PySem.W.findIn K (.ref C) "__class__") (some (some (.builtin "object.__class__"))) && (
  decide (PySem.W.specialIn K (.builtin "object.__class__") "__get__" = some (some (.builtin "getset_descriptor.__get__"))) && (
  decide (PySem.W.takesIn K (.builtin "object.__class__") = some true) && (
  decide (PySem.W.mroIn K C (.type "object") = some true) && (
  decide (PySem.W.exmOne K (.ref C) (.ref D) = some true) &&
  He.eqO (PySem.W.nsIn K cStatics "thirdparty.any") (some none)))))))))))))))))))
theorem ownB_ok {K : Frag} {C D fI : Addr} (h : ownB K C D fI = true) : PySem.ShX.Own K C D fI ∧ L2.ExcC K C ∧ PySem.W.exmOne K (.ref C) (.ref D) = some true := by
  unfold ownB at h
  simp only [Bool.and_eq_true, decide_eq_true_eq, He.eqO] at h
  obtain ⟨a1, a2, a3, a4, a5, a6, a7, a8, a9, a10, a11, a12, a13, a14, a15, a16, a17, a18, a19, a20⟩ := h
  exact ⟨⟨clsB_ok a1, a2, a20, a3, a4, a5, a6, a7, a8, a9, a10, a11, a12, a13, a14⟩, ⟨a5, a6, a11, a14, a15, a16, a17, a18⟩, a19⟩
/-! ### the errors' maker -/
abbrev MkW : Type := Option (Str × Str × Arguments × FuncBody × Scope × Addr × List Str × Addr)
def mkFi (K : Frag) : Addr := He.ma K (He.ga K shN) "__init__"
def mkW (K : Frag) : MkW := match K.lookup (mkFi K) with
  | some ⟨_, _, .func fd, _⟩ => some (fd.name, fd.qualname, fd.params, fd.body, fd.scope, fd.globals, fd.closure.map (·.1), fd.builtins)
  | _ => none
def mkVal (st : Stmt) : MkW := some ("__init__", "ShallowError.__init__", defArgs st, .stmts (defBody st), defScope st, mainGlobals, ["__class__"], builtinsNs)
def mkB (file : Str) (K : Frag) : Bool := (PySem.W.clsIn K (He.ga K shN)).isSome && (match K.lookup (mkFi K) with
  | some ⟨_, _, .func fd, _⟩ => (match fd.closure, fd.defaults, fd.kwdefaults, fd.code with
    | [(_, cc)], .none, .none, .ref cda => PySem.W.codeIn K (.ref cda) "ShallowError.__init__" && ((match K.lookup cda with
      | some ⟨_, _, .fields vs, _⟩ => (match (vs[2]? : Option Value) with
        | some (.str f _) => file == f
        | _ => false)
      | _ => false) && (match K.lookup cc with
      | some ⟨_, _, .cell (some (.ref D)), _⟩ => D == He.ga K shN
      | _ => false))
    | _, _, _, _ => false)
  | _ => false)
def MkTxt (st : Stmt) : Prop := ∃ p1 p2 q1 q2 q3 q4 q5 q6 r1 r2 r3 r4 : Pos, defArgs st = PySem.ShX.mA p1 p2 ∧ defBody st = PySem.ShX.mB q1 q2 q3 q4 q5 q6 r1 r2 r3 r4 ∧ (q3.endLine == q5.line) = true ∧
  ((defScope st).kind = .function ∧ (defScope st).isCoroutine = false ∧ (defScope st).isGenerator = false ∧ (∀ x ∈ (defScope st).names, x.2 ≠ .cell) ∧ (defScope st).names.lookup ("super" : Str) = some .globalImplicit ∧ (defScope st).names.lookup ("__class__" : Str) = some .free ∧ (defScope st).names.lookup ("self" : Str) = some .local ∧ (defScope st).names.lookup ("value" : Str) = some .local)
theorem mk_ok {prog : Program} {K : Frag} {st : Stmt} (e : mkW K = mkVal st) (b : mkB prog.main.file K = true) (T : MkTxt st) (hs : (prog.main.scope.names.lookup ("super" : Str)).isSome = false) : PySem.ShX.Maker prog K (He.ga K shN) (mkFi K) := by
  obtain ⟨b1, b2⟩ := ba b
  refine ⟨?_, hs, Option.isSome_iff_exists.mp b1⟩
  obtain ⟨p1, p2, q1, q2, q3, q4, q5, q6, r1, r2, r3, r4, t1, t2, t3, t4⟩ := T
  unfold mkW at e
  cases q : K.lookup (mkFi K) with
  | none => rw [q] at b2; cases b2
  | some o =>
    obtain ⟨oc, od, dt, osl⟩ := o
    rw [q] at b2 e
    cases dt with
    | func fd =>
      obtain ⟨n1, n2, n3, n4, n5, n6, n7, n8, n9, n10, n11, n12, n13, n14, n15⟩ := fd
      have e2 : (some (n1, n2, n3, n4, n5, n6, n7.map (·.1), n15) : MkW) = mkVal st := e
      unfold mkVal at e2
      simp only [Option.some.injEq, Prod.mk.injEq] at e2
      obtain ⟨h1, h2, h3, h4, h5, h6, h7, h8⟩ := e2
      subst h1 h2 h3 h4 h5 h6 h8
      dsimp only at b2
      split at b2
      · rename_i cn cc cda
        obtain ⟨c1, c2⟩ := ba b2
        obtain ⟨c3, c4⟩ := ba c2
        have en : cn = ("__class__" : Str) := by
          have z : [cn] = [("__class__" : Str)] := h7
          injection z
        subst en
        split at c3
        · rename_i ccl cdd vs ccs hc
          split at c3
          · rename_i f tf hv
            split at c4
            · rename_i cl cld D csl hcc
              have eD : D = He.ga K shN := eq_of_beq c4
              refine ⟨oc, od, n10, n11, n12, cda, cc, n14, osl, p1, p2, q1, q2, q3, q4, q5, q6, r1, r2, r3, r4, defScope st, ?_, c1, t3, t4, ⟨ccl, cdd, vs, ccs, f, tf, hc, hv, c3⟩, ⟨cl, cld, csl, by rw [hcc, eD]⟩⟩
              rw [← t1, ← t2]
            · cases c4
          · cases c3
        · cases c3
      · cases b2
    | _ => cases b2
/-! ### all of it -/
def tabOf (K : Frag) (x : Str) : Addr × Addr := (PySem.W.tabIn K x).getD (0, 0)
structure HdD where
  fns : List He.DefD
  lqs : List (Str × Str)
  cls : List Str
  consts : List (Str × D)
  fr : List Str
  mkS : Stmt
  file : Str
def hdB (h : HdD) (K : Frag) : Bool :=
  (h.fns.all fun d => He.eqO (PySem.W.nsIn K mainGlobals d.at_.1) (some (some (.ref (He.ga K d.at_.1)))) && d.ok K) && (
  (h.lqs.all fun p => (PySem.W.tabIn K p.1).isSome && decide ((p.1 ++ ".<locals>.") ++ "<lambda>" = p.2)) && (
  (h.lqs.all fun p => h.lqs.all fun q => !(decide ((tabOf K p.1).2 = (tabOf K q.1).2)) || decide (p.2 = q.2)) && (
  (h.cls.all fun x => He.eqO (PySem.W.nsIn K mainGlobals x) (some (some (.ref (He.ga K x)))) && ownB K (He.ga K x) (He.ga K shN) (mkFi K)) && (
  (h.cls.zipIdx.all fun p => h.cls.zipIdx.all fun q => decide (PySem.W.kitOne K (.ref (He.ga K p.1)) (.ref (He.ga K q.1)) = some (decide (p.2 = q.2)))) && (
  (h.consts.all fun p => constB K p) && (
  (h.fr.all fun x => He.eqO (PySem.W.nsIn K mainGlobals x) (some none)) && (
  He.eqO (PySem.W.nsIn K mainGlobals shN) (some (some (.ref (He.ga K shN)))) &&
  mkB h.file K)))))))
abbrev HdW : Type := Bool × List He.FnW × MkW
def hdObs (h : HdD) (K : Frag) : HdW := (hdB h K, h.fns.map fun d => He.fnW K d.at_, mkW K)
def hdVal (h : HdD) : HdW := (true, h.fns.map He.DefD.val, mkVal h.mkS)
def hdObsG (h : HdD) (n : Nat) (g : Addr → Option Obj) : HdW := hdObs h (kOf g n)
structure HdK (h : HdD) (K : Frag) : Prop where
  tab : ∀ a o, K.lookup a = some o → isTab o = false
  says : hdObs h K = hdVal h
def hdHook (h : HdD) (n : Nat) : PySem.W.Hook where
  α := HdW
  obs := fun s => hdObsG h n s.heap.get?
  val := fun _ => hdVal h
  says := fun _ hp => ∃ K : Frag, K.In hp ∧ HdK h K
  of := fun _ _ e => ⟨_, fun _ _ e => (kOf_at e).1, fun _ _ e => (kOf_at e).2, e⟩
  keeps := fun _ _ _ ⟨K, hK, c⟩ k => ⟨K, PySem.W.Frag.In.keeps hK k, c⟩
theorem hdObsG_eq {h : HdD} {n : Nat} {g : Addr → Option Obj} {s : Shared} (e : ∀ a, g a = s.heap.get? a) : hdObsG h n g = (hdHook h n).obs s := by
  have z : g = s.heap.get? := funext e
  rw [z] <;> rfl
def ddOf {T : Tab} {fr : List Str} {ll : List Lam} (r : FRow T fr ll) : He.DefD := ⟨(r.x, none), r.x, r.x, defArgs r.st, defBody r.st, defScope r.st, [], []⟩
def lqOf {T : Tab} {fr : List Str} {ll : List Lam} (r : FRow T fr ll) : Option (Str × Str) := r.lq.map fun q => (r.x, q)
def hdOf {T : Tab} {fr : List Str} {ll : List Lam} (rows : List (FRow T fr ll)) (mk : Stmt) (file : Str) : HdD := ⟨rows.map ddOf, rows.filterMap lqOf, T.cls, T.consts, "super" :: fr, mk, file⟩
def tabsK (K : Frag) (h : HdD) : List (Addr × Str) := h.lqs.map fun p => ((tabOf K p.1).2, p.2)
def csK (K : Frag) (h : HdD) : List (Addr × Addr) := h.lqs.map fun p => tabOf K p.1
theorem tabIn_lk {K : Frag} {x : Str} {c P : Addr} (h : PySem.W.tabIn K x = some (c, P)) : ∃ f oc od fd sl, PySem.W.nsIn K mainGlobals x = some (some (.ref f)) ∧ K.lookup f = some ⟨oc, od, .func fd, sl⟩ ∧ fd.code = .ref c := by
  unfold PySem.W.tabIn at h
  split at h
  · rename_i f hf
    split at h
    · rename_i oc od fd sl hl
      split at h
      · rename_i c' hc
        split at h
        · split at h
          · cases h
            exact ⟨f, oc, od, fd, sl, hf, hl, hc⟩
          · cases h
        · cases h
      · cases h
    · cases h
  · cases h
def bindsOk (a : Arguments) (ps : List Str) : Prop := ∀ (x q : Str) (body : List Stmt) (sc : Scope) (kV doc pm : Value) (an : Option Addr) (cdv ct : Value) (us : List Value), us.length = ps.length → bindArgs (PySem.W.fnOf x q a body sc .none kV doc pm an cdv ct) ⟨us, []⟩ = pure (ps.zip us)

theorem hd_lam {K : Frag} {h : Heap} {hd : HdD} {q : Program} {loose : List Str} {mean : ExcName → Option Value} {mg mb : Str → Option Value} (X : K.In h) (tK : ∀ a o, K.lookup a = some o → isTab o = false) (T : Top q loose mean mg mb h)
    (hl : ∀ p ∈ hd.lqs, (PySem.W.tabIn K p.1).isSome = true) (hrec : ∀ p ∈ hd.lqs, ∃ d', (recsOf q).find? (fun e => e.name == p.1) = some d') :
    ∀ p ∈ csK K hd, PySem.W.CodeHd h p.1 p.2 ∧ h.get? p.2 = some (PySem.W.tabObj #[]) ∧ K.lookup p.2 = none := by
  intro p hp
  obtain ⟨l, hm, rfl⟩ := List.mem_map.mp hp
  obtain ⟨⟨c, t⟩, e⟩ := Option.isSome_iff_exists.mp (hl l hm)
  obtain ⟨d', hd'⟩ := hrec l hm
  have e2 : tabOf K l.1 = (c, t) := by
    unfold tabOf
    rw [e]
    rfl
  rw [e2]
  obtain ⟨h1, h2⟩ := PySem.W.tab_of T X hd' e
  refine ⟨h1, h2, ?_⟩
  cases z : K.lookup t with
  | none => rfl
  | some o =>
    have z1 := X _ _ z
    rw [h2] at z1
    cases z1
    have z2 := tK _ _ z
    cases z2
theorem walk_R {l : PySem.W.OpenLaw} {n nH k iL : Nat} {q : Program} {loose : List Str} {XP : (Str → Option Value) → Heap → Prop} {d : DefRec} {T : Tab} {fr : List Str} {lams : List Lam} (rows : List (FRow T fr lams)) (lrows : List (LRow T fr lams)) {mk : Stmt} {rL : FRow T fr lams}
    (hn : l.most = some n) (hn2 : n ≤ sizeLine) (hdf : d.params.defaults = []) (hr : Room k callerA) (hx : T.fns = rows.map (·.x)) (hL : lams = lrows.map (·.L)) (hb : ∀ r ∈ rows, bindsOk (defArgs r.st) r.ps)
    (hmk : MkTxt mk) (hsup : (l.prog.main.scope.names.lookup ("super" : Str)).isSome = false) (hrec : ∀ p ∈ rows.filterMap lqOf, ∃ d', (recsOf q).find? (fun e => e.name == p.1) = some d') (hiL : rows[iL]? = some rL) (hLx : rL.x = d.name)
    (sem : ∀ ns : List Int, ns.length ≤ n → (∀ z ∈ ns, Builtin.Int.intBits z ≤ 1048576) → ∃ S1, (semG rows lrows k).fn iL [.scr ns] [] = .ok (.bl true) S1) :
    PySem.W.WalkO q loose XP (hdHook (hdOf rows mk l.prog.main.file) nH).says l.row.toRowW d [] (fun f vs => PySem.call f vs) := by
  refine Att.attach_callB hn hdf fun w s₀ s₁ mg mb fa o pm cd doc a vs ns G Y ho hd hcd hmg hobj hints hlen hbits hg => ?_
  obtain ⟨K, KX, ⟨tK, hS⟩⟩ := Y
  obtain ⟨S1, hsem⟩ := sem ns hlen hbits
  obtain ⟨hd0, ehd⟩ : ∃ hd0, hd0 = hdOf rows mk l.prog.main.file := ⟨_, rfl⟩
  rw [← ehd] at hS
  have eB : hdB hd0 K = true := congrArg (fun z : HdW => z.1) hS
  have eF : hd0.fns.map (fun d => He.fnW K d.at_) = hd0.fns.map He.DefD.val := congrArg (fun z : HdW => z.2.1) hS
  have eM : mkW K = mkVal hd0.mkS := congrArg (fun z : HdW => z.2.2) hS
  unfold hdB at eB
  obtain ⟨b1, eB⟩ := ba eB
  obtain ⟨b2, eB⟩ := ba eB
  obtain ⟨b3, eB⟩ := ba eB
  obtain ⟨b4, eB⟩ := ba eB
  obtain ⟨b5, eB⟩ := ba eB
  obtain ⟨b6, eB⟩ := ba eB
  obtain ⟨b7, eB⟩ := ba eB
  obtain ⟨b8, b9⟩ := ba eB
  rw [List.all_eq_true] at b1 b2 b3 b4 b5 b6 b7
  have NsG := G.T.g
  -- names
  have gl : ∀ {x : Str}, He.eqO (PySem.W.nsIn K mainGlobals x) (some (some (.ref (He.ga K x)))) = true → mg x = some (.ref (He.ga K x)) := fun h => PySem.W.mg_of KX NsG (He.eqO_ok h)
  have fre : ∀ x ∈ hd0.fr, mg x = none := fun x hm => PySem.W.mg_none_of KX NsG (He.eqO_ok (b7 x hm))
  have hlams := hd_lam (hd := hd0) KX tK G.T (fun p hp => (ba (b2 p hp)).1) (fun p hp => hrec p (by rw [ehd] at hp; exact hp))
  let P : Pr := ⟨K, mg, ⟨T.fns, T.cls, lams, T.consts⟩, tabsK K hd0⟩
  have tun : ∀ p ∈ tabsK K hd0, ∀ p' ∈ tabsK K hd0, p.1 = p'.1 → p.2 = p'.2 := by
    intro p hp p' hp' e
    obtain ⟨l1, m1, rfl⟩ := List.mem_map.mp hp
    obtain ⟨l2, m2, rfl⟩ := List.mem_map.mp hp'
    have z := List.all_eq_true.mp (b3 l1 m1) l2 m2
    rw [decide_eq_true (show (tabOf K l1.1).2 = (tabOf K l2.1).2 from e), Bool.not_true, Bool.false_or] at z
    exact of_decide_eq_true z
  have gD := gl b8
  -- classes
  have ecls : ∀ (c : Nat) (x : Str), T.cls[c]? = some x → mg x = some (.ref (He.ga K x)) ∧ ownB K (He.ga K x) (He.ga K shN) (mkFi K) = true := fun c x h => by
    have z := b4 x (by rw [ehd]; exact List.mem_of_getElem? h)
    exact ⟨gl (ba z).1, (ba z).2⟩
  have hst : ∃ D fI, PrOk P l.prog D fI := by
    refine ⟨He.ga K shN, mkFi K, ?_, ?_, ?_, gD, ?_, ?_⟩
    · exact mk_ok eM (by rw [ehd] at b9; exact b9) (by rw [ehd]; exact hmk) hsup
    · intro c x h
      obtain ⟨z1, z2⟩ := ecls c x h
      obtain ⟨o1, o2, o3⟩ := ownB_ok z2
      exact ⟨_, z1, o1, o2, o3⟩
    · exact fre _ (by rw [ehd]; exact List.mem_cons_self)
    · intro x d h
      have z := b6 (x, d) (by rw [ehd]; exact h)
      unfold constB at z
      split at z
      · rename_i u hu
        obtain ⟨v, r1, r2⟩ := relVD_ok (P := P) z
        exact ⟨u, v, PySem.W.mg_of KX NsG hu, r1, r2⟩
      · cases z
    · intro c x C c2 x2 C2 h1 h2 h3 h4
      have e1 := (ecls c x h1).1
      have e2 := (ecls c2 x2 h3).1
      have e3 : some (Value.ref (He.ga K x)) = some (Value.ref C) := e1.symm.trans h2
      have e4 : some (Value.ref (He.ga K x2)) = some (Value.ref C2) := e2.symm.trans h4
      have z := List.all_eq_true.mp (b5 (x, c) (by rw [ehd]; exact List.mem_zipIdx_iff_getElem?.mpr h1)) (x2, c2) (by rw [ehd]; exact List.mem_zipIdx_iff_getElem?.mpr h3)
      have z2 := of_decide_eq_true z
      injection e3 with e3
      injection e4 with e4
      injection e3 with e3
      injection e4 with e4
      rw [e3, e4] at z2
      exact z2
  have hF : ∀ base : Heap, (∀ p ∈ csK K hd0, LamX.TabB base mg p.1 p.2) → ∀ r ∈ rows, ∃ f fd, P.mg r.x = some (.ref f) ∧ PySem.W.keepIn P.K (.ref f) = true ∧ Binds P.K fd r.ps [] ∧ FunL P base r.x r.x r.lq r.st f fd := by
    intro base TB r hm
    have m1 : ddOf r ∈ hd0.fns := by rw [ehd]; exact List.mem_map.mpr ⟨r, hm, rfl⟩
    obtain ⟨c1, c2⟩ := ba (b1 _ m1)
    have e1 : He.fnW K (ddOf r).at_ = (ddOf r).val := by
      obtain ⟨i, hi⟩ := List.mem_iff_getElem?.mp m1
      have z : (hd0.fns.map fun d => He.fnW K d.at_)[i]? = (hd0.fns.map He.DefD.val)[i]? := by rw [eF]
      rw [List.getElem?_map, List.getElem?_map, hi] at z
      exact Option.some.inj z
    obtain ⟨fd, F⟩ := He.DefD.funD e1 c2
    obtain ⟨oc, od, dV, kV, dc, pm', an, cdv, ct, osl, e2, lk, hcd', hD, hKw⟩ := F.ex
    have edV : dV = .none := by
      rcases hD with ⟨_, h⟩ | ⟨h, _⟩
      · exact h
      · exact absurd rfl h
    subst edV
    refine ⟨He.ga K r.x, fd, gl c1, F.kp, Binds.all fun us hl => ?_, ⟨oc, od, kV, dc, pm', an, cdv, ct, osl, e2, lk, hcd', fun lq hlq => ?_⟩⟩
    · rw [e2]
      exact hb r hm _ _ _ _ _ _ _ _ _ _ us hl
    · have ml : (r.x, lq) ∈ hd0.lqs := by
        rw [ehd]
        exact List.mem_filterMap.mpr ⟨r, hm, by unfold lqOf; rw [hlq]; rfl⟩
      obtain ⟨z1, z2⟩ := ba (b2 _ ml)
      obtain ⟨⟨c, t⟩, e⟩ := Option.isSome_iff_exists.mp z1
      obtain ⟨f', oc', od', fd', sl', n1, n2, n3⟩ := tabIn_lk e
      have e3 : tabOf K r.x = (c, t) := by
        unfold tabOf
        rw [e]
        rfl
      have n0 := He.eqO_ok c1
      have n1' : some (some (Value.ref (He.ga K r.x))) = some (some (Value.ref f')) := n0.symm.trans n1
      injection n1' with n1'
      injection n1' with n1'
      injection n1' with n1'
      rw [← n1'] at n2
      have n4 := n2.symm.trans lk
      injection n4 with n4
      injection n4 with _ _ n4 _
      injection n4 with n4
      rw [n4, e2] at n3
      have mt : (t, lq) ∈ tabsK K hd0 := List.mem_map.mpr ⟨_, ml, by rw [e3]⟩
      exact ⟨c, t, n3, TB (c, t) (List.mem_map.mpr ⟨_, ml, e3⟩), of_decide_eq_true z2, mt, fun p hp hpt => tun p hp _ mt hpt⟩
  refine law_callG (P := P) (cs := csK K hd0) (x := rL.x) (g := (semG rows lrows k).fn iL) KX NsG G.T.b G.T.builtins G.T.nolimit hg (fun p hp => (hlams p hp).2.1) (fun p hp => (hlams p hp).2.2) (fun p hp => (hlams p hp).1) (by show (tabsK K hd0).map (·.1) = (csK K hd0).map (·.2); unfold tabsK csK; rw [List.map_map, List.map_map]; rfl) G.T.bmain hobj hints (Nat.le_trans hlen hn2) hr (by rw [hLx]; exact hmg) (fun base _ _ TB => ?_) hsem
  have GG := gok_all (P := P) (prog := l.prog) (w := w) (base := base) (fr := fr) (T := T) ⟨rfl, rfl, rfl⟩ rows lrows (fun x hm => fre x (by rw [ehd]; exact List.mem_cons_of_mem _ hm)) hst hx hL (hF base TB) k
  exact GG.fn iL rL.x (by show T.fns[iL]? = some rL.x; rw [hx, List.getElem?_map, hiL]; rfl)
end Vi
set_option Elab.async false
set_option linter.all false
set_option maxRecDepth 100000
set_option maxHeartbeats 2000000
/-! Plain reckoning with the combinators: each applied, as an equation. -/
namespace Vi
open PySem L2
section
variable {β γ : Type} {ρ : Ev} {S : Sto} {d e : D} {b : β} {f : β → Sto → R γ} {c : Nat} {g : β → Sto → RS}
theorem bind_ok : (R.ok b S).bind f = f b S := rfl
theorem bind_exc : (R.exc c d S : R β).bind f = .exc c d S := rfl
theorem oR_ap : oR (some b) S = .ok b S := rfl
theorem ofR_ok : ofR (.ok b S) ρ g = g b S := rfl
theorem ofR_exc : ofR (.exc c d S) ρ g = .exc ρ c d S := rfl
theorem bool1_bl {k : Bool} : bool1 (.bl k) S = .ok k S := rfl
theorem ite_bl {k : Bool} {x y : β} (h : k = true) : (if k = true then x else y) = x := if_pos h
variable {ma mb mc : ME} {mr : MA} {ta tb : MT} {op op2 : D → D → Sto → Option D} {fo : List D → Sto → R D} {a1 b1 : MS} {i j : Nat} {gf : D → Ev → Option Ev}
theorem mVar_ap : mVar i ρ S = match ρ[i]? with | some (some d) => .ok d S | _ => .bad := rfl
theorem mC_ap : mC d ρ S = .ok d S := rfl
theorem mBin_ap : mBin op ma mb ρ S = (ma ρ S).bind fun d S1 => (mb ρ S1).bind fun e S2 => oR (op d e S2) S2 := rfl
theorem mTest_ap : mTest ma ρ S = (ma ρ S).bind bool1 := rfl
theorem mChain_ap : mChain op op2 ma mb mc ρ S = (ma ρ S).bind fun d S1 => (mb ρ S1).bind fun e S2 => (oR (op d e S2) S2).bind fun z S3 => (bool1 z S3).bind fun k S4 => if k = true then (mc ρ S4).bind fun c S5 => oR (op2 e c S5) S5 else .ok (.bl false) S4 := rfl
theorem mTru_ap : mTru ma ρ S = (ma ρ S).bind fun d S1 => oR (dTru d S1) S1 := rfl
theorem dTru_bl {k : Bool} : dTru (.bl k) S = some k := rfl
theorem mAnd_ap : mAnd ta tb ρ S = (ta ρ S).bind fun k S1 => if k = true then tb ρ S1 else .ok false S1 := rfl
theorem mOr_ap : mOr ta tb ρ S = (ta ρ S).bind fun k S1 => if k = true then .ok true S1 else tb ρ S1 := rfl
theorem mNot_ap : mNot ta ρ S = (ta ρ S).bind fun k S1 => .ok (!k) S1 := rfl
theorem mAndV_ap : mAndV ma mb ρ S = (ma ρ S).bind fun d S1 => (bool1 d S1).bind fun k S2 => if k = true then mb ρ S2 else .ok (.bl false) S2 := rfl
theorem mNotV_ap : mNotV ma ρ S = (ma ρ S).bind fun d S1 => (bool1 d S1).bind fun k S2 => .ok (.bl (!k)) S2 := rfl
theorem mNeg_ap : mNeg ma ρ S = (ma ρ S).bind fun d S1 => match d with | .int i => .ok (.int (-i)) S1 | _ => .bad := rfl
theorem mIf_ap : mIf ta ma mb ρ S = (ta ρ S).bind fun k S1 => if k = true then ma ρ S1 else mb ρ S1 := rfl
theorem mNil_ap : mNil ρ S = .ok [] S := rfl
theorem mCons_ap : mCons ma mr ρ S = (ma ρ S).bind fun d S1 => (mr ρ S1).bind fun ds S2 => .ok (d :: ds) S2 := rfl
theorem mTup_ap : mTup mr ρ S = (mr ρ S).bind tupD := rfl
theorem mLst_ap : mLst mr ρ S = (mr ρ S).bind lstD := rfl
theorem mCall_ap : mCall fo mr ρ S = (mr ρ S).bind fo := rfl
theorem one_ap {h : D → Sto → Option D} : one h [d] S = oR (h d S) S := rfl
theorem two_ap {h : D → D → Sto → Option D} : two h [d, e] S = oR (h d e S) S := rfl
theorem sRet_ap : sRet ma ρ S = ofR (ma ρ S) ρ fun d S1 => .rt d S1 := rfl
theorem sDrop_ap : sDrop ma ρ S = ofR (ma ρ S) ρ fun _ S1 => .nx ρ S1 := rfl
theorem sIf_ap : sIf ta a1 b1 ρ S = ofR (ta ρ S) ρ fun k S1 => if k = true then a1 ρ S1 else b1 ρ S1 := rfl
theorem sNext_ap : sNext ρ S = .nx ρ S := rfl
theorem sAsg_ap : sAsg ma gf ρ S = ofR (ma ρ S) ρ fun d S1 => match gf d ρ with | some ρ' => .nx ρ' S1 | none => .bad := rfl
theorem sPar_ap : sPar mr i j ρ S = ofR (mr ρ S) ρ fun ds S1 => match ds with | [d, e] => .nx ((ρ.set i (some d)).set j (some e)) S1 | _ => .bad := rfl
theorem sRaise_ap : sRaise c ma ρ S = ofR (ma ρ S) ρ fun d S1 => if noClo d = true then .exc ρ c d S1 else .bad := rfl
theorem gN_ap : gN i d ρ = some (ρ.set i (some d)) := rfl
theorem seq_nx {ρ' : Ev} {S' : Sto} (h : a1 ρ S = .nx ρ' S') : sSeq a1 b1 ρ S = b1 ρ' S' := by unfold sSeq; rw [h]
theorem seq_rt {S' : Sto} (h : a1 ρ S = .rt d S') : sSeq a1 b1 ρ S = .rt d S' := by unfold sSeq; rw [h]
theorem seq_exc {ρ' : Ev} {S' : Sto} (h : a1 ρ S = .exc ρ' c d S') : sSeq a1 b1 ρ S = .exc ρ' c d S' := by unfold sSeq; rw [h]
def RS.seq (r : RS) (b : MS) : RS := match r with
  | .nx ρ' S' => b ρ' S'
  | r => r
theorem sSeq_ap : sSeq a1 b1 ρ S = (a1 ρ S).seq b1 := rfl
theorem rseq_nx : (RS.nx ρ S).seq b1 = b1 ρ S := rfl
theorem rseq_rt : (RS.rt d S).seq b1 = .rt d S := rfl
theorem rseq_exc : (RS.exc ρ c d S).seq b1 = .exc ρ c d S := rfl
theorem rout_nx : (RS.nx ρ S).out = .ok .non S := rfl
theorem rout_rt : (RS.rt d S).out = .ok d S := rfl
theorem rout_exc : (RS.exc ρ c d S).out = .exc c d S := rfl
theorem runF_ap {N : List Str} {n : Nat} {m : MS} {ds : List D} (h : ds.length = n) : runF N n m ds S = (m (startD N ds) S).out := if_pos h
variable {x y : Int}
theorem oAdd_i : oAdd (.int x) (.int y) S = some (.int (x + y)) := rfl
theorem oSub_i : oSub (.int x) (.int y) S = some (.int (x - y)) := rfl
theorem oMul_i (h : mulOk x y = true) : oMul (.int x) (.int y) S = some (.int (x * y)) := if_pos h
theorem oFdiv_i (h : divOk y = true) : oFdiv (.int x) (.int y) S = some (.int (x.fdiv y)) := if_pos h
theorem oMod_i (h : y ≠ 0) : oMod (.int x) (.int y) S = some (.int (x.fmod y)) := if_neg h
theorem oPow_i (h : powOk x y = true) : oPow (.int x) (.int y) S = some (.int (x ^ y.toNat)) := if_pos h
theorem oLt_i : oLt (.int x) (.int y) S = some (.bl (decide (x < y))) := rfl
theorem oLe_i : oLe (.int x) (.int y) S = some (.bl (decide (x ≤ y))) := rfl
theorem oGt_i : oGt (.int x) (.int y) S = some (.bl (decide (y < x))) := rfl
theorem oGe_i : oGe (.int x) (.int y) S = some (.bl (decide (y ≤ x))) := rfl
theorem bAbs_i : bAbs (.int x) S = some (.int x.natAbs) := by
  show some (D.int (if x < 0 then -x else x)) = _
  rw [show (if x < 0 then -x else x) = (x.natAbs : Int) from by split <;> omega]
theorem bInt_i : bInt (.int x) S = some (.int x) := rfl
theorem bInt_b {k : Bool} : bInt (.bl k) S = some (.int (if k then 1 else 0)) := rfl
/-! comparing -/
theorem shaped_int {i : Int} : SeqAt.shaped (.int i) = true := rfl
theorem dEq_int : dEq (.int x) (.int y) S = some (x == y) := rfl
theorem oEq_int : oEq (.int x) (.int y) S = some (.bl (x == y)) := rfl
theorem oNe_int : oNe (.int x) (.int y) S = some (.bl (!(x == y))) := rfl
theorem oEq_bl {a b : Bool} : oEq (.bl a) (.bl b) S = some (.bl (a == b)) := rfl
theorem oNe_bl {a b : Bool} : oNe (.bl a) (.bl b) S = some (.bl (!(a == b))) := rfl
variable {z w : Int}
theorem oEq_pr : oEq (.tup [.int x, .int y]) (.tup [.int z, .int w]) S = some (.bl (x == z && (y == w && true))) := rfl
theorem oNe_pr : oNe (.tup [.int x, .int y]) (.tup [.int z, .int w]) S = some (.bl (!(x == z && (y == w && true)))) := rfl
theorem tupD_1 {a : D} (h : noClo a = true) : tupD [a] S = .ok (.tup [a]) S := if_pos ⟨by show (1 : Nat) ≤ 16777216; omega, by simp [h]⟩
theorem tupD_2 {a b : D} (h : noClo a = true) (h2 : noClo b = true) : tupD [a, b] S = .ok (.tup [a, b]) S := if_pos ⟨by show (2 : Nat) ≤ 16777216; omega, by simp [h, h2]⟩
theorem tupD_3 {a b c : D} (h : noClo a = true) (h2 : noClo b = true) (h3 : noClo c = true) : tupD [a, b, c] S = .ok (.tup [a, b, c]) S := if_pos ⟨by show (3 : Nat) ≤ 16777216; omega, by simp [h, h2, h3]⟩
theorem lstD_ap {ds : List D} (h : ds.length ≤ 1000) (h2 : ds.all noClo = true) : lstD ds S = .ok (.ref S.length) (S ++ [.lst ds]) := if_pos ⟨Nat.le_trans h (by show (1000 : Nat) ≤ 16777216; omega), h2⟩
theorem ix_t0 {a b : D} : dIx (.tup [a, b]) (.int 0) S = some a := rfl
theorem ix_t1 {a b : D} : dIx (.tup [a, b]) (.int 1) S = some b := rfl
theorem ix_ref {n : Nat} {ds : List D} (h : S[n]? = some (.lst ds)) : dIx (.ref n) (.int x) S = atI ds x := by
  show (match listOf (.ref n) S with | some ds => atI ds x | none => none) = _
  unfold listOf
  dsimp only
  rw [h]
theorem log2_lt {n k : Nat} (h : n < 2 ^ k) (hk : 0 < k) : n.log2 < k := by
  by_cases e : n = 0
  · subst e
    simpa using hk
  · exact (Nat.log2_lt e).mpr h
theorem mulOk_of (hx : x.natAbs < 2 ^ 4000) (hy : y.natAbs < 2 ^ 4000) : mulOk x y = true := by
  have h1 := log2_lt hx (by decide)
  have h2 := log2_lt hy (by decide)
  exact decide_eq_true (by omega)
theorem divOk_of (h0 : y ≠ 0) (hy : y.natAbs < 2 ^ 4000) : divOk y = true := by
  have h2 := log2_lt hy (by decide)
  unfold divOk
  rw [Bool.and_eq_true]
  exact ⟨decide_eq_true h0, decide_eq_true (by omega)⟩
end
end Vi
set_option Elab.async false
set_option linter.all false
set_option maxRecDepth 100000
set_option maxHeartbeats 8000000
namespace K30
open PySem L2 Vi
def top (i : Nat) : Stmt := PySem.Challenge.pw_madeshallow_k30_numbers_by_themselves.main.body.getD i (.Pass ⟨0, 0, 0, 0⟩)
/-- the module's names -/
abbrev T0 : Tab := ⟨["is_integer", "is_tuple", "divisor", "reduced", "is_number", "check_number", "plus", "product", "quotient", "added", "multiplied", "divided", "_law_take", "_law_of", "_law_cells", "_law_pot", "_law_caught", "_law_kinds_of", "_law_tells", "_law_divisor", "_law_ratio", "_law_joined", "_law_drawn", "_law_right", "law"], ["BadNumber", "BadFormula", "BadProgram", "BadLetter", "BadValues", "BadSaying", "BadWay", "BadStep", "BadMany", "BadTable", "HasOver", "ByNought", "NotWhole", "TooMany", "BadText", "NotPossible", "BadDeed", "NothingToUndo", "NothingToRedo", "NoTrial", "BadJournal", "BadLine", "BadClaim", "BadNoted"], [], [("MOST_FIGURE", (.int 1000000000)), ("MOST_FIGURES", (.int 10000)), ("GREAT", (.int (Int.ofNat (1 * 10 ^ 10000)))), ("PAIR", (.int 2))]⟩
abbrev fr0 : List Str := ["abs", "all", "bool", "int", "isinstance", "len", "list", "max", "min", "range", "repr", "sum", "tuple"]
abbrev lps : List (Nat × Nat) := [(182, 53), (185, 22), (187, 22)]
abbrev st_is_integer : Stmt := top 27
abbrev N_is_integer : List Str := ["value", "low", "high"]
theorem sc_is_integer : FnScope N_is_integer ["value", "low", "high"] (defScope st_is_integer) := ⟨rfl, rfl, rfl, by decide +kernel, rfl, by decide +kernel, by decide +kernel⟩
def o_is_integer : Option (CB ⟨T0, fr0, N_is_integer, defScope st_is_integer, none, lps⟩ (defBody st_is_integer)) := recB 60 _ _
theorem k_is_integer : o_is_integer.isSome = true := by kernel_rfl
def b_is_integer : CB ⟨T0, fr0, N_is_integer, defScope st_is_integer, none, lps⟩ (defBody st_is_integer) := o_is_integer.get k_is_integer
def m_is_integer (G : GT) : MS := (sRet (mAndV (mCall (two bIsA) (mCons (mVar 0) (mCons (mC (.ty "int")) mNil))) (mAndV (mNotV (mCall (two bIsA) (mCons (mVar 0) (mCons (mC (.ty "bool")) mNil)))) (mChain oLe oLe (mVar 1) (mVar 0) (mVar 2)))))
theorem e_is_integer : b_is_integer.m = m_is_integer := by kernel_rfl
abbrev st_is_tuple : Stmt := top 28
abbrev N_is_tuple : List Str := ["value", "least", "most"]
theorem sc_is_tuple : FnScope N_is_tuple ["value", "least", "most"] (defScope st_is_tuple) := ⟨rfl, rfl, rfl, by decide +kernel, rfl, by decide +kernel, by decide +kernel⟩
def o_is_tuple : Option (CB ⟨T0, fr0, N_is_tuple, defScope st_is_tuple, none, lps⟩ (defBody st_is_tuple)) := recB 60 _ _
theorem k_is_tuple : o_is_tuple.isSome = true := by kernel_rfl
def b_is_tuple : CB ⟨T0, fr0, N_is_tuple, defScope st_is_tuple, none, lps⟩ (defBody st_is_tuple) := o_is_tuple.get k_is_tuple
def m_is_tuple (G : GT) : MS := (sRet (mAndV (mCall (two bIsA) (mCons (mVar 0) (mCons (mC (.ty "tuple")) mNil))) (mChain oLe oLe (mVar 1) (mCall (one bLen) (mCons (mVar 0) mNil)) (mVar 2))))
theorem e_is_tuple : b_is_tuple.m = m_is_tuple := by kernel_rfl
abbrev st_divisor : Stmt := top 34
abbrev N_divisor : List Str := ["one", "other"]
theorem sc_divisor : FnScope N_divisor ["one", "other"] (defScope st_divisor) := ⟨rfl, rfl, rfl, by decide +kernel, rfl, by decide +kernel, by decide +kernel⟩
def o_divisor : Option (CB ⟨T0, fr0, N_divisor, defScope st_divisor, none, lps⟩ (defBody st_divisor)) := recB 60 _ _
theorem k_divisor : o_divisor.isSome = true := by kernel_rfl
def b_divisor : CB ⟨T0, fr0, N_divisor, defScope st_divisor, none, lps⟩ (defBody st_divisor) := o_divisor.get k_divisor
def m_divisor (G : GT) : MS := (sSeq (sPar (mCons (mCall (one bAbs) (mCons (mVar 0) mNil)) (mCons (mCall (one bAbs) (mCons (mVar 1) mNil)) mNil)) 0 1) (sSeq (whS (mTest (mBin oNe (mVar 1) (mC (.int 0)))) (sPar (mCons (mVar 1) (mCons (mBin oMod (mVar 0) (mVar 1)) mNil)) 0 1) whF) (sRet (mVar 0))))
theorem e_divisor : b_divisor.m = m_divisor := by kernel_rfl
abbrev st_reduced : Stmt := top 35
abbrev N_reduced : List Str := ["top", "bottom", "common"]
theorem sc_reduced : FnScope N_reduced ["top", "bottom"] (defScope st_reduced) := ⟨rfl, rfl, rfl, by decide +kernel, rfl, by decide +kernel, by decide +kernel⟩
def o_reduced : Option (CB ⟨T0, fr0, N_reduced, defScope st_reduced, none, lps⟩ (defBody st_reduced)) := recB 60 _ _
theorem k_reduced : o_reduced.isSome = true := by kernel_rfl
def b_reduced : CB ⟨T0, fr0, N_reduced, defScope st_reduced, none, lps⟩ (defBody st_reduced) := o_reduced.get k_reduced
def m_reduced (G : GT) : MS := (sSeq (sIf (mOr (mTest (mBin oGt (mCall (one bAbs) (mCons (mVar 0) mNil)) (mC (.int (Int.ofNat (1 * 10 ^ 10000)))))) (mTest (mBin oGt (mCall (one bAbs) (mCons (mVar 1) mNil)) (mC (.int (Int.ofNat (1 * 10 ^ 10000))))))) (sRaise 13 (mC (.int 10000))) sNext) (sSeq (sAsg (mCall (G.fn 2) (mCons (mVar 0) (mCons (mVar 1) mNil))) (gN 2)) (sSeq (sIf (mTest (mBin oLt (mVar 1) (mC (.int 0)))) (sAsg (mNeg (mVar 2)) (gN 2)) sNext) (sRet (mTup (mCons (mBin oFdiv (mVar 0) (mVar 2)) (mCons (mBin oFdiv (mVar 1) (mVar 2)) mNil)))))))
theorem e_reduced : b_reduced.m = m_reduced := by kernel_rfl
abbrev st_is_number : Stmt := top 36
abbrev N_is_number : List Str := ["value"]
theorem sc_is_number : FnScope N_is_number ["value"] (defScope st_is_number) := ⟨rfl, rfl, rfl, by decide +kernel, rfl, by decide +kernel, by decide +kernel⟩
def o_is_number : Option (CB ⟨T0, fr0, N_is_number, defScope st_is_number, none, lps⟩ (defBody st_is_number)) := recB 60 _ _
theorem k_is_number : o_is_number.isSome = true := by kernel_rfl
def b_is_number : CB ⟨T0, fr0, N_is_number, defScope st_is_number, none, lps⟩ (defBody st_is_number) := o_is_number.get k_is_number
def m_is_number (G : GT) : MS := (sSeq (sIf (mNot (mTru (mCall (G.fn 1) (mCons (mVar 0) (mCons (mC (.int 2)) (mCons (mC (.int 2)) mNil)))))) (sRet (mC (.bl false))) sNext) (sSeq (sIf (mOr (mNot (mTru (mCall (G.fn 0) (mCons (mBin dIx (mVar 0) (mC (.int 0))) (mCons (mNeg (mC (.int 1000000000))) (mCons (mC (.int 1000000000)) mNil)))))) (mNot (mTru (mCall (G.fn 0) (mCons (mBin dIx (mVar 0) (mC (.int 1))) (mCons (mC (.int 1)) (mCons (mC (.int 1000000000)) mNil))))))) (sRet (mC (.bl false))) sNext) (sRet (mBin oEq (mCall (G.fn 2) (mCons (mBin dIx (mVar 0) (mC (.int 0))) (mCons (mBin dIx (mVar 0) (mC (.int 1))) mNil))) (mC (.int 1))))))
theorem e_is_number : b_is_number.m = m_is_number := by kernel_rfl
abbrev st_check_number : Stmt := top 37
abbrev N_check_number : List Str := ["number"]
theorem sc_check_number : FnScope N_check_number ["number"] (defScope st_check_number) := ⟨rfl, rfl, rfl, by decide +kernel, rfl, by decide +kernel, by decide +kernel⟩
def o_check_number : Option (CB ⟨T0, fr0, N_check_number, defScope st_check_number, none, lps⟩ (defBody st_check_number)) := recB 60 _ _
theorem k_check_number : o_check_number.isSome = true := by kernel_rfl
def b_check_number : CB ⟨T0, fr0, N_check_number, defScope st_check_number, none, lps⟩ (defBody st_check_number) := o_check_number.get k_check_number
def m_check_number (G : GT) : MS := (sIf (mNot (mTru (mCall (G.fn 4) (mCons (mVar 0) mNil)))) (sRaise 0 (mVar 0)) sNext)
theorem e_check_number : b_check_number.m = m_check_number := by kernel_rfl
abbrev st_plus : Stmt := top 38
abbrev N_plus : List Str := ["one", "other"]
theorem sc_plus : FnScope N_plus ["one", "other"] (defScope st_plus) := ⟨rfl, rfl, rfl, by decide +kernel, rfl, by decide +kernel, by decide +kernel⟩
def o_plus : Option (CB ⟨T0, fr0, N_plus, defScope st_plus, none, lps⟩ (defBody st_plus)) := recB 60 _ _
theorem k_plus : o_plus.isSome = true := by kernel_rfl
def b_plus : CB ⟨T0, fr0, N_plus, defScope st_plus, none, lps⟩ (defBody st_plus) := o_plus.get k_plus
def m_plus (G : GT) : MS := (sRet (mCall (G.fn 3) (mCons (mBin oAdd (mBin oMul (mBin dIx (mVar 0) (mC (.int 0))) (mBin dIx (mVar 1) (mC (.int 1)))) (mBin oMul (mBin dIx (mVar 1) (mC (.int 0))) (mBin dIx (mVar 0) (mC (.int 1))))) (mCons (mBin oMul (mBin dIx (mVar 0) (mC (.int 1))) (mBin dIx (mVar 1) (mC (.int 1)))) mNil))))
theorem e_plus : b_plus.m = m_plus := by kernel_rfl
abbrev st_product : Stmt := top 39
abbrev N_product : List Str := ["one", "other"]
theorem sc_product : FnScope N_product ["one", "other"] (defScope st_product) := ⟨rfl, rfl, rfl, by decide +kernel, rfl, by decide +kernel, by decide +kernel⟩
def o_product : Option (CB ⟨T0, fr0, N_product, defScope st_product, none, lps⟩ (defBody st_product)) := recB 60 _ _
theorem k_product : o_product.isSome = true := by kernel_rfl
def b_product : CB ⟨T0, fr0, N_product, defScope st_product, none, lps⟩ (defBody st_product) := o_product.get k_product
def m_product (G : GT) : MS := (sRet (mCall (G.fn 3) (mCons (mBin oMul (mBin dIx (mVar 0) (mC (.int 0))) (mBin dIx (mVar 1) (mC (.int 0)))) (mCons (mBin oMul (mBin dIx (mVar 0) (mC (.int 1))) (mBin dIx (mVar 1) (mC (.int 1)))) mNil))))
theorem e_product : b_product.m = m_product := by kernel_rfl
abbrev st_quotient : Stmt := top 40
abbrev N_quotient : List Str := ["one", "other"]
theorem sc_quotient : FnScope N_quotient ["one", "other"] (defScope st_quotient) := ⟨rfl, rfl, rfl, by decide +kernel, rfl, by decide +kernel, by decide +kernel⟩
def o_quotient : Option (CB ⟨T0, fr0, N_quotient, defScope st_quotient, none, lps⟩ (defBody st_quotient)) := recB 60 _ _
theorem k_quotient : o_quotient.isSome = true := by kernel_rfl
def b_quotient : CB ⟨T0, fr0, N_quotient, defScope st_quotient, none, lps⟩ (defBody st_quotient) := o_quotient.get k_quotient
def m_quotient (G : GT) : MS := (sSeq (sIf (mTest (mBin oEq (mBin dIx (mVar 1) (mC (.int 0))) (mC (.int 0)))) (sRaise 11 (mTup (mCons (mVar 0) (mCons (mVar 1) mNil)))) sNext) (sRet (mCall (G.fn 3) (mCons (mBin oMul (mBin dIx (mVar 0) (mC (.int 0))) (mBin dIx (mVar 1) (mC (.int 1)))) (mCons (mBin oMul (mBin dIx (mVar 0) (mC (.int 1))) (mBin dIx (mVar 1) (mC (.int 0)))) mNil)))))
theorem e_quotient : b_quotient.m = m_quotient := by kernel_rfl
abbrev st_added : Stmt := top 41
abbrev N_added : List Str := ["one", "other"]
theorem sc_added : FnScope N_added ["one", "other"] (defScope st_added) := ⟨rfl, rfl, rfl, by decide +kernel, rfl, by decide +kernel, by decide +kernel⟩
def o_added : Option (CB ⟨T0, fr0, N_added, defScope st_added, none, lps⟩ (defBody st_added)) := recB 60 _ _
theorem k_added : o_added.isSome = true := by kernel_rfl
def b_added : CB ⟨T0, fr0, N_added, defScope st_added, none, lps⟩ (defBody st_added) := o_added.get k_added
def m_added (G : GT) : MS := (sSeq (sDrop (mCall (G.fn 5) (mCons (mVar 0) mNil))) (sSeq (sDrop (mCall (G.fn 5) (mCons (mVar 1) mNil))) (sRet (mCall (G.fn 6) (mCons (mVar 0) (mCons (mVar 1) mNil))))))
theorem e_added : b_added.m = m_added := by kernel_rfl
abbrev st_multiplied : Stmt := top 42
abbrev N_multiplied : List Str := ["one", "other"]
theorem sc_multiplied : FnScope N_multiplied ["one", "other"] (defScope st_multiplied) := ⟨rfl, rfl, rfl, by decide +kernel, rfl, by decide +kernel, by decide +kernel⟩
def o_multiplied : Option (CB ⟨T0, fr0, N_multiplied, defScope st_multiplied, none, lps⟩ (defBody st_multiplied)) := recB 60 _ _
theorem k_multiplied : o_multiplied.isSome = true := by kernel_rfl
def b_multiplied : CB ⟨T0, fr0, N_multiplied, defScope st_multiplied, none, lps⟩ (defBody st_multiplied) := o_multiplied.get k_multiplied
def m_multiplied (G : GT) : MS := (sSeq (sDrop (mCall (G.fn 5) (mCons (mVar 0) mNil))) (sSeq (sDrop (mCall (G.fn 5) (mCons (mVar 1) mNil))) (sRet (mCall (G.fn 7) (mCons (mVar 0) (mCons (mVar 1) mNil))))))
theorem e_multiplied : b_multiplied.m = m_multiplied := by kernel_rfl
abbrev st_divided : Stmt := top 43
abbrev N_divided : List Str := ["one", "other"]
theorem sc_divided : FnScope N_divided ["one", "other"] (defScope st_divided) := ⟨rfl, rfl, rfl, by decide +kernel, rfl, by decide +kernel, by decide +kernel⟩
def o_divided : Option (CB ⟨T0, fr0, N_divided, defScope st_divided, none, lps⟩ (defBody st_divided)) := recB 60 _ _
theorem k_divided : o_divided.isSome = true := by kernel_rfl
def b_divided : CB ⟨T0, fr0, N_divided, defScope st_divided, none, lps⟩ (defBody st_divided) := o_divided.get k_divided
def m_divided (G : GT) : MS := (sSeq (sDrop (mCall (G.fn 5) (mCons (mVar 0) mNil))) (sSeq (sDrop (mCall (G.fn 5) (mCons (mVar 1) mNil))) (sRet (mCall (G.fn 8) (mCons (mVar 0) (mCons (mVar 1) mNil))))))
theorem e_divided : b_divided.m = m_divided := by kernel_rfl
abbrev st__law_take : Stmt := top 45
abbrev N__law_take : List Str := ["pot", "upto", "ring", "blend", "digit"]
theorem sc__law_take : FnScope N__law_take ["pot", "upto"] (defScope st__law_take) := ⟨rfl, rfl, rfl, by decide +kernel, rfl, by decide +kernel, by decide +kernel⟩
def o__law_take : Option (CB ⟨T0, fr0, N__law_take, defScope st__law_take, none, lps⟩ (defBody st__law_take)) := recB 60 _ _
theorem k__law_take : o__law_take.isSome = true := by kernel_rfl
def b__law_take : CB ⟨T0, fr0, N__law_take, defScope st__law_take, none, lps⟩ (defBody st__law_take) := o__law_take.get k__law_take
def m__law_take (G : GT) : MS := (sSeq (sIf (mTest (mBin oGt (mBin dIx (mVar 0) (mC (.int 0))) (mC (.int 0)))) (sSeq (sAsg (mBin oMod (mCall (one bInt) (mCons (mBin dIx (mVar 0) (mC (.int 0))) mNil)) (mVar 1)) (gN 4)) (sSeq (sPut (mBin oFdiv (mBin dIx (mVar 0) (mC (.int 0))) (mVar 1)) (mVar 0) (mC (.int 0))) (sRet (mVar 4)))) sNext) (sSeq (sPut (mBin oAdd (mBin dIx (mVar 0) (mC (.int 2))) (mC (.int 1))) (mVar 0) (mC (.int 2))) (sSeq (sAsg (mBin dIx (mLst (mCons (mC (.int 2147483647)) (mCons (mC (.int 2147483629)) (mCons (mC (.int 2147483587)) (mCons (mC (.int 2147483579)) mNil))))) (mBin oMod (mCall (one bInt) (mCons (mBin dIx (mVar 0) (mC (.int 2))) mNil)) (mC (.int 4)))) (gN 2)) (sSeq (sAsg (mBin oMod (mCall (one bInt) (mCons (mBin oPow (mCall (one bInt) (mCons (mBin oAdd (mBin oAdd (mBin dIx (mVar 0) (mC (.int 1))) (mBin oMul (mBin oMul (mC (.int 90917)) (mBin dIx (mVar 0) (mC (.int 2)))) (mBin dIx (mVar 0) (mC (.int 2))))) (mC (.int 6909))) mNil)) (mC (.int 3))) mNil)) (mVar 2)) (gN 3)) (sRet (mBin oMod (mCall (one bInt) (mCons (mBin oFdiv (mBin oMul (mVar 3) (mBin oAdd (mBin oMod (mCall (one bInt) (mCons (mVar 3) mNil)) (mC (.int 10007))) (mBin oMul (mC (.int 7683)) (mBin dIx (mVar 0) (mC (.int 2)))))) (mC (.int 307))) mNil)) (mVar 1)))))))
theorem e__law_take : b__law_take.m = m__law_take := by kernel_rfl
abbrev st__law_of : Stmt := top 46
abbrev N__law_of : List Str := ["pot", "some"]
theorem sc__law_of : FnScope N__law_of ["pot", "some"] (defScope st__law_of) := ⟨rfl, rfl, rfl, by decide +kernel, rfl, by decide +kernel, by decide +kernel⟩
def o__law_of : Option (CB ⟨T0, fr0, N__law_of, defScope st__law_of, none, lps⟩ (defBody st__law_of)) := recB 60 _ _
theorem k__law_of : o__law_of.isSome = true := by kernel_rfl
def b__law_of : CB ⟨T0, fr0, N__law_of, defScope st__law_of, none, lps⟩ (defBody st__law_of) := o__law_of.get k__law_of
def m__law_of (G : GT) : MS := (sRet (mBin dIx (mVar 1) (mCall (G.fn 12) (mCons (mVar 0) (mCons (mCall (one bLen) (mCons (mVar 1) mNil)) mNil)))))
theorem e__law_of : b__law_of.m = m__law_of := by kernel_rfl
abbrev st__law_cells : Stmt := top 47
abbrev N__law_cells : List Str := ["script", "limit"]
theorem sc__law_cells : FnScope N__law_cells ["script", "limit"] (defScope st__law_cells) := ⟨rfl, rfl, rfl, by decide +kernel, rfl, by decide +kernel, by decide +kernel⟩
def o__law_cells : Option (CB ⟨T0, fr0, N__law_cells, defScope st__law_cells, none, lps⟩ (defBody st__law_cells)) := recB 60 _ _
theorem k__law_cells : o__law_cells.isSome = true := by kernel_rfl
def b__law_cells : CB ⟨T0, fr0, N__law_cells, defScope st__law_cells, none, lps⟩ (defBody st__law_cells) := o__law_cells.get k__law_cells
def m__law_cells (G : GT) : MS := (sRet (mLR (mCall (two bMax) (mCons (mC (.int 1)) (mCons (mCall (two bMin) (mCons (mVar 1) (mCons (mCall (one bLen) (mCons (mVar 0) mNil)) mNil))) mNil)))))
theorem e__law_cells : b__law_cells.m = m__law_cells := by kernel_rfl
abbrev st__law_pot : Stmt := top 48
abbrev N__law_pot : List Str := ["script", "place", "cell", "digits", "small"]
theorem sc__law_pot : FnScope N__law_pot ["script", "place"] (defScope st__law_pot) := ⟨rfl, rfl, rfl, by decide +kernel, rfl, by decide +kernel, by decide +kernel⟩
def o__law_pot : Option (CB ⟨T0, fr0, N__law_pot, defScope st__law_pot, none, lps⟩ (defBody st__law_pot)) := recB 60 _ _
theorem k__law_pot : o__law_pot.isSome = true := by kernel_rfl
def b__law_pot : CB ⟨T0, fr0, N__law_pot, defScope st__law_pot, none, lps⟩ (defBody st__law_pot) := o__law_pot.get k__law_pot
def m__law_pot (G : GT) : MS := (sSeq (sAsg (mIf (mTest (mBin oLt (mVar 1) (mCall (one bLen) (mCons (mVar 0) mNil)))) (mBin dIx (mVar 0) (mVar 1)) (mBin oAdd (mBin oAdd (mBin oMod (mCall (one bInt) (mCons (mCall (one bSum) (mCons (mSl (mVar 0) mNoPart (mPart (mC (.int 1)))) mNil)) mNil)) (mC (.int 1000003))) (mBin oMul (mC (.int 10271)) (mVar 1))) (mC (.int 10311)))) (gN 2)) (sSeq (sAsg (mBin oMul (mBin oMod (mCall (one bInt) (mCons (mCall (one bAbs) (mCons (mVar 2) mNil)) mNil)) (mBin oPow (mBin oPow (mC (.int 10)) (mC (.int 60))) (mC (.int 5)))) (mCall (one bInt) (mCons (mBin oGe (mCall (one bAbs) (mCons (mVar 2) mNil)) (mBin oPow (mC (.int 10)) (mC (.int 18)))) mNil))) (gN 3)) (sSeq (sAsg (mBin oMod (mCall (one bInt) (mCons (mVar 2) mNil)) (mC (.int 2305843009213693951))) (gN 4)) (sRet (mLst (mCons (mVar 3) (mCons (mBin oMod (mCall (one bInt) (mCons (mBin oAdd (mBin oAdd (mBin oMul (mVar 4) (mC (.int 80001))) (mBin oMul (mBin oMul (mC (.int 55101)) (mVar 1)) (mVar 1))) (mC (.int 7023))) mNil)) (mC (.int 2305843009213693921))) (mCons (mC (.int 0)) mNil))))))))
theorem e__law_pot : b__law_pot.m = m__law_pot := by kernel_rfl
abbrev st__law_caught : Stmt := top 49
abbrev N__law_caught : List Str := ["look", "error", "caught", "answer"]
theorem sc__law_caught : FnScope N__law_caught ["look"] (defScope st__law_caught) := ⟨rfl, rfl, rfl, by decide +kernel, rfl, by decide +kernel, by decide +kernel⟩
def o__law_caught : Option (CB ⟨T0, fr0, N__law_caught, defScope st__law_caught, none, lps⟩ (defBody st__law_caught)) := recB 60 _ _
theorem k__law_caught : o__law_caught.isSome = true := by kernel_rfl
def b__law_caught : CB ⟨T0, fr0, N__law_caught, defScope st__law_caught, none, lps⟩ (defBody st__law_caught) := o__law_caught.get k__law_caught
def m__law_caught (G : GT) : MS := (sSeq (sAsg (mTup (mCons (mC .non) (mCons (mC .non) mNil))) (gT [2, 3])) (sSeq (sTryK 1 2 (sAsg (mCall0 G 0) (gN 3))) (sRet (mTup (mCons (mVar 2) (mCons (mVar 3) mNil))))))
theorem e__law_caught : b__law_caught.m = m__law_caught := by kernel_rfl
abbrev st__law_kinds_of : Stmt := top 50
abbrev N__law_kinds_of : List Str := ["error", "found"]
theorem sc__law_kinds_of : FnScope N__law_kinds_of ["error"] (defScope st__law_kinds_of) := ⟨rfl, rfl, rfl, by decide +kernel, rfl, by decide +kernel, by decide +kernel⟩
def o__law_kinds_of : Option (CB ⟨T0, fr0, N__law_kinds_of, defScope st__law_kinds_of, none, lps⟩ (defBody st__law_kinds_of)) := recB 60 _ _
theorem k__law_kinds_of : o__law_kinds_of.isSome = true := by kernel_rfl
def b__law_kinds_of : CB ⟨T0, fr0, N__law_kinds_of, defScope st__law_kinds_of, none, lps⟩ (defBody st__law_kinds_of) := o__law_kinds_of.get k__law_kinds_of
def m__law_kinds_of (G : GT) : MS := (sSeq (sAsg (mLst mNil) (gN 1)) (sSeq (sDrop (mLm extD (mVar 1) (mCons (mLst (mCons (mCall (two bIsA) (mCons (mVar 0) (mCons (mC (.cls 0)) mNil))) (mCons (mCall (two bIsA) (mCons (mVar 0) (mCons (mC (.cls 1)) mNil))) (mCons (mCall (two bIsA) (mCons (mVar 0) (mCons (mC (.cls 2)) mNil))) (mCons (mCall (two bIsA) (mCons (mVar 0) (mCons (mC (.cls 3)) mNil))) (mCons (mCall (two bIsA) (mCons (mVar 0) (mCons (mC (.cls 4)) mNil))) mNil)))))) mNil))) (sSeq (sDrop (mLm extD (mVar 1) (mCons (mLst (mCons (mCall (two bIsA) (mCons (mVar 0) (mCons (mC (.cls 5)) mNil))) (mCons (mCall (two bIsA) (mCons (mVar 0) (mCons (mC (.cls 6)) mNil))) (mCons (mCall (two bIsA) (mCons (mVar 0) (mCons (mC (.cls 7)) mNil))) (mCons (mCall (two bIsA) (mCons (mVar 0) (mCons (mC (.cls 8)) mNil))) (mCons (mCall (two bIsA) (mCons (mVar 0) (mCons (mC (.cls 9)) mNil))) mNil)))))) mNil))) (sSeq (sDrop (mLm extD (mVar 1) (mCons (mLst (mCons (mCall (two bIsA) (mCons (mVar 0) (mCons (mC (.cls 10)) mNil))) (mCons (mCall (two bIsA) (mCons (mVar 0) (mCons (mC (.cls 11)) mNil))) (mCons (mCall (two bIsA) (mCons (mVar 0) (mCons (mC (.cls 12)) mNil))) (mCons (mCall (two bIsA) (mCons (mVar 0) (mCons (mC (.cls 13)) mNil))) (mCons (mCall (two bIsA) (mCons (mVar 0) (mCons (mC (.cls 14)) mNil))) mNil)))))) mNil))) (sSeq (sDrop (mLm extD (mVar 1) (mCons (mLst (mCons (mCall (two bIsA) (mCons (mVar 0) (mCons (mC (.cls 15)) mNil))) (mCons (mCall (two bIsA) (mCons (mVar 0) (mCons (mC (.cls 16)) mNil))) (mCons (mCall (two bIsA) (mCons (mVar 0) (mCons (mC (.cls 17)) mNil))) (mCons (mCall (two bIsA) (mCons (mVar 0) (mCons (mC (.cls 18)) mNil))) (mCons (mCall (two bIsA) (mCons (mVar 0) (mCons (mC (.cls 19)) mNil))) mNil)))))) mNil))) (sSeq (sDrop (mLm extD (mVar 1) (mCons (mLst (mCons (mCall (two bIsA) (mCons (mVar 0) (mCons (mC (.cls 20)) mNil))) (mCons (mCall (two bIsA) (mCons (mVar 0) (mCons (mC (.cls 21)) mNil))) (mCons (mCall (two bIsA) (mCons (mVar 0) (mCons (mC (.cls 22)) mNil))) (mCons (mCall (two bIsA) (mCons (mVar 0) (mCons (mC (.cls 23)) mNil))) mNil))))) mNil))) (sRet (mVar 1))))))))
theorem e__law_kinds_of : b__law_kinds_of.m = m__law_kinds_of := by kernel_rfl
abbrev st__law_tells : Stmt := top 51
abbrev N__law_tells : List Str := ["look", "number", "kept", "caught", "spot"]
theorem sc__law_tells : FnScope N__law_tells ["look", "number", "kept"] (defScope st__law_tells) := ⟨rfl, rfl, rfl, by decide +kernel, rfl, by decide +kernel, by decide +kernel⟩
def o__law_tells : Option (CB ⟨T0, fr0, N__law_tells, defScope st__law_tells, none, lps⟩ (defBody st__law_tells)) := recB 60 _ _
theorem k__law_tells : o__law_tells.isSome = true := by kernel_rfl
def b__law_tells : CB ⟨T0, fr0, N__law_tells, defScope st__law_tells, none, lps⟩ (defBody st__law_tells) := o__law_tells.get k__law_tells
def m__law_tells (G : GT) : MS := (sSeq (sAsg (mBin dIx (mCall (G.fn 16) (mCons (mVar 0) mNil)) (mC (.int 0))) (gN 3)) (sRet (mAndV (mBin oIsNot (mVar 3) (mC .non)) (mAndV (mBin oEq (mCall (G.fn 17) (mCons (mVar 3) mNil)) (mLcR [4] (gN 4) (mCons (mC (.int 24)) mNil) mYes (mBin oEq (mVar 4) (mVar 1)))) (mBin oEq (mCall (one bRepr) (mCons (mVal (mVar 3)) mNil)) (mCall (one bRepr) (mCons (mVar 2) mNil)))))))
theorem e__law_tells : b__law_tells.m = m__law_tells := by kernel_rfl
abbrev st__law_divisor : Stmt := top 52
abbrev N__law_divisor : List Str := ["one", "other", "lap"]
theorem sc__law_divisor : FnScope N__law_divisor ["one", "other"] (defScope st__law_divisor) := ⟨rfl, rfl, rfl, by decide +kernel, rfl, by decide +kernel, by decide +kernel⟩
def o__law_divisor : Option (CB ⟨T0, fr0, N__law_divisor, defScope st__law_divisor, none, lps⟩ (defBody st__law_divisor)) := recB 60 _ _
theorem k__law_divisor : o__law_divisor.isSome = true := by kernel_rfl
def b__law_divisor : CB ⟨T0, fr0, N__law_divisor, defScope st__law_divisor, none, lps⟩ (defBody st__law_divisor) := o__law_divisor.get k__law_divisor
def m__law_divisor (G : GT) : MS := (sSeq (sPar (mCons (mCall (one bAbs) (mCons (mVar 0) mNil)) (mCons (mCall (one bAbs) (mCons (mVar 1) mNil)) mNil)) 0 1) (sSeq (sForR (gN 2) (mCons (mC (.int 4000)) mNil) (sSeq (sIf (mTest (mBin oEq (mVar 1) (mC (.int 0)))) sBreak sNext) (sPar (mCons (mVar 1) (mCons (mBin oMod (mCall (one bInt) (mCons (mVar 0) mNil)) (mCall (one bInt) (mCons (mVar 1) mNil))) mNil)) 0 1))) (sRet (mVar 0))))
theorem e__law_divisor : b__law_divisor.m = m__law_divisor := by kernel_rfl
abbrev st__law_ratio : Stmt := top 53
abbrev N__law_ratio : List Str := ["top", "bottom", "common"]
theorem sc__law_ratio : FnScope N__law_ratio ["top", "bottom"] (defScope st__law_ratio) := ⟨rfl, rfl, rfl, by decide +kernel, rfl, by decide +kernel, by decide +kernel⟩
def o__law_ratio : Option (CB ⟨T0, fr0, N__law_ratio, defScope st__law_ratio, none, lps⟩ (defBody st__law_ratio)) := recB 60 _ _
theorem k__law_ratio : o__law_ratio.isSome = true := by kernel_rfl
def b__law_ratio : CB ⟨T0, fr0, N__law_ratio, defScope st__law_ratio, none, lps⟩ (defBody st__law_ratio) := o__law_ratio.get k__law_ratio
def m__law_ratio (G : GT) : MS := (sSeq (sAsg (mBin oMul (mCall (G.fn 19) (mCons (mVar 0) (mCons (mVar 1) mNil))) (mIf (mTest (mBin oGt (mVar 1) (mC (.int 0)))) (mC (.int 1)) (mBin oSub (mC (.int 0)) (mC (.int 1))))) (gN 2)) (sRet (mTup (mCons (mBin oFdiv (mVar 0) (mVar 2)) (mCons (mBin oFdiv (mVar 1) (mVar 2)) mNil)))))
theorem e__law_ratio : b__law_ratio.m = m__law_ratio := by kernel_rfl
abbrev st__law_joined : Stmt := top 54
abbrev N__law_joined : List Str := ["word", "one", "other"]
theorem sc__law_joined : FnScope N__law_joined ["word", "one", "other"] (defScope st__law_joined) := ⟨rfl, rfl, rfl, by decide +kernel, rfl, by decide +kernel, by decide +kernel⟩
def o__law_joined : Option (CB ⟨T0, fr0, N__law_joined, defScope st__law_joined, none, lps⟩ (defBody st__law_joined)) := recB 60 _ _
theorem k__law_joined : o__law_joined.isSome = true := by kernel_rfl
def b__law_joined : CB ⟨T0, fr0, N__law_joined, defScope st__law_joined, none, lps⟩ (defBody st__law_joined) := o__law_joined.get k__law_joined
def m__law_joined (G : GT) : MS := (sSeq (sIf (mTest (mBin oEq (mVar 0) (mC (.str "sum")))) (sRet (mCall (G.fn 20) (mCons (mBin oAdd (mBin oMul (mBin dIx (mVar 1) (mC (.int 0))) (mBin dIx (mVar 2) (mC (.int 1)))) (mBin oMul (mBin dIx (mVar 2) (mC (.int 0))) (mBin dIx (mVar 1) (mC (.int 1))))) (mCons (mBin oMul (mBin dIx (mVar 1) (mC (.int 1))) (mBin dIx (mVar 2) (mC (.int 1)))) mNil)))) sNext) (sSeq (sIf (mTest (mBin oEq (mVar 0) (mC (.str "less")))) (sRet (mCall (G.fn 20) (mCons (mBin oSub (mBin oMul (mBin dIx (mVar 1) (mC (.int 0))) (mBin dIx (mVar 2) (mC (.int 1)))) (mBin oMul (mBin dIx (mVar 2) (mC (.int 0))) (mBin dIx (mVar 1) (mC (.int 1))))) (mCons (mBin oMul (mBin dIx (mVar 1) (mC (.int 1))) (mBin dIx (mVar 2) (mC (.int 1)))) mNil)))) sNext) (sSeq (sIf (mTest (mBin oEq (mVar 0) (mC (.str "times")))) (sRet (mCall (G.fn 20) (mCons (mBin oMul (mBin dIx (mVar 1) (mC (.int 0))) (mBin dIx (mVar 2) (mC (.int 0)))) (mCons (mBin oMul (mBin dIx (mVar 1) (mC (.int 1))) (mBin dIx (mVar 2) (mC (.int 1)))) mNil)))) sNext) (sRet (mIf (mTest (mBin oEq (mBin dIx (mVar 2) (mC (.int 0))) (mC (.int 0)))) (mC .non) (mCall (G.fn 20) (mCons (mBin oMul (mBin dIx (mVar 1) (mC (.int 0))) (mBin dIx (mVar 2) (mC (.int 1)))) (mCons (mBin oMul (mBin dIx (mVar 1) (mC (.int 1))) (mBin dIx (mVar 2) (mC (.int 0)))) mNil))))))))
theorem e__law_joined : b__law_joined.m = m__law_joined := by kernel_rfl
abbrev st__law_drawn : Stmt := top 55
abbrev N__law_drawn : List Str := ["pot", "top"]
theorem sc__law_drawn : FnScope N__law_drawn ["pot"] (defScope st__law_drawn) := ⟨rfl, rfl, rfl, by decide +kernel, rfl, by decide +kernel, by decide +kernel⟩
def o__law_drawn : Option (CB ⟨T0, fr0, N__law_drawn, defScope st__law_drawn, none, lps⟩ (defBody st__law_drawn)) := recB 60 _ _
theorem k__law_drawn : o__law_drawn.isSome = true := by kernel_rfl
def b__law_drawn : CB ⟨T0, fr0, N__law_drawn, defScope st__law_drawn, none, lps⟩ (defBody st__law_drawn) := o__law_drawn.get k__law_drawn
def m__law_drawn (G : GT) : MS := (sSeq (sAsg (mCall (one bInt) (mCons (mCall (G.fn 13) (mCons (mVar 0) (mCons (mLst (mCons (mBin oSub (mCall (G.fn 12) (mCons (mVar 0) (mCons (mC (.int 20)) mNil))) (mC (.int 10))) (mCons (mBin oSub (mBin oPow (mC (.int 10)) (mC (.int 9))) (mCall (G.fn 12) (mCons (mVar 0) (mCons (mC (.int 9)) mNil)))) (mCons (mBin oSub (mCall (G.fn 12) (mCons (mVar 0) (mCons (mC (.int 9)) mNil))) (mBin oPow (mC (.int 10)) (mC (.int 9)))) (mCons (mC (.int 0)) mNil))))) mNil))) mNil)) (gN 1)) (sRet (mCall (G.fn 20) (mCons (mVar 1) (mCons (mCall (one bInt) (mCons (mBin oAdd (mC (.int 1)) (mCall (G.fn 13) (mCons (mVar 0) (mCons (mLst (mCons (mCall (G.fn 12) (mCons (mVar 0) (mCons (mC (.int 12)) mNil))) (mCons (mBin oSub (mBin oSub (mBin oPow (mC (.int 10)) (mC (.int 9))) (mC (.int 1))) (mCall (G.fn 12) (mCons (mVar 0) (mCons (mC (.int 9)) mNil)))) (mCons (mC (.int 0)) mNil)))) mNil)))) mNil)) mNil)))))
theorem e__law_drawn : b__law_drawn.m = m__law_drawn := by kernel_rfl
abbrev st__law_right : Stmt := top 56
abbrev N__law_right : List Str := ["pot", "look", "one", "other", "third", "whole", "product_so", "its", "nought", "bad", "number"]
theorem sc__law_right : FnScope N__law_right ["pot"] (defScope st__law_right) := ⟨rfl, rfl, rfl, by decide +kernel, rfl, by decide +kernel, by decide +kernel⟩
def o__law_right : Option (CB ⟨T0, fr0, N__law_right, defScope st__law_right, (some "_law_right.<locals>.<lambda>"), lps⟩ (defBody st__law_right)) := recB 60 _ _
theorem k__law_right : o__law_right.isSome = true := by kernel_rfl
def b__law_right : CB ⟨T0, fr0, N__law_right, defScope st__law_right, (some "_law_right.<locals>.<lambda>"), lps⟩ (defBody st__law_right) := o__law_right.get k__law_right
def m__law_right (G : GT) : MS := (sSeq (sAsg (mTup (mCons (mCall (G.fn 22) (mCons (mVar 0) mNil)) (mCons (mCall (G.fn 22) (mCons (mVar 0) mNil)) (mCons (mCall (G.fn 22) (mCons (mVar 0) mNil)) mNil)))) (gT [2, 3, 4])) (sSeq (sPar (mCons (mCall (G.fn 21) (mCons (mC (.str "sum")) (mCons (mVar 2) (mCons (mVar 3) mNil)))) (mCons (mCall (G.fn 21) (mCons (mC (.str "times")) (mCons (mVar 2) (mCons (mVar 3) mNil)))) mNil)) 5 6) (sSeq (sIf (mOr (mTest (mBin oNe (mCall (G.fn 9) (mCons (mVar 2) (mCons (mVar 3) mNil))) (mVar 5))) (mOr (mTest (mBin oNe (mCall (G.fn 10) (mCons (mVar 2) (mCons (mVar 3) mNil))) (mVar 6))) (mOr (mTest (mBin oNe (mCall (G.fn 9) (mCons (mVar 3) (mCons (mVar 2) mNil))) (mVar 5))) (mTest (mBin oNe (mCall (G.fn 10) (mCons (mVar 3) (mCons (mVar 2) mNil))) (mVar 6)))))) (sRet (mC (.bl false))) sNext) (sSeq (sIf (mOr (mNot (mTru (mCall (one bAll) (mCons (mLc [10] (gN 10) (mTup (mCons (mVar 2) (mCons (mVar 3) (mCons (mVar 4) mNil)))) mYes (mCall (G.fn 4) (mCons (mVar 10) mNil))) mNil)))) (mOr (mTest (mBin oNe (mCall (G.fn 9) (mCons (mVar 2) (mCons (mTup (mCons (mC (.int 0)) (mCons (mC (.int 1)) mNil))) mNil))) (mVar 2))) (mOr (mTest (mBin oNe (mCall (G.fn 10) (mCons (mVar 2) (mCons (mTup (mCons (mC (.int 1)) (mCons (mC (.int 1)) mNil))) mNil))) (mVar 2))) (mTest (mBin oNe (mCall (G.fn 10) (mCons (mVar 2) (mCons (mTup (mCons (mC (.int 0)) (mCons (mC (.int 1)) mNil))) mNil))) (mTup (mCons (mC (.int 0)) (mCons (mC (.int 1)) mNil)))))))) (sRet (mC (.bl false))) sNext) (sSeq (sIf (mTest (mBin oNe (mBin dIx (mVar 3) (mC (.int 0))) (mC (.int 0)))) (sSeq (sAsg (mCall (G.fn 11) (mCons (mVar 2) (mCons (mVar 3) mNil))) (gN 7)) (sSeq (sIf (mOr (mTest (mBin oNe (mVar 7) (mCall (G.fn 21) (mCons (mC (.str "over")) (mCons (mVar 2) (mCons (mVar 3) mNil)))))) (mTest (mBin oNe (mCall (G.fn 11) (mCons (mVar 3) (mCons (mVar 3) mNil))) (mTup (mCons (mC (.int 1)) (mCons (mC (.int 1)) mNil)))))) (sRet (mC (.bl false))) sNext) (sIf (mAnd (mTru (mCall (G.fn 4) (mCons (mVar 7) mNil))) (mTest (mBin oNe (mCall (G.fn 10) (mCons (mVar 7) (mCons (mVar 3) mNil))) (mVar 2)))) (sRet (mC (.bl false))) sNext))) sNext) (sSeq (sIf (mTest (mBin oNe (mCall (G.fn 4) (mCons (mVar 5) mNil)) (mAndV (mBin oLe (mCall (one bAbs) (mCons (mBin dIx (mVar 5) (mC (.int 0))) mNil)) (mBin oPow (mC (.int 10)) (mC (.int 9)))) (mBin oLe (mBin dIx (mVar 5) (mC (.int 1))) (mBin oPow (mC (.int 10)) (mC (.int 9))))))) (sRet (mC (.bl false))) sNext) (sSeq (sIf (mAnd (mTru (mCall (G.fn 4) (mCons (mVar 5) mNil))) (mTest (mBin oNe (mCall (G.fn 10) (mCons (mVar 5) (mCons (mVar 4) mNil))) (mCall (G.fn 21) (mCons (mC (.str "sum")) (mCons (mCall (G.fn 10) (mCons (mVar 2) (mCons (mVar 4) mNil))) (mCons (mCall (G.fn 10) (mCons (mVar 3) (mCons (mVar 4) mNil))) mNil))))))) (sRet (mC (.bl false))) sNext) (sSeq (sAsg (mTup (mCons (mTup (mCons (mVar 2) (mCons (mTup (mCons (mC (.int 0)) (mCons (mC (.int 1)) mNil))) mNil))) (mCons (mCall (G.fn 13) (mCons (mVar 0) (mCons (mLst (mCons (mC .non) (mCons (mC (.int 1)) (mCons (mTup (mCons (mC (.int 1)) mNil)) (mCons (mTup (mCons (mC (.int 2)) (mCons (mC (.int 4)) mNil))) (mCons (mTup (mCons (mC (.int 1)) (mCons (mC (.int 0)) mNil))) (mCons (mTup (mCons (mC (.int 1)) (mCons (mNeg (mC (.int 2))) mNil))) (mCons (mTup (mCons (mC (.bl true)) (mCons (mC (.int 1)) mNil))) (mCons (mTup (mCons (mC (.int 1)) (mCons (mC (.bl true)) mNil))) (mCons (mLst (mCons (mC (.int 1)) (mCons (mC (.int 2)) mNil))) (mCons (mTup (mCons (mBin oAdd (mBin oPow (mC (.int 10)) (mC (.int 9))) (mC (.int 1))) (mCons (mC (.int 1)) mNil))) (mCons (mTup (mCons (mC (.int 1)) (mCons (mBin oAdd (mBin oPow (mC (.int 10)) (mC (.int 9))) (mC (.int 1))) mNil))) (mCons (mTup (mCons (mC (.str "1")) (mCons (mC (.str "2")) mNil))) (mCons (mTup (mCons (mC (.int 0)) (mCons (mC (.int 2)) mNil))) (mCons (mTup (mCons (mC (.int 1)) (mCons (mC (.int 2)) (mCons (mC (.int 3)) mNil)))) mNil))))))))))))))) mNil))) mNil))) (gT [8, 9])) (sSeq (sIf (mOr (mTest (mBin oIsNot (mCall (G.fn 4) (mCons (mVar 9) mNil)) (mC (.bl false)))) (mNot (mTru (mCallL G 18 0 [2] (mCons (mC (.int 11)) (mCons (mVar 8) mNil)))))) (sRet (mC (.bl false))) sNext) (sSeq (sAsg (mCall (G.fn 13) (mCons (mVar 0) (mCons (mLst (mCons (mC (.fn 9)) (mCons (mC (.fn 10)) (mCons (mC (.fn 11)) mNil)))) mNil))) (gN 1)) (sSeq (sIf (mNot (mTru (mCallL G 18 1 [9, 1, 2] (mCons (mC (.int 0)) (mCons (mVar 9) mNil))))) (sRet (mC (.bl false))) sNext) (sRet (mCallL G 18 2 [9, 1] (mCons (mC (.int 0)) (mCons (mVar 9) mNil)))))))))))))))
theorem e__law_right : b__law_right.m = m__law_right := by kernel_rfl
abbrev st_law : Stmt := top 57
abbrev N_law : List Str := ["script", "place", "pot", "lap"]
theorem sc_law : FnScope N_law ["script"] (defScope st_law) := ⟨rfl, rfl, rfl, by decide +kernel, rfl, by decide +kernel, by decide +kernel⟩
def o_law : Option (CB ⟨T0, fr0, N_law, defScope st_law, none, lps⟩ (defBody st_law)) := recB 60 _ _
theorem k_law : o_law.isSome = true := by kernel_rfl
def b_law : CB ⟨T0, fr0, N_law, defScope st_law, none, lps⟩ (defBody st_law) := o_law.get k_law
def m_law (G : GT) : MS := (sSeq (sFor (gN 1) (mCall (G.fn 14) (mCons (mVar 0) (mCons (mC (.int 3)) mNil))) (sSeq (sAsg (mCall (G.fn 15) (mCons (mVar 0) (mCons (mVar 1) mNil))) (gN 2)) (sIf (mNot (mTru (mCall (one bAll) (mCons (mLcR [3] (gN 3) (mCons (mC (.int 10)) mNil) mYes (mCall (G.fn 23) (mCons (mVar 2) mNil))) mNil)))) (sRet (mC (.bl false))) sNext))) (sRet (mC (.bl true))))
theorem e_law : b_law.m = m_law := by kernel_rfl
def L_0 : Lam := lamAt b__law_right.ls 0
def L_1 : Lam := lamAt b__law_right.ls 1
def L_2 : Lam := lamAt b__law_right.ls 2
abbrev lams : List Lam := [L_0, L_1, L_2]
abbrev NL_0 : List Str := ["one"]
theorem tx_0 : LamOk L_0 NL_0 := ⟨NdefX.nscope_by (by kernel_rfl), fun _ _ _ _ _ => rfl⟩
def oL_0 : Option (CE ⟨T0, fr0, NL_0, L_0.scope, none, []⟩ L_0.body) := (recs 60).e _ _
theorem kL_0 : oL_0.isSome = true := by kernel_rfl
def bL_0 : CE ⟨T0, fr0, NL_0, L_0.scope, none, []⟩ L_0.body := oL_0.get kL_0
def mL_0 (G : GT) : ME := (mCall (G.fn 11) (mCons (mVar 0) (mCons (mTup (mCons (mC (.int 0)) (mCons (mC (.int 1)) mNil))) mNil)))
theorem eL_0 : bL_0.m = mL_0 := by kernel_rfl
abbrev NL_1 : List Str := ["bad", "look", "one"]
theorem tx_1 : LamOk L_1 NL_1 := ⟨NdefX.nscope_by (by kernel_rfl), fun _ _ _ _ _ => rfl⟩
def oL_1 : Option (CE ⟨T0, fr0, NL_1, L_1.scope, none, []⟩ L_1.body) := (recs 60).e _ _
theorem kL_1 : oL_1.isSome = true := by kernel_rfl
def bL_1 : CE ⟨T0, fr0, NL_1, L_1.scope, none, []⟩ L_1.body := oL_1.get kL_1
def mL_1 (G : GT) : ME := (mCallV G 1 (mCons (mVar 2) (mCons (mVar 0) mNil)))
theorem eL_1 : bL_1.m = mL_1 := by kernel_rfl
abbrev NL_2 : List Str := ["bad", "look"]
theorem tx_2 : LamOk L_2 NL_2 := ⟨NdefX.nscope_by (by kernel_rfl), fun _ _ _ _ _ => rfl⟩
def oL_2 : Option (CE ⟨T0, fr0, NL_2, L_2.scope, none, []⟩ L_2.body) := (recs 60).e _ _
theorem kL_2 : oL_2.isSome = true := by kernel_rfl
def bL_2 : CE ⟨T0, fr0, NL_2, L_2.scope, none, []⟩ L_2.body := oL_2.get kL_2
def mL_2 (G : GT) : ME := (mCallV G 1 (mCons (mVar 0) (mCons (mC .non) mNil)))
theorem eL_2 : bL_2.m = mL_2 := by kernel_rfl
theorem lx_is_integer : b_is_integer.ls = [] := by kernel_rfl
def r_is_integer : FRow T0 fr0 lams := ⟨"is_integer", st_is_integer, N_is_integer, ["value", "low", "high"], none, lps, sc_is_integer, b_is_integer, fun p hp => by rw [lx_is_integer] at hp; cases hp⟩
theorem lx_is_tuple : b_is_tuple.ls = [] := by kernel_rfl
def r_is_tuple : FRow T0 fr0 lams := ⟨"is_tuple", st_is_tuple, N_is_tuple, ["value", "least", "most"], none, lps, sc_is_tuple, b_is_tuple, fun p hp => by rw [lx_is_tuple] at hp; cases hp⟩
theorem lx_divisor : b_divisor.ls = [] := by kernel_rfl
def r_divisor : FRow T0 fr0 lams := ⟨"divisor", st_divisor, N_divisor, ["one", "other"], none, lps, sc_divisor, b_divisor, fun p hp => by rw [lx_divisor] at hp; cases hp⟩
theorem lx_reduced : b_reduced.ls = [] := by kernel_rfl
def r_reduced : FRow T0 fr0 lams := ⟨"reduced", st_reduced, N_reduced, ["top", "bottom"], none, lps, sc_reduced, b_reduced, fun p hp => by rw [lx_reduced] at hp; cases hp⟩
theorem lx_is_number : b_is_number.ls = [] := by kernel_rfl
def r_is_number : FRow T0 fr0 lams := ⟨"is_number", st_is_number, N_is_number, ["value"], none, lps, sc_is_number, b_is_number, fun p hp => by rw [lx_is_number] at hp; cases hp⟩
theorem lx_check_number : b_check_number.ls = [] := by kernel_rfl
def r_check_number : FRow T0 fr0 lams := ⟨"check_number", st_check_number, N_check_number, ["number"], none, lps, sc_check_number, b_check_number, fun p hp => by rw [lx_check_number] at hp; cases hp⟩
theorem lx_plus : b_plus.ls = [] := by kernel_rfl
def r_plus : FRow T0 fr0 lams := ⟨"plus", st_plus, N_plus, ["one", "other"], none, lps, sc_plus, b_plus, fun p hp => by rw [lx_plus] at hp; cases hp⟩
theorem lx_product : b_product.ls = [] := by kernel_rfl
def r_product : FRow T0 fr0 lams := ⟨"product", st_product, N_product, ["one", "other"], none, lps, sc_product, b_product, fun p hp => by rw [lx_product] at hp; cases hp⟩
theorem lx_quotient : b_quotient.ls = [] := by kernel_rfl
def r_quotient : FRow T0 fr0 lams := ⟨"quotient", st_quotient, N_quotient, ["one", "other"], none, lps, sc_quotient, b_quotient, fun p hp => by rw [lx_quotient] at hp; cases hp⟩
theorem lx_added : b_added.ls = [] := by kernel_rfl
def r_added : FRow T0 fr0 lams := ⟨"added", st_added, N_added, ["one", "other"], none, lps, sc_added, b_added, fun p hp => by rw [lx_added] at hp; cases hp⟩
theorem lx_multiplied : b_multiplied.ls = [] := by kernel_rfl
def r_multiplied : FRow T0 fr0 lams := ⟨"multiplied", st_multiplied, N_multiplied, ["one", "other"], none, lps, sc_multiplied, b_multiplied, fun p hp => by rw [lx_multiplied] at hp; cases hp⟩
theorem lx_divided : b_divided.ls = [] := by kernel_rfl
def r_divided : FRow T0 fr0 lams := ⟨"divided", st_divided, N_divided, ["one", "other"], none, lps, sc_divided, b_divided, fun p hp => by rw [lx_divided] at hp; cases hp⟩
theorem lx__law_take : b__law_take.ls = [] := by kernel_rfl
def r__law_take : FRow T0 fr0 lams := ⟨"_law_take", st__law_take, N__law_take, ["pot", "upto"], none, lps, sc__law_take, b__law_take, fun p hp => by rw [lx__law_take] at hp; cases hp⟩
theorem lx__law_of : b__law_of.ls = [] := by kernel_rfl
def r__law_of : FRow T0 fr0 lams := ⟨"_law_of", st__law_of, N__law_of, ["pot", "some"], none, lps, sc__law_of, b__law_of, fun p hp => by rw [lx__law_of] at hp; cases hp⟩
theorem lx__law_cells : b__law_cells.ls = [] := by kernel_rfl
def r__law_cells : FRow T0 fr0 lams := ⟨"_law_cells", st__law_cells, N__law_cells, ["script", "limit"], none, lps, sc__law_cells, b__law_cells, fun p hp => by rw [lx__law_cells] at hp; cases hp⟩
theorem lx__law_pot : b__law_pot.ls = [] := by kernel_rfl
def r__law_pot : FRow T0 fr0 lams := ⟨"_law_pot", st__law_pot, N__law_pot, ["script", "place"], none, lps, sc__law_pot, b__law_pot, fun p hp => by rw [lx__law_pot] at hp; cases hp⟩
theorem lx__law_caught : b__law_caught.ls = [] := by kernel_rfl
def r__law_caught : FRow T0 fr0 lams := ⟨"_law_caught", st__law_caught, N__law_caught, ["look"], none, lps, sc__law_caught, b__law_caught, fun p hp => by rw [lx__law_caught] at hp; cases hp⟩
theorem lx__law_kinds_of : b__law_kinds_of.ls = [] := by kernel_rfl
def r__law_kinds_of : FRow T0 fr0 lams := ⟨"_law_kinds_of", st__law_kinds_of, N__law_kinds_of, ["error"], none, lps, sc__law_kinds_of, b__law_kinds_of, fun p hp => by rw [lx__law_kinds_of] at hp; cases hp⟩
theorem lx__law_tells : b__law_tells.ls = [] := by kernel_rfl
def r__law_tells : FRow T0 fr0 lams := ⟨"_law_tells", st__law_tells, N__law_tells, ["look", "number", "kept"], none, lps, sc__law_tells, b__law_tells, fun p hp => by rw [lx__law_tells] at hp; cases hp⟩
theorem lx__law_divisor : b__law_divisor.ls = [] := by kernel_rfl
def r__law_divisor : FRow T0 fr0 lams := ⟨"_law_divisor", st__law_divisor, N__law_divisor, ["one", "other"], none, lps, sc__law_divisor, b__law_divisor, fun p hp => by rw [lx__law_divisor] at hp; cases hp⟩
theorem lx__law_ratio : b__law_ratio.ls = [] := by kernel_rfl
def r__law_ratio : FRow T0 fr0 lams := ⟨"_law_ratio", st__law_ratio, N__law_ratio, ["top", "bottom"], none, lps, sc__law_ratio, b__law_ratio, fun p hp => by rw [lx__law_ratio] at hp; cases hp⟩
theorem lx__law_joined : b__law_joined.ls = [] := by kernel_rfl
def r__law_joined : FRow T0 fr0 lams := ⟨"_law_joined", st__law_joined, N__law_joined, ["word", "one", "other"], none, lps, sc__law_joined, b__law_joined, fun p hp => by rw [lx__law_joined] at hp; cases hp⟩
theorem lx__law_drawn : b__law_drawn.ls = [] := by kernel_rfl
def r__law_drawn : FRow T0 fr0 lams := ⟨"_law_drawn", st__law_drawn, N__law_drawn, ["pot"], none, lps, sc__law_drawn, b__law_drawn, fun p hp => by rw [lx__law_drawn] at hp; cases hp⟩
theorem lx__law_right : b__law_right.ls = [(0, L_0), (1, L_1), (2, L_2)] := by kernel_rfl
def r__law_right : FRow T0 fr0 lams := ⟨"_law_right", st__law_right, N__law_right, ["pot"], (some "_law_right.<locals>.<lambda>"), lps, sc__law_right, b__law_right, fun p hp => by rw [lx__law_right] at hp; simp only [List.mem_cons, List.not_mem_nil, or_false] at hp; rcases hp with rfl | rfl | rfl <;> rfl⟩
theorem lx_law : b_law.ls = [] := by kernel_rfl
def r_law : FRow T0 fr0 lams := ⟨"law", st_law, N_law, ["script"], none, lps, sc_law, b_law, fun p hp => by rw [lx_law] at hp; cases hp⟩
theorem lL_0 : bL_0.ls = [] := by kernel_rfl
def rL_0 : LRow T0 fr0 lams := ⟨L_0, NL_0, tx_0, bL_0, fun p hp => by rw [lL_0] at hp; cases hp⟩
theorem lL_1 : bL_1.ls = [] := by kernel_rfl
def rL_1 : LRow T0 fr0 lams := ⟨L_1, NL_1, tx_1, bL_1, fun p hp => by rw [lL_1] at hp; cases hp⟩
theorem lL_2 : bL_2.ls = [] := by kernel_rfl
def rL_2 : LRow T0 fr0 lams := ⟨L_2, NL_2, tx_2, bL_2, fun p hp => by rw [lL_2] at hp; cases hp⟩
abbrev rows : List (FRow T0 fr0 lams) := [r_is_integer, r_is_tuple, r_divisor, r_reduced, r_is_number, r_check_number, r_plus, r_product, r_quotient, r_added, r_multiplied, r_divided, r__law_take, r__law_of, r__law_cells, r__law_pot, r__law_caught, r__law_kinds_of, r__law_tells, r__law_divisor, r__law_ratio, r__law_joined, r__law_drawn, r__law_right, r_law]
abbrev lrows : List (LRow T0 fr0 lams) := [rL_0, rL_1, rL_2]
end K30
set_option Elab.async false
set_option linter.all false
set_option maxRecDepth 100000
set_option maxHeartbeats 2000000
namespace K30
open PySem L2 Vi
abbrev Gk (k : Nat) : GT := semG rows lrows k
section
variable {k : Nat} {S : Sto} {a b c : D}
theorem ap_is_integer : (Gk (k + 1)).fn 0 [a, b, c] S = (m_is_integer (Gk k) [some a, some b, some c] S).out := by
  show runF N_is_integer 3 (b_is_integer.m (Gk k)) [a, b, c] S = _
  rw [e_is_integer]
  rfl
theorem ap_is_tuple : (Gk (k + 1)).fn 1 [a, b, c] S = (m_is_tuple (Gk k) [some a, some b, some c] S).out := by
  show runF N_is_tuple 3 (b_is_tuple.m (Gk k)) [a, b, c] S = _
  rw [e_is_tuple]
  rfl
theorem ap_divisor : (Gk (k + 1)).fn 2 [a, b] S = (m_divisor (Gk k) [some a, some b] S).out := by
  show runF N_divisor 2 (b_divisor.m (Gk k)) [a, b] S = _
  rw [e_divisor]
  rfl
theorem ap_reduced : (Gk (k + 1)).fn 3 [a, b] S = (m_reduced (Gk k) [some a, some b, none] S).out := by
  show runF N_reduced 2 (b_reduced.m (Gk k)) [a, b] S = _
  rw [e_reduced]
  rfl
theorem ap_is_number : (Gk (k + 1)).fn 4 [a] S = (m_is_number (Gk k) [some a] S).out := by
  show runF N_is_number 1 (b_is_number.m (Gk k)) [a] S = _
  rw [e_is_number]
  rfl
theorem ap_check_number : (Gk (k + 1)).fn 5 [a] S = (m_check_number (Gk k) [some a] S).out := by
  show runF N_check_number 1 (b_check_number.m (Gk k)) [a] S = _
  rw [e_check_number]
  rfl
theorem ap_plus : (Gk (k + 1)).fn 6 [a, b] S = (m_plus (Gk k) [some a, some b] S).out := by
  show runF N_plus 2 (b_plus.m (Gk k)) [a, b] S = _
  rw [e_plus]
  rfl
theorem ap_product : (Gk (k + 1)).fn 7 [a, b] S = (m_product (Gk k) [some a, some b] S).out := by
  show runF N_product 2 (b_product.m (Gk k)) [a, b] S = _
  rw [e_product]
  rfl
theorem ap_quotient : (Gk (k + 1)).fn 8 [a, b] S = (m_quotient (Gk k) [some a, some b] S).out := by
  show runF N_quotient 2 (b_quotient.m (Gk k)) [a, b] S = _
  rw [e_quotient]
  rfl
theorem ap_added : (Gk (k + 1)).fn 9 [a, b] S = (m_added (Gk k) [some a, some b] S).out := by
  show runF N_added 2 (b_added.m (Gk k)) [a, b] S = _
  rw [e_added]
  rfl
theorem ap_multiplied : (Gk (k + 1)).fn 10 [a, b] S = (m_multiplied (Gk k) [some a, some b] S).out := by
  show runF N_multiplied 2 (b_multiplied.m (Gk k)) [a, b] S = _
  rw [e_multiplied]
  rfl
theorem ap_divided : (Gk (k + 1)).fn 11 [a, b] S = (m_divided (Gk k) [some a, some b] S).out := by
  show runF N_divided 2 (b_divided.m (Gk k)) [a, b] S = _
  rw [e_divided]
  rfl
theorem ap__law_take : (Gk (k + 1)).fn 12 [a, b] S = (m__law_take (Gk k) [some a, some b, none, none, none] S).out := by
  show runF N__law_take 2 (b__law_take.m (Gk k)) [a, b] S = _
  rw [e__law_take]
  rfl
theorem ap__law_of : (Gk (k + 1)).fn 13 [a, b] S = (m__law_of (Gk k) [some a, some b] S).out := by
  show runF N__law_of 2 (b__law_of.m (Gk k)) [a, b] S = _
  rw [e__law_of]
  rfl
theorem ap__law_cells : (Gk (k + 1)).fn 14 [a, b] S = (m__law_cells (Gk k) [some a, some b] S).out := by
  show runF N__law_cells 2 (b__law_cells.m (Gk k)) [a, b] S = _
  rw [e__law_cells]
  rfl
theorem ap__law_pot : (Gk (k + 1)).fn 15 [a, b] S = (m__law_pot (Gk k) [some a, some b, none, none, none] S).out := by
  show runF N__law_pot 2 (b__law_pot.m (Gk k)) [a, b] S = _
  rw [e__law_pot]
  rfl
theorem ap__law_caught : (Gk (k + 1)).fn 16 [a] S = (m__law_caught (Gk k) [some a, none, none, none] S).out := by
  show runF N__law_caught 1 (b__law_caught.m (Gk k)) [a] S = _
  rw [e__law_caught]
  rfl
theorem ap__law_kinds_of : (Gk (k + 1)).fn 17 [a] S = (m__law_kinds_of (Gk k) [some a, none] S).out := by
  show runF N__law_kinds_of 1 (b__law_kinds_of.m (Gk k)) [a] S = _
  rw [e__law_kinds_of]
  rfl
theorem ap__law_tells : (Gk (k + 1)).fn 18 [a, b, c] S = (m__law_tells (Gk k) [some a, some b, some c, none, none] S).out := by
  show runF N__law_tells 3 (b__law_tells.m (Gk k)) [a, b, c] S = _
  rw [e__law_tells]
  rfl
theorem ap__law_divisor : (Gk (k + 1)).fn 19 [a, b] S = (m__law_divisor (Gk k) [some a, some b, none] S).out := by
  show runF N__law_divisor 2 (b__law_divisor.m (Gk k)) [a, b] S = _
  rw [e__law_divisor]
  rfl
theorem ap__law_ratio : (Gk (k + 1)).fn 20 [a, b] S = (m__law_ratio (Gk k) [some a, some b, none] S).out := by
  show runF N__law_ratio 2 (b__law_ratio.m (Gk k)) [a, b] S = _
  rw [e__law_ratio]
  rfl
theorem ap__law_joined : (Gk (k + 1)).fn 21 [a, b, c] S = (m__law_joined (Gk k) [some a, some b, some c] S).out := by
  show runF N__law_joined 3 (b__law_joined.m (Gk k)) [a, b, c] S = _
  rw [e__law_joined]
  rfl
theorem ap__law_drawn : (Gk (k + 1)).fn 22 [a] S = (m__law_drawn (Gk k) [some a, none] S).out := by
  show runF N__law_drawn 1 (b__law_drawn.m (Gk k)) [a] S = _
  rw [e__law_drawn]
  rfl
theorem ap__law_right : (Gk (k + 1)).fn 23 [a] S = (m__law_right (Gk k) [some a, none, none, none, none, none, none, none, none, none, none] S).out := by
  show runF N__law_right 1 (b__law_right.m (Gk k)) [a] S = _
  rw [e__law_right]
  rfl
theorem ap_law : (Gk (k + 1)).fn 24 [a] S = (m_law (Gk k) [some a, none, none, none] S).out := by
  show runF N_law 1 (b_law.m (Gk k)) [a] S = _
  rw [e_law]
  rfl
theorem apL_0 {cs : List (Option D)} : (Gk (k + 1)).lam 0 cs S = mL_0 (Gk k) (startC NL_0 cs) S := by
  show runL NL_0 (bL_0.m (Gk k)) cs S = _
  rw [eL_0]
  rfl
theorem apL_1 {cs : List (Option D)} : (Gk (k + 1)).lam 1 cs S = mL_1 (Gk k) (startC NL_1 cs) S := by
  show runL NL_1 (bL_1.m (Gk k)) cs S = _
  rw [eL_1]
  rfl
theorem apL_2 {cs : List (Option D)} : (Gk (k + 1)).lam 2 cs S = mL_2 (Gk k) (startC NL_2 cs) S := by
  show runL NL_2 (bL_2.m (Gk k)) cs S = _
  rw [eL_2]
  rfl
end
end K30
set_option Elab.async false
set_option linter.all false
set_option maxRecDepth 100000
set_option maxHeartbeats 2000000
namespace K30
open PySem L2 Vi
theorem kk {k : Nat} {n : Nat} (h : n + 1 ≤ k) : ∃ j, k = j + 1 ∧ n ≤ j := ⟨k - 1, by omega, by omega⟩
/-! ### is_integer, is_tuple -/
theorem isA_int_int {i : Int} {S : Sto} : bIsA (.int i) (.ty "int") S = some (.bl true) := by kernel_rfl
theorem isA_int_bool {i : Int} {S : Sto} : bIsA (.int i) (.ty "bool") S = some (.bl false) := by kernel_rfl
theorem isA_bl_int {i : Bool} {S : Sto} : bIsA (.bl i) (.ty "int") S = some (.bl true) := by kernel_rfl
theorem isA_bl_bool {i : Bool} {S : Sto} : bIsA (.bl i) (.ty "bool") S = some (.bl true) := by kernel_rfl
theorem isA_str_int {x : Str} {S : Sto} : bIsA (.str x) (.ty "int") S = some (.bl false) := by kernel_rfl
theorem isA_tup {ds : List D} {S : Sto} : bIsA (.tup ds) (.ty "tuple") S = some (.bl true) := by kernel_rfl
theorem isA_int_tup {i : Int} {S : Sto} : bIsA (.int i) (.ty "tuple") S = some (.bl false) := by kernel_rfl
theorem isA_non_tup {S : Sto} : bIsA .non (.ty "tuple") S = some (.bl false) := by kernel_rfl
theorem isA_ref_tup {n : Nat} {S : Sto} : bIsA (.ref n) (.ty "tuple") S = some (.bl false) := by kernel_rfl
theorem len_tup {ds : List D} {S : Sto} : bLen (.tup ds) S = some (.int ds.length) := rfl
theorem s_int {k : Nat} (hk : 1 ≤ k) (i lo hi : Int) (S : Sto) : (Gk k).fn 0 [.int i, .int lo, .int hi] S = .ok (.bl (decide (lo ≤ i) && decide (i ≤ hi))) S := by
  obtain ⟨k, rfl, hj⟩ := kk hk
  rw [ap_is_integer]
  unfold m_is_integer
  simp only [bind_ok, bind_exc, oR_ap, ofR_ok, ofR_exc, bool1_bl, mVar_ap, mC_ap, mBin_ap, mTest_ap, mChain_ap, mTru_ap, dTru_bl, mAnd_ap, mOr_ap, mNot_ap, mAndV_ap, mNotV_ap, mNeg_ap, mIf_ap, mNil_ap, mCons_ap, mTup_ap, mLst_ap, mCall_ap, one_ap, two_ap, sRet_ap, sDrop_ap, sIf_ap, sNext_ap, sAsg_ap, sPar_ap, sRaise_ap, gN_ap, sSeq_ap, rseq_nx, rseq_rt, rseq_exc, rout_nx, rout_rt, rout_exc, oAdd_i, oSub_i, oLt_i, oLe_i, oGt_i, oGe_i, bAbs_i, bInt_i, bInt_b, oEq_int, oNe_int, oEq_bl, oNe_bl, oEq_pr, oNe_pr, ix_t0, ix_t1, List.getElem?_cons_zero, List.getElem?_cons_succ, List.length_cons, List.length_nil, List.set_cons_zero, List.set_cons_succ, if_true, if_false, ite_true, ite_false, reduceIte, Nat.reduceAdd, Nat.reduceSub, Nat.zero_add, Bool.not_true, Bool.not_false, Bool.true_eq_false, Bool.false_eq_true, isA_int_int, isA_int_bool]
  by_cases h : lo ≤ i
  · simp only [decide_eq_true h, if_true, Bool.true_and]
    simp only [bind_ok, bind_exc, oR_ap, ofR_ok, ofR_exc, bool1_bl, mVar_ap, mC_ap, mBin_ap, mTest_ap, mChain_ap, mTru_ap, dTru_bl, mAnd_ap, mOr_ap, mNot_ap, mAndV_ap, mNotV_ap, mNeg_ap, mIf_ap, mNil_ap, mCons_ap, mTup_ap, mLst_ap, mCall_ap, one_ap, two_ap, sRet_ap, sDrop_ap, sIf_ap, sNext_ap, sAsg_ap, sPar_ap, sRaise_ap, gN_ap, sSeq_ap, rseq_nx, rseq_rt, rseq_exc, rout_nx, rout_rt, rout_exc, oAdd_i, oSub_i, oLt_i, oLe_i, oGt_i, oGe_i, bAbs_i, bInt_i, bInt_b, oEq_int, oNe_int, oEq_bl, oNe_bl, oEq_pr, oNe_pr, ix_t0, ix_t1, List.getElem?_cons_zero, List.getElem?_cons_succ, List.length_cons, List.length_nil, List.set_cons_zero, List.set_cons_succ, if_true, if_false, ite_true, ite_false, reduceIte, Nat.reduceAdd, Nat.reduceSub, Nat.zero_add, Bool.not_true, Bool.not_false, Bool.true_eq_false, Bool.false_eq_true]
  · simp only [decide_eq_false h, Bool.false_and]
    simp only [bind_ok, bind_exc, oR_ap, ofR_ok, ofR_exc, bool1_bl, mVar_ap, mC_ap, mBin_ap, mTest_ap, mChain_ap, mTru_ap, dTru_bl, mAnd_ap, mOr_ap, mNot_ap, mAndV_ap, mNotV_ap, mNeg_ap, mIf_ap, mNil_ap, mCons_ap, mTup_ap, mLst_ap, mCall_ap, one_ap, two_ap, sRet_ap, sDrop_ap, sIf_ap, sNext_ap, sAsg_ap, sPar_ap, sRaise_ap, gN_ap, sSeq_ap, rseq_nx, rseq_rt, rseq_exc, rout_nx, rout_rt, rout_exc, oAdd_i, oSub_i, oLt_i, oLe_i, oGt_i, oGe_i, bAbs_i, bInt_i, bInt_b, oEq_int, oNe_int, oEq_bl, oNe_bl, oEq_pr, oNe_pr, ix_t0, ix_t1, List.getElem?_cons_zero, List.getElem?_cons_succ, List.length_cons, List.length_nil, List.set_cons_zero, List.set_cons_succ, if_true, if_false, ite_true, ite_false, reduceIte, Nat.reduceAdd, Nat.reduceSub, Nat.zero_add, Bool.not_true, Bool.not_false, Bool.true_eq_false, Bool.false_eq_true]
theorem s_int_bl {k : Nat} (hk : 1 ≤ k) (i : Bool) (lo hi : D) (S : Sto) : (Gk k).fn 0 [.bl i, lo, hi] S = .ok (.bl false) S := by
  obtain ⟨k, rfl, hj⟩ := kk hk
  rw [ap_is_integer]
  unfold m_is_integer
  simp only [bind_ok, bind_exc, oR_ap, ofR_ok, ofR_exc, bool1_bl, mVar_ap, mC_ap, mBin_ap, mTest_ap, mChain_ap, mTru_ap, dTru_bl, mAnd_ap, mOr_ap, mNot_ap, mAndV_ap, mNotV_ap, mNeg_ap, mIf_ap, mNil_ap, mCons_ap, mTup_ap, mLst_ap, mCall_ap, one_ap, two_ap, sRet_ap, sDrop_ap, sIf_ap, sNext_ap, sAsg_ap, sPar_ap, sRaise_ap, gN_ap, sSeq_ap, rseq_nx, rseq_rt, rseq_exc, rout_nx, rout_rt, rout_exc, oAdd_i, oSub_i, oLt_i, oLe_i, oGt_i, oGe_i, bAbs_i, bInt_i, bInt_b, oEq_int, oNe_int, oEq_bl, oNe_bl, oEq_pr, oNe_pr, ix_t0, ix_t1, List.getElem?_cons_zero, List.getElem?_cons_succ, List.length_cons, List.length_nil, List.set_cons_zero, List.set_cons_succ, if_true, if_false, ite_true, ite_false, reduceIte, Nat.reduceAdd, Nat.reduceSub, Nat.zero_add, Bool.not_true, Bool.not_false, Bool.true_eq_false, Bool.false_eq_true, isA_bl_int, isA_bl_bool]
theorem s_int_str {k : Nat} (hk : 1 ≤ k) (i : Str) (lo hi : D) (S : Sto) : (Gk k).fn 0 [.str i, lo, hi] S = .ok (.bl false) S := by
  obtain ⟨k, rfl, hj⟩ := kk hk
  rw [ap_is_integer]
  unfold m_is_integer
  simp only [bind_ok, bind_exc, oR_ap, ofR_ok, ofR_exc, bool1_bl, mVar_ap, mC_ap, mBin_ap, mTest_ap, mChain_ap, mTru_ap, dTru_bl, mAnd_ap, mOr_ap, mNot_ap, mAndV_ap, mNotV_ap, mNeg_ap, mIf_ap, mNil_ap, mCons_ap, mTup_ap, mLst_ap, mCall_ap, one_ap, two_ap, sRet_ap, sDrop_ap, sIf_ap, sNext_ap, sAsg_ap, sPar_ap, sRaise_ap, gN_ap, sSeq_ap, rseq_nx, rseq_rt, rseq_exc, rout_nx, rout_rt, rout_exc, oAdd_i, oSub_i, oLt_i, oLe_i, oGt_i, oGe_i, bAbs_i, bInt_i, bInt_b, oEq_int, oNe_int, oEq_bl, oNe_bl, oEq_pr, oNe_pr, ix_t0, ix_t1, List.getElem?_cons_zero, List.getElem?_cons_succ, List.length_cons, List.length_nil, List.set_cons_zero, List.set_cons_succ, if_true, if_false, ite_true, ite_false, reduceIte, Nat.reduceAdd, Nat.reduceSub, Nat.zero_add, Bool.not_true, Bool.not_false, Bool.true_eq_false, Bool.false_eq_true, isA_str_int]
theorem s_tup {k : Nat} (hk : 1 ≤ k) (ds : List D) (S : Sto) : (Gk k).fn 1 [.tup ds, .int 2, .int 2] S = .ok (.bl (decide (ds.length = 2))) S := by
  obtain ⟨k, rfl, hj⟩ := kk hk
  rw [ap_is_tuple]
  unfold m_is_tuple
  simp only [bind_ok, bind_exc, oR_ap, ofR_ok, ofR_exc, bool1_bl, mVar_ap, mC_ap, mBin_ap, mTest_ap, mChain_ap, mTru_ap, dTru_bl, mAnd_ap, mOr_ap, mNot_ap, mAndV_ap, mNotV_ap, mNeg_ap, mIf_ap, mNil_ap, mCons_ap, mTup_ap, mLst_ap, mCall_ap, one_ap, two_ap, sRet_ap, sDrop_ap, sIf_ap, sNext_ap, sAsg_ap, sPar_ap, sRaise_ap, gN_ap, sSeq_ap, rseq_nx, rseq_rt, rseq_exc, rout_nx, rout_rt, rout_exc, oAdd_i, oSub_i, oLt_i, oLe_i, oGt_i, oGe_i, bAbs_i, bInt_i, bInt_b, oEq_int, oNe_int, oEq_bl, oNe_bl, oEq_pr, oNe_pr, ix_t0, ix_t1, List.getElem?_cons_zero, List.getElem?_cons_succ, List.length_cons, List.length_nil, List.set_cons_zero, List.set_cons_succ, if_true, if_false, ite_true, ite_false, reduceIte, Nat.reduceAdd, Nat.reduceSub, Nat.zero_add, Bool.not_true, Bool.not_false, Bool.true_eq_false, Bool.false_eq_true, isA_tup, len_tup]
  by_cases h : (2 : Int) ≤ (ds.length : Nat)
  · simp only [decide_eq_true h, if_true]
    simp only [bind_ok, bind_exc, oR_ap, ofR_ok, ofR_exc, bool1_bl, mVar_ap, mC_ap, mBin_ap, mTest_ap, mChain_ap, mTru_ap, dTru_bl, mAnd_ap, mOr_ap, mNot_ap, mAndV_ap, mNotV_ap, mNeg_ap, mIf_ap, mNil_ap, mCons_ap, mTup_ap, mLst_ap, mCall_ap, one_ap, two_ap, sRet_ap, sDrop_ap, sIf_ap, sNext_ap, sAsg_ap, sPar_ap, sRaise_ap, gN_ap, sSeq_ap, rseq_nx, rseq_rt, rseq_exc, rout_nx, rout_rt, rout_exc, oAdd_i, oSub_i, oLt_i, oLe_i, oGt_i, oGe_i, bAbs_i, bInt_i, bInt_b, oEq_int, oNe_int, oEq_bl, oNe_bl, oEq_pr, oNe_pr, ix_t0, ix_t1, List.getElem?_cons_zero, List.getElem?_cons_succ, List.length_cons, List.length_nil, List.set_cons_zero, List.set_cons_succ, if_true, if_false, ite_true, ite_false, reduceIte, Nat.reduceAdd, Nat.reduceSub, Nat.zero_add, Bool.not_true, Bool.not_false, Bool.true_eq_false, Bool.false_eq_true]
    by_cases h2 : ((ds.length : Nat) : Int) ≤ 2
    · rw [decide_eq_true h2, decide_eq_true (show ds.length = 2 by omega)]
    · rw [decide_eq_false h2, decide_eq_false (show ¬ ds.length = 2 by omega)]
  · simp only [decide_eq_false h]
    simp only [bind_ok, bind_exc, oR_ap, ofR_ok, ofR_exc, bool1_bl, mVar_ap, mC_ap, mBin_ap, mTest_ap, mChain_ap, mTru_ap, dTru_bl, mAnd_ap, mOr_ap, mNot_ap, mAndV_ap, mNotV_ap, mNeg_ap, mIf_ap, mNil_ap, mCons_ap, mTup_ap, mLst_ap, mCall_ap, one_ap, two_ap, sRet_ap, sDrop_ap, sIf_ap, sNext_ap, sAsg_ap, sPar_ap, sRaise_ap, gN_ap, sSeq_ap, rseq_nx, rseq_rt, rseq_exc, rout_nx, rout_rt, rout_exc, oAdd_i, oSub_i, oLt_i, oLe_i, oGt_i, oGe_i, bAbs_i, bInt_i, bInt_b, oEq_int, oNe_int, oEq_bl, oNe_bl, oEq_pr, oNe_pr, ix_t0, ix_t1, List.getElem?_cons_zero, List.getElem?_cons_succ, List.length_cons, List.length_nil, List.set_cons_zero, List.set_cons_succ, if_true, if_false, ite_true, ite_false, reduceIte, Nat.reduceAdd, Nat.reduceSub, Nat.zero_add, Bool.not_true, Bool.not_false, Bool.true_eq_false, Bool.false_eq_true]
    rw [decide_eq_false (show ¬ ds.length = 2 by omega)]
theorem s_tup_no {k : Nat} (hk : 1 ≤ k) (d : D) (S : Sto) (h : bIsA d (.ty "tuple") S = some (.bl false)) : (Gk k).fn 1 [d, .int 2, .int 2] S = .ok (.bl false) S := by
  obtain ⟨k, rfl, hj⟩ := kk hk
  rw [ap_is_tuple]
  unfold m_is_tuple
  simp only [bind_ok, bind_exc, oR_ap, ofR_ok, ofR_exc, bool1_bl, mVar_ap, mC_ap, mBin_ap, mTest_ap, mChain_ap, mTru_ap, dTru_bl, mAnd_ap, mOr_ap, mNot_ap, mAndV_ap, mNotV_ap, mNeg_ap, mIf_ap, mNil_ap, mCons_ap, mTup_ap, mLst_ap, mCall_ap, one_ap, two_ap, sRet_ap, sDrop_ap, sIf_ap, sNext_ap, sAsg_ap, sPar_ap, sRaise_ap, gN_ap, sSeq_ap, rseq_nx, rseq_rt, rseq_exc, rout_nx, rout_rt, rout_exc, oAdd_i, oSub_i, oLt_i, oLe_i, oGt_i, oGe_i, bAbs_i, bInt_i, bInt_b, oEq_int, oNe_int, oEq_bl, oNe_bl, oEq_pr, oNe_pr, ix_t0, ix_t1, List.getElem?_cons_zero, List.getElem?_cons_succ, List.length_cons, List.length_nil, List.set_cons_zero, List.set_cons_succ, if_true, if_false, ite_true, ite_false, reduceIte, Nat.reduceAdd, Nat.reduceSub, Nat.zero_add, Bool.not_true, Bool.not_false, Bool.true_eq_false, Bool.false_eq_true, h]
/-! ### the greatest common divisor -/
theorem gcd_step (a b : Nat) : Nat.gcd b (a % b) = Nat.gcd a b := by
  rw [Nat.gcd_comm, ← Nat.gcd_rec, Nat.gcd_comm]
theorem wh_succ {t : MT} {b : MS} {n : Nat} {ρ : Ev} {S : Sto} : whS t b (n + 1) ρ S = ofR (t ρ S) ρ fun k S1 => if k = true then (match b ρ S1 with
      | .nx ρ' S' => whS t b n ρ' S'
      | .ct ρ' S' => whS t b n ρ' S'
      | .bk ρ' S' => .nx ρ' S'
      | r => r) else .nx ρ S1 := rfl
theorem wh_gcd (S : Sto) : ∀ (n a b : Nat), b < n → whS (mTest (mBin oNe (mVar 1) (mC (.int 0)))) (sPar (mCons (mVar 1) (mCons (mBin oMod (mVar 0) (mVar 1)) mNil)) 0 1) n [some (.int a), some (.int b)] S = .nx [some (.int (Nat.gcd a b)), some (.int 0)] S := by
  intro n
  induction n with
  | zero => intro a b h; omega
  | succ n ih =>
    intro a b h
    rw [wh_succ]
    by_cases e : b = 0
    · subst e
      simp only [bind_ok, bind_exc, oR_ap, ofR_ok, ofR_exc, bool1_bl, mVar_ap, mC_ap, mBin_ap, mTest_ap, mChain_ap, mTru_ap, dTru_bl, mAnd_ap, mOr_ap, mNot_ap, mAndV_ap, mNotV_ap, mNeg_ap, mIf_ap, mNil_ap, mCons_ap, mTup_ap, mLst_ap, mCall_ap, one_ap, two_ap, sRet_ap, sDrop_ap, sIf_ap, sNext_ap, sAsg_ap, sPar_ap, sRaise_ap, gN_ap, sSeq_ap, rseq_nx, rseq_rt, rseq_exc, rout_nx, rout_rt, rout_exc, oAdd_i, oSub_i, oLt_i, oLe_i, oGt_i, oGe_i, bAbs_i, bInt_i, bInt_b, oEq_int, oNe_int, oEq_bl, oNe_bl, oEq_pr, oNe_pr, ix_t0, ix_t1, List.getElem?_cons_zero, List.getElem?_cons_succ, List.length_cons, List.length_nil, List.set_cons_zero, List.set_cons_succ, if_true, if_false, ite_true, ite_false, reduceIte, Nat.reduceAdd, Nat.reduceSub, Nat.zero_add, Bool.not_true, Bool.not_false, Bool.true_eq_false, Bool.false_eq_true]
      rw [Nat.gcd_zero_right]
      rfl
    · have e1 : ((b : Int) == 0) = false := by
        rw [beq_eq_false_iff_ne]
        omega
      have e2 : (b : Int) ≠ 0 := by omega
      simp only [bind_ok, bind_exc, oR_ap, ofR_ok, ofR_exc, bool1_bl, mVar_ap, mC_ap, mBin_ap, mTest_ap, mChain_ap, mTru_ap, dTru_bl, mAnd_ap, mOr_ap, mNot_ap, mAndV_ap, mNotV_ap, mNeg_ap, mIf_ap, mNil_ap, mCons_ap, mTup_ap, mLst_ap, mCall_ap, one_ap, two_ap, sRet_ap, sDrop_ap, sIf_ap, sNext_ap, sAsg_ap, sPar_ap, sRaise_ap, gN_ap, sSeq_ap, rseq_nx, rseq_rt, rseq_exc, rout_nx, rout_rt, rout_exc, oAdd_i, oSub_i, oLt_i, oLe_i, oGt_i, oGe_i, bAbs_i, bInt_i, bInt_b, oEq_int, oNe_int, oEq_bl, oNe_bl, oEq_pr, oNe_pr, ix_t0, ix_t1, List.getElem?_cons_zero, List.getElem?_cons_succ, List.length_cons, List.length_nil, List.set_cons_zero, List.set_cons_succ, if_true, if_false, ite_true, ite_false, reduceIte, Nat.reduceAdd, Nat.reduceSub, Nat.zero_add, Bool.not_true, Bool.not_false, Bool.true_eq_false, Bool.false_eq_true, e1, oMod_i e2]
      rw [← Int.ofNat_fmod, ih b (a % b) (by have := Nat.mod_lt a (Nat.pos_of_ne_zero e); omega), gcd_step]
theorem big : 2 ^ 4000 < whF := by unfold whF; decide +kernel
theorem s_gcd {k : Nat} (hk : 1 ≤ k) (a b : Int) (S : Sto) (h : b.natAbs < 2 ^ 4000) : (Gk k).fn 2 [.int a, .int b] S = .ok (.int (Int.gcd a b)) S := by
  obtain ⟨k, rfl, hj⟩ := kk hk
  rw [ap_divisor]
  unfold m_divisor
  simp only [bind_ok, bind_exc, oR_ap, ofR_ok, ofR_exc, bool1_bl, mVar_ap, mC_ap, mBin_ap, mTest_ap, mChain_ap, mTru_ap, dTru_bl, mAnd_ap, mOr_ap, mNot_ap, mAndV_ap, mNotV_ap, mNeg_ap, mIf_ap, mNil_ap, mCons_ap, mTup_ap, mLst_ap, mCall_ap, one_ap, two_ap, sRet_ap, sDrop_ap, sIf_ap, sNext_ap, sAsg_ap, sPar_ap, sRaise_ap, gN_ap, sSeq_ap, rseq_nx, rseq_rt, rseq_exc, rout_nx, rout_rt, rout_exc, oAdd_i, oSub_i, oLt_i, oLe_i, oGt_i, oGe_i, bAbs_i, bInt_i, bInt_b, oEq_int, oNe_int, oEq_bl, oNe_bl, oEq_pr, oNe_pr, ix_t0, ix_t1, List.getElem?_cons_zero, List.getElem?_cons_succ, List.length_cons, List.length_nil, List.set_cons_zero, List.set_cons_succ, if_true, if_false, ite_true, ite_false, reduceIte, Nat.reduceAdd, Nat.reduceSub, Nat.zero_add, Bool.not_true, Bool.not_false, Bool.true_eq_false, Bool.false_eq_true]
  rw [wh_gcd S whF a.natAbs b.natAbs (Nat.lt_trans h big)]
  simp only [bind_ok, bind_exc, oR_ap, ofR_ok, ofR_exc, bool1_bl, mVar_ap, mC_ap, mBin_ap, mTest_ap, mChain_ap, mTru_ap, dTru_bl, mAnd_ap, mOr_ap, mNot_ap, mAndV_ap, mNotV_ap, mNeg_ap, mIf_ap, mNil_ap, mCons_ap, mTup_ap, mLst_ap, mCall_ap, one_ap, two_ap, sRet_ap, sDrop_ap, sIf_ap, sNext_ap, sAsg_ap, sPar_ap, sRaise_ap, gN_ap, sSeq_ap, rseq_nx, rseq_rt, rseq_exc, rout_nx, rout_rt, rout_exc, oAdd_i, oSub_i, oLt_i, oLe_i, oGt_i, oGe_i, bAbs_i, bInt_i, bInt_b, oEq_int, oNe_int, oEq_bl, oNe_bl, oEq_pr, oNe_pr, ix_t0, ix_t1, List.getElem?_cons_zero, List.getElem?_cons_succ, List.length_cons, List.length_nil, List.set_cons_zero, List.set_cons_succ, if_true, if_false, ite_true, ite_false, reduceIte, Nat.reduceAdd, Nat.reduceSub, Nat.zero_add, Bool.not_true, Bool.not_false, Bool.true_eq_false, Bool.false_eq_true]
  rfl
/-! ### the law's own -/
abbrev bdG : MS := sSeq (sIf (mTest (mBin oEq (mVar 1) (mC (.int 0)))) sBreak sNext) (sPar (mCons (mVar 1) (mCons (mBin oMod (mCall (one bInt) (mCons (mVar 0) mNil)) (mCall (one bInt) (mCons (mVar 1) mNil))) mNil)) 0 1)
theorem brk_ap {ρ : Ev} {S : Sto} : sBreak ρ S = .bk ρ S := rfl
theorem rseq_bk {ρ : Ev} {S : Sto} {b : MS} : (RS.bk ρ S).seq b = .bk ρ S := rfl
theorem for_succ {nxt : Nat → Sto → Option D} {fin : Nat → Sto → Bool} {f : D → Ev → Option Ev} {b : MS} {n i : Nat} {ρ : Ev} {S : Sto} : forX nxt fin f b (n + 1) i ρ S = match nxt i S with
    | some d => match f d ρ with
      | some ρ1 => match b ρ1 S with
        | .nx ρ' S' => forX nxt fin f b n (i + 1) ρ' S'
        | .ct ρ' S' => forX nxt fin f b n (i + 1) ρ' S'
        | .bk ρ' S' => .nx ρ' S'
        | r => r
      | none => .bad
    | none => .bad := rfl
theorem rg_nxt {lo : Int} {n i : Nat} {S : Sto} (h : i < n) : rgNxt lo n i S = some (.int (lo + (i : Nat))) := if_pos h
theorem lap_stop (S : Sto) (L i a : Nat) (e : Option D) (h : i < 4000) : ∃ e', forX (rgNxt 0 4000) (rgFin 4000) (gN 2) bdG (L + 1) i [some (.int a), some (.int 0), e] S = .nx [some (.int a), some (.int 0), e'] S := by
  refine ⟨some (.int (0 + (i : Nat))), ?_⟩
  rw [for_succ, rg_nxt h]
  simp only [bind_ok, bind_exc, oR_ap, ofR_ok, ofR_exc, bool1_bl, mVar_ap, mC_ap, mBin_ap, mTest_ap, mChain_ap, mTru_ap, dTru_bl, mAnd_ap, mOr_ap, mNot_ap, mAndV_ap, mNotV_ap, mNeg_ap, mIf_ap, mNil_ap, mCons_ap, mTup_ap, mLst_ap, mCall_ap, one_ap, two_ap, sRet_ap, sDrop_ap, sIf_ap, sNext_ap, sAsg_ap, sPar_ap, sRaise_ap, gN_ap, sSeq_ap, rseq_nx, rseq_rt, rseq_exc, rout_nx, rout_rt, rout_exc, oAdd_i, oSub_i, oLt_i, oLe_i, oGt_i, oGe_i, bAbs_i, bInt_i, bInt_b, oEq_int, oNe_int, oEq_bl, oNe_bl, oEq_pr, oNe_pr, ix_t0, ix_t1, List.getElem?_cons_zero, List.getElem?_cons_succ, List.length_cons, List.length_nil, List.set_cons_zero, List.set_cons_succ, if_true, if_false, ite_true, ite_false, reduceIte, Nat.reduceAdd, Nat.reduceSub, Nat.zero_add, Bool.not_true, Bool.not_false, Bool.true_eq_false, Bool.false_eq_true, oEq_int]
  simp only [brk_ap, rseq_bk, beq_self_eq_true]
  simp only [bind_ok, bind_exc, oR_ap, ofR_ok, ofR_exc, bool1_bl, mVar_ap, mC_ap, mBin_ap, mTest_ap, mChain_ap, mTru_ap, dTru_bl, mAnd_ap, mOr_ap, mNot_ap, mAndV_ap, mNotV_ap, mNeg_ap, mIf_ap, mNil_ap, mCons_ap, mTup_ap, mLst_ap, mCall_ap, one_ap, two_ap, sRet_ap, sDrop_ap, sIf_ap, sNext_ap, sAsg_ap, sPar_ap, sRaise_ap, gN_ap, sSeq_ap, rseq_nx, rseq_rt, rseq_exc, rout_nx, rout_rt, rout_exc, oAdd_i, oSub_i, oLt_i, oLe_i, oGt_i, oGe_i, bAbs_i, bInt_i, bInt_b, oEq_int, oNe_int, oEq_bl, oNe_bl, oEq_pr, oNe_pr, ix_t0, ix_t1, List.getElem?_cons_zero, List.getElem?_cons_succ, List.length_cons, List.length_nil, List.set_cons_zero, List.set_cons_succ, if_true, if_false, ite_true, ite_false, reduceIte, Nat.reduceAdd, Nat.reduceSub, Nat.zero_add, Bool.not_true, Bool.not_false, Bool.true_eq_false, Bool.false_eq_true]
  simp only [brk_ap, rseq_bk]
theorem lap_go (S : Sto) (L i a b : Nat) (e : Option D) (h : i < 4000) (hb : b ≠ 0) : ∃ e', forX (rgNxt 0 4000) (rgFin 4000) (gN 2) bdG (L + 1) i [some (.int a), some (.int b), e] S = forX (rgNxt 0 4000) (rgFin 4000) (gN 2) bdG L (i + 1) [some (.int b), some (.int (a % b : Nat)), e'] S := by
  refine ⟨some (.int (0 + (i : Nat))), ?_⟩
  have e1 : ((b : Int) == 0) = false := by
    rw [beq_eq_false_iff_ne]
    omega
  have e2 : (b : Int) ≠ 0 := by omega
  rw [for_succ, rg_nxt h]
  simp only [bind_ok, bind_exc, oR_ap, ofR_ok, ofR_exc, bool1_bl, mVar_ap, mC_ap, mBin_ap, mTest_ap, mChain_ap, mTru_ap, dTru_bl, mAnd_ap, mOr_ap, mNot_ap, mAndV_ap, mNotV_ap, mNeg_ap, mIf_ap, mNil_ap, mCons_ap, mTup_ap, mLst_ap, mCall_ap, one_ap, two_ap, sRet_ap, sDrop_ap, sIf_ap, sNext_ap, sAsg_ap, sPar_ap, sRaise_ap, gN_ap, sSeq_ap, rseq_nx, rseq_rt, rseq_exc, rout_nx, rout_rt, rout_exc, oAdd_i, oSub_i, oLt_i, oLe_i, oGt_i, oGe_i, bAbs_i, bInt_i, bInt_b, oEq_int, oNe_int, oEq_bl, oNe_bl, oEq_pr, oNe_pr, ix_t0, ix_t1, List.getElem?_cons_zero, List.getElem?_cons_succ, List.length_cons, List.length_nil, List.set_cons_zero, List.set_cons_succ, if_true, if_false, ite_true, ite_false, reduceIte, Nat.reduceAdd, Nat.reduceSub, Nat.zero_add, Bool.not_true, Bool.not_false, Bool.true_eq_false, Bool.false_eq_true, oEq_int, e1, oMod_i e2]
  rw [← Int.ofNat_fmod]
theorem for_gcd (S : Sto) : ∀ (m L i a b : Nat) (e : Option D), b < 2 ^ m → 2 * m + 1 ≤ L → i + L = 4000 → ∃ e', forX (rgNxt 0 4000) (rgFin 4000) (gN 2) bdG L i [some (.int a), some (.int b), e] S = .nx [some (.int (Nat.gcd a b)), some (.int 0), e'] S := by
  have stop : ∀ (L i a : Nat) (e : Option D), 1 ≤ L → i + L = 4000 → ∃ e', forX (rgNxt 0 4000) (rgFin 4000) (gN 2) bdG L i [some (.int a), some (.int (0 : Nat)), e] S = .nx [some (.int (Nat.gcd a 0)), some (.int 0), e'] S := by
    intro L i a e h1 h2
    obtain ⟨L, rfl⟩ : ∃ j, L = j + 1 := ⟨L - 1, by omega⟩
    rw [Nat.gcd_zero_right]
    exact lap_stop S L i a e (by omega)
  intro m
  induction m with
  | zero =>
    intro L i a b e h1 h2 h3
    have : b = 0 := by omega
    subst this
    exact stop L i a e (by omega) h3
  | succ m ih =>
    intro L i a b e h1 h2 h3
    by_cases hb : b = 0
    · subst hb
      exact stop L i a e (by omega) h3
    · obtain ⟨L, rfl⟩ : ∃ j, L = j + 1 := ⟨L - 1, by omega⟩
      obtain ⟨e1, z1⟩ := lap_go S L i a b e (by omega) hb
      rw [z1, ← gcd_step a b]
      have l1 := Nat.mod_lt a (Nat.pos_of_ne_zero hb)
      obtain ⟨r, hr⟩ : ∃ r, r = a % b := ⟨_, rfl⟩
      rw [← hr] at l1 ⊢
      by_cases hr0 : r = 0
      · rw [hr0]
        exact stop L (i + 1) b e1 (by omega) (by omega)
      · obtain ⟨L, rfl⟩ : ∃ j, L = j + 1 := ⟨L - 1, by omega⟩
        obtain ⟨e2, z2⟩ := lap_go S L (i + 1) b r e1 (by omega) hr0
        rw [z2, ← gcd_step b r]
        have l2 := Nat.mod_lt b (Nat.pos_of_ne_zero hr0)
        have l3 : b % r + r ≤ b := by
          have q1 := Nat.div_add_mod b r
          have q2 : 1 ≤ b / r := (Nat.one_le_div_iff (Nat.pos_of_ne_zero hr0)).mpr (Nat.le_of_lt l1)
          have q3 : r * 1 ≤ r * (b / r) := Nat.mul_le_mul_left r q2
          omega
        exact ih L (i + 1 + 1) r (b % r) e2 (by rw [Nat.pow_succ] at h1; omega) (by omega) (by omega)
theorem s_lgcd {k : Nat} (hk : 1 ≤ k) (a b : Int) (S : Sto) (h : b.natAbs < 2 ^ 1000) : (Gk k).fn 19 [.int a, .int b] S = .ok (.int (Int.gcd a b)) S := by
  obtain ⟨k, rfl, hj⟩ := kk hk
  rw [ap__law_divisor]
  unfold m__law_divisor
  simp only [bind_ok, bind_exc, oR_ap, ofR_ok, ofR_exc, bool1_bl, mVar_ap, mC_ap, mBin_ap, mTest_ap, mChain_ap, mTru_ap, dTru_bl, mAnd_ap, mOr_ap, mNot_ap, mAndV_ap, mNotV_ap, mNeg_ap, mIf_ap, mNil_ap, mCons_ap, mTup_ap, mLst_ap, mCall_ap, one_ap, two_ap, sRet_ap, sDrop_ap, sIf_ap, sNext_ap, sAsg_ap, sPar_ap, sRaise_ap, gN_ap, sSeq_ap, rseq_nx, rseq_rt, rseq_exc, rout_nx, rout_rt, rout_exc, oAdd_i, oSub_i, oLt_i, oLe_i, oGt_i, oGe_i, bAbs_i, bInt_i, bInt_b, oEq_int, oNe_int, oEq_bl, oNe_bl, oEq_pr, oNe_pr, ix_t0, ix_t1, List.getElem?_cons_zero, List.getElem?_cons_succ, List.length_cons, List.length_nil, List.set_cons_zero, List.set_cons_succ, if_true, if_false, ite_true, ite_false, reduceIte, Nat.reduceAdd, Nat.reduceSub, Nat.zero_add, Bool.not_true, Bool.not_false, Bool.true_eq_false, Bool.false_eq_true]
  obtain ⟨e', z⟩ := for_gcd S 1000 4000 0 a.natAbs b.natAbs none h (by omega) rfl
  have z2 : sForR (gN 2) (mCons (mC (.int 4000)) mNil) bdG [some (.int a.natAbs), some (.int b.natAbs), none] S = forX (rgNxt 0 4000) (rgFin 4000) (gN 2) bdG 4000 0 [some (.int a.natAbs), some (.int b.natAbs), none] S := rfl
  rw [z2, z]
  simp only [bind_ok, bind_exc, oR_ap, ofR_ok, ofR_exc, bool1_bl, mVar_ap, mC_ap, mBin_ap, mTest_ap, mChain_ap, mTru_ap, dTru_bl, mAnd_ap, mOr_ap, mNot_ap, mAndV_ap, mNotV_ap, mNeg_ap, mIf_ap, mNil_ap, mCons_ap, mTup_ap, mLst_ap, mCall_ap, one_ap, two_ap, sRet_ap, sDrop_ap, sIf_ap, sNext_ap, sAsg_ap, sPar_ap, sRaise_ap, gN_ap, sSeq_ap, rseq_nx, rseq_rt, rseq_exc, rout_nx, rout_rt, rout_exc, oAdd_i, oSub_i, oLt_i, oLe_i, oGt_i, oGe_i, bAbs_i, bInt_i, bInt_b, oEq_int, oNe_int, oEq_bl, oNe_bl, oEq_pr, oNe_pr, ix_t0, ix_t1, List.getElem?_cons_zero, List.getElem?_cons_succ, List.length_cons, List.length_nil, List.set_cons_zero, List.set_cons_succ, if_true, if_false, ite_true, ite_false, reduceIte, Nat.reduceAdd, Nat.reduceSub, Nat.zero_add, Bool.not_true, Bool.not_false, Bool.true_eq_false, Bool.false_eq_true]
  rfl
/-! ### fractions -/
def cm (t b : Int) : Int := if b < 0 then -(Int.gcd t b : Int) else (Int.gcd t b : Int)
def rat (t b : Int) : Int × Int := (t.fdiv (cm t b), b.fdiv (cm t b))
def pr (p : Int × Int) : D := .tup [.int p.1, .int p.2]
theorem gcd_le {t b : Int} (hb : b ≠ 0) : 0 < Int.gcd t b ∧ Int.gcd t b ≤ b.natAbs := by
  have h0 : 0 < b.natAbs := by omega
  exact ⟨Nat.gcd_pos_of_pos_right _ h0, Nat.gcd_le_right _ h0⟩
theorem cm_ne {t b : Int} (hb : b ≠ 0) : cm t b ≠ 0 ∧ (cm t b).natAbs ≤ b.natAbs := by
  obtain ⟨h1, h2⟩ := gcd_le (t := t) hb
  unfold cm
  split <;> constructor <;> omega
theorem s_ratio {k : Nat} (hk : 2 ≤ k) (t b : Int) (S : Sto) (hb : b ≠ 0) (h : b.natAbs < 2 ^ 1000) : (Gk k).fn 20 [.int t, .int b] S = .ok (pr (rat t b)) S := by
  obtain ⟨k, rfl, hj⟩ := kk hk
  rw [ap__law_ratio]
  unfold m__law_ratio
  obtain ⟨g1, g2⟩ := gcd_le (t := t) hb
  have c := cm_ne (t := t) hb
  have h' : (cm t b).natAbs < 2 ^ 4000 := Nat.lt_of_le_of_lt c.2 (Nat.lt_trans h (by decide +kernel))
  have e0 : mulOk (Int.gcd t b : Int) 1 = true := mulOk_of (Nat.lt_of_le_of_lt (by omega) (Nat.lt_trans h (by decide +kernel))) (by decide +kernel)
  have e0' : mulOk (Int.gcd t b : Int) (-1) = true := mulOk_of (Nat.lt_of_le_of_lt (by omega) (Nat.lt_trans h (by decide +kernel))) (by decide +kernel)
  by_cases hp : 0 < b
  · have e1 : (Int.gcd t b : Int) * 1 = cm t b := by
      unfold cm
      rw [if_neg (by omega), Int.mul_one]
    simp only [bind_ok, bind_exc, oR_ap, ofR_ok, ofR_exc, bool1_bl, mVar_ap, mC_ap, mBin_ap, mTest_ap, mChain_ap, mTru_ap, dTru_bl, mAnd_ap, mOr_ap, mNot_ap, mAndV_ap, mNotV_ap, mNeg_ap, mIf_ap, mNil_ap, mCons_ap, mTup_ap, mLst_ap, mCall_ap, one_ap, two_ap, sRet_ap, sDrop_ap, sIf_ap, sNext_ap, sAsg_ap, sPar_ap, sRaise_ap, gN_ap, sSeq_ap, rseq_nx, rseq_rt, rseq_exc, rout_nx, rout_rt, rout_exc, oAdd_i, oSub_i, oLt_i, oLe_i, oGt_i, oGe_i, bAbs_i, bInt_i, bInt_b, oEq_int, oNe_int, oEq_bl, oNe_bl, oEq_pr, oNe_pr, ix_t0, ix_t1, List.getElem?_cons_zero, List.getElem?_cons_succ, List.length_cons, List.length_nil, List.set_cons_zero, List.set_cons_succ, if_true, if_false, ite_true, ite_false, reduceIte, Nat.reduceAdd, Nat.reduceSub, Nat.zero_add, Bool.not_true, Bool.not_false, Bool.true_eq_false, Bool.false_eq_true, s_lgcd hj t b S h, decide_eq_true hp, oMul_i e0, e1, oFdiv_i (divOk_of c.1 h'), tupD_2 (show noClo (.int (t.fdiv (cm t b))) = true from rfl) (show noClo (.int (b.fdiv (cm t b))) = true from rfl)]
    rfl
  · have e1 : (Int.gcd t b : Int) * (-1) = cm t b := by
      unfold cm
      rw [if_pos (by omega)]
      omega
    have e2 : (0 : Int) - 1 = -1 := rfl
    simp only [bind_ok, bind_exc, oR_ap, ofR_ok, ofR_exc, bool1_bl, mVar_ap, mC_ap, mBin_ap, mTest_ap, mChain_ap, mTru_ap, dTru_bl, mAnd_ap, mOr_ap, mNot_ap, mAndV_ap, mNotV_ap, mNeg_ap, mIf_ap, mNil_ap, mCons_ap, mTup_ap, mLst_ap, mCall_ap, one_ap, two_ap, sRet_ap, sDrop_ap, sIf_ap, sNext_ap, sAsg_ap, sPar_ap, sRaise_ap, gN_ap, sSeq_ap, rseq_nx, rseq_rt, rseq_exc, rout_nx, rout_rt, rout_exc, oAdd_i, oSub_i, oLt_i, oLe_i, oGt_i, oGe_i, bAbs_i, bInt_i, bInt_b, oEq_int, oNe_int, oEq_bl, oNe_bl, oEq_pr, oNe_pr, ix_t0, ix_t1, List.getElem?_cons_zero, List.getElem?_cons_succ, List.length_cons, List.length_nil, List.set_cons_zero, List.set_cons_succ, if_true, if_false, ite_true, ite_false, reduceIte, Nat.reduceAdd, Nat.reduceSub, Nat.zero_add, Bool.not_true, Bool.not_false, Bool.true_eq_false, Bool.false_eq_true, s_lgcd hj t b S h, decide_eq_false hp, e2, oMul_i e0', e1, oFdiv_i (divOk_of c.1 h'), tupD_2 (show noClo (.int (t.fdiv (cm t b))) = true from rfl) (show noClo (.int (b.fdiv (cm t b))) = true from rfl)]
    rfl
theorem great : (2 : Int) ^ 1000 < Int.ofNat (1 * 10 ^ 10000) := by decide +kernel
theorem s_reduced {k : Nat} (hk : 2 ≤ k) (t b : Int) (S : Sto) (hb : b ≠ 0) (ht : t.natAbs < 2 ^ 1000) (h : b.natAbs < 2 ^ 1000) : (Gk k).fn 3 [.int t, .int b] S = .ok (pr (rat t b)) S := by
  obtain ⟨k, rfl, hj⟩ := kk hk
  rw [ap_reduced]
  unfold m_reduced
  have gr := great
  generalize Int.ofNat (1 * 10 ^ 10000) = B at gr ⊢
  have z1 : ¬ B < (t.natAbs : Int) := by
    have q : (t.natAbs : Int) < 2 ^ 1000 := by exact_mod_cast ht
    omega
  have z2 : ¬ B < (b.natAbs : Int) := by
    have q : (b.natAbs : Int) < 2 ^ 1000 := by exact_mod_cast h
    omega
  obtain ⟨g1, g2⟩ := gcd_le (t := t) hb
  have c := cm_ne (t := t) hb
  have h4 : b.natAbs < 2 ^ 4000 := Nat.lt_trans h (by decide +kernel)
  have h' : (cm t b).natAbs < 2 ^ 4000 := Nat.lt_of_le_of_lt c.2 h4
  by_cases hp : b < 0
  · have e1 : -(Int.gcd t b : Int) = cm t b := by
      unfold cm
      rw [if_pos hp]
    simp only [bind_ok, bind_exc, oR_ap, ofR_ok, ofR_exc, bool1_bl, mVar_ap, mC_ap, mBin_ap, mTest_ap, mChain_ap, mTru_ap, dTru_bl, mAnd_ap, mOr_ap, mNot_ap, mAndV_ap, mNotV_ap, mNeg_ap, mIf_ap, mNil_ap, mCons_ap, mTup_ap, mLst_ap, mCall_ap, one_ap, two_ap, sRet_ap, sDrop_ap, sIf_ap, sNext_ap, sAsg_ap, sPar_ap, sRaise_ap, gN_ap, sSeq_ap, rseq_nx, rseq_rt, rseq_exc, rout_nx, rout_rt, rout_exc, oAdd_i, oSub_i, oLt_i, oLe_i, oGt_i, oGe_i, bAbs_i, bInt_i, bInt_b, oEq_int, oNe_int, oEq_bl, oNe_bl, oEq_pr, oNe_pr, ix_t0, ix_t1, List.getElem?_cons_zero, List.getElem?_cons_succ, List.length_cons, List.length_nil, List.set_cons_zero, List.set_cons_succ, if_true, if_false, ite_true, ite_false, reduceIte, Nat.reduceAdd, Nat.reduceSub, Nat.zero_add, Bool.not_true, Bool.not_false, Bool.true_eq_false, Bool.false_eq_true, decide_eq_false z1, decide_eq_false z2, s_gcd hj t b S h4, decide_eq_true hp, e1, oFdiv_i (divOk_of c.1 h'), tupD_2 (show noClo (.int (t.fdiv (cm t b))) = true from rfl) (show noClo (.int (b.fdiv (cm t b))) = true from rfl)]
    rfl
  · have e1 : (Int.gcd t b : Int) = cm t b := by
      unfold cm
      rw [if_neg hp]
    simp only [bind_ok, bind_exc, oR_ap, ofR_ok, ofR_exc, bool1_bl, mVar_ap, mC_ap, mBin_ap, mTest_ap, mChain_ap, mTru_ap, dTru_bl, mAnd_ap, mOr_ap, mNot_ap, mAndV_ap, mNotV_ap, mNeg_ap, mIf_ap, mNil_ap, mCons_ap, mTup_ap, mLst_ap, mCall_ap, one_ap, two_ap, sRet_ap, sDrop_ap, sIf_ap, sNext_ap, sAsg_ap, sPar_ap, sRaise_ap, gN_ap, sSeq_ap, rseq_nx, rseq_rt, rseq_exc, rout_nx, rout_rt, rout_exc, oAdd_i, oSub_i, oLt_i, oLe_i, oGt_i, oGe_i, bAbs_i, bInt_i, bInt_b, oEq_int, oNe_int, oEq_bl, oNe_bl, oEq_pr, oNe_pr, ix_t0, ix_t1, List.getElem?_cons_zero, List.getElem?_cons_succ, List.length_cons, List.length_nil, List.set_cons_zero, List.set_cons_succ, if_true, if_false, ite_true, ite_false, reduceIte, Nat.reduceAdd, Nat.reduceSub, Nat.zero_add, Bool.not_true, Bool.not_false, Bool.true_eq_false, Bool.false_eq_true, decide_eq_false z1, decide_eq_false z2, s_gcd hj t b S h4, decide_eq_false hp, e1, oFdiv_i (divOk_of c.1 h'), tupD_2 (show noClo (.int (t.fdiv (cm t b))) = true from rfl) (show noClo (.int (b.fdiv (cm t b))) = true from rfl)]
    rfl

end K30
set_option Elab.async false
set_option linter.all false
set_option maxRecDepth 100000
set_option maxHeartbeats 2000000
namespace K30
open PySem L2 Vi
/-! ### what fractions are -/
def Can (p : Int × Int) : Prop := 0 < p.2 ∧ Int.gcd p.1 p.2 = 1
theorem cm_sq {t b : Int} : cm t b = Int.gcd t b ∨ cm t b = -(Int.gcd t b : Int) := by
  unfold cm
  split
  · exact .inr rfl
  · exact .inl rfl
theorem rat_mul {t b : Int} (hb : b ≠ 0) : (rat t b).1 * cm t b = t ∧ (rat t b).2 * cm t b = b := by
  have d1 : cm t b ∣ t := by
    rcases cm_sq (t := t) (b := b) with e | e <;> rw [e]
    · exact Int.gcd_dvd_left ..
    · exact Int.neg_dvd.mpr (Int.gcd_dvd_left ..)
  have d2 : cm t b ∣ b := by
    rcases cm_sq (t := t) (b := b) with e | e <;> rw [e]
    · exact Int.gcd_dvd_right ..
    · exact Int.neg_dvd.mpr (Int.gcd_dvd_right ..)
  unfold rat
  dsimp only
  rw [Int.fdiv_eq_ediv_of_dvd d1, Int.fdiv_eq_ediv_of_dvd d2]
  exact ⟨Int.ediv_mul_cancel d1, Int.ediv_mul_cancel d2⟩
theorem rat_can {t b : Int} (hb : b ≠ 0) : Can (rat t b) ∧ (rat t b).1 * b = t * (rat t b).2 := by
  obtain ⟨h1, h2⟩ := rat_mul (t := t) hb
  have hc := (cm_ne (t := t) hb).1
  have hg := (gcd_le (t := t) hb).1
  unfold Can
  generalize (rat t b).1 = p at h1 ⊢
  generalize (rat t b).2 = q at h2 ⊢
  refine ⟨⟨?_, ?_⟩, ?_⟩
  · unfold cm at h2
    split at h2
    · rename_i hb'
      by_cases q0 : 0 < q
      · exact q0
      · have z : 0 ≤ (-q) * (Int.gcd t b : Int) := Int.mul_nonneg (by omega) (by omega)
        have z2 : (-q) * (Int.gcd t b : Int) = q * -(Int.gcd t b : Int) := by grind
        omega
    · rename_i hb'
      by_cases q0 : 0 < q
      · exact q0
      · have z : 0 ≤ (-q) * (Int.gcd t b : Int) := Int.mul_nonneg (by omega) (by omega)
        have z2 : (-q) * (Int.gcd t b : Int) = -(q * (Int.gcd t b : Int)) := by grind
        omega
  · have z : Int.gcd (p * cm t b) (q * cm t b) = Int.gcd p q * (cm t b).natAbs := Int.gcd_mul_right ..
    rw [h1, h2] at z
    have z2 : (cm t b).natAbs = Int.gcd t b := by
      rcases cm_sq (t := t) (b := b) with e | e <;> rw [e] <;> omega
    rw [z2] at z
    have z3 : 1 * Int.gcd t b = Int.gcd p q * Int.gcd t b := by rw [Nat.one_mul]; exact z
    exact (Nat.eq_of_mul_eq_mul_right hg z3).symm
  · have e : p * (q * cm t b) = (p * cm t b) * q := by grind
    rw [h1, h2] at e
    exact e
theorem can_eq {p q : Int × Int} (hp : Can p) (hq : Can q) (h : p.1 * q.2 = q.1 * p.2) : p = q := by
  obtain ⟨a, b⟩ := p
  obtain ⟨c, d⟩ := q
  obtain ⟨h1, h2⟩ := hp
  obtain ⟨h3, h4⟩ := hq
  dsimp only at h1 h2 h3 h4 h
  have hn : a.natAbs * d.natAbs = c.natAbs * b.natAbs := by rw [← Int.natAbs_mul, ← Int.natAbs_mul, h]
  have c1 : Nat.Coprime b.natAbs a.natAbs := Nat.Coprime.symm (show Nat.gcd a.natAbs b.natAbs = 1 from h2)
  have c2 : Nat.Coprime d.natAbs c.natAbs := Nat.Coprime.symm (show Nat.gcd c.natAbs d.natAbs = 1 from h4)
  have d1 : b.natAbs ∣ d.natAbs := c1.dvd_of_dvd_mul_left ⟨c.natAbs, by rw [hn, Nat.mul_comm]⟩
  have d2 : d.natAbs ∣ b.natAbs := c2.dvd_of_dvd_mul_left ⟨a.natAbs, by rw [← hn, Nat.mul_comm]⟩
  have e := Nat.dvd_antisymm d1 d2
  have e2 : b = d := by omega
  subst e2
  have e3 : a = c := Int.eq_of_mul_eq_mul_right (by omega) h
  rw [e3]
theorem rat_eq {t b : Int} {p : Int × Int} (hb : b ≠ 0) (hp : Can p) (h : t * p.2 = p.1 * b) : rat t b = p := by
  obtain ⟨h1, h2⟩ := rat_can (t := t) hb
  refine can_eq h1 hp ?_
  have e : ((rat t b).1 * p.2) * b = (p.1 * (rat t b).2) * b := by
    have e1 : ((rat t b).1 * p.2) * b = ((rat t b).1 * b) * p.2 := by grind
    have e2 : (p.1 * (rat t b).2) * b = (p.1 * b) * (rat t b).2 := by grind
    rw [e1, e2, h2, ← h]
    grind
  exact Int.eq_of_mul_eq_mul_right hb e
theorem rat_cross {t b t' b' : Int} (hb : b ≠ 0) (hb' : b' ≠ 0) (h : t * b' = t' * b) : rat t b = rat t' b' := by
  obtain ⟨h1, h2⟩ := rat_can (t := t') hb'
  refine rat_eq hb h1 ?_
  have e : (t * (rat t' b').2) * b' = ((rat t' b').1 * b) * b' := by
    have e1 : (t * (rat t' b').2) * b' = (t * b') * (rat t' b').2 := by grind
    have e2 : ((rat t' b').1 * b) * b' = ((rat t' b').1 * b') * b := by grind
    rw [e1, e2, h2, h]
    grind
  exact Int.eq_of_mul_eq_mul_right hb' e
theorem rat_le {t b : Int} (hb : b ≠ 0) : (rat t b).1.natAbs ≤ t.natAbs ∧ (rat t b).2.natAbs ≤ b.natAbs := by
  obtain ⟨h1, h2⟩ := rat_mul (t := t) hb
  have hc := (cm_ne (t := t) hb).1
  have z : 1 ≤ (cm t b).natAbs := by omega
  constructor
  · have e : (rat t b).1.natAbs * (cm t b).natAbs = t.natAbs := by rw [← Int.natAbs_mul, h1]
    have := Nat.mul_le_mul_left (rat t b).1.natAbs z
    omega
  · have e : (rat t b).2.natAbs * (cm t b).natAbs = b.natAbs := by rw [← Int.natAbs_mul, h2]
    have := Nat.mul_le_mul_left (rat t b).2.natAbs z
    omega
/-! ### sizes -/
def Bd (x : Int) : Prop := x.natAbs < 2 ^ 400
def Bd2 (p : Int × Int) : Prop := Bd p.1 ∧ Bd p.2
theorem Bd.m4 {x : Int} (h : Bd x) : x.natAbs < 2 ^ 4000 := Nat.lt_trans h (by decide +kernel)
theorem mul_lt {x y : Int} (hx : Bd x) (hy : Bd y) : (x * y).natAbs < 2 ^ 800 := by
  rw [Int.natAbs_mul]
  have e : (2 : Nat) ^ 800 = 2 ^ 400 * 2 ^ 400 := by decide +kernel
  rw [e]
  exact Nat.mul_lt_mul_of_lt_of_lt hx hy
theorem mul_lt1 {x y : Int} (hx : Bd x) (hy : Bd y) : (x * y).natAbs < 2 ^ 1000 := Nat.lt_trans (mul_lt hx hy) (by decide +kernel)
theorem add_lt {x y z w : Int} (hx : Bd x) (hy : Bd y) (hz : Bd z) (hw : Bd w) : (x * y + z * w).natAbs < 2 ^ 1000 := by
  have h1 := mul_lt hx hy
  have h2 := mul_lt hz hw
  have h3 : (x * y + z * w).natAbs ≤ (x * y).natAbs + (z * w).natAbs := Int.natAbs_add_le ..
  have e : (2 : Nat) ^ 800 + 2 ^ 800 ≤ 2 ^ 1000 := by decide +kernel
  exact Nat.lt_of_le_of_lt h3 (Nat.lt_of_lt_of_le (Nat.add_lt_add h1 h2) e)
theorem ok_mul {x y : Int} (hx : Bd x) (hy : Bd y) : mulOk x y = true := mulOk_of hx.m4 hy.m4
/-! ### the program's -/
def isN (p : Int × Int) : Bool := ((decide (-1000000000 ≤ p.1) && decide (p.1 ≤ 1000000000)) && (decide (1 ≤ p.2) && decide (p.2 ≤ 1000000000))) && ((Int.gcd p.1 p.2 : Int) == 1)
theorem isN_can {p : Int × Int} (h : isN p = true) : Can p ∧ Bd2 p ∧ p.1.natAbs ≤ 1000000000 ∧ p.2.natAbs ≤ 1000000000 := by
  unfold isN at h
  simp only [Bool.and_eq_true, decide_eq_true_eq, beq_iff_eq] at h
  obtain ⟨⟨⟨h1, h2⟩, h3, h4⟩, h5⟩ := h
  have e : 1000000000 < 2 ^ 400 := by decide +kernel
  exact ⟨⟨by omega, by omega⟩, ⟨Nat.lt_of_le_of_lt (show p.1.natAbs ≤ 1000000000 by omega) e, Nat.lt_of_le_of_lt (show p.2.natAbs ≤ 1000000000 by omega) e⟩, by omega, by omega⟩
theorem s_isnum {k : Nat} (hk : 2 ≤ k) (p : Int × Int) (S : Sto) : (Gk k).fn 4 [pr p] S = .ok (.bl (isN p)) S := by
  obtain ⟨k, rfl, hj⟩ := kk hk
  obtain ⟨x, y⟩ := p
  unfold pr isN
  rw [ap_is_number]
  unfold m_is_number
  simp only [bind_ok, bind_exc, oR_ap, ofR_ok, ofR_exc, bool1_bl, mVar_ap, mC_ap, mBin_ap, mTest_ap, mChain_ap, mTru_ap, dTru_bl, mAnd_ap, mOr_ap, mNot_ap, mAndV_ap, mNotV_ap, mNeg_ap, mIf_ap, mNil_ap, mCons_ap, mTup_ap, mLst_ap, mCall_ap, one_ap, two_ap, sRet_ap, sDrop_ap, sIf_ap, sNext_ap, sAsg_ap, sPar_ap, sRaise_ap, gN_ap, sSeq_ap, rseq_nx, rseq_rt, rseq_exc, rout_nx, rout_rt, rout_exc, oAdd_i, oSub_i, oLt_i, oLe_i, oGt_i, oGe_i, bAbs_i, bInt_i, bInt_b, oEq_int, oNe_int, oEq_bl, oNe_bl, oEq_pr, oNe_pr, ix_t0, ix_t1, List.getElem?_cons_zero, List.getElem?_cons_succ, List.length_cons, List.length_nil, List.set_cons_zero, List.set_cons_succ, if_true, if_false, ite_true, ite_false, reduceIte, Nat.reduceAdd, Nat.reduceSub, Nat.zero_add, Bool.not_true, Bool.not_false, Bool.true_eq_false, Bool.false_eq_true, s_tup hj, s_int hj, decide_true]
  cases e1 : (decide (-1000000000 ≤ x) && decide (x ≤ 1000000000)) with
  | false => simp only [bind_ok, bind_exc, oR_ap, ofR_ok, ofR_exc, bool1_bl, mVar_ap, mC_ap, mBin_ap, mTest_ap, mChain_ap, mTru_ap, dTru_bl, mAnd_ap, mOr_ap, mNot_ap, mAndV_ap, mNotV_ap, mNeg_ap, mIf_ap, mNil_ap, mCons_ap, mTup_ap, mLst_ap, mCall_ap, one_ap, two_ap, sRet_ap, sDrop_ap, sIf_ap, sNext_ap, sAsg_ap, sPar_ap, sRaise_ap, gN_ap, sSeq_ap, rseq_nx, rseq_rt, rseq_exc, rout_nx, rout_rt, rout_exc, oAdd_i, oSub_i, oLt_i, oLe_i, oGt_i, oGe_i, bAbs_i, bInt_i, bInt_b, oEq_int, oNe_int, oEq_bl, oNe_bl, oEq_pr, oNe_pr, ix_t0, ix_t1, List.getElem?_cons_zero, List.getElem?_cons_succ, List.length_cons, List.length_nil, List.set_cons_zero, List.set_cons_succ, if_true, if_false, ite_true, ite_false, reduceIte, Nat.reduceAdd, Nat.reduceSub, Nat.zero_add, Bool.not_true, Bool.not_false, Bool.true_eq_false, Bool.false_eq_true, Bool.false_and]
  | true =>
    simp only [bind_ok, bind_exc, oR_ap, ofR_ok, ofR_exc, bool1_bl, mVar_ap, mC_ap, mBin_ap, mTest_ap, mChain_ap, mTru_ap, dTru_bl, mAnd_ap, mOr_ap, mNot_ap, mAndV_ap, mNotV_ap, mNeg_ap, mIf_ap, mNil_ap, mCons_ap, mTup_ap, mLst_ap, mCall_ap, one_ap, two_ap, sRet_ap, sDrop_ap, sIf_ap, sNext_ap, sAsg_ap, sPar_ap, sRaise_ap, gN_ap, sSeq_ap, rseq_nx, rseq_rt, rseq_exc, rout_nx, rout_rt, rout_exc, oAdd_i, oSub_i, oLt_i, oLe_i, oGt_i, oGe_i, bAbs_i, bInt_i, bInt_b, oEq_int, oNe_int, oEq_bl, oNe_bl, oEq_pr, oNe_pr, ix_t0, ix_t1, List.getElem?_cons_zero, List.getElem?_cons_succ, List.length_cons, List.length_nil, List.set_cons_zero, List.set_cons_succ, if_true, if_false, ite_true, ite_false, reduceIte, Nat.reduceAdd, Nat.reduceSub, Nat.zero_add, Bool.not_true, Bool.not_false, Bool.true_eq_false, Bool.false_eq_true, Bool.true_and]
    cases e2 : (decide (1 ≤ y) && decide (y ≤ 1000000000)) with
    | false => simp only [bind_ok, bind_exc, oR_ap, ofR_ok, ofR_exc, bool1_bl, mVar_ap, mC_ap, mBin_ap, mTest_ap, mChain_ap, mTru_ap, dTru_bl, mAnd_ap, mOr_ap, mNot_ap, mAndV_ap, mNotV_ap, mNeg_ap, mIf_ap, mNil_ap, mCons_ap, mTup_ap, mLst_ap, mCall_ap, one_ap, two_ap, sRet_ap, sDrop_ap, sIf_ap, sNext_ap, sAsg_ap, sPar_ap, sRaise_ap, gN_ap, sSeq_ap, rseq_nx, rseq_rt, rseq_exc, rout_nx, rout_rt, rout_exc, oAdd_i, oSub_i, oLt_i, oLe_i, oGt_i, oGe_i, bAbs_i, bInt_i, bInt_b, oEq_int, oNe_int, oEq_bl, oNe_bl, oEq_pr, oNe_pr, ix_t0, ix_t1, List.getElem?_cons_zero, List.getElem?_cons_succ, List.length_cons, List.length_nil, List.set_cons_zero, List.set_cons_succ, if_true, if_false, ite_true, ite_false, reduceIte, Nat.reduceAdd, Nat.reduceSub, Nat.zero_add, Bool.not_true, Bool.not_false, Bool.true_eq_false, Bool.false_eq_true, Bool.false_and]
    | true =>
      simp only [Bool.and_eq_true, decide_eq_true_eq] at e2
      simp only [bind_ok, bind_exc, oR_ap, ofR_ok, ofR_exc, bool1_bl, mVar_ap, mC_ap, mBin_ap, mTest_ap, mChain_ap, mTru_ap, dTru_bl, mAnd_ap, mOr_ap, mNot_ap, mAndV_ap, mNotV_ap, mNeg_ap, mIf_ap, mNil_ap, mCons_ap, mTup_ap, mLst_ap, mCall_ap, one_ap, two_ap, sRet_ap, sDrop_ap, sIf_ap, sNext_ap, sAsg_ap, sPar_ap, sRaise_ap, gN_ap, sSeq_ap, rseq_nx, rseq_rt, rseq_exc, rout_nx, rout_rt, rout_exc, oAdd_i, oSub_i, oLt_i, oLe_i, oGt_i, oGe_i, bAbs_i, bInt_i, bInt_b, oEq_int, oNe_int, oEq_bl, oNe_bl, oEq_pr, oNe_pr, ix_t0, ix_t1, List.getElem?_cons_zero, List.getElem?_cons_succ, List.length_cons, List.length_nil, List.set_cons_zero, List.set_cons_succ, if_true, if_false, ite_true, ite_false, reduceIte, Nat.reduceAdd, Nat.reduceSub, Nat.zero_add, Bool.not_true, Bool.not_false, Bool.true_eq_false, Bool.false_eq_true, s_gcd hj x y S (Nat.lt_of_le_of_lt (show y.natAbs ≤ 1000000000 by omega) (by decide +kernel)), Bool.true_and]
theorem s_check {k : Nat} (hk : 3 ≤ k) (d : D) (S : Sto) (h : (Gk (k - 1)).fn 4 [d] S = .ok (.bl true) S) : (Gk k).fn 5 [d] S = .ok .non S := by
  obtain ⟨k, rfl, hj⟩ := kk hk
  rw [ap_check_number]
  unfold m_check_number
  rw [Nat.add_sub_cancel] at h
  simp only [bind_ok, bind_exc, oR_ap, ofR_ok, ofR_exc, bool1_bl, mVar_ap, mC_ap, mBin_ap, mTest_ap, mChain_ap, mTru_ap, dTru_bl, mAnd_ap, mOr_ap, mNot_ap, mAndV_ap, mNotV_ap, mNeg_ap, mIf_ap, mNil_ap, mCons_ap, mTup_ap, mLst_ap, mCall_ap, one_ap, two_ap, sRet_ap, sDrop_ap, sIf_ap, sNext_ap, sAsg_ap, sPar_ap, sRaise_ap, gN_ap, sSeq_ap, rseq_nx, rseq_rt, rseq_exc, rout_nx, rout_rt, rout_exc, oAdd_i, oSub_i, oLt_i, oLe_i, oGt_i, oGe_i, bAbs_i, bInt_i, bInt_b, oEq_int, oNe_int, oEq_bl, oNe_bl, oEq_pr, oNe_pr, ix_t0, ix_t1, List.getElem?_cons_zero, List.getElem?_cons_succ, List.length_cons, List.length_nil, List.set_cons_zero, List.set_cons_succ, if_true, if_false, ite_true, ite_false, reduceIte, Nat.reduceAdd, Nat.reduceSub, Nat.zero_add, Bool.not_true, Bool.not_false, Bool.true_eq_false, Bool.false_eq_true, h]
theorem s_check_bad {k : Nat} (hk : 3 ≤ k) (d : D) (S : Sto) (h : (Gk (k - 1)).fn 4 [d] S = .ok (.bl false) S) (hn : noClo d = true) : (Gk k).fn 5 [d] S = .exc 0 d S := by
  obtain ⟨k, rfl, hj⟩ := kk hk
  rw [ap_check_number]
  unfold m_check_number
  rw [Nat.add_sub_cancel] at h
  simp only [bind_ok, bind_exc, oR_ap, ofR_ok, ofR_exc, bool1_bl, mVar_ap, mC_ap, mBin_ap, mTest_ap, mChain_ap, mTru_ap, dTru_bl, mAnd_ap, mOr_ap, mNot_ap, mAndV_ap, mNotV_ap, mNeg_ap, mIf_ap, mNil_ap, mCons_ap, mTup_ap, mLst_ap, mCall_ap, one_ap, two_ap, sRet_ap, sDrop_ap, sIf_ap, sNext_ap, sAsg_ap, sPar_ap, sRaise_ap, gN_ap, sSeq_ap, rseq_nx, rseq_rt, rseq_exc, rout_nx, rout_rt, rout_exc, oAdd_i, oSub_i, oLt_i, oLe_i, oGt_i, oGe_i, bAbs_i, bInt_i, bInt_b, oEq_int, oNe_int, oEq_bl, oNe_bl, oEq_pr, oNe_pr, ix_t0, ix_t1, List.getElem?_cons_zero, List.getElem?_cons_succ, List.length_cons, List.length_nil, List.set_cons_zero, List.set_cons_succ, if_true, if_false, ite_true, ite_false, reduceIte, Nat.reduceAdd, Nat.reduceSub, Nat.zero_add, Bool.not_true, Bool.not_false, Bool.true_eq_false, Bool.false_eq_true, h, hn]
def sumr (p q : Int × Int) : Int × Int := rat (p.1 * q.2 + q.1 * p.2) (p.2 * q.2)
def prdr (p q : Int × Int) : Int × Int := rat (p.1 * q.1) (p.2 * q.2)
def quor (p q : Int × Int) : Int × Int := rat (p.1 * q.2) (p.2 * q.1)
theorem s_plus {k : Nat} (hk : 3 ≤ k) (p q : Int × Int) (S : Sto) (hp : Bd2 p) (hq : Bd2 q) (h1 : p.2 ≠ 0) (h2 : q.2 ≠ 0) : (Gk k).fn 6 [pr p, pr q] S = .ok (pr (sumr p q)) S := by
  obtain ⟨k, rfl, hj⟩ := kk hk
  show (Gk (k + 1)).fn 6 [.tup [.int p.1, .int p.2], .tup [.int q.1, .int q.2]] S = _
  rw [ap_plus]
  unfold m_plus
  simp only [bind_ok, bind_exc, oR_ap, ofR_ok, ofR_exc, bool1_bl, mVar_ap, mC_ap, mBin_ap, mTest_ap, mChain_ap, mTru_ap, dTru_bl, mAnd_ap, mOr_ap, mNot_ap, mAndV_ap, mNotV_ap, mNeg_ap, mIf_ap, mNil_ap, mCons_ap, mTup_ap, mLst_ap, mCall_ap, one_ap, two_ap, sRet_ap, sDrop_ap, sIf_ap, sNext_ap, sAsg_ap, sPar_ap, sRaise_ap, gN_ap, sSeq_ap, rseq_nx, rseq_rt, rseq_exc, rout_nx, rout_rt, rout_exc, oAdd_i, oSub_i, oLt_i, oLe_i, oGt_i, oGe_i, bAbs_i, bInt_i, bInt_b, oEq_int, oNe_int, oEq_bl, oNe_bl, oEq_pr, oNe_pr, ix_t0, ix_t1, List.getElem?_cons_zero, List.getElem?_cons_succ, List.length_cons, List.length_nil, List.set_cons_zero, List.set_cons_succ, if_true, if_false, ite_true, ite_false, reduceIte, Nat.reduceAdd, Nat.reduceSub, Nat.zero_add, Bool.not_true, Bool.not_false, Bool.true_eq_false, Bool.false_eq_true, oMul_i (ok_mul hp.1 hq.2), oMul_i (ok_mul hq.1 hp.2), oMul_i (ok_mul hp.2 hq.2), s_reduced hj _ _ S (Int.mul_ne_zero h1 h2) (add_lt hp.1 hq.2 hq.1 hp.2) (mul_lt1 hp.2 hq.2)]
  rfl
theorem s_product {k : Nat} (hk : 3 ≤ k) (p q : Int × Int) (S : Sto) (hp : Bd2 p) (hq : Bd2 q) (h1 : p.2 ≠ 0) (h2 : q.2 ≠ 0) : (Gk k).fn 7 [pr p, pr q] S = .ok (pr (prdr p q)) S := by
  obtain ⟨k, rfl, hj⟩ := kk hk
  show (Gk (k + 1)).fn 7 [.tup [.int p.1, .int p.2], .tup [.int q.1, .int q.2]] S = _
  rw [ap_product]
  unfold m_product
  simp only [bind_ok, bind_exc, oR_ap, ofR_ok, ofR_exc, bool1_bl, mVar_ap, mC_ap, mBin_ap, mTest_ap, mChain_ap, mTru_ap, dTru_bl, mAnd_ap, mOr_ap, mNot_ap, mAndV_ap, mNotV_ap, mNeg_ap, mIf_ap, mNil_ap, mCons_ap, mTup_ap, mLst_ap, mCall_ap, one_ap, two_ap, sRet_ap, sDrop_ap, sIf_ap, sNext_ap, sAsg_ap, sPar_ap, sRaise_ap, gN_ap, sSeq_ap, rseq_nx, rseq_rt, rseq_exc, rout_nx, rout_rt, rout_exc, oAdd_i, oSub_i, oLt_i, oLe_i, oGt_i, oGe_i, bAbs_i, bInt_i, bInt_b, oEq_int, oNe_int, oEq_bl, oNe_bl, oEq_pr, oNe_pr, ix_t0, ix_t1, List.getElem?_cons_zero, List.getElem?_cons_succ, List.length_cons, List.length_nil, List.set_cons_zero, List.set_cons_succ, if_true, if_false, ite_true, ite_false, reduceIte, Nat.reduceAdd, Nat.reduceSub, Nat.zero_add, Bool.not_true, Bool.not_false, Bool.true_eq_false, Bool.false_eq_true, oMul_i (ok_mul hp.1 hq.1), oMul_i (ok_mul hp.2 hq.2), s_reduced hj _ _ S (Int.mul_ne_zero h1 h2) (mul_lt1 hp.1 hq.1) (mul_lt1 hp.2 hq.2)]
  rfl
theorem s_quotient {k : Nat} (hk : 3 ≤ k) (p q : Int × Int) (S : Sto) (hp : Bd2 p) (hq : Bd2 q) (h1 : p.2 ≠ 0) (h2 : q.1 ≠ 0) : (Gk k).fn 8 [pr p, pr q] S = .ok (pr (quor p q)) S := by
  obtain ⟨k, rfl, hj⟩ := kk hk
  show (Gk (k + 1)).fn 8 [.tup [.int p.1, .int p.2], .tup [.int q.1, .int q.2]] S = _
  rw [ap_quotient]
  unfold m_quotient
  have e : (q.1 == 0) = false := beq_eq_false_iff_ne.mpr h2
  simp only [bind_ok, bind_exc, oR_ap, ofR_ok, ofR_exc, bool1_bl, mVar_ap, mC_ap, mBin_ap, mTest_ap, mChain_ap, mTru_ap, dTru_bl, mAnd_ap, mOr_ap, mNot_ap, mAndV_ap, mNotV_ap, mNeg_ap, mIf_ap, mNil_ap, mCons_ap, mTup_ap, mLst_ap, mCall_ap, one_ap, two_ap, sRet_ap, sDrop_ap, sIf_ap, sNext_ap, sAsg_ap, sPar_ap, sRaise_ap, gN_ap, sSeq_ap, rseq_nx, rseq_rt, rseq_exc, rout_nx, rout_rt, rout_exc, oAdd_i, oSub_i, oLt_i, oLe_i, oGt_i, oGe_i, bAbs_i, bInt_i, bInt_b, oEq_int, oNe_int, oEq_bl, oNe_bl, oEq_pr, oNe_pr, ix_t0, ix_t1, List.getElem?_cons_zero, List.getElem?_cons_succ, List.length_cons, List.length_nil, List.set_cons_zero, List.set_cons_succ, if_true, if_false, ite_true, ite_false, reduceIte, Nat.reduceAdd, Nat.reduceSub, Nat.zero_add, Bool.not_true, Bool.not_false, Bool.true_eq_false, Bool.false_eq_true, e, oMul_i (ok_mul hp.1 hq.2), oMul_i (ok_mul hp.2 hq.1), s_reduced hj _ _ S (Int.mul_ne_zero h1 h2) (mul_lt1 hp.1 hq.2) (mul_lt1 hp.2 hq.1)]
  rfl
theorem s_quotient_0 {k : Nat} (hk : 1 ≤ k) (p : Int × Int) (S : Sto) : (Gk k).fn 8 [pr p, .tup [.int 0, .int 1]] S = .exc 11 (.tup [pr p, .tup [.int 0, .int 1]]) S := by
  obtain ⟨k, rfl, hj⟩ := kk hk
  rw [ap_quotient]
  unfold m_quotient
  simp only [bind_ok, bind_exc, oR_ap, ofR_ok, ofR_exc, bool1_bl, mVar_ap, mC_ap, mBin_ap, mTest_ap, mChain_ap, mTru_ap, dTru_bl, mAnd_ap, mOr_ap, mNot_ap, mAndV_ap, mNotV_ap, mNeg_ap, mIf_ap, mNil_ap, mCons_ap, mTup_ap, mLst_ap, mCall_ap, one_ap, two_ap, sRet_ap, sDrop_ap, sIf_ap, sNext_ap, sAsg_ap, sPar_ap, sRaise_ap, gN_ap, sSeq_ap, rseq_nx, rseq_rt, rseq_exc, rout_nx, rout_rt, rout_exc, oAdd_i, oSub_i, oLt_i, oLe_i, oGt_i, oGe_i, bAbs_i, bInt_i, bInt_b, oEq_int, oNe_int, oEq_bl, oNe_bl, oEq_pr, oNe_pr, ix_t0, ix_t1, List.getElem?_cons_zero, List.getElem?_cons_succ, List.length_cons, List.length_nil, List.set_cons_zero, List.set_cons_succ, if_true, if_false, ite_true, ite_false, reduceIte, Nat.reduceAdd, Nat.reduceSub, Nat.zero_add, Bool.not_true, Bool.not_false, Bool.true_eq_false, Bool.false_eq_true, beq_self_eq_true, tupD_2 (show noClo (pr p) = true from rfl) (show noClo (.tup [.int 0, .int 1]) = true from rfl)]
  rfl
section
variable {k : Nat} (hk : 4 ≤ k) (p q : Int × Int) (S : Sto) (hp : isN p = true) (hq : isN q = true)
include hk hp hq
theorem s_added : (Gk k).fn 9 [pr p, pr q] S = .ok (pr (sumr p q)) S := by
  obtain ⟨k, rfl, hj⟩ := kk hk
  obtain ⟨c1, b1, _⟩ := isN_can hp
  obtain ⟨c2, b2, _⟩ := isN_can hq
  rw [ap_added]
  unfold m_added
  have n1 := s_check hj (pr p) S (by rw [s_isnum (by omega), hp])
  have n2 := s_check hj (pr q) S (by rw [s_isnum (by omega), hq])
  simp only [bind_ok, bind_exc, oR_ap, ofR_ok, ofR_exc, bool1_bl, mVar_ap, mC_ap, mBin_ap, mTest_ap, mChain_ap, mTru_ap, dTru_bl, mAnd_ap, mOr_ap, mNot_ap, mAndV_ap, mNotV_ap, mNeg_ap, mIf_ap, mNil_ap, mCons_ap, mTup_ap, mLst_ap, mCall_ap, one_ap, two_ap, sRet_ap, sDrop_ap, sIf_ap, sNext_ap, sAsg_ap, sPar_ap, sRaise_ap, gN_ap, sSeq_ap, rseq_nx, rseq_rt, rseq_exc, rout_nx, rout_rt, rout_exc, oAdd_i, oSub_i, oLt_i, oLe_i, oGt_i, oGe_i, bAbs_i, bInt_i, bInt_b, oEq_int, oNe_int, oEq_bl, oNe_bl, oEq_pr, oNe_pr, ix_t0, ix_t1, List.getElem?_cons_zero, List.getElem?_cons_succ, List.length_cons, List.length_nil, List.set_cons_zero, List.set_cons_succ, if_true, if_false, ite_true, ite_false, reduceIte, Nat.reduceAdd, Nat.reduceSub, Nat.zero_add, Bool.not_true, Bool.not_false, Bool.true_eq_false, Bool.false_eq_true, n1, n2, s_plus hj p q S b1 b2 (by have := c1.1; omega) (by have := c2.1; omega)]
theorem s_multiplied : (Gk k).fn 10 [pr p, pr q] S = .ok (pr (prdr p q)) S := by
  obtain ⟨k, rfl, hj⟩ := kk hk
  obtain ⟨c1, b1, _⟩ := isN_can hp
  obtain ⟨c2, b2, _⟩ := isN_can hq
  rw [ap_multiplied]
  unfold m_multiplied
  have n1 := s_check hj (pr p) S (by rw [s_isnum (by omega), hp])
  have n2 := s_check hj (pr q) S (by rw [s_isnum (by omega), hq])
  simp only [bind_ok, bind_exc, oR_ap, ofR_ok, ofR_exc, bool1_bl, mVar_ap, mC_ap, mBin_ap, mTest_ap, mChain_ap, mTru_ap, dTru_bl, mAnd_ap, mOr_ap, mNot_ap, mAndV_ap, mNotV_ap, mNeg_ap, mIf_ap, mNil_ap, mCons_ap, mTup_ap, mLst_ap, mCall_ap, one_ap, two_ap, sRet_ap, sDrop_ap, sIf_ap, sNext_ap, sAsg_ap, sPar_ap, sRaise_ap, gN_ap, sSeq_ap, rseq_nx, rseq_rt, rseq_exc, rout_nx, rout_rt, rout_exc, oAdd_i, oSub_i, oLt_i, oLe_i, oGt_i, oGe_i, bAbs_i, bInt_i, bInt_b, oEq_int, oNe_int, oEq_bl, oNe_bl, oEq_pr, oNe_pr, ix_t0, ix_t1, List.getElem?_cons_zero, List.getElem?_cons_succ, List.length_cons, List.length_nil, List.set_cons_zero, List.set_cons_succ, if_true, if_false, ite_true, ite_false, reduceIte, Nat.reduceAdd, Nat.reduceSub, Nat.zero_add, Bool.not_true, Bool.not_false, Bool.true_eq_false, Bool.false_eq_true, n1, n2, s_product hj p q S b1 b2 (by have := c1.1; omega) (by have := c2.1; omega)]
theorem s_divided (h0 : q.1 ≠ 0) : (Gk k).fn 11 [pr p, pr q] S = .ok (pr (quor p q)) S := by
  obtain ⟨k, rfl, hj⟩ := kk hk
  obtain ⟨c1, b1, _⟩ := isN_can hp
  obtain ⟨c2, b2, _⟩ := isN_can hq
  rw [ap_divided]
  unfold m_divided
  have n1 := s_check hj (pr p) S (by rw [s_isnum (by omega), hp])
  have n2 := s_check hj (pr q) S (by rw [s_isnum (by omega), hq])
  simp only [bind_ok, bind_exc, oR_ap, ofR_ok, ofR_exc, bool1_bl, mVar_ap, mC_ap, mBin_ap, mTest_ap, mChain_ap, mTru_ap, dTru_bl, mAnd_ap, mOr_ap, mNot_ap, mAndV_ap, mNotV_ap, mNeg_ap, mIf_ap, mNil_ap, mCons_ap, mTup_ap, mLst_ap, mCall_ap, one_ap, two_ap, sRet_ap, sDrop_ap, sIf_ap, sNext_ap, sAsg_ap, sPar_ap, sRaise_ap, gN_ap, sSeq_ap, rseq_nx, rseq_rt, rseq_exc, rout_nx, rout_rt, rout_exc, oAdd_i, oSub_i, oLt_i, oLe_i, oGt_i, oGe_i, bAbs_i, bInt_i, bInt_b, oEq_int, oNe_int, oEq_bl, oNe_bl, oEq_pr, oNe_pr, ix_t0, ix_t1, List.getElem?_cons_zero, List.getElem?_cons_succ, List.length_cons, List.length_nil, List.set_cons_zero, List.set_cons_succ, if_true, if_false, ite_true, ite_false, reduceIte, Nat.reduceAdd, Nat.reduceSub, Nat.zero_add, Bool.not_true, Bool.not_false, Bool.true_eq_false, Bool.false_eq_true, n1, n2, s_quotient hj p q S b1 b2 (by have := c1.1; omega) h0]
end
theorem str_eq {x y : Str} {S : Sto} {b : Bool} (h : oEq (.str x) (.str y) [] = some (.bl b)) : oEq (.str x) (.str y) S = some (.bl b) := h
section
variable {k : Nat} (hk : 3 ≤ k) (p q : Int × Int) (S : Sto) (hp : Bd2 p) (hq : Bd2 q) (h1 : p.2 ≠ 0)
include hk hp hq h1
theorem s_jsum (h2 : q.2 ≠ 0) : (Gk k).fn 21 [.str "sum", pr p, pr q] S = .ok (pr (sumr p q)) S := by
  obtain ⟨k, rfl, hj⟩ := kk hk
  show (Gk (k + 1)).fn 21 [.str "sum", .tup [.int p.1, .int p.2], .tup [.int q.1, .int q.2]] S = _
  rw [ap__law_joined]
  unfold m__law_joined
  simp only [bind_ok, bind_exc, oR_ap, ofR_ok, ofR_exc, bool1_bl, mVar_ap, mC_ap, mBin_ap, mTest_ap, mChain_ap, mTru_ap, dTru_bl, mAnd_ap, mOr_ap, mNot_ap, mAndV_ap, mNotV_ap, mNeg_ap, mIf_ap, mNil_ap, mCons_ap, mTup_ap, mLst_ap, mCall_ap, one_ap, two_ap, sRet_ap, sDrop_ap, sIf_ap, sNext_ap, sAsg_ap, sPar_ap, sRaise_ap, gN_ap, sSeq_ap, rseq_nx, rseq_rt, rseq_exc, rout_nx, rout_rt, rout_exc, oAdd_i, oSub_i, oLt_i, oLe_i, oGt_i, oGe_i, bAbs_i, bInt_i, bInt_b, oEq_int, oNe_int, oEq_bl, oNe_bl, oEq_pr, oNe_pr, ix_t0, ix_t1, List.getElem?_cons_zero, List.getElem?_cons_succ, List.length_cons, List.length_nil, List.set_cons_zero, List.set_cons_succ, if_true, if_false, ite_true, ite_false, reduceIte, Nat.reduceAdd, Nat.reduceSub, Nat.zero_add, Bool.not_true, Bool.not_false, Bool.true_eq_false, Bool.false_eq_true, str_eq (x := "sum") (y := "sum") (S := S) (b := true) (by kernel_rfl), oMul_i (ok_mul hp.1 hq.2), oMul_i (ok_mul hq.1 hp.2), oMul_i (ok_mul hp.2 hq.2), s_ratio hj _ _ S (Int.mul_ne_zero h1 h2) (mul_lt1 hp.2 hq.2)]
  rfl
theorem s_jtimes (h2 : q.2 ≠ 0) : (Gk k).fn 21 [.str "times", pr p, pr q] S = .ok (pr (prdr p q)) S := by
  obtain ⟨k, rfl, hj⟩ := kk hk
  show (Gk (k + 1)).fn 21 [.str "times", .tup [.int p.1, .int p.2], .tup [.int q.1, .int q.2]] S = _
  rw [ap__law_joined]
  unfold m__law_joined
  simp only [bind_ok, bind_exc, oR_ap, ofR_ok, ofR_exc, bool1_bl, mVar_ap, mC_ap, mBin_ap, mTest_ap, mChain_ap, mTru_ap, dTru_bl, mAnd_ap, mOr_ap, mNot_ap, mAndV_ap, mNotV_ap, mNeg_ap, mIf_ap, mNil_ap, mCons_ap, mTup_ap, mLst_ap, mCall_ap, one_ap, two_ap, sRet_ap, sDrop_ap, sIf_ap, sNext_ap, sAsg_ap, sPar_ap, sRaise_ap, gN_ap, sSeq_ap, rseq_nx, rseq_rt, rseq_exc, rout_nx, rout_rt, rout_exc, oAdd_i, oSub_i, oLt_i, oLe_i, oGt_i, oGe_i, bAbs_i, bInt_i, bInt_b, oEq_int, oNe_int, oEq_bl, oNe_bl, oEq_pr, oNe_pr, ix_t0, ix_t1, List.getElem?_cons_zero, List.getElem?_cons_succ, List.length_cons, List.length_nil, List.set_cons_zero, List.set_cons_succ, if_true, if_false, ite_true, ite_false, reduceIte, Nat.reduceAdd, Nat.reduceSub, Nat.zero_add, Bool.not_true, Bool.not_false, Bool.true_eq_false, Bool.false_eq_true, str_eq (x := "times") (y := "sum") (S := S) (b := false) (by kernel_rfl), str_eq (x := "times") (y := "less") (S := S) (b := false) (by kernel_rfl), str_eq (x := "times") (y := "times") (S := S) (b := true) (by kernel_rfl), oMul_i (ok_mul hp.1 hq.1), oMul_i (ok_mul hp.2 hq.2), s_ratio hj _ _ S (Int.mul_ne_zero h1 h2) (mul_lt1 hp.2 hq.2)]
  rfl
theorem s_jover (h2 : q.1 ≠ 0) : (Gk k).fn 21 [.str "over", pr p, pr q] S = .ok (pr (quor p q)) S := by
  obtain ⟨k, rfl, hj⟩ := kk hk
  show (Gk (k + 1)).fn 21 [.str "over", .tup [.int p.1, .int p.2], .tup [.int q.1, .int q.2]] S = _
  rw [ap__law_joined]
  unfold m__law_joined
  have e : (q.1 == 0) = false := beq_eq_false_iff_ne.mpr h2
  simp only [bind_ok, bind_exc, oR_ap, ofR_ok, ofR_exc, bool1_bl, mVar_ap, mC_ap, mBin_ap, mTest_ap, mChain_ap, mTru_ap, dTru_bl, mAnd_ap, mOr_ap, mNot_ap, mAndV_ap, mNotV_ap, mNeg_ap, mIf_ap, mNil_ap, mCons_ap, mTup_ap, mLst_ap, mCall_ap, one_ap, two_ap, sRet_ap, sDrop_ap, sIf_ap, sNext_ap, sAsg_ap, sPar_ap, sRaise_ap, gN_ap, sSeq_ap, rseq_nx, rseq_rt, rseq_exc, rout_nx, rout_rt, rout_exc, oAdd_i, oSub_i, oLt_i, oLe_i, oGt_i, oGe_i, bAbs_i, bInt_i, bInt_b, oEq_int, oNe_int, oEq_bl, oNe_bl, oEq_pr, oNe_pr, ix_t0, ix_t1, List.getElem?_cons_zero, List.getElem?_cons_succ, List.length_cons, List.length_nil, List.set_cons_zero, List.set_cons_succ, if_true, if_false, ite_true, ite_false, reduceIte, Nat.reduceAdd, Nat.reduceSub, Nat.zero_add, Bool.not_true, Bool.not_false, Bool.true_eq_false, Bool.false_eq_true, str_eq (x := "over") (y := "sum") (S := S) (b := false) (by kernel_rfl), str_eq (x := "over") (y := "less") (S := S) (b := false) (by kernel_rfl), str_eq (x := "over") (y := "times") (S := S) (b := false) (by kernel_rfl), e, oMul_i (ok_mul hp.1 hq.2), oMul_i (ok_mul hp.2 hq.1), s_ratio hj _ _ S (Int.mul_ne_zero h1 h2) (mul_lt1 hp.2 hq.1)]
  rfl
end
end K30
set_option Elab.async false
set_option linter.all false
set_option maxRecDepth 100000
set_option maxHeartbeats 2000000
namespace K30
open PySem L2 Vi
/-! ### the pot -/
def PotAt (S : Sto) (p n : Nat) : Prop := ∃ d x c : Int, S[p]? = some (.lst [.int d, .int x, .int c]) ∧ 0 ≤ d ∧ 0 ≤ x ∧ x < 2 ^ 62 ∧ 0 ≤ c ∧ c ≤ n
def Ke (p : Nat) (S S' : Sto) : Prop := S.length ≤ S'.length ∧ ∀ j, j ≠ p → j < S.length → S'[j]? = S[j]?
theorem Ke.refl {p : Nat} {S : Sto} : Ke p S S := ⟨Nat.le_refl _, fun _ _ _ => rfl⟩
theorem Ke.trans {p : Nat} {S S1 S2 : Sto} (a : Ke p S S1) (b : Ke p S1 S2) : Ke p S S2 := ⟨Nat.le_trans a.1 b.1, fun j h1 h2 => (b.2 j h1 (Nat.lt_of_lt_of_le h2 a.1)).trans (a.2 j h1 h2)⟩
theorem Ke.app {p : Nat} {S T : Sto} : Ke p S (S ++ T) := ⟨by simp, fun j _ h => List.getElem?_append_left h⟩
theorem Ke.set {p : Nat} {S : Sto} {m : MO} : Ke p S (S.set p m) := ⟨by simp, fun j h _ => List.getElem?_set_ne (Ne.symm h)⟩
theorem Ke.get {p q : Nat} {S S' : Sto} {m : MO} (k : Ke p S S') (h : S[q]? = some m) (n : q ≠ p) : S'[q]? = some m := by
  rw [k.2 q n (List.getElem?_eq_some_iff.mp h).1]
  exact h
theorem PotAt.lt {S : Sto} {p n : Nat} (h : PotAt S p n) : p < S.length := by
  obtain ⟨_, _, _, h, _⟩ := h
  exact (List.getElem?_eq_some_iff.mp h).1
theorem PotAt.app {S T : Sto} {p n : Nat} (h : PotAt S p n) : PotAt (S ++ T) p n := by
  have l := h.lt
  obtain ⟨d, x, c, e, r⟩ := h
  exact ⟨d, x, c, by rw [List.getElem?_append_left l]; exact e, r⟩
theorem PotAt.mono {S : Sto} {p n m : Nat} (h : PotAt S p n) (hm : n ≤ m) : PotAt S p m := by
  obtain ⟨d, x, c, e, h1, h2, h3, h4, h5⟩ := h
  exact ⟨d, x, c, e, h1, h2, h3, h4, by omega⟩
theorem sPut_ap {m mo mi : ME} {ρ : Ev} {S : Sto} : sPut m mo mi ρ S = ofR (m ρ S) ρ fun d S1 => ofR (mo ρ S1) ρ fun o S2 => ofR (mi ρ S2) ρ fun i S3 => match putD o i d S3 with | some S4 => .nx ρ S4 | none => .bad := rfl
theorem put0 {S : Sto} {p : Nat} {a b c d : D} (h : S[p]? = some (.lst [a, b, c])) (hn : noClo d = true) : putD (.ref p) (.int 0) d S = some (S.set p (.lst [d, b, c])) := by
  unfold putD
  rw [if_neg (by rw [hn]; decide)]
  dsimp only
  rw [h]
  rfl
theorem put2 {S : Sto} {p : Nat} {a b c d : D} (h : S[p]? = some (.lst [a, b, c])) (hn : noClo d = true) : putD (.ref p) (.int 2) d S = some (S.set p (.lst [a, b, d])) := by
  unfold putD
  rw [if_neg (by rw [hn]; decide)]
  dsimp only
  rw [h]
  rfl
theorem ring_at (v : Int) (h1 : 0 ≤ v) (h2 : v < 4) : ∃ r : Int, atI [D.int 2147483647, .int 2147483629, .int 2147483587, .int 2147483579] v = some (.int r) ∧ 1 ≤ r ∧ r ≤ 2147483647 := by
  have : v = 0 ∨ v = 1 ∨ v = 2 ∨ v = 3 := by omega
  rcases this with rfl | rfl | rfl | rfl
  · exact ⟨2147483647, rfl, by omega, by omega⟩
  · exact ⟨2147483629, rfl, by omega, by omega⟩
  · exact ⟨2147483587, rfl, by omega, by omega⟩
  · exact ⟨2147483579, rfl, by omega, by omega⟩
theorem mul_ok {x y : Int} (a b : Nat) (hx : x.natAbs ≤ a) (hy : y.natAbs ≤ b) (ha : a < 2 ^ 200 := by decide +kernel) (hb : b < 2 ^ 200 := by decide +kernel) : mulOk x y = true :=
  mulOk_of (Nat.lt_trans (Nat.lt_of_le_of_lt hx ha) (by decide +kernel)) (Nat.lt_trans (Nat.lt_of_le_of_lt hy hb) (by decide +kernel))
theorem pow_ok {x : Int} {m : Nat} {y : Int} (hx : x.natAbs < 2 ^ m) (hy : 0 ≤ y) (h : (m : Int) * y ≤ 2 ^ 27) : powOk x y = true := by
  have e := PySem.intBits_le_iff.mpr hx
  unfold powOk
  rw [Bool.and_eq_true]
  refine ⟨decide_eq_true hy, decide_eq_true ?_⟩
  have z : (Builtin.Int.intBits x : Int) * y ≤ (m : Int) * y := Int.mul_le_mul_of_nonneg_right (by omega) hy
  omega
theorem s_take {k : Nat} (hk : 1 ≤ k) (u : Int) (hu : 1 ≤ u) (hu2 : u ≤ 1000000000) {S : Sto} {p n : Nat} (h : PotAt S p n) (hn : n ≤ 100000) :
    ∃ (v : Int) (S' : Sto), (Gk k).fn 12 [.ref p, .int u] S = .ok (.int v) S' ∧ 0 ≤ v ∧ v < u ∧ PotAt S' p (n + 1) ∧ Ke p S S' := by
  obtain ⟨k, rfl, hj⟩ := kk hk
  have hp := h.lt
  obtain ⟨d, x, c, e, h1, h2, h3, h4, h5⟩ := h
  rw [ap__law_take]
  unfold m__law_take
  have i0 : dIx (.ref p) (.int 0) S = some (.int d) := ix_ref e
  have du : divOk u = true := divOk_of (by omega) (Nat.lt_of_le_of_lt (show u.natAbs ≤ 1000000000 by omega) (by decide +kernel))
  have u0 : u ≠ 0 := by omega
  by_cases hd : 0 < d
  · refine ⟨d.fmod u, S.set p (.lst [.int (d.fdiv u), .int x, .int c]), ?_, Int.fmod_nonneg_of_pos d (by omega), Int.fmod_lt_of_pos d (by omega), ⟨d.fdiv u, x, c, List.getElem?_set_self hp, Int.fdiv_nonneg (by omega) (by omega), h2, h3, h4, by omega⟩, Ke.set⟩
    simp only [bind_ok, bind_exc, oR_ap, ofR_ok, ofR_exc, bool1_bl, mVar_ap, mC_ap, mBin_ap, mTest_ap, mChain_ap, mTru_ap, dTru_bl, mAnd_ap, mOr_ap, mNot_ap, mAndV_ap, mNotV_ap, mNeg_ap, mIf_ap, mNil_ap, mCons_ap, mTup_ap, mLst_ap, mCall_ap, one_ap, two_ap, sRet_ap, sDrop_ap, sIf_ap, sNext_ap, sAsg_ap, sPar_ap, sRaise_ap, gN_ap, sSeq_ap, rseq_nx, rseq_rt, rseq_exc, rout_nx, rout_rt, rout_exc, oAdd_i, oSub_i, oLt_i, oLe_i, oGt_i, oGe_i, bAbs_i, bInt_i, bInt_b, oEq_int, oNe_int, oEq_bl, oNe_bl, oEq_pr, oNe_pr, ix_t0, ix_t1, List.getElem?_cons_zero, List.getElem?_cons_succ, List.length_cons, List.length_nil, List.set_cons_zero, List.set_cons_succ, if_true, if_false, ite_true, ite_false, reduceIte, Nat.reduceAdd, Nat.reduceSub, Nat.zero_add, Bool.not_true, Bool.not_false, Bool.true_eq_false, Bool.false_eq_true, i0, decide_eq_true hd, oMod_i u0, sPut_ap, oFdiv_i du, put0 e (show noClo (.int (d.fdiv u)) = true from rfl)]
  · obtain ⟨S1, hS1⟩ : ∃ S1, S1 = S.set p (.lst [.int d, .int x, .int (c + 1)]) := ⟨_, rfl⟩
    have e1 : S1[p]? = some (.lst [.int d, .int x, .int (c + 1)]) := by rw [hS1]; exact List.getElem?_set_self hp
    have l1 : S1.length = S.length := by rw [hS1]; simp
    obtain ⟨r, hr, r1, r2⟩ := ring_at ((c + 1).fmod 4) (Int.fmod_nonneg_of_pos _ (by omega)) (Int.fmod_lt_of_pos _ (by omega))
    obtain ⟨S2, hS2⟩ : ∃ S2, S2 = S1 ++ [MO.lst [D.int 2147483647, .int 2147483629, .int 2147483587, .int 2147483579]] := ⟨_, rfl⟩
    have e2 : S2[p]? = some (.lst [.int d, .int x, .int (c + 1)]) := by rw [hS2, List.getElem?_append_left (by omega)]; exact e1
    have e3 : S2[S1.length]? = some (.lst [D.int 2147483647, .int 2147483629, .int 2147483587, .int 2147483579]) := by rw [hS2]; simp
    have j2 : dIx (.ref p) (.int 2) S = some (.int c) := ix_ref e
    have k1 : dIx (.ref p) (.int 1) S2 = some (.int x) := ix_ref e2
    have k2 : dIx (.ref p) (.int 2) S2 = some (.int (c + 1)) := ix_ref e2
    have k3 : dIx (.ref S1.length) (.int ((c + 1).fmod 4)) S2 = some (.int r) := by rw [ix_ref e3]; exact hr
    have hl : lstD [D.int 2147483647, .int 2147483629, .int 2147483587, .int 2147483579] S1 = .ok (.ref S1.length) S2 := by rw [hS2]; exact lstD_ap (by simp) rfl
    have f4 : (4 : Int) ≠ 0 := by omega
    have f7 : (10007 : Int) ≠ 0 := by omega
    have r0 : r ≠ 0 := by omega
    have m1 : mulOk 90917 (c + 1) = true := mul_ok 90917 100001 (by omega) (by omega)
    have m2 : mulOk (90917 * (c + 1)) (c + 1) = true := mul_ok 10000000000 100001 (by omega) (by omega)
    have b1 : (x + 90917 * (c + 1) * (c + 1) + 6909).natAbs < 2 ^ 200 := by
      have z1 : 90917 * (c + 1) * (c + 1) ≤ 10000000000 * (c + 1) := Int.mul_le_mul_of_nonneg_right (by omega) (by omega)
      have z2 : 0 ≤ 90917 * (c + 1) * (c + 1) := Int.mul_nonneg (by omega) (by omega)
      have z3 : (x + 90917 * (c + 1) * (c + 1) + 6909).natAbs ≤ 2 ^ 62 + 10000000000 * 100001 + 6909 := by omega
      exact Nat.lt_of_le_of_lt z3 (by decide +kernel)
    have p1 : powOk (x + 90917 * (c + 1) * (c + 1) + 6909) 3 = true := pow_ok b1 (by omega) (by omega)
    obtain ⟨bl, hbl⟩ : ∃ bl, bl = ((x + 90917 * (c + 1) * (c + 1) + 6909) ^ (Int.toNat 3)).fmod r := ⟨_, rfl⟩
    have q1 : 0 ≤ bl := by rw [hbl]; exact Int.fmod_nonneg_of_pos _ (by omega)
    have q2 : bl < r := by rw [hbl]; exact Int.fmod_lt_of_pos _ (by omega)
    have t1 : 0 ≤ bl.fmod 10007 := Int.fmod_nonneg_of_pos _ (by omega)
    have t2 : bl.fmod 10007 < 10007 := Int.fmod_lt_of_pos _ (by omega)
    have m3 : mulOk 7683 (c + 1) = true := mul_ok 7683 100001 (by omega) (by omega)
    have m4 : mulOk bl (bl.fmod 10007 + 7683 * (c + 1)) = true := mul_ok 2147483647 1000000000 (by omega) (by omega)
    have d7 : divOk 307 = true := by decide +kernel
    refine ⟨((bl * (bl.fmod 10007 + 7683 * (c + 1))).fdiv 307).fmod u, S2, ?_, Int.fmod_nonneg_of_pos _ (by omega), Int.fmod_lt_of_pos _ (by omega), ⟨d, x, c + 1, e2, h1, h2, h3, by omega, by omega⟩, ?_⟩
    · have pu : putD (.ref p) (.int 2) (.int (c + 1)) S = some S1 := by rw [hS1]; exact put2 e rfl
      simp only [bind_ok, bind_exc, oR_ap, ofR_ok, ofR_exc, bool1_bl, mVar_ap, mC_ap, mBin_ap, mTest_ap, mChain_ap, mTru_ap, dTru_bl, mAnd_ap, mOr_ap, mNot_ap, mAndV_ap, mNotV_ap, mNeg_ap, mIf_ap, mNil_ap, mCons_ap, mTup_ap, mLst_ap, mCall_ap, one_ap, two_ap, sRet_ap, sDrop_ap, sIf_ap, sNext_ap, sAsg_ap, sPar_ap, sRaise_ap, gN_ap, sSeq_ap, rseq_nx, rseq_rt, rseq_exc, rout_nx, rout_rt, rout_exc, oAdd_i, oSub_i, oLt_i, oLe_i, oGt_i, oGe_i, bAbs_i, bInt_i, bInt_b, oEq_int, oNe_int, oEq_bl, oNe_bl, oEq_pr, oNe_pr, ix_t0, ix_t1, List.getElem?_cons_zero, List.getElem?_cons_succ, List.length_cons, List.length_nil, List.set_cons_zero, List.set_cons_succ, if_true, if_false, ite_true, ite_false, reduceIte, Nat.reduceAdd, Nat.reduceSub, Nat.zero_add, Bool.not_true, Bool.not_false, Bool.true_eq_false, Bool.false_eq_true, i0, decide_eq_false hd, sPut_ap, j2, pu, hl, k1, k2, k3, oMod_i f4, oMul_i m1, oMul_i m2, oPow_i p1, oMod_i r0, ← hbl, oMod_i f7, oMul_i m3, oMul_i m4, oFdiv_i d7, oMod_i u0]
    · refine Ke.trans (S1 := S1) ?_ ?_
      · rw [hS1]
        exact Ke.set
      · rw [hS2]
        exact Ke.app
theorem len_ref {S : Sto} {q : Nat} {ds : List D} (h : S[q]? = some (.lst ds)) : bLen (.ref q) S = some (.int ds.length) := by
  show (match Vi.listOf (.ref q) S with | some ds => some (D.int ds.length) | none => none) = _
  unfold Vi.listOf
  dsimp only
  rw [h]
theorem atI_mem {ds : List D} {v : Int} (h1 : 0 ≤ v) (h2 : v < ds.length) : ∃ d, atI ds v = some d ∧ d ∈ ds := by
  have hl : v.toNat < ds.length := by omega
  refine ⟨ds[v.toNat], ?_, List.getElem_mem hl⟩
  unfold atI ixN
  rw [if_pos h1, if_pos h2]
  exact List.getElem?_eq_getElem hl
theorem s_of {k : Nat} (hk : 2 ≤ k) {S : Sto} {p n q : Nat} {ds : List D} (h : PotAt S p n) (hn : n ≤ 100000) (hq : S[q]? = some (.lst ds)) (hqp : q ≠ p) (h1 : 1 ≤ ds.length) (h2 : ds.length ≤ 1000) :
    ∃ (d : D) (S' : Sto), (Gk k).fn 13 [.ref p, .ref q] S = .ok d S' ∧ d ∈ ds ∧ PotAt S' p (n + 1) ∧ Ke p S S' := by
  obtain ⟨k, rfl, hj⟩ := kk hk
  rw [ap__law_of]
  unfold m__law_of
  obtain ⟨v, S', e, v1, v2, hp, ke⟩ := s_take hj (ds.length : Nat) (by omega) (by omega) h hn
  obtain ⟨d, hd, hm⟩ := atI_mem v1 v2
  refine ⟨d, S', ?_, hm, hp, ke⟩
  simp only [bind_ok, bind_exc, oR_ap, ofR_ok, ofR_exc, bool1_bl, mVar_ap, mC_ap, mBin_ap, mTest_ap, mChain_ap, mTru_ap, dTru_bl, mAnd_ap, mOr_ap, mNot_ap, mAndV_ap, mNotV_ap, mNeg_ap, mIf_ap, mNil_ap, mCons_ap, mTup_ap, mLst_ap, mCall_ap, one_ap, two_ap, sRet_ap, sDrop_ap, sIf_ap, sNext_ap, sAsg_ap, sPar_ap, sRaise_ap, gN_ap, sSeq_ap, rseq_nx, rseq_rt, rseq_exc, rout_nx, rout_rt, rout_exc, oAdd_i, oSub_i, oLt_i, oLe_i, oGt_i, oGe_i, bAbs_i, bInt_i, bInt_b, oEq_int, oNe_int, oEq_bl, oNe_bl, oEq_pr, oNe_pr, ix_t0, ix_t1, List.getElem?_cons_zero, List.getElem?_cons_succ, List.length_cons, List.length_nil, List.set_cons_zero, List.set_cons_succ, if_true, if_false, ite_true, ite_false, reduceIte, Nat.reduceAdd, Nat.reduceSub, Nat.zero_add, Bool.not_true, Bool.not_false, Bool.true_eq_false, Bool.false_eq_true, len_ref hq, e, ix_ref (ke.get hq hqp), hd]
theorem ten9 {S : Sto} : oPow (.int 10) (.int 9) S = some (.int 1000000000) := by kernel_rfl
theorem rat_isN {t b : Int} (ht : t.natAbs ≤ 1000000000) (h1 : 1 ≤ b) (h2 : b ≤ 1000000000) : isN (rat t b) = true := by
  have hb : b ≠ 0 := by omega
  obtain ⟨⟨c1, c2⟩, _⟩ := rat_can (t := t) hb
  obtain ⟨l1, l2⟩ := rat_le (t := t) hb
  unfold isN
  simp only [Bool.and_eq_true, decide_eq_true_eq, beq_iff_eq]
  exact ⟨⟨⟨by omega, by omega⟩, by omega, by omega⟩, by rw [c2]; rfl⟩
theorem mem_int {d : D} {l : List Int} {lo hi : Int} (h : d ∈ l.map D.int) (hl : ∀ i ∈ l, lo ≤ i ∧ i ≤ hi) : ∃ i, d = .int i ∧ lo ≤ i ∧ i ≤ hi := by
  obtain ⟨i, hi, rfl⟩ := List.mem_map.mp h
  exact ⟨i, rfl, hl i hi⟩
theorem s_drawn {k : Nat} (hk : 3 ≤ k) {S : Sto} {p n : Nat} (h : PotAt S p n) (hn : n ≤ 90000) :
    ∃ (q : Int × Int) (S' : Sto), (Gk k).fn 22 [.ref p] S = .ok (pr q) S' ∧ isN q = true ∧ PotAt S' p (n + 7) ∧ Ke p S S' := by
  obtain ⟨k, rfl, hj⟩ := kk hk
  rw [ap__law_drawn]
  unfold m__law_drawn
  obtain ⟨v1, S1, e1, a1, b1, p1, k1⟩ := s_take (k := k) (by omega) 20 (by omega) (by omega) h (by omega)
  obtain ⟨v2, S2, e2, a2, b2, p2, k2⟩ := s_take (k := k) (by omega) 9 (by omega) (by omega) p1 (by omega)
  obtain ⟨v3, S3, e3, a3, b3, p3, k3⟩ := s_take (k := k) (by omega) 9 (by omega) (by omega) p2 (by omega)
  obtain ⟨l4, hl4⟩ : ∃ l4 : List D, l4 = [v1 - 10, 1000000000 - v2, v3 - 1000000000, 0].map D.int := ⟨_, rfl⟩
  have g4 : lstD [.int (v1 - 10), .int (1000000000 - v2), .int (v3 - 1000000000), .int 0] S3 = .ok (.ref S3.length) (S3 ++ [.lst l4]) := by rw [hl4]; exact lstD_ap (by simp) rfl
  have p4 := p3.app (T := [.lst l4])
  obtain ⟨t, S5, e5, m5, p5, k5⟩ := s_of hj p4 (by omega) (q := S3.length) (ds := l4) (by simp) (by have := p3.lt; omega) (by rw [hl4]; simp) (by rw [hl4]; simp)
  rw [hl4] at m5
  obtain ⟨ti, rfl, t1, t2⟩ := mem_int (lo := -1000000000) (hi := 1000000000) m5 (by
    intro i hi
    simp only [List.mem_cons, List.not_mem_nil, or_false] at hi
    omega)
  obtain ⟨v6, S6, e6, a6, b6, p6, k6⟩ := s_take (k := k) (by omega) 12 (by omega) (by omega) p5 (by omega)
  obtain ⟨v7, S7, e7, a7, b7, p7, k7⟩ := s_take (k := k) (by omega) 9 (by omega) (by omega) p6 (by omega)
  obtain ⟨l8, hl8⟩ : ∃ l8 : List D, l8 = [v6, 1000000000 - 1 - v7, 0].map D.int := ⟨_, rfl⟩
  have g8 : lstD [.int v6, .int (1000000000 - 1 - v7), .int 0] S7 = .ok (.ref S7.length) (S7 ++ [.lst l8]) := by rw [hl8]; exact lstD_ap (by simp) rfl
  have p8 := p7.app (T := [.lst l8])
  obtain ⟨u, S9, e9, m9, p9, k9⟩ := s_of hj p8 (by omega) (q := S7.length) (ds := l8) (by simp) (by have := p7.lt; omega) (by rw [hl8]; simp) (by rw [hl8]; simp)
  rw [hl8] at m9
  obtain ⟨ui, rfl, u1, u2⟩ := mem_int (lo := 0) (hi := 999999999) m9 (by
    intro i hi
    simp only [List.mem_cons, List.not_mem_nil, or_false] at hi
    omega)
  have rr := s_ratio hj ti (1 + ui) S9 (by omega) (Nat.lt_of_le_of_lt (show (1 + ui).natAbs ≤ 1000000000 by omega) (by decide +kernel))
  refine ⟨rat ti (1 + ui), S9, ?_, rat_isN (by omega) (by omega) (by omega), p9, k1.trans (k2.trans (k3.trans (Ke.app.trans (k5.trans (k6.trans (k7.trans (Ke.app.trans k9)))))))⟩
  simp only [bind_ok, bind_exc, oR_ap, ofR_ok, ofR_exc, bool1_bl, mVar_ap, mC_ap, mBin_ap, mTest_ap, mChain_ap, mTru_ap, dTru_bl, mAnd_ap, mOr_ap, mNot_ap, mAndV_ap, mNotV_ap, mNeg_ap, mIf_ap, mNil_ap, mCons_ap, mTup_ap, mLst_ap, mCall_ap, one_ap, two_ap, sRet_ap, sDrop_ap, sIf_ap, sNext_ap, sAsg_ap, sPar_ap, sRaise_ap, gN_ap, sSeq_ap, rseq_nx, rseq_rt, rseq_exc, rout_nx, rout_rt, rout_exc, oAdd_i, oSub_i, oLt_i, oLe_i, oGt_i, oGe_i, bAbs_i, bInt_i, bInt_b, oEq_int, oNe_int, oEq_bl, oNe_bl, oEq_pr, oNe_pr, ix_t0, ix_t1, List.getElem?_cons_zero, List.getElem?_cons_succ, List.length_cons, List.length_nil, List.set_cons_zero, List.set_cons_succ, if_true, if_false, ite_true, ite_false, reduceIte, Nat.reduceAdd, Nat.reduceSub, Nat.zero_add, Bool.not_true, Bool.not_false, Bool.true_eq_false, Bool.false_eq_true, e1, e2, e3, ten9, g4, e5, e6, e7, g8, e9, rr]
end K30
set_option Elab.async false
set_option linter.all false
set_option maxRecDepth 100000
set_option maxHeartbeats 2000000
namespace K30
open PySem L2 Vi
/-- nothing that was there is changed -/
def Kp (S S' : Sto) : Prop := S.length ≤ S'.length ∧ ∀ j, j < S.length → S'[j]? = S[j]?
theorem Kp.refl {S : Sto} : Kp S S := ⟨Nat.le_refl _, fun _ _ => rfl⟩
theorem Kp.trans {S S1 S2 : Sto} (a : Kp S S1) (b : Kp S1 S2) : Kp S S2 := ⟨Nat.le_trans a.1 b.1, fun j h => (b.2 j (Nat.lt_of_lt_of_le h a.1)).trans (a.2 j h)⟩
theorem Kp.app {S T : Sto} : Kp S (S ++ T) := ⟨by simp, fun j h => List.getElem?_append_left h⟩
theorem Kp.ke {S S' : Sto} {p : Nat} (a : Kp S S') : Ke p S S' := ⟨a.1, fun j _ h => a.2 j h⟩
theorem Kp.get {q : Nat} {S S' : Sto} {m : MO} (k : Kp S S') (h : S[q]? = some m) : S'[q]? = some m := by
  rw [k.2 q (List.getElem?_eq_some_iff.mp h).1]
  exact h
theorem Kp.pot {S S' : Sto} {p n : Nat} (k : Kp S S') (h : PotAt S p n) : PotAt S' p n := by
  obtain ⟨d, x, c, e, r⟩ := h
  exact ⟨d, x, c, k.get e, r⟩
theorem mLm_ap {op : D → List D → Sto → R D} {mo : ME} {mr : MA} {ρ : Ev} {S : Sto} : mLm op mo mr ρ S = (mo ρ S).bind fun o S1 => if isLst o S1 = true then (mr ρ S1).bind fun ds S2 => op o ds S2 else .bad := rfl
theorem isLst_r {S : Sto} {q : Nat} {xs : List D} (h : S[q]? = some (.lst xs)) : isLst (.ref q) S = true := by
  unfold isLst
  dsimp only
  rw [h]
theorem ext_step {ρ : Ev} {S : Sto} {q : Nat} {xs ys : List D} {mr : MA} (hv : ρ[1]? = some (some (.ref q))) (hq : S[q]? = some (.lst xs)) (hm : mr ρ S = .ok ys S) (h1 : ys.length ≤ 1000) (h2 : ys.all noClo = true) (h3 : xs.length ≤ 1000) :
    ∃ S2, sDrop (mLm extD (mVar 1) (mCons (mLst mr) mNil)) ρ S = .nx ρ S2 ∧ S2[q]? = some (.lst (xs ++ ys)) ∧ Ke q S S2 := by
  have hl := (List.getElem?_eq_some_iff.mp hq).1
  have g := lstD_ap (S := S) h1 h2
  have q2 : (S ++ [MO.lst ys])[q]? = some (.lst xs) := by rw [List.getElem?_append_left hl]; exact hq
  have n2 : (S ++ [MO.lst ys])[S.length]? = some (.lst ys) := by simp
  refine ⟨(S ++ [MO.lst ys]).set q (.lst (xs ++ ys)), ?_, List.getElem?_set_self (by simp; omega), Ke.app.trans Ke.set⟩
  have ex : extD (.ref q) [.ref S.length] (S ++ [MO.lst ys]) = .ok .non ((S ++ [MO.lst ys]).set q (.lst (xs ++ ys))) := by
    unfold extD
    dsimp only
    rw [q2, n2]
    dsimp only
    rw [if_pos (Nat.le_trans (Nat.add_le_add h3 h1) (by decide +kernel))]
  simp only [sDrop_ap, mLm_ap, mVar_ap, hv, bind_ok, isLst_r hq, if_true, mCons_ap, mLst_ap, hm, g, mNil_ap, ex, ofR_ok]
theorem isA_exo {c j : Nat} {d : D} {S : Sto} : bIsA (.exo c d) (.cls j) S = some (.bl (decide (c = j))) := rfl
def kb (c : Nat) : List D := (List.range 24).map fun j => .bl (decide (c = j))
def isl : List Nat → MA
  | [] => mNil
  | j :: r => mCons (mCall (two bIsA) (mCons (mVar 0) (mCons (mC (.cls j)) mNil))) (isl r)
theorem isl_eq {c : Nat} {d : D} {e : Option D} {S : Sto} : ∀ js : List Nat, isl js [some (.exo c d), e] S = .ok (js.map fun j => D.bl (decide (c = j))) S
  | [] => rfl
  | j :: r => by
    unfold isl
    simp only [bind_ok, bind_exc, oR_ap, ofR_ok, ofR_exc, bool1_bl, mVar_ap, mC_ap, mBin_ap, mTest_ap, mChain_ap, mTru_ap, dTru_bl, mAnd_ap, mOr_ap, mNot_ap, mAndV_ap, mNotV_ap, mNeg_ap, mIf_ap, mNil_ap, mCons_ap, mTup_ap, mLst_ap, mCall_ap, one_ap, two_ap, sRet_ap, sDrop_ap, sIf_ap, sNext_ap, sAsg_ap, sPar_ap, sRaise_ap, gN_ap, sSeq_ap, rseq_nx, rseq_rt, rseq_exc, rout_nx, rout_rt, rout_exc, oAdd_i, oSub_i, oLt_i, oLe_i, oGt_i, oGe_i, bAbs_i, bInt_i, bInt_b, oEq_int, oNe_int, oEq_bl, oNe_bl, oEq_pr, oNe_pr, ix_t0, ix_t1, List.getElem?_cons_zero, List.getElem?_cons_succ, List.length_cons, List.length_nil, List.set_cons_zero, List.set_cons_succ, if_true, if_false, ite_true, ite_false, reduceIte, Nat.reduceAdd, Nat.reduceSub, Nat.zero_add, Bool.not_true, Bool.not_false, Bool.true_eq_false, Bool.false_eq_true, isA_exo, isl_eq r]
    rfl
abbrev extS (js : List Nat) : MS := sDrop (mLm extD (mVar 1) (mCons (mLst (isl js)) mNil))
theorem kinds_eq (G : GT) : m__law_kinds_of G = sSeq (sAsg (mLst mNil) (gN 1)) (sSeq (extS [0, 1, 2, 3, 4]) (sSeq (extS [5, 6, 7, 8, 9]) (sSeq (extS [10, 11, 12, 13, 14]) (sSeq (extS [15, 16, 17, 18, 19]) (sSeq (extS [20, 21, 22, 23]) (sRet (mVar 1))))))) := rfl
theorem isl_no {c : Nat} : ∀ js : List Nat, (js.map fun j => D.bl (decide (c = j))).all noClo = true
  | [] => rfl
  | j :: r => by
    rw [List.map_cons, List.all_cons, isl_no r]
    rfl
theorem s_kinds {k : Nat} (hk : 1 ≤ k) (c : Nat) (d : D) (S : Sto) : ∃ S', (Gk k).fn 17 [.exo c d] S = .ok (.ref S.length) S' ∧ S'[S.length]? = some (.lst (kb c)) ∧ Kp S S' := by
  obtain ⟨k, rfl, hj⟩ := kk hk
  rw [ap__law_kinds_of, kinds_eq]
  have g0 : lstD [] S = .ok (.ref S.length) (S ++ [.lst []]) := lstD_ap (by simp) rfl
  have q0 : (S ++ [MO.lst []])[S.length]? = some (.lst []) := by simp
  have st (T : Sto) (xs : List D) (js : List Nat) (hq : T[S.length]? = some (.lst xs)) (h1 : js.length ≤ 1000) (h3 : xs.length ≤ 1000) := ext_step (ρ := [some (.exo c d), some (.ref S.length)]) (S := T) (mr := isl js) rfl hq (isl_eq js) (by rw [List.length_map]; exact h1) (isl_no js) h3
  obtain ⟨S1, e1, q1, k1⟩ := st (S ++ [MO.lst []]) _ [0, 1, 2, 3, 4] q0 (by simp) (by simp)
  obtain ⟨S2, e2, q2, k2⟩ := st S1 _ [5, 6, 7, 8, 9] q1 (by simp) (by simp)
  obtain ⟨S3, e3, q3, k3⟩ := st S2 _ [10, 11, 12, 13, 14] q2 (by simp) (by simp)
  obtain ⟨S4, e4, q4, k4⟩ := st S3 _ [15, 16, 17, 18, 19] q3 (by simp) (by simp)
  obtain ⟨S5, e5, q5, k5⟩ := st S4 _ [20, 21, 22, 23] q4 (by simp) (by simp)
  refine ⟨S5, ?_, q5, ?_⟩
  · have e0 : sAsg (mLst mNil) (gN 1) [some (.exo c d), none] S = .nx [some (.exo c d), some (.ref S.length)] (S ++ [.lst []]) := by simp only [bind_ok, bind_exc, oR_ap, ofR_ok, ofR_exc, bool1_bl, mVar_ap, mC_ap, mBin_ap, mTest_ap, mChain_ap, mTru_ap, dTru_bl, mAnd_ap, mOr_ap, mNot_ap, mAndV_ap, mNotV_ap, mNeg_ap, mIf_ap, mNil_ap, mCons_ap, mTup_ap, mLst_ap, mCall_ap, one_ap, two_ap, sRet_ap, sDrop_ap, sIf_ap, sNext_ap, sAsg_ap, sPar_ap, sRaise_ap, gN_ap, sSeq_ap, rseq_nx, rseq_rt, rseq_exc, rout_nx, rout_rt, rout_exc, oAdd_i, oSub_i, oLt_i, oLe_i, oGt_i, oGe_i, bAbs_i, bInt_i, bInt_b, oEq_int, oNe_int, oEq_bl, oNe_bl, oEq_pr, oNe_pr, ix_t0, ix_t1, List.getElem?_cons_zero, List.getElem?_cons_succ, List.length_cons, List.length_nil, List.set_cons_zero, List.set_cons_succ, if_true, if_false, ite_true, ite_false, reduceIte, Nat.reduceAdd, Nat.reduceSub, Nat.zero_add, Bool.not_true, Bool.not_false, Bool.true_eq_false, Bool.false_eq_true, g0]
    rw [seq_nx e0, seq_nx e1, seq_nx e2, seq_nx e3, seq_nx e4, seq_nx e5]
    simp only [bind_ok, bind_exc, oR_ap, ofR_ok, ofR_exc, bool1_bl, mVar_ap, mC_ap, mBin_ap, mTest_ap, mChain_ap, mTru_ap, dTru_bl, mAnd_ap, mOr_ap, mNot_ap, mAndV_ap, mNotV_ap, mNeg_ap, mIf_ap, mNil_ap, mCons_ap, mTup_ap, mLst_ap, mCall_ap, one_ap, two_ap, sRet_ap, sDrop_ap, sIf_ap, sNext_ap, sAsg_ap, sPar_ap, sRaise_ap, gN_ap, sSeq_ap, rseq_nx, rseq_rt, rseq_exc, rout_nx, rout_rt, rout_exc, oAdd_i, oSub_i, oLt_i, oLe_i, oGt_i, oGe_i, bAbs_i, bInt_i, bInt_b, oEq_int, oNe_int, oEq_bl, oNe_bl, oEq_pr, oNe_pr, ix_t0, ix_t1, List.getElem?_cons_zero, List.getElem?_cons_succ, List.length_cons, List.length_nil, List.set_cons_zero, List.set_cons_succ, if_true, if_false, ite_true, ite_false, reduceIte, Nat.reduceAdd, Nat.reduceSub, Nat.zero_add, Bool.not_true, Bool.not_false, Bool.true_eq_false, Bool.false_eq_true]
  · have kk := Ke.trans k1 (Ke.trans k2 (Ke.trans k3 (Ke.trans k4 k5)))
    refine ⟨Nat.le_trans (by simp) kk.1, fun j hj => ?_⟩
    rw [kk.2 j (by omega) (by simp; omega)]
    exact List.getElem?_append_left hj
theorem s_caught {k : Nat} (hk : 1 ≤ k) {i c : Nat} {cs : List (Option D)} {d : D} {S S1 : Sto} (h : (Gk (k - 1)).lam i cs S = .exc c d S1) : (Gk k).fn 16 [.clo i cs] S = .ok (.tup [.exo c d, .non]) S1 := by
  obtain ⟨k, rfl, hj⟩ := kk hk
  rw [Nat.add_sub_cancel] at h
  rw [ap__law_caught]
  unfold m__law_caught
  have t2 : tupD [.non, .non] S = .ok (.tup [.non, .non]) S := tupD_2 rfl rfl
  have gt : gT [2, 3] (.tup [.non, .non]) [some (.clo i cs), none, none, none] = some [some (.clo i cs), none, some .non, some .non] := rfl
  have tr : sTryK 1 2 (sAsg (mCall0 (Gk k) 0) (gN 3)) [some (.clo i cs), none, some .non, some .non] S = .nx [some (.clo i cs), none, some (.exo c d), some .non] S1 := by
    have e : mCall0 (Gk k) 0 [some (.clo i cs), none, some .non, some .non] S = .exc c d S1 := h
    unfold sTryK
    rw [sAsg_ap, e]
    rfl
  simp only [bind_ok, bind_exc, oR_ap, ofR_ok, ofR_exc, bool1_bl, mVar_ap, mC_ap, mBin_ap, mTest_ap, mChain_ap, mTru_ap, dTru_bl, mAnd_ap, mOr_ap, mNot_ap, mAndV_ap, mNotV_ap, mNeg_ap, mIf_ap, mNil_ap, mCons_ap, mTup_ap, mLst_ap, mCall_ap, one_ap, two_ap, sRet_ap, sDrop_ap, sIf_ap, sNext_ap, sAsg_ap, sPar_ap, sRaise_ap, gN_ap, sSeq_ap, rseq_nx, rseq_rt, rseq_exc, rout_nx, rout_rt, rout_exc, oAdd_i, oSub_i, oLt_i, oLe_i, oGt_i, oGe_i, bAbs_i, bInt_i, bInt_b, oEq_int, oNe_int, oEq_bl, oNe_bl, oEq_pr, oNe_pr, ix_t0, ix_t1, List.getElem?_cons_zero, List.getElem?_cons_succ, List.length_cons, List.length_nil, List.set_cons_zero, List.set_cons_succ, if_true, if_false, ite_true, ite_false, reduceIte, Nat.reduceAdd, Nat.reduceSub, Nat.zero_add, Bool.not_true, Bool.not_false, Bool.true_eq_false, Bool.false_eq_true, t2, gt, tr, tupD_2 (show noClo (.exo c d) = true from rfl) (show noClo .non = true from rfl)]
theorem lc_0 {a b d e : Option D} {S : Sto} : mLcR [4] (gN 4) (mCons (mC (.int 24)) mNil) mYes (mBin oEq (mVar 4) (mVar 1)) [a, some (.int 0), b, d, e] S = .ok (.ref S.length) (S ++ [.lst (kb 0)]) := by kernel_rfl
theorem lc_11 {a b d e : Option D} {S : Sto} : mLcR [4] (gN 4) (mCons (mC (.int 24)) mNil) mYes (mBin oEq (mVar 4) (mVar 1)) [a, some (.int 11), b, d, e] S = .ok (.ref S.length) (S ++ [.lst (kb 11)]) := by kernel_rfl
theorem eq_kb {c p q : Nat} {S : Sto} (hc : c = 0 ∨ c = 11) (hp : S[p]? = some (.lst (kb c))) (hq : S[q]? = some (.lst (kb c))) : oEq (.ref p) (.ref q) S = some (.bl true) := by
  have e1 : toP S 70 (.ref p) = (allSome (toP S 69) (kb c)).map .list := by
    show (match S[p]? with | some (.lst ds) => (allSome (toP S 69) ds).map PyData.list | none => none) = _
    rw [hp]
  have e2 : toP S 70 (.ref q) = (allSome (toP S 69) (kb c)).map .list := by
    show (match S[q]? with | some (.lst ds) => (allSome (toP S 69) ds).map PyData.list | none => none) = _
    rw [hq]
  show (dEq (.ref p) (.ref q) S).map D.bl = _
  unfold dEq
  rw [e1, e2]
  rcases hc with rfl | rfl <;> kernel_rfl
theorem oIsNot_exo {c : Nat} {d : D} {S : Sto} : oIsNot (.exo c d) .non S = some (.bl true) := rfl
theorem mVal_ap {m : ME} {ρ : Ev} {S : Sto} : mVal m ρ S = (m ρ S).bind fun d S1 => match d with | .exo _ d => .ok d S1 | _ => .bad := rfl
theorem oEq_st {a b : Str} {S : Sto} : oEq (.str a) (.str b) S = some (.bl (decide (a = b))) := rfl
theorem ix_p0 {a b : D} {S : Sto} : dIx (.tup [a, b]) (.int 0) S = some a := rfl
theorem s_tells {k : Nat} (hk : 3 ≤ k) {i c : Nat} (hc : c = 0 ∨ c = 11) {cs : List (Option D)} {d kept : D} {S S1 : Sto} {x : Str} (hl : (Gk (k - 2)).lam i cs S = .exc c d S1)
    (hr : ∀ S2, Kp S1 S2 → bRepr d S2 = some (.str x) ∧ bRepr kept S2 = some (.str x)) : ∃ S', (Gk k).fn 18 [.clo i cs, .int c, kept] S = .ok (.bl true) S' ∧ Kp S1 S' := by
  obtain ⟨k, rfl, hj⟩ := kk hk
  have hl' : (Gk (k - 1)).lam i cs S = .exc c d S1 := by
    have e : k + 1 - 2 = k - 1 := by omega
    rw [← e]
    exact hl
  obtain ⟨S2, e2, q2, k2⟩ := s_kinds (k := k) (by omega) c d S1
  have lc : mLcR [4] (gN 4) (mCons (mC (.int 24)) mNil) mYes (mBin oEq (mVar 4) (mVar 1)) [some (.clo i cs), some (.int c), some kept, some (.exo c d), none] S2 = .ok (.ref S2.length) (S2 ++ [.lst (kb c)]) := by
    rcases hc with rfl | rfl
    · exact lc_0
    · exact lc_11
  have k3 : Kp S2 (S2 ++ [MO.lst (kb c)]) := Kp.app
  have eq := eq_kb hc (k3.get q2) (show (S2 ++ [MO.lst (kb c)])[S2.length]? = some (.lst (kb c)) by simp)
  obtain ⟨r1, r2⟩ := hr _ (k2.trans k3)
  refine ⟨_, ?_, k2.trans k3⟩
  rw [ap__law_tells]
  unfold m__law_tells
  simp only [bind_ok, bind_exc, oR_ap, ofR_ok, ofR_exc, bool1_bl, mVar_ap, mC_ap, mBin_ap, mTest_ap, mChain_ap, mTru_ap, dTru_bl, mAnd_ap, mOr_ap, mNot_ap, mAndV_ap, mNotV_ap, mNeg_ap, mIf_ap, mNil_ap, mCons_ap, mTup_ap, mLst_ap, mCall_ap, one_ap, two_ap, sRet_ap, sDrop_ap, sIf_ap, sNext_ap, sAsg_ap, sPar_ap, sRaise_ap, gN_ap, sSeq_ap, rseq_nx, rseq_rt, rseq_exc, rout_nx, rout_rt, rout_exc, oAdd_i, oSub_i, oLt_i, oLe_i, oGt_i, oGe_i, bAbs_i, bInt_i, bInt_b, oEq_int, oNe_int, oEq_bl, oNe_bl, oEq_pr, oNe_pr, ix_t0, ix_t1, List.getElem?_cons_zero, List.getElem?_cons_succ, List.length_cons, List.length_nil, List.set_cons_zero, List.set_cons_succ, if_true, if_false, ite_true, ite_false, reduceIte, Nat.reduceAdd, Nat.reduceSub, Nat.zero_add, Bool.not_true, Bool.not_false, Bool.true_eq_false, Bool.false_eq_true, s_caught (k := k) (by omega) hl', oIsNot_exo, e2, lc, eq, mVal_ap, r1, r2, oEq_st, decide_true]
end K30
set_option Elab.async false
set_option linter.all false
set_option maxRecDepth 100000
set_option maxHeartbeats 2000000
namespace K30
open PySem L2 Vi
/-! ### the laws of fractions -/
theorem sumr_comm (p q : Int × Int) : sumr q p = sumr p q := by
  unfold sumr
  rw [Int.add_comm, Int.mul_comm q.2 p.2]
theorem prdr_comm (p q : Int × Int) : prdr q p = prdr p q := by
  unfold prdr
  rw [Int.mul_comm q.1 p.1, Int.mul_comm q.2 p.2]
section
variable {p q r : Int × Int} (hp : Can p) (hq : Can q) (hr : Can r)
include hp
theorem sumr_0 : sumr p (0, 1) = p := by
  unfold sumr
  have := hp.1
  refine rat_eq (by dsimp only; omega) hp ?_
  dsimp only
  rw [Int.mul_one, Int.mul_one, Int.zero_mul, Int.add_zero]
theorem prdr_1 : prdr p (1, 1) = p := by
  unfold prdr
  have := hp.1
  refine rat_eq (by dsimp only; omega) hp ?_
  dsimp only
  rw [Int.mul_one, Int.mul_one]
theorem prdr_0 : prdr p (0, 1) = (0, 1) := by
  unfold prdr
  have := hp.1
  refine rat_eq (by dsimp only; omega) ⟨by decide, by decide⟩ ?_
  dsimp only
  rw [Int.mul_zero, Int.zero_mul, Int.zero_mul]
theorem quor_self (h : p.1 ≠ 0) : quor p p = (1, 1) := by
  unfold quor
  have := hp.1
  refine rat_eq (Int.mul_ne_zero (by omega) h) ⟨by decide, by decide⟩ ?_
  dsimp only
  rw [Int.mul_one, Int.one_mul, Int.mul_comm]
include hq
theorem quor_back (h : q.1 ≠ 0) : prdr (quor p q) q = p := by
  have b1 := hp.1
  have b2 := hq.1
  have hb : p.2 * q.1 ≠ 0 := Int.mul_ne_zero (by omega) h
  obtain ⟨c, e⟩ := rat_can (t := p.1 * q.2) hb
  have c2 := c.1
  unfold prdr
  unfold quor
  refine rat_eq (Int.mul_ne_zero (by omega) (by omega)) hp ?_
  generalize (rat (p.1 * q.2) (p.2 * q.1)).1 = x at e ⊢
  generalize (rat (p.1 * q.2) (p.2 * q.1)).2 = y at e ⊢
  have z1 : x * q.1 * p.2 = x * (p.2 * q.1) := by grind
  rw [z1, e]
  grind
theorem sumr_can : Can (sumr p q) ∧ (sumr p q).1 * (p.2 * q.2) = (p.1 * q.2 + q.1 * p.2) * (sumr p q).2 := by
  have b1 := hp.1
  have b2 := hq.1
  exact rat_can (Int.mul_ne_zero (by omega) (by omega))
theorem prdr_can : Can (prdr p q) ∧ (prdr p q).1 * (p.2 * q.2) = (p.1 * q.1) * (prdr p q).2 := by
  have b1 := hp.1
  have b2 := hq.1
  exact rat_can (Int.mul_ne_zero (by omega) (by omega))
include hr
theorem spread : prdr (sumr p q) r = sumr (prdr p r) (prdr q r) := by
  obtain ⟨c1, e1⟩ := sumr_can hp hq
  obtain ⟨c2, e2⟩ := prdr_can hp hr
  obtain ⟨c3, e3⟩ := prdr_can hq hr
  have b1 := hp.1
  have b2 := hq.1
  have b3 := hr.1
  have d1 := c1.1
  have d2 := c2.1
  have d3 := c3.1
  rw [show prdr (sumr p q) r = rat ((sumr p q).1 * r.1) ((sumr p q).2 * r.2) from rfl, show sumr (prdr p r) (prdr q r) = rat ((prdr p r).1 * (prdr q r).2 + (prdr q r).1 * (prdr p r).2) ((prdr p r).2 * (prdr q r).2) from rfl]
  generalize sumr p q = w at *
  generalize prdr p r = x at *
  generalize prdr q r = y at *
  obtain ⟨a, b⟩ := p
  obtain ⟨c, d⟩ := q
  obtain ⟨e, f⟩ := r
  obtain ⟨w0, w1⟩ := w
  obtain ⟨x0, x1⟩ := x
  obtain ⟨y0, y1⟩ := y
  dsimp only at *
  refine rat_cross (Int.mul_ne_zero (by omega) (by omega)) (Int.mul_ne_zero (by omega) (by omega)) ?_
  have z : (w0 * e * (x1 * y1)) * (b * d) = ((x0 * y1 + y0 * x1) * (w1 * f)) * (b * d) := by
    have z1 : (w0 * e * (x1 * y1)) * (b * d) = (w0 * (b * d)) * (e * x1 * y1) := by grind
    have z2 : ((x0 * y1 + y0 * x1) * (w1 * f)) * (b * d) = (x0 * (b * f)) * (y1 * d * w1) + (y0 * (d * f)) * (x1 * b * w1) := by grind
    rw [z1, z2, e1, e2, e3]
    grind
  exact Int.eq_of_mul_eq_mul_right (Int.mul_ne_zero (by omega) (by omega)) z
end
theorem isN_iff {p : Int × Int} (h : Can p) : isN p = (decide ((p.1.natAbs : Int) ≤ 1000000000) && decide (p.2 ≤ 1000000000)) := by
  obtain ⟨h1, h2⟩ := h
  unfold isN
  rw [h2, Bool.eq_iff_iff]
  simp only [Bool.and_eq_true, decide_eq_true_eq, beq_iff_eq]
  constructor
  · rintro ⟨⟨⟨a, b⟩, c, d⟩, e⟩
    exact ⟨by omega, d⟩
  · rintro ⟨a, b⟩
    exact ⟨⟨⟨by omega, by omega⟩, by omega, b⟩, rfl⟩
theorem prdr_bd {p q : Int × Int} (hp : isN p = true) (hq : isN q = true) : Bd2 (prdr p q) := by
  obtain ⟨c1, _, l1, l2⟩ := isN_can hp
  obtain ⟨c2, _, m1, m2⟩ := isN_can hq
  have b1 := c1.1
  have b2 := c2.1
  obtain ⟨n1, n2⟩ := rat_le (t := p.1 * q.1) (b := p.2 * q.2) (Int.mul_ne_zero (by omega) (by omega))
  have e1 : (p.1 * q.1).natAbs ≤ 1000000000 * 1000000000 := by rw [Int.natAbs_mul]; exact Nat.mul_le_mul l1 m1
  have e2 : (p.2 * q.2).natAbs ≤ 1000000000 * 1000000000 := by rw [Int.natAbs_mul]; exact Nat.mul_le_mul l2 m2
  have e3 : 1000000000 * 1000000000 < 2 ^ 400 := by decide +kernel
  exact ⟨Nat.lt_of_le_of_lt (Nat.le_trans n1 e1) e3, Nat.lt_of_le_of_lt (Nat.le_trans n2 e2) e3⟩
/-! ### errors -/
theorem isN_01 : isN (0, 1) = true := by decide +kernel
theorem s_divided_0 {k : Nat} (hk : 4 ≤ k) (p : Int × Int) (S : Sto) (hp : isN p = true) : (Gk k).fn 11 [pr p, pr (0, 1)] S = .exc 11 (.tup [pr p, pr (0, 1)]) S := by
  obtain ⟨k, rfl, hj⟩ := kk hk
  rw [ap_divided]
  unfold m_divided
  have n1 := s_check hj (pr p) S (by rw [s_isnum (by omega), hp])
  have n2 := s_check hj (pr (0, 1)) S (by rw [s_isnum (by omega), isN_01])
  have n3 : (Gk k).fn 8 [pr p, pr (0, 1)] S = .exc 11 (.tup [pr p, pr (0, 1)]) S := s_quotient_0 (by omega) p S
  simp only [bind_ok, bind_exc, oR_ap, ofR_ok, ofR_exc, bool1_bl, mVar_ap, mC_ap, mBin_ap, mTest_ap, mChain_ap, mTru_ap, dTru_bl, mAnd_ap, mOr_ap, mNot_ap, mAndV_ap, mNotV_ap, mNeg_ap, mIf_ap, mNil_ap, mCons_ap, mTup_ap, mLst_ap, mCall_ap, one_ap, two_ap, sRet_ap, sDrop_ap, sIf_ap, sNext_ap, sAsg_ap, sPar_ap, sRaise_ap, gN_ap, sSeq_ap, rseq_nx, rseq_rt, rseq_exc, rout_nx, rout_rt, rout_exc, oAdd_i, oSub_i, oLt_i, oLe_i, oGt_i, oGe_i, bAbs_i, bInt_i, bInt_b, oEq_int, oNe_int, oEq_bl, oNe_bl, oEq_pr, oNe_pr, ix_t0, ix_t1, List.getElem?_cons_zero, List.getElem?_cons_succ, List.length_cons, List.length_nil, List.set_cons_zero, List.set_cons_succ, if_true, if_false, ite_true, ite_false, reduceIte, Nat.reduceAdd, Nat.reduceSub, Nat.zero_add, Bool.not_true, Bool.not_false, Bool.true_eq_false, Bool.false_eq_true, n1, n2, n3]
section
variable {k f : Nat} (hk : 4 ≤ k) (hf : f = 9 ∨ f = 10 ∨ f = 11) {b : D} (S : Sto) (hb : ∀ j, 2 ≤ j → (Gk j).fn 4 [b] S = .ok (.bl false) S) (hn : noClo b = true)
include hk hf hb hn
theorem s_bad1 (e : D) : (Gk k).fn f [b, e] S = .exc 0 b S := by
  obtain ⟨k, rfl, hj⟩ := kk hk
  have n1 := s_check_bad hj b S (hb _ (by omega)) hn
  rcases hf with rfl | rfl | rfl
  · rw [ap_added]
    unfold m_added
    simp only [bind_ok, bind_exc, oR_ap, ofR_ok, ofR_exc, bool1_bl, mVar_ap, mC_ap, mBin_ap, mTest_ap, mChain_ap, mTru_ap, dTru_bl, mAnd_ap, mOr_ap, mNot_ap, mAndV_ap, mNotV_ap, mNeg_ap, mIf_ap, mNil_ap, mCons_ap, mTup_ap, mLst_ap, mCall_ap, one_ap, two_ap, sRet_ap, sDrop_ap, sIf_ap, sNext_ap, sAsg_ap, sPar_ap, sRaise_ap, gN_ap, sSeq_ap, rseq_nx, rseq_rt, rseq_exc, rout_nx, rout_rt, rout_exc, oAdd_i, oSub_i, oLt_i, oLe_i, oGt_i, oGe_i, bAbs_i, bInt_i, bInt_b, oEq_int, oNe_int, oEq_bl, oNe_bl, oEq_pr, oNe_pr, ix_t0, ix_t1, List.getElem?_cons_zero, List.getElem?_cons_succ, List.length_cons, List.length_nil, List.set_cons_zero, List.set_cons_succ, if_true, if_false, ite_true, ite_false, reduceIte, Nat.reduceAdd, Nat.reduceSub, Nat.zero_add, Bool.not_true, Bool.not_false, Bool.true_eq_false, Bool.false_eq_true, n1]
  · rw [ap_multiplied]
    unfold m_multiplied
    simp only [bind_ok, bind_exc, oR_ap, ofR_ok, ofR_exc, bool1_bl, mVar_ap, mC_ap, mBin_ap, mTest_ap, mChain_ap, mTru_ap, dTru_bl, mAnd_ap, mOr_ap, mNot_ap, mAndV_ap, mNotV_ap, mNeg_ap, mIf_ap, mNil_ap, mCons_ap, mTup_ap, mLst_ap, mCall_ap, one_ap, two_ap, sRet_ap, sDrop_ap, sIf_ap, sNext_ap, sAsg_ap, sPar_ap, sRaise_ap, gN_ap, sSeq_ap, rseq_nx, rseq_rt, rseq_exc, rout_nx, rout_rt, rout_exc, oAdd_i, oSub_i, oLt_i, oLe_i, oGt_i, oGe_i, bAbs_i, bInt_i, bInt_b, oEq_int, oNe_int, oEq_bl, oNe_bl, oEq_pr, oNe_pr, ix_t0, ix_t1, List.getElem?_cons_zero, List.getElem?_cons_succ, List.length_cons, List.length_nil, List.set_cons_zero, List.set_cons_succ, if_true, if_false, ite_true, ite_false, reduceIte, Nat.reduceAdd, Nat.reduceSub, Nat.zero_add, Bool.not_true, Bool.not_false, Bool.true_eq_false, Bool.false_eq_true, n1]
  · rw [ap_divided]
    unfold m_divided
    simp only [bind_ok, bind_exc, oR_ap, ofR_ok, ofR_exc, bool1_bl, mVar_ap, mC_ap, mBin_ap, mTest_ap, mChain_ap, mTru_ap, dTru_bl, mAnd_ap, mOr_ap, mNot_ap, mAndV_ap, mNotV_ap, mNeg_ap, mIf_ap, mNil_ap, mCons_ap, mTup_ap, mLst_ap, mCall_ap, one_ap, two_ap, sRet_ap, sDrop_ap, sIf_ap, sNext_ap, sAsg_ap, sPar_ap, sRaise_ap, gN_ap, sSeq_ap, rseq_nx, rseq_rt, rseq_exc, rout_nx, rout_rt, rout_exc, oAdd_i, oSub_i, oLt_i, oLe_i, oGt_i, oGe_i, bAbs_i, bInt_i, bInt_b, oEq_int, oNe_int, oEq_bl, oNe_bl, oEq_pr, oNe_pr, ix_t0, ix_t1, List.getElem?_cons_zero, List.getElem?_cons_succ, List.length_cons, List.length_nil, List.set_cons_zero, List.set_cons_succ, if_true, if_false, ite_true, ite_false, reduceIte, Nat.reduceAdd, Nat.reduceSub, Nat.zero_add, Bool.not_true, Bool.not_false, Bool.true_eq_false, Bool.false_eq_true, n1]
theorem s_bad2 (p : Int × Int) (hp : isN p = true) : (Gk k).fn f [pr p, b] S = .exc 0 b S := by
  obtain ⟨k, rfl, hj⟩ := kk hk
  have n1 := s_check hj (pr p) S (by rw [s_isnum (by omega), hp])
  have n2 := s_check_bad hj b S (hb _ (by omega)) hn
  rcases hf with rfl | rfl | rfl
  · rw [ap_added]
    unfold m_added
    simp only [bind_ok, bind_exc, oR_ap, ofR_ok, ofR_exc, bool1_bl, mVar_ap, mC_ap, mBin_ap, mTest_ap, mChain_ap, mTru_ap, dTru_bl, mAnd_ap, mOr_ap, mNot_ap, mAndV_ap, mNotV_ap, mNeg_ap, mIf_ap, mNil_ap, mCons_ap, mTup_ap, mLst_ap, mCall_ap, one_ap, two_ap, sRet_ap, sDrop_ap, sIf_ap, sNext_ap, sAsg_ap, sPar_ap, sRaise_ap, gN_ap, sSeq_ap, rseq_nx, rseq_rt, rseq_exc, rout_nx, rout_rt, rout_exc, oAdd_i, oSub_i, oLt_i, oLe_i, oGt_i, oGe_i, bAbs_i, bInt_i, bInt_b, oEq_int, oNe_int, oEq_bl, oNe_bl, oEq_pr, oNe_pr, ix_t0, ix_t1, List.getElem?_cons_zero, List.getElem?_cons_succ, List.length_cons, List.length_nil, List.set_cons_zero, List.set_cons_succ, if_true, if_false, ite_true, ite_false, reduceIte, Nat.reduceAdd, Nat.reduceSub, Nat.zero_add, Bool.not_true, Bool.not_false, Bool.true_eq_false, Bool.false_eq_true, n1, n2]
  · rw [ap_multiplied]
    unfold m_multiplied
    simp only [bind_ok, bind_exc, oR_ap, ofR_ok, ofR_exc, bool1_bl, mVar_ap, mC_ap, mBin_ap, mTest_ap, mChain_ap, mTru_ap, dTru_bl, mAnd_ap, mOr_ap, mNot_ap, mAndV_ap, mNotV_ap, mNeg_ap, mIf_ap, mNil_ap, mCons_ap, mTup_ap, mLst_ap, mCall_ap, one_ap, two_ap, sRet_ap, sDrop_ap, sIf_ap, sNext_ap, sAsg_ap, sPar_ap, sRaise_ap, gN_ap, sSeq_ap, rseq_nx, rseq_rt, rseq_exc, rout_nx, rout_rt, rout_exc, oAdd_i, oSub_i, oLt_i, oLe_i, oGt_i, oGe_i, bAbs_i, bInt_i, bInt_b, oEq_int, oNe_int, oEq_bl, oNe_bl, oEq_pr, oNe_pr, ix_t0, ix_t1, List.getElem?_cons_zero, List.getElem?_cons_succ, List.length_cons, List.length_nil, List.set_cons_zero, List.set_cons_succ, if_true, if_false, ite_true, ite_false, reduceIte, Nat.reduceAdd, Nat.reduceSub, Nat.zero_add, Bool.not_true, Bool.not_false, Bool.true_eq_false, Bool.false_eq_true, n1, n2]
  · rw [ap_divided]
    unfold m_divided
    simp only [bind_ok, bind_exc, oR_ap, ofR_ok, ofR_exc, bool1_bl, mVar_ap, mC_ap, mBin_ap, mTest_ap, mChain_ap, mTru_ap, dTru_bl, mAnd_ap, mOr_ap, mNot_ap, mAndV_ap, mNotV_ap, mNeg_ap, mIf_ap, mNil_ap, mCons_ap, mTup_ap, mLst_ap, mCall_ap, one_ap, two_ap, sRet_ap, sDrop_ap, sIf_ap, sNext_ap, sAsg_ap, sPar_ap, sRaise_ap, gN_ap, sSeq_ap, rseq_nx, rseq_rt, rseq_exc, rout_nx, rout_rt, rout_exc, oAdd_i, oSub_i, oLt_i, oLe_i, oGt_i, oGe_i, bAbs_i, bInt_i, bInt_b, oEq_int, oNe_int, oEq_bl, oNe_bl, oEq_pr, oNe_pr, ix_t0, ix_t1, List.getElem?_cons_zero, List.getElem?_cons_succ, List.length_cons, List.length_nil, List.set_cons_zero, List.set_cons_succ, if_true, if_false, ite_true, ite_false, reduceIte, Nat.reduceAdd, Nat.reduceSub, Nat.zero_add, Bool.not_true, Bool.not_false, Bool.true_eq_false, Bool.false_eq_true, n1, n2]
end
theorem repr_of {d : D} {S : Sto} {p : PyData} (h : toP S 70 d = some p) (hr : reprOk p = true) : bRepr d S = some (.str p.shown) := by
  unfold bRepr
  rw [h]
  dsimp only
  rw [if_pos hr]
/-! ### values of no such kind -/
def bads (r : Nat) : List D := [.non, .int 1, .tup [.int 1], .tup [.int 2, .int 4], .tup [.int 1, .int 0], .tup [.int 1, .int (-2)], .tup [.bl true, .int 1], .tup [.int 1, .bl true], .ref r, .tup [.int (1000000000 + 1), .int 1], .tup [.int 1, .int (1000000000 + 1)], .tup [.str "1", .str "2"], .tup [.int 0, .int 2], .tup [.int 1, .int 2, .int 3]]
def BadOk (r : Nat) (d : D) : Prop := (∃ p, (∀ S : Sto, S[r]? = some (.lst [.int 1, .int 2]) → toP S 70 d = some p) ∧ reprOk p = true) ∧ noClo d = true ∧ ∀ k, 2 ≤ k → ∀ S, (Gk k).fn 4 [d] S = .ok (.bl false) S
theorem num_no {k : Nat} {d : D} {S : Sto} (hk : 2 ≤ k) (h : ∀ j, 1 ≤ j → (Gk j).fn 1 [d, .int 2, .int 2] S = .ok (.bl false) S) : (Gk k).fn 4 [d] S = .ok (.bl false) S := by
  obtain ⟨k, rfl, hj⟩ := kk hk
  rw [ap_is_number]
  unfold m_is_number
  simp only [bind_ok, bind_exc, oR_ap, ofR_ok, ofR_exc, bool1_bl, mVar_ap, mC_ap, mBin_ap, mTest_ap, mChain_ap, mTru_ap, dTru_bl, mAnd_ap, mOr_ap, mNot_ap, mAndV_ap, mNotV_ap, mNeg_ap, mIf_ap, mNil_ap, mCons_ap, mTup_ap, mLst_ap, mCall_ap, one_ap, two_ap, sRet_ap, sDrop_ap, sIf_ap, sNext_ap, sAsg_ap, sPar_ap, sRaise_ap, gN_ap, sSeq_ap, rseq_nx, rseq_rt, rseq_exc, rout_nx, rout_rt, rout_exc, oAdd_i, oSub_i, oLt_i, oLe_i, oGt_i, oGe_i, bAbs_i, bInt_i, bInt_b, oEq_int, oNe_int, oEq_bl, oNe_bl, oEq_pr, oNe_pr, ix_t0, ix_t1, List.getElem?_cons_zero, List.getElem?_cons_succ, List.length_cons, List.length_nil, List.set_cons_zero, List.set_cons_succ, if_true, if_false, ite_true, ite_false, reduceIte, Nat.reduceAdd, Nat.reduceSub, Nat.zero_add, Bool.not_true, Bool.not_false, Bool.true_eq_false, Bool.false_eq_true, h k hj]
theorem bad_pr {r : Nat} {x y : Int} (h : isN (x, y) = false) (hr : reprOk (.tuple [.int x, .int y]) = true) : BadOk r (.tup [.int x, .int y]) :=
  ⟨⟨_, fun S _ => rfl, hr⟩, rfl, fun k hk S => by
    have e := s_isnum hk (x, y) S
    rw [h] at e
    exact e⟩
theorem bads_ok {r : Nat} : ∀ d ∈ bads r, BadOk r d := by
  intro d hd
  simp only [bads, List.mem_cons, List.not_mem_nil, or_false] at hd
  rcases hd with rfl | rfl | rfl | rfl | rfl | rfl | rfl | rfl | rfl | rfl | rfl | rfl | rfl | rfl
  · exact ⟨⟨.none, fun S _ => rfl, by decide +kernel⟩, rfl, fun k hk S => num_no hk fun j hj => s_tup_no hj _ S isA_non_tup⟩
  · exact ⟨⟨.int 1, fun S _ => rfl, by decide +kernel⟩, rfl, fun k hk S => num_no hk fun j hj => s_tup_no hj _ S isA_int_tup⟩
  · exact ⟨⟨.tuple [.int 1], fun S _ => rfl, by decide +kernel⟩, rfl, fun k hk S => num_no hk fun j hj => s_tup hj _ S⟩
  · exact bad_pr (by decide +kernel) (by decide +kernel)
  · exact bad_pr (by decide +kernel) (by decide +kernel)
  · exact bad_pr (by decide +kernel) (by decide +kernel)
  · refine ⟨⟨.tuple [.bool true, .int 1], fun S _ => rfl, by decide +kernel⟩, rfl, fun k hk S => ?_⟩
    obtain ⟨k, rfl, hj⟩ := kk hk
    rw [ap_is_number]
    unfold m_is_number
    simp only [bind_ok, bind_exc, oR_ap, ofR_ok, ofR_exc, bool1_bl, mVar_ap, mC_ap, mBin_ap, mTest_ap, mChain_ap, mTru_ap, dTru_bl, mAnd_ap, mOr_ap, mNot_ap, mAndV_ap, mNotV_ap, mNeg_ap, mIf_ap, mNil_ap, mCons_ap, mTup_ap, mLst_ap, mCall_ap, one_ap, two_ap, sRet_ap, sDrop_ap, sIf_ap, sNext_ap, sAsg_ap, sPar_ap, sRaise_ap, gN_ap, sSeq_ap, rseq_nx, rseq_rt, rseq_exc, rout_nx, rout_rt, rout_exc, oAdd_i, oSub_i, oLt_i, oLe_i, oGt_i, oGe_i, bAbs_i, bInt_i, bInt_b, oEq_int, oNe_int, oEq_bl, oNe_bl, oEq_pr, oNe_pr, ix_t0, ix_t1, List.getElem?_cons_zero, List.getElem?_cons_succ, List.length_cons, List.length_nil, List.set_cons_zero, List.set_cons_succ, if_true, if_false, ite_true, ite_false, reduceIte, Nat.reduceAdd, Nat.reduceSub, Nat.zero_add, Bool.not_true, Bool.not_false, Bool.true_eq_false, Bool.false_eq_true, s_tup hj, s_int_bl hj, decide_true]
  · refine ⟨⟨.tuple [.int 1, .bool true], fun S _ => rfl, by decide +kernel⟩, rfl, fun k hk S => ?_⟩
    obtain ⟨k, rfl, hj⟩ := kk hk
    rw [ap_is_number]
    unfold m_is_number
    have e : (decide ((-1000000000 : Int) ≤ 1) && decide ((1 : Int) ≤ 1000000000)) = true := by decide
    simp only [bind_ok, bind_exc, oR_ap, ofR_ok, ofR_exc, bool1_bl, mVar_ap, mC_ap, mBin_ap, mTest_ap, mChain_ap, mTru_ap, dTru_bl, mAnd_ap, mOr_ap, mNot_ap, mAndV_ap, mNotV_ap, mNeg_ap, mIf_ap, mNil_ap, mCons_ap, mTup_ap, mLst_ap, mCall_ap, one_ap, two_ap, sRet_ap, sDrop_ap, sIf_ap, sNext_ap, sAsg_ap, sPar_ap, sRaise_ap, gN_ap, sSeq_ap, rseq_nx, rseq_rt, rseq_exc, rout_nx, rout_rt, rout_exc, oAdd_i, oSub_i, oLt_i, oLe_i, oGt_i, oGe_i, bAbs_i, bInt_i, bInt_b, oEq_int, oNe_int, oEq_bl, oNe_bl, oEq_pr, oNe_pr, ix_t0, ix_t1, List.getElem?_cons_zero, List.getElem?_cons_succ, List.length_cons, List.length_nil, List.set_cons_zero, List.set_cons_succ, if_true, if_false, ite_true, ite_false, reduceIte, Nat.reduceAdd, Nat.reduceSub, Nat.zero_add, Bool.not_true, Bool.not_false, Bool.true_eq_false, Bool.false_eq_true, s_tup hj, s_int hj, s_int_bl hj, decide_true, e]
  · refine ⟨⟨.list [.int 1, .int 2], fun S h => ?_, by decide +kernel⟩, rfl, fun k hk S => num_no hk fun j hj => s_tup_no hj _ S isA_ref_tup⟩
    show (match S[r]? with | some (.lst ds) => (allSome (toP S 69) ds).map PyData.list | none => none) = _
    rw [h]
    rfl
  · exact bad_pr (by decide +kernel) (by decide +kernel)
  · exact bad_pr (by decide +kernel) (by decide +kernel)
  · refine ⟨⟨.tuple [.str "1", .str "2"], fun S _ => rfl, by decide +kernel⟩, rfl, fun k hk S => ?_⟩
    obtain ⟨k, rfl, hj⟩ := kk hk
    rw [ap_is_number]
    unfold m_is_number
    simp only [bind_ok, bind_exc, oR_ap, ofR_ok, ofR_exc, bool1_bl, mVar_ap, mC_ap, mBin_ap, mTest_ap, mChain_ap, mTru_ap, dTru_bl, mAnd_ap, mOr_ap, mNot_ap, mAndV_ap, mNotV_ap, mNeg_ap, mIf_ap, mNil_ap, mCons_ap, mTup_ap, mLst_ap, mCall_ap, one_ap, two_ap, sRet_ap, sDrop_ap, sIf_ap, sNext_ap, sAsg_ap, sPar_ap, sRaise_ap, gN_ap, sSeq_ap, rseq_nx, rseq_rt, rseq_exc, rout_nx, rout_rt, rout_exc, oAdd_i, oSub_i, oLt_i, oLe_i, oGt_i, oGe_i, bAbs_i, bInt_i, bInt_b, oEq_int, oNe_int, oEq_bl, oNe_bl, oEq_pr, oNe_pr, ix_t0, ix_t1, List.getElem?_cons_zero, List.getElem?_cons_succ, List.length_cons, List.length_nil, List.set_cons_zero, List.set_cons_succ, if_true, if_false, ite_true, ite_false, reduceIte, Nat.reduceAdd, Nat.reduceSub, Nat.zero_add, Bool.not_true, Bool.not_false, Bool.true_eq_false, Bool.false_eq_true, s_tup hj, s_int_str hj, decide_true]
  · exact bad_pr (by decide +kernel) (by decide +kernel)
  · exact ⟨⟨.tuple [.int 1, .int 2, .int 3], fun S _ => rfl, by decide +kernel⟩, rfl, fun k hk S => num_no hk fun j hj => s_tup hj _ S⟩
end K30
set_option Elab.async false
set_option linter.all false
set_option maxRecDepth 100000
set_option maxHeartbeats 4000000
namespace K30
open PySem L2 Vi
theorem nought_repr {p : Int × Int} (hp : isN p = true) (S : Sto) : ∃ x, bRepr (.tup [pr p, pr (0, 1)]) S = some (.str x) := by
  obtain ⟨a, b⟩ := p
  obtain ⟨_, _, l1, l2⟩ := isN_can hp
  dsimp only at l1 l2
  refine ⟨_, repr_of (p := .tuple [.tuple [.int a, .int b], .tuple [.int 0, .int 1]]) rfl ?_⟩
  unfold reprOk
  rw [Bool.and_eq_true, Bool.and_eq_true]
  have b30 : (1000000000 : Nat) < 2 ^ 1920 := by decide +kernel
  refine ⟨⟨?_, by rfl⟩, decide_eq_true ?_⟩
  · simp only [PyData.showable, PyData.showableAll, Bool.and_true, Bool.and_eq_true, decide_eq_true_eq]
    exact ⟨⟨log2_lt (Nat.lt_of_le_of_lt l1 b30) (by omega), log2_lt (Nat.lt_of_le_of_lt l2 b30) (by omega)⟩, by decide +kernel, by decide +kernel⟩
  · have sh (i : Int) (h : i.natAbs ≤ 1000000000) : PyData.leavesShort 13 (.int i) = true := by
      unfold PyData.leavesShort
      exact decide_eq_true (PyData.shown_int_le (Nat.lt_of_le_of_lt h (by decide)))
    have z := PyData.shown_le_bulk 13 (by omega) (.tuple [.tuple [.int a, .int b], .tuple [.int 0, .int 1]]) (by
      simp only [PyData.leavesShort.eq_6, PyData.leavesShortAll, Bool.and_true, Bool.and_eq_true]
      exact ⟨⟨sh a l1, sh b l2⟩, sh 0 (by decide), sh 1 (by decide)⟩)
    have e : PyData.bulk (.tuple [.tuple [.int a, .int b], .tuple [.int 0, .int 1]]) = 6 := rfl
    rw [e] at z
    exact Nat.le_trans z (by decide +kernel)
theorem out_seq {a b : MS} {ρ ρ' : Ev} {S S1 : Sto} {X : R D} (h : a ρ S = .nx ρ' S1) (h2 : (b ρ' S1).out = X) : (sSeq a b ρ S).out = X := by
  rw [seq_nx h]
  exact h2
theorem pr01 : (D.tup [.int 0, .int 1]) = pr (0, 1) := rfl
theorem pr11 : (D.tup [.int 1, .int 1]) = pr (1, 1) := rfl
theorem t01 {S : Sto} : tupD [.int 0, .int 1] S = .ok (pr (0, 1)) S := tupD_2 rfl rfl
theorem t11 {S : Sto} : tupD [.int 1, .int 1] S = .ok (pr (1, 1)) S := tupD_2 rfl rfl
theorem ne_self {p : Int × Int} {S : Sto} : oNe (pr p) (pr p) S = some (.bl false) := by
  unfold pr
  rw [oNe_pr, beq_self_eq_true, beq_self_eq_true]
  rfl
theorem ix_pr0 {p : Int × Int} {S : Sto} : dIx (pr p) (.int 0) S = some (.int p.1) := rfl
theorem ix_pr1 {p : Int × Int} {S : Sto} : dIx (pr p) (.int 1) S = some (.int p.2) := rfl
theorem noc {p : Int × Int} : noClo (pr p) = true := rfl
theorem lc_3 {te : ME} {ρ : Ev} {a b c : D} {S : Sto} (h1 : te (ρ.set 10 (some a)) S = .ok (.bl true) S) (h2 : te (ρ.set 10 (some b)) S = .ok (.bl true) S) (h3 : te (ρ.set 10 (some c)) S = .ok (.bl true) S) :
    lcX (sqNxt [a, b, c]) (sqFin [a, b, c]) (gN 10) mYes te 3 0 [] ρ S = .ok [.bl true, .bl true, .bl true] S := by
  have z : (0 : Nat) < sizeLine := by decide +kernel
  have z1 : (1 : Nat) < sizeLine := by decide +kernel
  have z2 : (2 : Nat) < sizeLine := by decide +kernel
  simp only [lcX, sqNxt, List.getElem?_cons_zero, List.getElem?_cons_succ, gN_ap, mYes, R.nox, bind_ok, if_true, h1, h2, h3, List.length_nil, List.length_cons, List.nil_append, List.cons_append, noClo, z, z1, z2, and_self, Nat.zero_add, Nat.reduceAdd]
  rfl
theorem all_3 {S : Sto} : bAll (.ref S.length) (S ++ [.lst [.bl true, .bl true, .bl true]]) = some (.bl true) := by
  have e : Vi.listOf (.ref S.length) (S ++ [.lst [.bl true, .bl true, .bl true]]) = some [.bl true, .bl true, .bl true] := by
    unfold Vi.listOf
    simp
  unfold bAll
  rw [e]
  rfl
theorem mLc_ap {vs : List Nat} {f : D → Ev → Option Ev} {m : ME} {tt : MT} {te : ME} {ρ : Ev} {S : Sto} : mLc vs f m tt te ρ S = (m ρ S).bind fun d S1 => (lcV f tt te d (wipeE ρ vs) S1).bind lstO := rfl
theorem ten9' {S : Sto} : oPow (.int 10) (.int 9) S = some (.int 1000000000) := ten9
theorem mCallL_ap {G : GT} {i li : Nat} {js : List Nat} {mr : MA} {ρ : Ev} {S : Sto} (h : capOk ρ js = true) : mCallL G i li js mr ρ S = (mr ρ S).bind fun ds S1 => (G.fn i (.clo li (js.map (capD ρ)) :: ds) S1).bind fun d S2 => if noClo d = true then .ok d S2 else .bad := if_pos h
theorem isNot_f {b : Bool} {S : Sto} : oIsNot (.bl b) (.bl false) S = some (.bl (!(decide (b = false)))) := rfl
section
variable {x y z : D} {e0 e1 e2 e3 e4 e5 e6 e7 e8 e9 e10 : Option D}
theorem gT3 : gT [2, 3, 4] (.tup [x, y, z]) [e0, e1, e2, e3, e4, e5, e6, e7, e8, e9, e10] = some [e0, e1, some x, some y, some z, e5, e6, e7, e8, e9, e10] := rfl
theorem gT2 : gT [8, 9] (.tup [x, y]) [e0, e1, e2, e3, e4, e5, e6, e7, e8, e9, e10] = some [e0, e1, e2, e3, e4, e5, e6, e7, some x, some y, e10] := rfl
end
section
variable {S : Sto} {x y z : Int} {u v : Bool} {t w : Str}
theorem tu_i : tupD [.int x] S = .ok (.tup [.int x]) S := tupD_1 rfl
theorem tu_ii : tupD [.int x, .int y] S = .ok (.tup [.int x, .int y]) S := tupD_2 rfl rfl
theorem tu_bi : tupD [.bl u, .int y] S = .ok (.tup [.bl u, .int y]) S := tupD_2 rfl rfl
theorem tu_ib : tupD [.int x, .bl v] S = .ok (.tup [.int x, .bl v]) S := tupD_2 rfl rfl
theorem tu_ss : tupD [.str t, .str w] S = .ok (.tup [.str t, .str w]) S := tupD_2 rfl rfl
theorem tu_iii : tupD [.int x, .int y, .int z] S = .ok (.tup [.int x, .int y, .int z]) S := tupD_3 rfl rfl rfl
end
theorem lam0_ap {k : Nat} {S : Sto} {x : D} : (Gk (k + 1)).lam 0 [some x] S = mL_0 (Gk k) [some x] S := apL_0
theorem lam1_ap {k : Nat} {S : Sto} {x y z : D} : (Gk (k + 1)).lam 1 [some x, some y, some z] S = mL_1 (Gk k) [some x, some y, some z] S := apL_1
theorem lam2_ap {k : Nat} {S : Sto} {x y : D} : (Gk (k + 1)).lam 2 [some x, some y] S = mL_2 (Gk k) [some x, some y] S := apL_2
theorem mCallV_ap {G : GT} {iv f : Nat} {mr : MA} {ρ : Ev} {S : Sto} (h : ρ[iv]? = some (some (.fn f))) : mCallV G iv mr ρ S = (mr ρ S).bind (G.fn f) := by
  unfold mCallV
  rw [h]
theorem s_right {k : Nat} (hk : 9 ≤ k) {S : Sto} {p n : Nat} (h : PotAt S p n) (hn : n ≤ 80000) :
    ∃ S', (Gk k).fn 23 [.ref p] S = .ok (.bl true) S' ∧ PotAt S' p (n + 23) ∧ Ke p S S' := by
  obtain ⟨k, rfl, hj⟩ := kk hk
  obtain ⟨a, S1, e1, i1, p1, k1⟩ := s_drawn (k := k) (by omega) h (by omega)
  obtain ⟨b, S2, e2, i2, p2, k2⟩ := s_drawn (k := k) (by omega) p1 (by omega)
  obtain ⟨c, S3, e3, i3, p3, k3⟩ := s_drawn (k := k) (by omega) p2 (by omega)
  obtain ⟨ca, ba, la, ma⟩ := isN_can i1
  obtain ⟨cb, bb, lb, mb⟩ := isN_can i2
  obtain ⟨cc, bc, lc, mc⟩ := isN_can i3
  have a2 : a.2 ≠ 0 := by have := ca.1; omega
  have b2 : b.2 ≠ 0 := by have := cb.1; omega
  have c2 : c.2 ≠ 0 := by have := cc.1; omega
  obtain ⟨w, hw⟩ : ∃ w, w = sumr a b := ⟨_, rfl⟩
  obtain ⟨pd, hpd⟩ : ∃ pd, pd = prdr a b := ⟨_, rfl⟩
  have cw : Can w := by rw [hw]; exact (sumr_can ca cb).1
  obtain ⟨e7, he7⟩ : ∃ e7 : Option D, e7 = if b.1 = 0 then none else some (pr (quor a b)) := ⟨_, rfl⟩
  obtain ⟨S4, hS4⟩ : ∃ S4, S4 = S3 ++ [.lst [.bl true, .bl true, .bl true]] := ⟨_, rfl⟩
  have p4 : PotAt S4 p (n + 7 + 7 + 7) := by rw [hS4]; exact p3.app
  obtain ⟨S5, hS5⟩ : ∃ S5, S5 = S4 ++ [.lst [.int 1, .int 2]] := ⟨_, rfl⟩
  have p5 : PotAt S5 p (n + 7 + 7 + 7) := by rw [hS5]; exact p4.app
  obtain ⟨r, hr⟩ : ∃ r, r = S4.length := ⟨_, rfl⟩
  have rp : r ≠ p := by have := p4.lt; omega
  have q5 : S5[r]? = some (.lst [.int 1, .int 2]) := by rw [hS5, hr]; simp
  obtain ⟨S6, hS6⟩ : ∃ S6, S6 = S5 ++ [.lst (bads r)] := ⟨_, rfl⟩
  have p6 : PotAt S6 p (n + 7 + 7 + 7) := by rw [hS6]; exact p5.app
  have q6 : S6[S5.length]? = some (.lst (bads r)) := by rw [hS6]; simp
  have q6' : S6[r]? = some (.lst [.int 1, .int 2]) := by
    rw [hS6]
    exact Kp.app.get q5
  obtain ⟨d, S7, e8, m8, p7, k7⟩ := s_of (k := k) (by omega) p6 (by omega) q6 (by have := p5.lt; omega) (by simp [bads]) (by simp [bads])
  have q7 := k7.get q6' rp
  obtain ⟨⟨dp, hdp, hrp⟩, hno, hnum⟩ := bads_ok d m8
  -- divided by nought
  obtain ⟨xn, hxn⟩ := nought_repr i1 S7
  have l0 : (Gk (k - 2)).lam 0 [some (pr a)] S7 = .exc 11 (.tup [pr a, pr (0, 1)]) S7 := by
    obtain ⟨j, hj2⟩ : ∃ j, k - 2 = j + 1 := ⟨k - 3, by omega⟩
    rw [hj2, lam0_ap]
    unfold mL_0
    simp only [bind_ok, bind_exc, oR_ap, ofR_ok, ofR_exc, bool1_bl, mVar_ap, mC_ap, mBin_ap, mTest_ap, mChain_ap, mTru_ap, dTru_bl, mAnd_ap, mOr_ap, mNot_ap, mAndV_ap, mNotV_ap, mNeg_ap, mIf_ap, mNil_ap, mCons_ap, mTup_ap, mLst_ap, mCall_ap, one_ap, two_ap, sRet_ap, sDrop_ap, sIf_ap, sNext_ap, sAsg_ap, sPar_ap, sRaise_ap, gN_ap, sSeq_ap, rseq_nx, rseq_rt, rseq_exc, rout_nx, rout_rt, rout_exc, oAdd_i, oSub_i, oLt_i, oLe_i, oGt_i, oGe_i, bAbs_i, bInt_i, bInt_b, oEq_int, oNe_int, oEq_bl, oNe_bl, oEq_pr, oNe_pr, ix_t0, ix_t1, List.getElem?_cons_zero, List.getElem?_cons_succ, List.length_cons, List.length_nil, List.set_cons_zero, List.set_cons_succ, if_true, if_false, ite_true, ite_false, reduceIte, Nat.reduceAdd, Nat.reduceSub, Nat.zero_add, Bool.not_true, Bool.not_false, Bool.true_eq_false, Bool.false_eq_true, t01, s_divided_0 (k := j) (by omega) a S7 i1]
  obtain ⟨S8, e9, k8⟩ := s_tells (k := k) (by omega) (.inr rfl) l0 (x := xn) (kept := .tup [pr a, pr (0, 1)]) (fun S2 _ => ⟨hxn, hxn⟩)
  -- a value of no such kind
  obtain ⟨S9, hS9⟩ : ∃ S9, S9 = S8 ++ [.lst [.fn 9, .fn 10, .fn 11]] := ⟨_, rfl⟩
  have p8 : PotAt S8 p (n + 7 + 7 + 7 + 1) := k8.pot p7
  have p9 : PotAt S9 p (n + 7 + 7 + 7 + 1) := by rw [hS9]; exact p8.app
  have q9 : S9[S8.length]? = some (.lst [.fn 9, .fn 10, .fn 11]) := by rw [hS9]; simp
  have q9' : S9[r]? = some (.lst [.int 1, .int 2]) := by
    rw [hS9]
    exact Kp.app.get (k8.get q7)
  obtain ⟨lk, S10, e10, m10, p10, k10⟩ := s_of (k := k) (by omega) p9 (by omega) q9 (by have := p8.lt; omega) (by decide) (by decide)
  have q10 := k10.get q9' rp
  obtain ⟨f, rfl, hf⟩ : ∃ f, lk = .fn f ∧ (f = 9 ∨ f = 10 ∨ f = 11) := by
    simp only [List.mem_cons, List.not_mem_nil, or_false] at m10
    rcases m10 with rfl | rfl | rfl
    · exact ⟨9, rfl, .inl rfl⟩
    · exact ⟨10, rfl, .inr (.inl rfl)⟩
    · exact ⟨11, rfl, .inr (.inr rfl)⟩
  have l1 : (Gk (k - 2)).lam 1 [some d, some (.fn f), some (pr a)] S10 = .exc 0 d S10 := by
    obtain ⟨j, hj2⟩ : ∃ j, k - 2 = j + 1 := ⟨k - 3, by omega⟩
    rw [hj2, lam1_ap]
    unfold mL_1
    rw [mCallV_ap (f := f) rfl]
    simp only [bind_ok, bind_exc, oR_ap, ofR_ok, ofR_exc, bool1_bl, mVar_ap, mC_ap, mBin_ap, mTest_ap, mChain_ap, mTru_ap, dTru_bl, mAnd_ap, mOr_ap, mNot_ap, mAndV_ap, mNotV_ap, mNeg_ap, mIf_ap, mNil_ap, mCons_ap, mTup_ap, mLst_ap, mCall_ap, one_ap, two_ap, sRet_ap, sDrop_ap, sIf_ap, sNext_ap, sAsg_ap, sPar_ap, sRaise_ap, gN_ap, sSeq_ap, rseq_nx, rseq_rt, rseq_exc, rout_nx, rout_rt, rout_exc, oAdd_i, oSub_i, oLt_i, oLe_i, oGt_i, oGe_i, bAbs_i, bInt_i, bInt_b, oEq_int, oNe_int, oEq_bl, oNe_bl, oEq_pr, oNe_pr, ix_t0, ix_t1, List.getElem?_cons_zero, List.getElem?_cons_succ, List.length_cons, List.length_nil, List.set_cons_zero, List.set_cons_succ, if_true, if_false, ite_true, ite_false, reduceIte, Nat.reduceAdd, Nat.reduceSub, Nat.zero_add, Bool.not_true, Bool.not_false, Bool.true_eq_false, Bool.false_eq_true, s_bad2 (k := j) (by omega) hf S10 (fun i hi => hnum i hi S10) hno a i1]
  have rb (S2 : Sto) (hS : S2[r]? = some (.lst [.int 1, .int 2])) : bRepr d S2 = some (.str dp.shown) := repr_of (hdp S2 hS) hrp
  obtain ⟨S11, e11, k11⟩ := s_tells (k := k) (by omega) (.inl rfl) l1 (x := dp.shown) (kept := d) (fun S2 hk2 => ⟨rb S2 (hk2.get q10), rb S2 (hk2.get q10)⟩)
  have l2 : (Gk (k - 2)).lam 2 [some d, some (.fn f)] S11 = .exc 0 d S11 := by
    obtain ⟨j, hj2⟩ : ∃ j, k - 2 = j + 1 := ⟨k - 3, by omega⟩
    rw [hj2, lam2_ap]
    unfold mL_2
    rw [mCallV_ap (f := f) rfl]
    simp only [bind_ok, bind_exc, oR_ap, ofR_ok, ofR_exc, bool1_bl, mVar_ap, mC_ap, mBin_ap, mTest_ap, mChain_ap, mTru_ap, dTru_bl, mAnd_ap, mOr_ap, mNot_ap, mAndV_ap, mNotV_ap, mNeg_ap, mIf_ap, mNil_ap, mCons_ap, mTup_ap, mLst_ap, mCall_ap, one_ap, two_ap, sRet_ap, sDrop_ap, sIf_ap, sNext_ap, sAsg_ap, sPar_ap, sRaise_ap, gN_ap, sSeq_ap, rseq_nx, rseq_rt, rseq_exc, rout_nx, rout_rt, rout_exc, oAdd_i, oSub_i, oLt_i, oLe_i, oGt_i, oGe_i, bAbs_i, bInt_i, bInt_b, oEq_int, oNe_int, oEq_bl, oNe_bl, oEq_pr, oNe_pr, ix_t0, ix_t1, List.getElem?_cons_zero, List.getElem?_cons_succ, List.length_cons, List.length_nil, List.set_cons_zero, List.set_cons_succ, if_true, if_false, ite_true, ite_false, reduceIte, Nat.reduceAdd, Nat.reduceSub, Nat.zero_add, Bool.not_true, Bool.not_false, Bool.true_eq_false, Bool.false_eq_true, s_bad1 (k := j) (by omega) hf S11 (fun i hi => hnum i hi S11) hno .non]
  obtain ⟨S12, e12, k12⟩ := s_tells (k := k) (by omega) (.inl rfl) l2 (x := dp.shown) (kept := d) (fun S2 hk2 => ⟨rb S2 (hk2.get (k11.get q10)), rb S2 (hk2.get (k11.get q10))⟩)
  refine ⟨S12, ?_, k12.pot (k11.pot p10), ?_⟩
  · rw [ap__law_right]
    unfold m__law_right
    -- one, other, third
    refine out_seq (ρ' := [some (.ref p), none, some (pr a), some (pr b), some (pr c), none, none, none, none, none, none]) (S1 := S3) ?_ ?_
    · simp only [bind_ok, bind_exc, oR_ap, ofR_ok, ofR_exc, bool1_bl, mVar_ap, mC_ap, mBin_ap, mTest_ap, mChain_ap, mTru_ap, dTru_bl, mAnd_ap, mOr_ap, mNot_ap, mAndV_ap, mNotV_ap, mNeg_ap, mIf_ap, mNil_ap, mCons_ap, mTup_ap, mLst_ap, mCall_ap, one_ap, two_ap, sRet_ap, sDrop_ap, sIf_ap, sNext_ap, sAsg_ap, sPar_ap, sRaise_ap, gN_ap, sSeq_ap, rseq_nx, rseq_rt, rseq_exc, rout_nx, rout_rt, rout_exc, oAdd_i, oSub_i, oLt_i, oLe_i, oGt_i, oGe_i, bAbs_i, bInt_i, bInt_b, oEq_int, oNe_int, oEq_bl, oNe_bl, oEq_pr, oNe_pr, ix_t0, ix_t1, List.getElem?_cons_zero, List.getElem?_cons_succ, List.length_cons, List.length_nil, List.set_cons_zero, List.set_cons_succ, if_true, if_false, ite_true, ite_false, reduceIte, Nat.reduceAdd, Nat.reduceSub, Nat.zero_add, Bool.not_true, Bool.not_false, Bool.true_eq_false, Bool.false_eq_true, e1, e2, e3, tupD_3 (show noClo (pr a) = true from rfl) (show noClo (pr b) = true from rfl) (show noClo (pr c) = true from rfl), gT3]
    -- whole, product_so
    refine out_seq (ρ' := [some (.ref p), none, some (pr a), some (pr b), some (pr c), some (pr w), some (pr pd), none, none, none, none]) (S1 := S3) ?_ ?_
    · simp only [bind_ok, bind_exc, oR_ap, ofR_ok, ofR_exc, bool1_bl, mVar_ap, mC_ap, mBin_ap, mTest_ap, mChain_ap, mTru_ap, dTru_bl, mAnd_ap, mOr_ap, mNot_ap, mAndV_ap, mNotV_ap, mNeg_ap, mIf_ap, mNil_ap, mCons_ap, mTup_ap, mLst_ap, mCall_ap, one_ap, two_ap, sRet_ap, sDrop_ap, sIf_ap, sNext_ap, sAsg_ap, sPar_ap, sRaise_ap, gN_ap, sSeq_ap, rseq_nx, rseq_rt, rseq_exc, rout_nx, rout_rt, rout_exc, oAdd_i, oSub_i, oLt_i, oLe_i, oGt_i, oGe_i, bAbs_i, bInt_i, bInt_b, oEq_int, oNe_int, oEq_bl, oNe_bl, oEq_pr, oNe_pr, ix_t0, ix_t1, List.getElem?_cons_zero, List.getElem?_cons_succ, List.length_cons, List.length_nil, List.set_cons_zero, List.set_cons_succ, if_true, if_false, ite_true, ite_false, reduceIte, Nat.reduceAdd, Nat.reduceSub, Nat.zero_add, Bool.not_true, Bool.not_false, Bool.true_eq_false, Bool.false_eq_true, s_jsum (k := k) (by omega) a b S3 ba bb a2 b2, s_jtimes (k := k) (by omega) a b S3 ba bb a2 b2, ← hw, ← hpd]
    refine out_seq (ρ' := [some (.ref p), none, some (pr a), some (pr b), some (pr c), some (pr w), some (pr pd), none, none, none, none]) (S1 := S3) ?_ ?_
    · simp only [bind_ok, bind_exc, oR_ap, ofR_ok, ofR_exc, bool1_bl, mVar_ap, mC_ap, mBin_ap, mTest_ap, mChain_ap, mTru_ap, dTru_bl, mAnd_ap, mOr_ap, mNot_ap, mAndV_ap, mNotV_ap, mNeg_ap, mIf_ap, mNil_ap, mCons_ap, mTup_ap, mLst_ap, mCall_ap, one_ap, two_ap, sRet_ap, sDrop_ap, sIf_ap, sNext_ap, sAsg_ap, sPar_ap, sRaise_ap, gN_ap, sSeq_ap, rseq_nx, rseq_rt, rseq_exc, rout_nx, rout_rt, rout_exc, oAdd_i, oSub_i, oLt_i, oLe_i, oGt_i, oGe_i, bAbs_i, bInt_i, bInt_b, oEq_int, oNe_int, oEq_bl, oNe_bl, oEq_pr, oNe_pr, ix_t0, ix_t1, List.getElem?_cons_zero, List.getElem?_cons_succ, List.length_cons, List.length_nil, List.set_cons_zero, List.set_cons_succ, if_true, if_false, ite_true, ite_false, reduceIte, Nat.reduceAdd, Nat.reduceSub, Nat.zero_add, Bool.not_true, Bool.not_false, Bool.true_eq_false, Bool.false_eq_true, s_added (k := k) (by omega) a b S3 i1 i2, s_added (k := k) (by omega) b a S3 i2 i1, s_multiplied (k := k) (by omega) a b S3 i1 i2, s_multiplied (k := k) (by omega) b a S3 i2 i1, sumr_comm a b, prdr_comm a b, ← hw, ← hpd, ne_self]
    refine out_seq (ρ' := [some (.ref p), none, some (pr a), some (pr b), some (pr c), some (pr w), some (pr pd), none, none, none, none]) (S1 := S4) ?_ ?_
    · have nn (S : Sto) (x : Int × Int) (hx : isN x = true) : (Gk k).fn 4 [pr x] S = .ok (.bl true) S := by rw [s_isnum (by omega), hx]
      have lcv : lcV (gN 10) mYes (mCall ((Gk k).fn 4) (mCons (mVar 10) mNil)) (.tup [pr a, pr b, pr c]) (wipeE [some (.ref p), none, some (pr a), some (pr b), some (pr c), some (pr w), some (pr pd), none, none, none, none] [10]) S3 = .ok [.bl true, .bl true, .bl true] S3 :=
        lc_3 (nn S3 a i1) (nn S3 b i2) (nn S3 c i3)
      have all := all_3 (S := S3)
      rw [← hS4] at all
      have lo : lstO [.bl true, .bl true, .bl true] S3 = .ok (.ref S3.length) S4 := by rw [hS4]; rfl
      simp only [bind_ok, bind_exc, oR_ap, ofR_ok, ofR_exc, bool1_bl, mVar_ap, mC_ap, mBin_ap, mTest_ap, mChain_ap, mTru_ap, dTru_bl, mAnd_ap, mOr_ap, mNot_ap, mAndV_ap, mNotV_ap, mNeg_ap, mIf_ap, mNil_ap, mCons_ap, mTup_ap, mLst_ap, mCall_ap, one_ap, two_ap, sRet_ap, sDrop_ap, sIf_ap, sNext_ap, sAsg_ap, sPar_ap, sRaise_ap, gN_ap, sSeq_ap, rseq_nx, rseq_rt, rseq_exc, rout_nx, rout_rt, rout_exc, oAdd_i, oSub_i, oLt_i, oLe_i, oGt_i, oGe_i, bAbs_i, bInt_i, bInt_b, oEq_int, oNe_int, oEq_bl, oNe_bl, oEq_pr, oNe_pr, ix_t0, ix_t1, List.getElem?_cons_zero, List.getElem?_cons_succ, List.length_cons, List.length_nil, List.set_cons_zero, List.set_cons_succ, if_true, if_false, ite_true, ite_false, reduceIte, Nat.reduceAdd, Nat.reduceSub, Nat.zero_add, Bool.not_true, Bool.not_false, Bool.true_eq_false, Bool.false_eq_true, mLc_ap, tupD_3 (show noClo (pr a) = true from rfl) (show noClo (pr b) = true from rfl) (show noClo (pr c) = true from rfl), lcv, lo, all, t01, t11, s_added (k := k) (by omega) a (0, 1) S4 i1 isN_01, s_multiplied (k := k) (by omega) a (1, 1) S4 i1 (by decide +kernel), s_multiplied (k := k) (by omega) a (0, 1) S4 i1 isN_01, sumr_0 ca, prdr_1 ca, prdr_0 ca, ne_self]
    -- a quotient
    refine out_seq (ρ' := [some (.ref p), none, some (pr a), some (pr b), some (pr c), some (pr w), some (pr pd), e7, none, none, none]) (S1 := S4) ?_ ?_
    · by_cases hb0 : b.1 = 0
      · have z : (b.1 == 0) = true := beq_iff_eq.mpr hb0
        rw [if_pos hb0] at he7
        simp only [bind_ok, bind_exc, oR_ap, ofR_ok, ofR_exc, bool1_bl, mVar_ap, mC_ap, mBin_ap, mTest_ap, mChain_ap, mTru_ap, dTru_bl, mAnd_ap, mOr_ap, mNot_ap, mAndV_ap, mNotV_ap, mNeg_ap, mIf_ap, mNil_ap, mCons_ap, mTup_ap, mLst_ap, mCall_ap, one_ap, two_ap, sRet_ap, sDrop_ap, sIf_ap, sNext_ap, sAsg_ap, sPar_ap, sRaise_ap, gN_ap, sSeq_ap, rseq_nx, rseq_rt, rseq_exc, rout_nx, rout_rt, rout_exc, oAdd_i, oSub_i, oLt_i, oLe_i, oGt_i, oGe_i, bAbs_i, bInt_i, bInt_b, oEq_int, oNe_int, oEq_bl, oNe_bl, oEq_pr, oNe_pr, ix_t0, ix_t1, List.getElem?_cons_zero, List.getElem?_cons_succ, List.length_cons, List.length_nil, List.set_cons_zero, List.set_cons_succ, if_true, if_false, ite_true, ite_false, reduceIte, Nat.reduceAdd, Nat.reduceSub, Nat.zero_add, Bool.not_true, Bool.not_false, Bool.true_eq_false, Bool.false_eq_true, ix_pr0, z, he7]
      · have z : (b.1 == 0) = false := beq_eq_false_iff_ne.mpr hb0
        rw [if_neg hb0] at he7
        simp only [bind_ok, bind_exc, oR_ap, ofR_ok, ofR_exc, bool1_bl, mVar_ap, mC_ap, mBin_ap, mTest_ap, mChain_ap, mTru_ap, dTru_bl, mAnd_ap, mOr_ap, mNot_ap, mAndV_ap, mNotV_ap, mNeg_ap, mIf_ap, mNil_ap, mCons_ap, mTup_ap, mLst_ap, mCall_ap, one_ap, two_ap, sRet_ap, sDrop_ap, sIf_ap, sNext_ap, sAsg_ap, sPar_ap, sRaise_ap, gN_ap, sSeq_ap, rseq_nx, rseq_rt, rseq_exc, rout_nx, rout_rt, rout_exc, oAdd_i, oSub_i, oLt_i, oLe_i, oGt_i, oGe_i, bAbs_i, bInt_i, bInt_b, oEq_int, oNe_int, oEq_bl, oNe_bl, oEq_pr, oNe_pr, ix_t0, ix_t1, List.getElem?_cons_zero, List.getElem?_cons_succ, List.length_cons, List.length_nil, List.set_cons_zero, List.set_cons_succ, if_true, if_false, ite_true, ite_false, reduceIte, Nat.reduceAdd, Nat.reduceSub, Nat.zero_add, Bool.not_true, Bool.not_false, Bool.true_eq_false, Bool.false_eq_true, ix_pr0, z, s_divided (k := k) (by omega) a b S4 i1 i2 hb0, s_jover (k := k) (by omega) a b S4 ba bb a2 hb0, s_divided (k := k) (by omega) b b S4 i2 i2 hb0, quor_self cb hb0, t11, ne_self, s_isnum (k := k) (by omega)]
        cases hi : isN (quor a b) with
        | false => simp only [bind_ok, bind_exc, oR_ap, ofR_ok, ofR_exc, bool1_bl, mVar_ap, mC_ap, mBin_ap, mTest_ap, mChain_ap, mTru_ap, dTru_bl, mAnd_ap, mOr_ap, mNot_ap, mAndV_ap, mNotV_ap, mNeg_ap, mIf_ap, mNil_ap, mCons_ap, mTup_ap, mLst_ap, mCall_ap, one_ap, two_ap, sRet_ap, sDrop_ap, sIf_ap, sNext_ap, sAsg_ap, sPar_ap, sRaise_ap, gN_ap, sSeq_ap, rseq_nx, rseq_rt, rseq_exc, rout_nx, rout_rt, rout_exc, oAdd_i, oSub_i, oLt_i, oLe_i, oGt_i, oGe_i, bAbs_i, bInt_i, bInt_b, oEq_int, oNe_int, oEq_bl, oNe_bl, oEq_pr, oNe_pr, ix_t0, ix_t1, List.getElem?_cons_zero, List.getElem?_cons_succ, List.length_cons, List.length_nil, List.set_cons_zero, List.set_cons_succ, if_true, if_false, ite_true, ite_false, reduceIte, Nat.reduceAdd, Nat.reduceSub, Nat.zero_add, Bool.not_true, Bool.not_false, Bool.true_eq_false, Bool.false_eq_true, he7]
        | true => simp only [bind_ok, bind_exc, oR_ap, ofR_ok, ofR_exc, bool1_bl, mVar_ap, mC_ap, mBin_ap, mTest_ap, mChain_ap, mTru_ap, dTru_bl, mAnd_ap, mOr_ap, mNot_ap, mAndV_ap, mNotV_ap, mNeg_ap, mIf_ap, mNil_ap, mCons_ap, mTup_ap, mLst_ap, mCall_ap, one_ap, two_ap, sRet_ap, sDrop_ap, sIf_ap, sNext_ap, sAsg_ap, sPar_ap, sRaise_ap, gN_ap, sSeq_ap, rseq_nx, rseq_rt, rseq_exc, rout_nx, rout_rt, rout_exc, oAdd_i, oSub_i, oLt_i, oLe_i, oGt_i, oGe_i, bAbs_i, bInt_i, bInt_b, oEq_int, oNe_int, oEq_bl, oNe_bl, oEq_pr, oNe_pr, ix_t0, ix_t1, List.getElem?_cons_zero, List.getElem?_cons_succ, List.length_cons, List.length_nil, List.set_cons_zero, List.set_cons_succ, if_true, if_false, ite_true, ite_false, reduceIte, Nat.reduceAdd, Nat.reduceSub, Nat.zero_add, Bool.not_true, Bool.not_false, Bool.true_eq_false, Bool.false_eq_true, s_multiplied (k := k) (by omega) (quor a b) b S4 hi i2, quor_back ca cb hb0, ne_self, he7]
    -- is the sum a number
    refine out_seq (ρ' := [some (.ref p), none, some (pr a), some (pr b), some (pr c), some (pr w), some (pr pd), e7, none, none, none]) (S1 := S4) ?_ ?_
    · simp only [bind_ok, bind_exc, oR_ap, ofR_ok, ofR_exc, bool1_bl, mVar_ap, mC_ap, mBin_ap, mTest_ap, mChain_ap, mTru_ap, dTru_bl, mAnd_ap, mOr_ap, mNot_ap, mAndV_ap, mNotV_ap, mNeg_ap, mIf_ap, mNil_ap, mCons_ap, mTup_ap, mLst_ap, mCall_ap, one_ap, two_ap, sRet_ap, sDrop_ap, sIf_ap, sNext_ap, sAsg_ap, sPar_ap, sRaise_ap, gN_ap, sSeq_ap, rseq_nx, rseq_rt, rseq_exc, rout_nx, rout_rt, rout_exc, oAdd_i, oSub_i, oLt_i, oLe_i, oGt_i, oGe_i, bAbs_i, bInt_i, bInt_b, oEq_int, oNe_int, oEq_bl, oNe_bl, oEq_pr, oNe_pr, ix_t0, ix_t1, List.getElem?_cons_zero, List.getElem?_cons_succ, List.length_cons, List.length_nil, List.set_cons_zero, List.set_cons_succ, if_true, if_false, ite_true, ite_false, reduceIte, Nat.reduceAdd, Nat.reduceSub, Nat.zero_add, Bool.not_true, Bool.not_false, Bool.true_eq_false, Bool.false_eq_true, s_isnum (k := k) (by omega), isN_iff cw, ix_pr0, ix_pr1, ten9]
      cases h1 : decide ((w.1.natAbs : Int) ≤ 1000000000) with
      | false => simp only [bind_ok, bind_exc, oR_ap, ofR_ok, ofR_exc, bool1_bl, mVar_ap, mC_ap, mBin_ap, mTest_ap, mChain_ap, mTru_ap, dTru_bl, mAnd_ap, mOr_ap, mNot_ap, mAndV_ap, mNotV_ap, mNeg_ap, mIf_ap, mNil_ap, mCons_ap, mTup_ap, mLst_ap, mCall_ap, one_ap, two_ap, sRet_ap, sDrop_ap, sIf_ap, sNext_ap, sAsg_ap, sPar_ap, sRaise_ap, gN_ap, sSeq_ap, rseq_nx, rseq_rt, rseq_exc, rout_nx, rout_rt, rout_exc, oAdd_i, oSub_i, oLt_i, oLe_i, oGt_i, oGe_i, bAbs_i, bInt_i, bInt_b, oEq_int, oNe_int, oEq_bl, oNe_bl, oEq_pr, oNe_pr, ix_t0, ix_t1, List.getElem?_cons_zero, List.getElem?_cons_succ, List.length_cons, List.length_nil, List.set_cons_zero, List.set_cons_succ, if_true, if_false, ite_true, ite_false, reduceIte, Nat.reduceAdd, Nat.reduceSub, Nat.zero_add, Bool.not_true, Bool.not_false, Bool.true_eq_false, Bool.false_eq_true, Bool.false_and, beq_self_eq_true]
      | true => simp only [bind_ok, bind_exc, oR_ap, ofR_ok, ofR_exc, bool1_bl, mVar_ap, mC_ap, mBin_ap, mTest_ap, mChain_ap, mTru_ap, dTru_bl, mAnd_ap, mOr_ap, mNot_ap, mAndV_ap, mNotV_ap, mNeg_ap, mIf_ap, mNil_ap, mCons_ap, mTup_ap, mLst_ap, mCall_ap, one_ap, two_ap, sRet_ap, sDrop_ap, sIf_ap, sNext_ap, sAsg_ap, sPar_ap, sRaise_ap, gN_ap, sSeq_ap, rseq_nx, rseq_rt, rseq_exc, rout_nx, rout_rt, rout_exc, oAdd_i, oSub_i, oLt_i, oLe_i, oGt_i, oGe_i, bAbs_i, bInt_i, bInt_b, oEq_int, oNe_int, oEq_bl, oNe_bl, oEq_pr, oNe_pr, ix_t0, ix_t1, List.getElem?_cons_zero, List.getElem?_cons_succ, List.length_cons, List.length_nil, List.set_cons_zero, List.set_cons_succ, if_true, if_false, ite_true, ite_false, reduceIte, Nat.reduceAdd, Nat.reduceSub, Nat.zero_add, Bool.not_true, Bool.not_false, Bool.true_eq_false, Bool.false_eq_true, Bool.true_and, beq_self_eq_true]
    -- products spread
    refine out_seq (ρ' := [some (.ref p), none, some (pr a), some (pr b), some (pr c), some (pr w), some (pr pd), e7, none, none, none]) (S1 := S4) ?_ ?_
    · simp only [bind_ok, bind_exc, oR_ap, ofR_ok, ofR_exc, bool1_bl, mVar_ap, mC_ap, mBin_ap, mTest_ap, mChain_ap, mTru_ap, dTru_bl, mAnd_ap, mOr_ap, mNot_ap, mAndV_ap, mNotV_ap, mNeg_ap, mIf_ap, mNil_ap, mCons_ap, mTup_ap, mLst_ap, mCall_ap, one_ap, two_ap, sRet_ap, sDrop_ap, sIf_ap, sNext_ap, sAsg_ap, sPar_ap, sRaise_ap, gN_ap, sSeq_ap, rseq_nx, rseq_rt, rseq_exc, rout_nx, rout_rt, rout_exc, oAdd_i, oSub_i, oLt_i, oLe_i, oGt_i, oGe_i, bAbs_i, bInt_i, bInt_b, oEq_int, oNe_int, oEq_bl, oNe_bl, oEq_pr, oNe_pr, ix_t0, ix_t1, List.getElem?_cons_zero, List.getElem?_cons_succ, List.length_cons, List.length_nil, List.set_cons_zero, List.set_cons_succ, if_true, if_false, ite_true, ite_false, reduceIte, Nat.reduceAdd, Nat.reduceSub, Nat.zero_add, Bool.not_true, Bool.not_false, Bool.true_eq_false, Bool.false_eq_true, s_isnum (k := k) (by omega)]
      cases hi : isN w with
      | false => simp only [bind_ok, bind_exc, oR_ap, ofR_ok, ofR_exc, bool1_bl, mVar_ap, mC_ap, mBin_ap, mTest_ap, mChain_ap, mTru_ap, dTru_bl, mAnd_ap, mOr_ap, mNot_ap, mAndV_ap, mNotV_ap, mNeg_ap, mIf_ap, mNil_ap, mCons_ap, mTup_ap, mLst_ap, mCall_ap, one_ap, two_ap, sRet_ap, sDrop_ap, sIf_ap, sNext_ap, sAsg_ap, sPar_ap, sRaise_ap, gN_ap, sSeq_ap, rseq_nx, rseq_rt, rseq_exc, rout_nx, rout_rt, rout_exc, oAdd_i, oSub_i, oLt_i, oLe_i, oGt_i, oGe_i, bAbs_i, bInt_i, bInt_b, oEq_int, oNe_int, oEq_bl, oNe_bl, oEq_pr, oNe_pr, ix_t0, ix_t1, List.getElem?_cons_zero, List.getElem?_cons_succ, List.length_cons, List.length_nil, List.set_cons_zero, List.set_cons_succ, if_true, if_false, ite_true, ite_false, reduceIte, Nat.reduceAdd, Nat.reduceSub, Nat.zero_add, Bool.not_true, Bool.not_false, Bool.true_eq_false, Bool.false_eq_true]
      | true =>
        have y2 : (prdr a c).2 ≠ 0 := by have := (prdr_can ca cc).1.1; omega
        have z2 : (prdr b c).2 ≠ 0 := by have := (prdr_can cb cc).1.1; omega
        have sp := spread ca cb cc
        rw [← hw] at sp
        simp only [bind_ok, bind_exc, oR_ap, ofR_ok, ofR_exc, bool1_bl, mVar_ap, mC_ap, mBin_ap, mTest_ap, mChain_ap, mTru_ap, dTru_bl, mAnd_ap, mOr_ap, mNot_ap, mAndV_ap, mNotV_ap, mNeg_ap, mIf_ap, mNil_ap, mCons_ap, mTup_ap, mLst_ap, mCall_ap, one_ap, two_ap, sRet_ap, sDrop_ap, sIf_ap, sNext_ap, sAsg_ap, sPar_ap, sRaise_ap, gN_ap, sSeq_ap, rseq_nx, rseq_rt, rseq_exc, rout_nx, rout_rt, rout_exc, oAdd_i, oSub_i, oLt_i, oLe_i, oGt_i, oGe_i, bAbs_i, bInt_i, bInt_b, oEq_int, oNe_int, oEq_bl, oNe_bl, oEq_pr, oNe_pr, ix_t0, ix_t1, List.getElem?_cons_zero, List.getElem?_cons_succ, List.length_cons, List.length_nil, List.set_cons_zero, List.set_cons_succ, if_true, if_false, ite_true, ite_false, reduceIte, Nat.reduceAdd, Nat.reduceSub, Nat.zero_add, Bool.not_true, Bool.not_false, Bool.true_eq_false, Bool.false_eq_true, s_multiplied (k := k) (by omega) w c S4 hi i3, s_multiplied (k := k) (by omega) a c S4 i1 i3, s_multiplied (k := k) (by omega) b c S4 i2 i3, s_jsum (k := k) (by omega) (prdr a c) (prdr b c) S4 (prdr_bd i1 i3) (prdr_bd i2 i3) y2 z2, sp, ne_self]
    -- nought, bad
    refine out_seq (ρ' := [some (.ref p), none, some (pr a), some (pr b), some (pr c), some (pr w), some (pr pd), e7, some (.tup [pr a, pr (0, 1)]), some d, none]) (S1 := S7) ?_ ?_
    · have g5 : lstD [.int 1, .int 2] S4 = .ok (.ref r) S5 := by rw [hS5, hr]; exact lstD_ap (by simp) rfl
      have g6 : lstD (bads r) S5 = .ok (.ref S5.length) S6 := by rw [hS6]; exact lstD_ap (by simp [bads]) rfl
      have tn : tupD [pr a, .tup [.int 0, .int 1]] S4 = .ok (.tup [pr a, pr (0, 1)]) S4 := tupD_2 rfl rfl
      have tq : tupD [.tup [pr a, pr (0, 1)], d] S7 = .ok (.tup [.tup [pr a, pr (0, 1)], d]) S7 := tupD_2 rfl hno
      unfold bads at g6
      simp only [bind_ok, bind_exc, oR_ap, ofR_ok, ofR_exc, bool1_bl, mVar_ap, mC_ap, mBin_ap, mTest_ap, mChain_ap, mTru_ap, dTru_bl, mAnd_ap, mOr_ap, mNot_ap, mAndV_ap, mNotV_ap, mNeg_ap, mIf_ap, mNil_ap, mCons_ap, mTup_ap, mLst_ap, mCall_ap, one_ap, two_ap, sRet_ap, sDrop_ap, sIf_ap, sNext_ap, sAsg_ap, sPar_ap, sRaise_ap, gN_ap, sSeq_ap, rseq_nx, rseq_rt, rseq_exc, rout_nx, rout_rt, rout_exc, oAdd_i, oSub_i, oLt_i, oLe_i, oGt_i, oGe_i, bAbs_i, bInt_i, bInt_b, oEq_int, oNe_int, oEq_bl, oNe_bl, oEq_pr, oNe_pr, ix_t0, ix_t1, List.getElem?_cons_zero, List.getElem?_cons_succ, List.length_cons, List.length_nil, List.set_cons_zero, List.set_cons_succ, if_true, if_false, ite_true, ite_false, reduceIte, Nat.reduceAdd, Nat.reduceSub, Nat.zero_add, Bool.not_true, Bool.not_false, Bool.true_eq_false, Bool.false_eq_true, tu_i, tu_ii, tu_bi, tu_ib, tu_ss, tu_iii, ten9, g5, g6, tn, e8, tq, gT2]
    refine out_seq (ρ' := [some (.ref p), none, some (pr a), some (pr b), some (pr c), some (pr w), some (pr pd), e7, some (.tup [pr a, pr (0, 1)]), some d, none]) (S1 := S8) ?_ ?_
    · have e9' : (Gk k).fn 18 [.clo 0 [some (pr a)], .int 11, .tup [pr a, pr (0, 1)]] S7 = .ok (.bl true) S8 := e9
      have cl : mCallL (Gk k) 18 0 [2] (mCons (mC (.int 11)) (mCons (mVar 8) mNil)) [some (.ref p), none, some (pr a), some (pr b), some (pr c), some (pr w), some (pr pd), e7, some (.tup [pr a, pr (0, 1)]), some d, none] S7 = .ok (.bl true) S8 := by
        rw [mCallL_ap rfl]
        simp only [bind_ok, bind_exc, oR_ap, ofR_ok, ofR_exc, bool1_bl, mVar_ap, mC_ap, mBin_ap, mTest_ap, mChain_ap, mTru_ap, dTru_bl, mAnd_ap, mOr_ap, mNot_ap, mAndV_ap, mNotV_ap, mNeg_ap, mIf_ap, mNil_ap, mCons_ap, mTup_ap, mLst_ap, mCall_ap, one_ap, two_ap, sRet_ap, sDrop_ap, sIf_ap, sNext_ap, sAsg_ap, sPar_ap, sRaise_ap, gN_ap, sSeq_ap, rseq_nx, rseq_rt, rseq_exc, rout_nx, rout_rt, rout_exc, oAdd_i, oSub_i, oLt_i, oLe_i, oGt_i, oGe_i, bAbs_i, bInt_i, bInt_b, oEq_int, oNe_int, oEq_bl, oNe_bl, oEq_pr, oNe_pr, ix_t0, ix_t1, List.getElem?_cons_zero, List.getElem?_cons_succ, List.length_cons, List.length_nil, List.set_cons_zero, List.set_cons_succ, if_true, if_false, ite_true, ite_false, reduceIte, Nat.reduceAdd, Nat.reduceSub, Nat.zero_add, Bool.not_true, Bool.not_false, Bool.true_eq_false, Bool.false_eq_true, show List.map (capD [some (.ref p), none, some (pr a), some (pr b), some (pr c), some (pr w), some (pr pd), e7, some (.tup [pr a, pr (0, 1)]), some d, none]) [2] = [some (pr a)] from rfl, e9', noClo]
      simp only [bind_ok, bind_exc, oR_ap, ofR_ok, ofR_exc, bool1_bl, mVar_ap, mC_ap, mBin_ap, mTest_ap, mChain_ap, mTru_ap, dTru_bl, mAnd_ap, mOr_ap, mNot_ap, mAndV_ap, mNotV_ap, mNeg_ap, mIf_ap, mNil_ap, mCons_ap, mTup_ap, mLst_ap, mCall_ap, one_ap, two_ap, sRet_ap, sDrop_ap, sIf_ap, sNext_ap, sAsg_ap, sPar_ap, sRaise_ap, gN_ap, sSeq_ap, rseq_nx, rseq_rt, rseq_exc, rout_nx, rout_rt, rout_exc, oAdd_i, oSub_i, oLt_i, oLe_i, oGt_i, oGe_i, bAbs_i, bInt_i, bInt_b, oEq_int, oNe_int, oEq_bl, oNe_bl, oEq_pr, oNe_pr, ix_t0, ix_t1, List.getElem?_cons_zero, List.getElem?_cons_succ, List.length_cons, List.length_nil, List.set_cons_zero, List.set_cons_succ, if_true, if_false, ite_true, ite_false, reduceIte, Nat.reduceAdd, Nat.reduceSub, Nat.zero_add, Bool.not_true, Bool.not_false, Bool.true_eq_false, Bool.false_eq_true, hnum k (by omega) S7, isNot_f, decide_true, cl]
    -- look
    refine out_seq (ρ' := [some (.ref p), some (.fn f), some (pr a), some (pr b), some (pr c), some (pr w), some (pr pd), e7, some (.tup [pr a, pr (0, 1)]), some d, none]) (S1 := S10) ?_ ?_
    · have g9 : lstD [.fn 9, .fn 10, .fn 11] S8 = .ok (.ref S8.length) S9 := by rw [hS9]; exact lstD_ap (by simp) rfl
      simp only [bind_ok, bind_exc, oR_ap, ofR_ok, ofR_exc, bool1_bl, mVar_ap, mC_ap, mBin_ap, mTest_ap, mChain_ap, mTru_ap, dTru_bl, mAnd_ap, mOr_ap, mNot_ap, mAndV_ap, mNotV_ap, mNeg_ap, mIf_ap, mNil_ap, mCons_ap, mTup_ap, mLst_ap, mCall_ap, one_ap, two_ap, sRet_ap, sDrop_ap, sIf_ap, sNext_ap, sAsg_ap, sPar_ap, sRaise_ap, gN_ap, sSeq_ap, rseq_nx, rseq_rt, rseq_exc, rout_nx, rout_rt, rout_exc, oAdd_i, oSub_i, oLt_i, oLe_i, oGt_i, oGe_i, bAbs_i, bInt_i, bInt_b, oEq_int, oNe_int, oEq_bl, oNe_bl, oEq_pr, oNe_pr, ix_t0, ix_t1, List.getElem?_cons_zero, List.getElem?_cons_succ, List.length_cons, List.length_nil, List.set_cons_zero, List.set_cons_succ, if_true, if_false, ite_true, ite_false, reduceIte, Nat.reduceAdd, Nat.reduceSub, Nat.zero_add, Bool.not_true, Bool.not_false, Bool.true_eq_false, Bool.false_eq_true, g9, e10]
    have cpo : capOk [some (.ref p), some (.fn f), some (pr a), some (pr b), some (pr c), some (pr w), some (pr pd), e7, some (.tup [pr a, pr (0, 1)]), some d, none] [9, 1, 2] = true := by
      show (noClo d && (true && (true && true))) = true
      rw [hno]
      rfl
    have cpo2 : capOk [some (.ref p), some (.fn f), some (pr a), some (pr b), some (pr c), some (pr w), some (pr pd), e7, some (.tup [pr a, pr (0, 1)]), some d, none] [9, 1] = true := by
      show (noClo d && (true && true)) = true
      rw [hno]
      rfl
    refine out_seq (ρ' := [some (.ref p), some (.fn f), some (pr a), some (pr b), some (pr c), some (pr w), some (pr pd), e7, some (.tup [pr a, pr (0, 1)]), some d, none]) (S1 := S11) ?_ ?_
    · have e11' : (Gk k).fn 18 [.clo 1 [some d, some (.fn f), some (pr a)], .int 0, d] S10 = .ok (.bl true) S11 := e11
      have cl : mCallL (Gk k) 18 1 [9, 1, 2] (mCons (mC (.int 0)) (mCons (mVar 9) mNil)) [some (.ref p), some (.fn f), some (pr a), some (pr b), some (pr c), some (pr w), some (pr pd), e7, some (.tup [pr a, pr (0, 1)]), some d, none] S10 = .ok (.bl true) S11 := by
        rw [mCallL_ap cpo]
        simp only [bind_ok, bind_exc, oR_ap, ofR_ok, ofR_exc, bool1_bl, mVar_ap, mC_ap, mBin_ap, mTest_ap, mChain_ap, mTru_ap, dTru_bl, mAnd_ap, mOr_ap, mNot_ap, mAndV_ap, mNotV_ap, mNeg_ap, mIf_ap, mNil_ap, mCons_ap, mTup_ap, mLst_ap, mCall_ap, one_ap, two_ap, sRet_ap, sDrop_ap, sIf_ap, sNext_ap, sAsg_ap, sPar_ap, sRaise_ap, gN_ap, sSeq_ap, rseq_nx, rseq_rt, rseq_exc, rout_nx, rout_rt, rout_exc, oAdd_i, oSub_i, oLt_i, oLe_i, oGt_i, oGe_i, bAbs_i, bInt_i, bInt_b, oEq_int, oNe_int, oEq_bl, oNe_bl, oEq_pr, oNe_pr, ix_t0, ix_t1, List.getElem?_cons_zero, List.getElem?_cons_succ, List.length_cons, List.length_nil, List.set_cons_zero, List.set_cons_succ, if_true, if_false, ite_true, ite_false, reduceIte, Nat.reduceAdd, Nat.reduceSub, Nat.zero_add, Bool.not_true, Bool.not_false, Bool.true_eq_false, Bool.false_eq_true, show List.map (capD [some (.ref p), some (.fn f), some (pr a), some (pr b), some (pr c), some (pr w), some (pr pd), e7, some (.tup [pr a, pr (0, 1)]), some d, none]) [9, 1, 2] = [some d, some (.fn f), some (pr a)] from rfl, e11', noClo]
      simp only [bind_ok, bind_exc, oR_ap, ofR_ok, ofR_exc, bool1_bl, mVar_ap, mC_ap, mBin_ap, mTest_ap, mChain_ap, mTru_ap, dTru_bl, mAnd_ap, mOr_ap, mNot_ap, mAndV_ap, mNotV_ap, mNeg_ap, mIf_ap, mNil_ap, mCons_ap, mTup_ap, mLst_ap, mCall_ap, one_ap, two_ap, sRet_ap, sDrop_ap, sIf_ap, sNext_ap, sAsg_ap, sPar_ap, sRaise_ap, gN_ap, sSeq_ap, rseq_nx, rseq_rt, rseq_exc, rout_nx, rout_rt, rout_exc, oAdd_i, oSub_i, oLt_i, oLe_i, oGt_i, oGe_i, bAbs_i, bInt_i, bInt_b, oEq_int, oNe_int, oEq_bl, oNe_bl, oEq_pr, oNe_pr, ix_t0, ix_t1, List.getElem?_cons_zero, List.getElem?_cons_succ, List.length_cons, List.length_nil, List.set_cons_zero, List.set_cons_succ, if_true, if_false, ite_true, ite_false, reduceIte, Nat.reduceAdd, Nat.reduceSub, Nat.zero_add, Bool.not_true, Bool.not_false, Bool.true_eq_false, Bool.false_eq_true, cl]
    have e12' : (Gk k).fn 18 [.clo 2 [some d, some (.fn f)], .int 0, d] S11 = .ok (.bl true) S12 := e12
    have cl : mCallL (Gk k) 18 2 [9, 1] (mCons (mC (.int 0)) (mCons (mVar 9) mNil)) [some (.ref p), some (.fn f), some (pr a), some (pr b), some (pr c), some (pr w), some (pr pd), e7, some (.tup [pr a, pr (0, 1)]), some d, none] S11 = .ok (.bl true) S12 := by
      rw [mCallL_ap cpo2]
      simp only [bind_ok, bind_exc, oR_ap, ofR_ok, ofR_exc, bool1_bl, mVar_ap, mC_ap, mBin_ap, mTest_ap, mChain_ap, mTru_ap, dTru_bl, mAnd_ap, mOr_ap, mNot_ap, mAndV_ap, mNotV_ap, mNeg_ap, mIf_ap, mNil_ap, mCons_ap, mTup_ap, mLst_ap, mCall_ap, one_ap, two_ap, sRet_ap, sDrop_ap, sIf_ap, sNext_ap, sAsg_ap, sPar_ap, sRaise_ap, gN_ap, sSeq_ap, rseq_nx, rseq_rt, rseq_exc, rout_nx, rout_rt, rout_exc, oAdd_i, oSub_i, oLt_i, oLe_i, oGt_i, oGe_i, bAbs_i, bInt_i, bInt_b, oEq_int, oNe_int, oEq_bl, oNe_bl, oEq_pr, oNe_pr, ix_t0, ix_t1, List.getElem?_cons_zero, List.getElem?_cons_succ, List.length_cons, List.length_nil, List.set_cons_zero, List.set_cons_succ, if_true, if_false, ite_true, ite_false, reduceIte, Nat.reduceAdd, Nat.reduceSub, Nat.zero_add, Bool.not_true, Bool.not_false, Bool.true_eq_false, Bool.false_eq_true, show List.map (capD [some (.ref p), some (.fn f), some (pr a), some (pr b), some (pr c), some (pr w), some (pr pd), e7, some (.tup [pr a, pr (0, 1)]), some d, none]) [9, 1] = [some d, some (.fn f)] from rfl, e12', noClo]
    simp only [bind_ok, bind_exc, oR_ap, ofR_ok, ofR_exc, bool1_bl, mVar_ap, mC_ap, mBin_ap, mTest_ap, mChain_ap, mTru_ap, dTru_bl, mAnd_ap, mOr_ap, mNot_ap, mAndV_ap, mNotV_ap, mNeg_ap, mIf_ap, mNil_ap, mCons_ap, mTup_ap, mLst_ap, mCall_ap, one_ap, two_ap, sRet_ap, sDrop_ap, sIf_ap, sNext_ap, sAsg_ap, sPar_ap, sRaise_ap, gN_ap, sSeq_ap, rseq_nx, rseq_rt, rseq_exc, rout_nx, rout_rt, rout_exc, oAdd_i, oSub_i, oLt_i, oLe_i, oGt_i, oGe_i, bAbs_i, bInt_i, bInt_b, oEq_int, oNe_int, oEq_bl, oNe_bl, oEq_pr, oNe_pr, ix_t0, ix_t1, List.getElem?_cons_zero, List.getElem?_cons_succ, List.length_cons, List.length_nil, List.set_cons_zero, List.set_cons_succ, if_true, if_false, ite_true, ite_false, reduceIte, Nat.reduceAdd, Nat.reduceSub, Nat.zero_add, Bool.not_true, Bool.not_false, Bool.true_eq_false, Bool.false_eq_true, cl]
  · have z1 : Ke p S4 S6 := by
      rw [hS6, hS5]
      exact Ke.app.trans Ke.app
    have z2 : Ke p S3 S4 := by
      rw [hS4]
      exact Ke.app
    have z3 : Ke p S8 S9 := by
      rw [hS9]
      exact Ke.app
    exact k1.trans (k2.trans (k3.trans (z2.trans (z1.trans (k7.trans (k8.ke.trans (z3.trans (k10.trans (k11.ke.trans k12.ke)))))))))
end K30
set_option Elab.async false
set_option linter.all false
set_option maxRecDepth 100000
set_option maxHeartbeats 4000000
namespace K30
open PySem L2 Vi
theorem len_scr {ns : List Int} {S : Sto} : bLen (.scr ns) S = some (.int ns.length) := by
  show some (D.int (ns.map D.int).length) = _
  rw [List.length_map]
theorem s_cells {k : Nat} (hk : 1 ≤ k) (ns : List Int) (S : Sto) : ∃ ds : List Int, (Gk k).fn 14 [.scr ns, .int 3] S = .ok (.ref S.length) (S ++ [.lst (ds.map D.int)]) ∧ ∀ i ∈ ds, 0 ≤ i ∧ i < 3 := by
  obtain ⟨k, rfl, hj⟩ := kk hk
  rw [ap__law_cells]
  unfold m__law_cells
  obtain ⟨m, hm⟩ : ∃ m : Int, m = if (if ((ns.length : Nat) : Int) < 3 then ((ns.length : Nat) : Int) else 3) > 1 then (if ((ns.length : Nat) : Int) < 3 then ((ns.length : Nat) : Int) else 3) else 1 := ⟨_, rfl⟩
  have h1 : 1 ≤ m ∧ m ≤ 3 := by
    rw [hm]
    constructor <;> (split <;> (try split) <;> omega)
  have b1 : bMin (.int 3) (.int ns.length) S = some (.int (if ((ns.length : Nat) : Int) < 3 then ((ns.length : Nat) : Int) else 3)) := rfl
  have b2 : bMax (.int 1) (.int (if ((ns.length : Nat) : Int) < 3 then ((ns.length : Nat) : Int) else 3)) S = some (.int m) := by rw [hm]; rfl
  have lr (me : ME) (ρ : Ev) (h : me ρ S = .ok (.int m) S) : mLR me ρ S = if rgOk 0 m = true then lstO (rgD 0 m) S else .bad := by
    unfold mLR
    rw [h]
    rfl
  have hl := lr (mCall (two bMax) (mCons (mC (.int 1)) (mCons (mCall (two bMin) (mCons (mVar 1) (mCons (mCall (one bLen) (mCons (mVar 0) mNil)) mNil))) mNil))) [some (.scr ns), some (.int 3)] (by simp only [bind_ok, bind_exc, oR_ap, ofR_ok, ofR_exc, bool1_bl, mVar_ap, mC_ap, mBin_ap, mTest_ap, mChain_ap, mTru_ap, dTru_bl, mAnd_ap, mOr_ap, mNot_ap, mAndV_ap, mNotV_ap, mNeg_ap, mIf_ap, mNil_ap, mCons_ap, mTup_ap, mLst_ap, mCall_ap, one_ap, two_ap, sRet_ap, sDrop_ap, sIf_ap, sNext_ap, sAsg_ap, sPar_ap, sRaise_ap, gN_ap, sSeq_ap, rseq_nx, rseq_rt, rseq_exc, rout_nx, rout_rt, rout_exc, oAdd_i, oSub_i, oLt_i, oLe_i, oGt_i, oGe_i, bAbs_i, bInt_i, bInt_b, oEq_int, oNe_int, oEq_bl, oNe_bl, oEq_pr, oNe_pr, ix_t0, ix_t1, List.getElem?_cons_zero, List.getElem?_cons_succ, List.length_cons, List.length_nil, List.set_cons_zero, List.set_cons_succ, if_true, if_false, ite_true, ite_false, reduceIte, Nat.reduceAdd, Nat.reduceSub, Nat.zero_add, Bool.not_true, Bool.not_false, Bool.true_eq_false, Bool.false_eq_true, len_scr, b1, b2])
  have h2 : m = 1 ∨ m = 2 ∨ m = 3 := by omega
  clear hm lr b2
  rcases h2 with rfl | rfl | rfl
  · refine ⟨[0], ?_, by simp⟩
    simp only [bind_ok, bind_exc, oR_ap, ofR_ok, ofR_exc, bool1_bl, mVar_ap, mC_ap, mBin_ap, mTest_ap, mChain_ap, mTru_ap, dTru_bl, mAnd_ap, mOr_ap, mNot_ap, mAndV_ap, mNotV_ap, mNeg_ap, mIf_ap, mNil_ap, mCons_ap, mTup_ap, mLst_ap, mCall_ap, one_ap, two_ap, sRet_ap, sDrop_ap, sIf_ap, sNext_ap, sAsg_ap, sPar_ap, sRaise_ap, gN_ap, sSeq_ap, rseq_nx, rseq_rt, rseq_exc, rout_nx, rout_rt, rout_exc, oAdd_i, oSub_i, oLt_i, oLe_i, oGt_i, oGe_i, bAbs_i, bInt_i, bInt_b, oEq_int, oNe_int, oEq_bl, oNe_bl, oEq_pr, oNe_pr, ix_t0, ix_t1, List.getElem?_cons_zero, List.getElem?_cons_succ, List.length_cons, List.length_nil, List.set_cons_zero, List.set_cons_succ, if_true, if_false, ite_true, ite_false, reduceIte, Nat.reduceAdd, Nat.reduceSub, Nat.zero_add, Bool.not_true, Bool.not_false, Bool.true_eq_false, Bool.false_eq_true, hl]
    rfl
  · refine ⟨[0, 1], ?_, by simp⟩
    simp only [bind_ok, bind_exc, oR_ap, ofR_ok, ofR_exc, bool1_bl, mVar_ap, mC_ap, mBin_ap, mTest_ap, mChain_ap, mTru_ap, dTru_bl, mAnd_ap, mOr_ap, mNot_ap, mAndV_ap, mNotV_ap, mNeg_ap, mIf_ap, mNil_ap, mCons_ap, mTup_ap, mLst_ap, mCall_ap, one_ap, two_ap, sRet_ap, sDrop_ap, sIf_ap, sNext_ap, sAsg_ap, sPar_ap, sRaise_ap, gN_ap, sSeq_ap, rseq_nx, rseq_rt, rseq_exc, rout_nx, rout_rt, rout_exc, oAdd_i, oSub_i, oLt_i, oLe_i, oGt_i, oGe_i, bAbs_i, bInt_i, bInt_b, oEq_int, oNe_int, oEq_bl, oNe_bl, oEq_pr, oNe_pr, ix_t0, ix_t1, List.getElem?_cons_zero, List.getElem?_cons_succ, List.length_cons, List.length_nil, List.set_cons_zero, List.set_cons_succ, if_true, if_false, ite_true, ite_false, reduceIte, Nat.reduceAdd, Nat.reduceSub, Nat.zero_add, Bool.not_true, Bool.not_false, Bool.true_eq_false, Bool.false_eq_true, hl]
    rfl
  · refine ⟨[0, 1, 2], ?_, by simp⟩
    simp only [bind_ok, bind_exc, oR_ap, ofR_ok, ofR_exc, bool1_bl, mVar_ap, mC_ap, mBin_ap, mTest_ap, mChain_ap, mTru_ap, dTru_bl, mAnd_ap, mOr_ap, mNot_ap, mAndV_ap, mNotV_ap, mNeg_ap, mIf_ap, mNil_ap, mCons_ap, mTup_ap, mLst_ap, mCall_ap, one_ap, two_ap, sRet_ap, sDrop_ap, sIf_ap, sNext_ap, sAsg_ap, sPar_ap, sRaise_ap, gN_ap, sSeq_ap, rseq_nx, rseq_rt, rseq_exc, rout_nx, rout_rt, rout_exc, oAdd_i, oSub_i, oLt_i, oLe_i, oGt_i, oGe_i, bAbs_i, bInt_i, bInt_b, oEq_int, oNe_int, oEq_bl, oNe_bl, oEq_pr, oNe_pr, ix_t0, ix_t1, List.getElem?_cons_zero, List.getElem?_cons_succ, List.length_cons, List.length_nil, List.set_cons_zero, List.set_cons_succ, if_true, if_false, ite_true, ite_false, reduceIte, Nat.reduceAdd, Nat.reduceSub, Nat.zero_add, Bool.not_true, Bool.not_false, Bool.true_eq_false, Bool.false_eq_true, hl]
    rfl
theorem intsOf_map : ∀ l : List Int, intsOf (l.map D.int) = some l
  | [] => rfl
  | x :: l => by
    have e := intsOf_map l
    unfold intsOf at e ⊢
    rw [List.map_cons]
    unfold allSome
    dsimp only
    rw [e]
theorem sum_cut (ns : List Int) (lo hi : Option Int) (S : Sto) : ∃ s : Int, bSum (.ref S.length) (S ++ [.lst (cutD (ns.map D.int) lo hi)]) = some (.int s) := by
  obtain ⟨l, hl⟩ : ∃ l : List Int, cutD (ns.map D.int) lo hi = l.map D.int := by
    unfold cutD
    rw [← List.map_drop, ← List.map_take]
    exact ⟨_, rfl⟩
  rw [hl]
  refine ⟨l.sum, ?_⟩
  have e : Vi.listOf (.ref S.length) (S ++ [.lst (l.map D.int)]) = some (l.map D.int) := by
    unfold Vi.listOf
    simp
  unfold bSum
  rw [e]
  dsimp only
  rw [intsOf_map]
  rfl
theorem mSl_ap {ma : ME} {ml mh : MO'} {ρ : Ev} {S : Sto} : mSl ma ml mh ρ S = (ma ρ S).bind fun d S1 => (ml ρ S1).bind fun lo S2 => (mh ρ S2).bind fun hi S3 => dSl d lo hi S3 := rfl
theorem dSl_scr {ns : List Int} {lo hi : Option Int} {S : Sto} : dSl (.scr ns) lo hi S = .ok (.ref S.length) (S ++ [.lst (cutD (ns.map D.int) lo hi)]) := rfl
theorem part_1 {ρ : Ev} {S : Sto} : mPart (mC (.int 1)) ρ S = .ok (some 1) S := rfl
theorem nopart {ρ : Ev} {S : Sto} : mNoPart ρ S = .ok none S := rfl
theorem s_pot {k : Nat} (hk : 1 ≤ k) (ns : List Int) (i : Int) (h0 : 0 ≤ i) (h3 : i < 3) (S : Sto) : ∃ p S', (Gk k).fn 15 [.scr ns, .int i] S = .ok (.ref p) S' ∧ PotAt S' p 0 ∧ Kp S S' ∧ S.length ≤ p := by
  obtain ⟨k, rfl, hj⟩ := kk hk
  rw [ap__law_pot]
  unfold m__law_pot
  -- the cell
  have cell : ∃ (z : Int) (S1 : Sto), sAsg (mIf (mTest (mBin oLt (mVar 1) (mCall (one bLen) (mCons (mVar 0) mNil)))) (mBin dIx (mVar 0) (mVar 1)) (mBin oAdd (mBin oAdd (mBin oMod (mCall (one bInt) (mCons (mCall (one bSum) (mCons (mSl (mVar 0) mNoPart (mPart (mC (.int 1)))) mNil)) mNil)) (mC (.int 1000003))) (mBin oMul (mC (.int 10271)) (mVar 1))) (mC (.int 10311)))) (gN 2) [some (.scr ns), some (.int i), none, none, none] S = .nx [some (.scr ns), some (.int i), some (.int z), none, none] S1 ∧ Kp S S1 := by
    by_cases hl : i < ((ns.length : Nat) : Int)
    · obtain ⟨x, hx⟩ : ∃ x : Int, ns[i.toNat]? = some x := ⟨_, List.getElem?_eq_getElem (by omega)⟩
      have e : dIx (.scr ns) (.int i) S = some (.int x) := by
        show atI (ns.map D.int) i = _
        unfold atI ixN
        rw [if_pos h0, List.length_map, if_pos hl]
        show (ns.map D.int)[i.toNat]? = _
        rw [List.getElem?_map, hx]
        rfl
      refine ⟨x, S, ?_, Kp.refl⟩
      simp only [bind_ok, bind_exc, oR_ap, ofR_ok, ofR_exc, bool1_bl, mVar_ap, mC_ap, mBin_ap, mTest_ap, mChain_ap, mTru_ap, dTru_bl, mAnd_ap, mOr_ap, mNot_ap, mAndV_ap, mNotV_ap, mNeg_ap, mIf_ap, mNil_ap, mCons_ap, mTup_ap, mLst_ap, mCall_ap, one_ap, two_ap, sRet_ap, sDrop_ap, sIf_ap, sNext_ap, sAsg_ap, sPar_ap, sRaise_ap, gN_ap, sSeq_ap, rseq_nx, rseq_rt, rseq_exc, rout_nx, rout_rt, rout_exc, oAdd_i, oSub_i, oLt_i, oLe_i, oGt_i, oGe_i, bAbs_i, bInt_i, bInt_b, oEq_int, oNe_int, oEq_bl, oNe_bl, oEq_pr, oNe_pr, ix_t0, ix_t1, List.getElem?_cons_zero, List.getElem?_cons_succ, List.length_cons, List.length_nil, List.set_cons_zero, List.set_cons_succ, if_true, if_false, ite_true, ite_false, reduceIte, Nat.reduceAdd, Nat.reduceSub, Nat.zero_add, Bool.not_true, Bool.not_false, Bool.true_eq_false, Bool.false_eq_true, len_scr, decide_eq_true hl, e]
    · obtain ⟨s, hs⟩ := sum_cut ns none (some 1) S
      have f1 : (1000003 : Int) ≠ 0 := by omega
      have m1 : mulOk 10271 i = true := mul_ok 10271 3 (by omega) (by omega)
      refine ⟨s.fmod 1000003 + 10271 * i + 10311, S ++ [.lst (cutD (ns.map D.int) none (some 1))], ?_, Kp.app⟩
      simp only [bind_ok, bind_exc, oR_ap, ofR_ok, ofR_exc, bool1_bl, mVar_ap, mC_ap, mBin_ap, mTest_ap, mChain_ap, mTru_ap, dTru_bl, mAnd_ap, mOr_ap, mNot_ap, mAndV_ap, mNotV_ap, mNeg_ap, mIf_ap, mNil_ap, mCons_ap, mTup_ap, mLst_ap, mCall_ap, one_ap, two_ap, sRet_ap, sDrop_ap, sIf_ap, sNext_ap, sAsg_ap, sPar_ap, sRaise_ap, gN_ap, sSeq_ap, rseq_nx, rseq_rt, rseq_exc, rout_nx, rout_rt, rout_exc, oAdd_i, oSub_i, oLt_i, oLe_i, oGt_i, oGe_i, bAbs_i, bInt_i, bInt_b, oEq_int, oNe_int, oEq_bl, oNe_bl, oEq_pr, oNe_pr, ix_t0, ix_t1, List.getElem?_cons_zero, List.getElem?_cons_succ, List.length_cons, List.length_nil, List.set_cons_zero, List.set_cons_succ, if_true, if_false, ite_true, ite_false, reduceIte, Nat.reduceAdd, Nat.reduceSub, Nat.zero_add, Bool.not_true, Bool.not_false, Bool.true_eq_false, Bool.false_eq_true, len_scr, decide_eq_false hl, mSl_ap, nopart, part_1, dSl_scr, hs, oMod_i f1, oMul_i m1]
  obtain ⟨z, S1, e1, k1⟩ := cell
  obtain ⟨B, hB⟩ : ∃ B : Int, B = ((10 : Int) ^ (Int.toNat 60)) ^ (Int.toNat 5) := ⟨_, rfl⟩
  have B1 : 0 < B := by rw [hB]; decide +kernel
  have B2 : B < 2 ^ 1000 := by rw [hB]; decide +kernel
  have p1 : oPow (.int 10) (.int 60) S1 = some (.int ((10 : Int) ^ (Int.toNat 60))) := oPow_i (by decide +kernel)
  have p2 : oPow (.int ((10 : Int) ^ (Int.toNat 60))) (.int 5) S1 = some (.int B) := by
    rw [hB]
    exact oPow_i (by decide +kernel)
  have p3 : oPow (.int 10) (.int 18) S1 = some (.int 1000000000000000000) := by kernel_rfl
  have q1 : 0 ≤ (z.natAbs : Int).fmod B := Int.fmod_nonneg_of_pos _ B1
  have q2 : (z.natAbs : Int).fmod B < B := Int.fmod_lt_of_pos _ B1
  have n2 : ((z.natAbs : Int).fmod B).natAbs < 2 ^ 4000 := by
    have z1 : ((z.natAbs : Int).fmod B).natAbs < 2 ^ 1000 := by
      have z2 : (((z.natAbs : Int).fmod B).natAbs : Int) < ((2 ^ 1000 : Nat) : Int) := by
        have z3 : ((2 ^ 1000 : Nat) : Int) = 2 ^ 1000 := by decide +kernel
        rw [z3]
        omega
      exact Int.ofNat_lt.mp z2
    exact Nat.lt_trans z1 (by decide +kernel)
  obtain ⟨t, ht⟩ : ∃ t : Int, t = if decide ((1000000000000000000 : Int) ≤ (z.natAbs : Int)) = true then 1 else 0 := ⟨_, rfl⟩
  have t0 : 0 ≤ t ∧ t ≤ 1 := by rw [ht]; split <;> omega
  have m2 : mulOk ((z.natAbs : Int).fmod B) t = true := mulOk_of n2 (Nat.lt_of_le_of_lt (show t.natAbs ≤ 1 by omega) (by decide +kernel))
  have s1 : 0 ≤ z.fmod 2305843009213693951 := Int.fmod_nonneg_of_pos _ (by omega)
  have s2 : z.fmod 2305843009213693951 < 2305843009213693951 := Int.fmod_lt_of_pos _ (by omega)
  have m3 : mulOk (z.fmod 2305843009213693951) 80001 = true := mul_ok 2305843009213693951 80001 (by omega) (by omega)
  have m4 : mulOk 55101 i = true := mul_ok 55101 3 (by omega) (by omega)
  have m5 : mulOk (55101 * i) i = true := mul_ok 1000000 3 (by omega) (by omega)
  have f1 : (2305843009213693951 : Int) ≠ 0 := by omega
  have f2 : (2305843009213693921 : Int) ≠ 0 := by omega
  have f0 : B ≠ 0 := by omega
  obtain ⟨x, hx⟩ : ∃ x : Int, x = (z.fmod 2305843009213693951 * 80001 + 55101 * i * i + 7023).fmod 2305843009213693921 := ⟨_, rfl⟩
  have x1 : 0 ≤ x := by rw [hx]; exact Int.fmod_nonneg_of_pos _ (by omega)
  have x2 : x < 2305843009213693921 := by rw [hx]; exact Int.fmod_lt_of_pos _ (by omega)
  have g : lstD [.int ((z.natAbs : Int).fmod B * t), .int x, .int 0] S1 = .ok (.ref S1.length) (S1 ++ [.lst [.int ((z.natAbs : Int).fmod B * t), .int x, .int 0]]) := lstD_ap (by simp) rfl
  refine ⟨S1.length, S1 ++ [.lst [.int ((z.natAbs : Int).fmod B * t), .int x, .int 0]], ?_, ⟨_, x, 0, by simp, Int.mul_nonneg q1 t0.1, x1, by omega, by omega, by omega⟩, k1.trans Kp.app, k1.1⟩
  refine out_seq e1 ?_
  simp only [bind_ok, bind_exc, oR_ap, ofR_ok, ofR_exc, bool1_bl, mVar_ap, mC_ap, mBin_ap, mTest_ap, mChain_ap, mTru_ap, dTru_bl, mAnd_ap, mOr_ap, mNot_ap, mAndV_ap, mNotV_ap, mNeg_ap, mIf_ap, mNil_ap, mCons_ap, mTup_ap, mLst_ap, mCall_ap, one_ap, two_ap, sRet_ap, sDrop_ap, sIf_ap, sNext_ap, sAsg_ap, sPar_ap, sRaise_ap, gN_ap, sSeq_ap, rseq_nx, rseq_rt, rseq_exc, rout_nx, rout_rt, rout_exc, oAdd_i, oSub_i, oLt_i, oLe_i, oGt_i, oGe_i, bAbs_i, bInt_i, bInt_b, oEq_int, oNe_int, oEq_bl, oNe_bl, oEq_pr, oNe_pr, ix_t0, ix_t1, List.getElem?_cons_zero, List.getElem?_cons_succ, List.length_cons, List.length_nil, List.set_cons_zero, List.set_cons_succ, if_true, if_false, ite_true, ite_false, reduceIte, Nat.reduceAdd, Nat.reduceSub, Nat.zero_add, Bool.not_true, Bool.not_false, Bool.true_eq_false, Bool.false_eq_true, p1, p2, p3, oMod_i f0, ← ht, oMul_i m2, oMod_i f1, oMul_i m3, oMul_i m4, oMul_i m5, oMod_i f2, ← hx, g]
/-! ### the law -/
theorem lcX_succ {nxt : Nat → Sto → Option D} {fin : Nat → Sto → Bool} {f : D → Ev → Option Ev} {tt : MT} {te : ME} {n i : Nat} {acc : List D} {ρ : Ev} {S : Sto} : lcX nxt fin f tt te (n + 1) i acc ρ S = match nxt i S with
    | some d => match f d ρ with
      | some ρ1 => (tt ρ1 S).nox.bind fun k S1 => if k = true then (te ρ1 S1).nox.bind fun y S2 => if acc.length < sizeLine ∧ noClo y = true then lcX nxt fin f tt te n (i + 1) (acc ++ [y]) ρ S2 else .bad else lcX nxt fin f tt te n (i + 1) acc ρ S1
      | none => .bad
    | none => .bad := rfl
theorem yes_ap {ρ : Ev} {S : Sto} : mYes ρ S = .ok true S := rfl
theorem nox_ok {β : Type} {b : β} {S : Sto} : (R.ok b S).nox = .ok b S := rfl
theorem laps {k : Nat} (hk : 9 ≤ k) {a b c e : Option D} {p : Nat} (hc : c = some (.ref p)) : ∀ (n i m : Nat) (acc : List D) (S : Sto), i + n = 10 → PotAt S p m → m ≤ 80000 - 23 * n → acc.length + n ≤ 1000 →
    ∃ S', lcX (rgNxt 0 10) (rgFin 10) (gN 3) mYes (mCall ((Gk k).fn 23) (mCons (mVar 2) mNil)) n i acc [a, b, c, e] S = .ok (acc ++ List.replicate n (.bl true)) S' ∧ Ke p S S' := by
  subst hc
  intro n
  induction n with
  | zero =>
    intro i m acc S h1 _ _ _
    have e : rgFin 10 i S = true := decide_eq_true (by omega)
    refine ⟨S, ?_, Ke.refl⟩
    unfold lcX
    rw [if_pos e, List.replicate_zero, List.append_nil]
  | succ n ih =>
    intro i m acc S h1 h2 h3 h4
    obtain ⟨S1, e1, p1, k1⟩ := s_right hk h2 (by omega)
    obtain ⟨S2, e2, k2⟩ := ih (i + 1) (m + 23) (acc ++ [.bl true]) S1 (by omega) p1 (by omega) (by simp; omega)
    refine ⟨S2, ?_, k1.trans k2⟩
    have sz : acc.length < sizeLine ∧ noClo (.bl true) = true := ⟨Nat.lt_of_le_of_lt (show acc.length ≤ 1000 by omega) (by decide +kernel), rfl⟩
    rw [lcX_succ, rg_nxt (by omega)]
    simp only [bind_ok, bind_exc, oR_ap, ofR_ok, ofR_exc, bool1_bl, mVar_ap, mC_ap, mBin_ap, mTest_ap, mChain_ap, mTru_ap, dTru_bl, mAnd_ap, mOr_ap, mNot_ap, mAndV_ap, mNotV_ap, mNeg_ap, mIf_ap, mNil_ap, mCons_ap, mTup_ap, mLst_ap, mCall_ap, one_ap, two_ap, sRet_ap, sDrop_ap, sIf_ap, sNext_ap, sAsg_ap, sPar_ap, sRaise_ap, gN_ap, sSeq_ap, rseq_nx, rseq_rt, rseq_exc, rout_nx, rout_rt, rout_exc, oAdd_i, oSub_i, oLt_i, oLe_i, oGt_i, oGe_i, bAbs_i, bInt_i, bInt_b, oEq_int, oNe_int, oEq_bl, oNe_bl, oEq_pr, oNe_pr, ix_t0, ix_t1, List.getElem?_cons_zero, List.getElem?_cons_succ, List.length_cons, List.length_nil, List.set_cons_zero, List.set_cons_succ, if_true, if_false, ite_true, ite_false, reduceIte, Nat.reduceAdd, Nat.reduceSub, Nat.zero_add, Bool.not_true, Bool.not_false, Bool.true_eq_false, Bool.false_eq_true, yes_ap, nox_ok, e1, sz, and_self]
    rw [e2, List.append_assoc]
    rfl
theorem all_10 {S : Sto} : bAll (.ref S.length) (S ++ [.lst (List.replicate 10 (.bl true))]) = some (.bl true) := by
  have e : Vi.listOf (.ref S.length) (S ++ [.lst (List.replicate 10 (.bl true))]) = some (List.replicate 10 (.bl true)) := by
    unfold Vi.listOf
    simp
  unfold bAll
  rw [e]
  rfl
abbrev bdL (G : GT) : MS := sSeq (sAsg (mCall (G.fn 15) (mCons (mVar 0) (mCons (mVar 1) mNil))) (gN 2)) (sIf (mNot (mTru (mCall (one bAll) (mCons (mLcR [3] (gN 3) (mCons (mC (.int 10)) mNil) mYes (mCall (G.fn 23) (mCons (mVar 2) mNil))) mNil)))) (sRet (mC (.bl false))) sNext)
theorem s_body {k : Nat} (hk : 9 ≤ k) (ns : List Int) (i : Int) (h0 : 0 ≤ i) (h3 : i < 3) (e2 e3 : Option D) (S : Sto) : ∃ e2' S', bdL (Gk k) [some (.scr ns), some (.int i), e2, e3] S = .nx [some (.scr ns), some (.int i), e2', e3] S' ∧ Kp S S' := by
  obtain ⟨p, S1, h1, pt, k1, hp⟩ := s_pot (k := k) (by omega) ns i h0 h3 S
  obtain ⟨S2, h2, k2⟩ := laps hk (a := some (.scr ns)) (b := some (.int i)) (c := some (.ref p)) (e := none) rfl 10 0 0 [] S1 rfl pt (by omega) (by simp)
  have hl : mLcR [3] (gN 3) (mCons (mC (.int 10)) mNil) mYes (mCall ((Gk k).fn 23) (mCons (mVar 2) mNil)) [some (.scr ns), some (.int i), some (.ref p), e3] S1 = .ok (.ref S2.length) (S2 ++ [.lst (List.replicate 10 (.bl true))]) := by
    have e : mLcR [3] (gN 3) (mCons (mC (.int 10)) mNil) mYes (mCall ((Gk k).fn 23) (mCons (mVar 2) mNil)) [some (.scr ns), some (.int i), some (.ref p), e3] S1 = (lcX (rgNxt 0 10) (rgFin 10) (gN 3) mYes (mCall ((Gk k).fn 23) (mCons (mVar 2) mNil)) 10 0 [] [some (.scr ns), some (.int i), some (.ref p), none] S1).bind lstO := rfl
    rw [e, h2]
    rfl
  have kS : Kp S S2 := ⟨Nat.le_trans k1.1 k2.1, fun j hj => (k2.2 j (by omega) (by have := k1.1; omega)).trans (k1.2 j hj)⟩
  refine ⟨some (.ref p), S2 ++ [.lst (List.replicate 10 (.bl true))], ?_, kS.trans Kp.app⟩
  have e1 : sAsg (mCall ((Gk k).fn 15) (mCons (mVar 0) (mCons (mVar 1) mNil))) (gN 2) [some (.scr ns), some (.int i), e2, e3] S = .nx [some (.scr ns), some (.int i), some (.ref p), e3] S1 := by simp only [bind_ok, bind_exc, oR_ap, ofR_ok, ofR_exc, bool1_bl, mVar_ap, mC_ap, mBin_ap, mTest_ap, mChain_ap, mTru_ap, dTru_bl, mAnd_ap, mOr_ap, mNot_ap, mAndV_ap, mNotV_ap, mNeg_ap, mIf_ap, mNil_ap, mCons_ap, mTup_ap, mLst_ap, mCall_ap, one_ap, two_ap, sRet_ap, sDrop_ap, sIf_ap, sNext_ap, sAsg_ap, sPar_ap, sRaise_ap, gN_ap, sSeq_ap, rseq_nx, rseq_rt, rseq_exc, rout_nx, rout_rt, rout_exc, oAdd_i, oSub_i, oLt_i, oLe_i, oGt_i, oGe_i, bAbs_i, bInt_i, bInt_b, oEq_int, oNe_int, oEq_bl, oNe_bl, oEq_pr, oNe_pr, ix_t0, ix_t1, List.getElem?_cons_zero, List.getElem?_cons_succ, List.length_cons, List.length_nil, List.set_cons_zero, List.set_cons_succ, if_true, if_false, ite_true, ite_false, reduceIte, Nat.reduceAdd, Nat.reduceSub, Nat.zero_add, Bool.not_true, Bool.not_false, Bool.true_eq_false, Bool.false_eq_true, h1]
  refine (seq_nx e1).trans ?_
  simp only [bind_ok, bind_exc, oR_ap, ofR_ok, ofR_exc, bool1_bl, mVar_ap, mC_ap, mBin_ap, mTest_ap, mChain_ap, mTru_ap, dTru_bl, mAnd_ap, mOr_ap, mNot_ap, mAndV_ap, mNotV_ap, mNeg_ap, mIf_ap, mNil_ap, mCons_ap, mTup_ap, mLst_ap, mCall_ap, one_ap, two_ap, sRet_ap, sDrop_ap, sIf_ap, sNext_ap, sAsg_ap, sPar_ap, sRaise_ap, gN_ap, sSeq_ap, rseq_nx, rseq_rt, rseq_exc, rout_nx, rout_rt, rout_exc, oAdd_i, oSub_i, oLt_i, oLe_i, oGt_i, oGe_i, bAbs_i, bInt_i, bInt_b, oEq_int, oNe_int, oEq_bl, oNe_bl, oEq_pr, oNe_pr, ix_t0, ix_t1, List.getElem?_cons_zero, List.getElem?_cons_succ, List.length_cons, List.length_nil, List.set_cons_zero, List.set_cons_succ, if_true, if_false, ite_true, ite_false, reduceIte, Nat.reduceAdd, Nat.reduceSub, Nat.zero_add, Bool.not_true, Bool.not_false, Bool.true_eq_false, Bool.false_eq_true, hl, all_10]
theorem ls_nxt {q len i : Nat} {ds : List D} {S : Sto} (h : S[q]? = some (.lst ds)) (hl : ds.length = len) : lsNxt q len i S = ds[i]? := by
  unfold lsNxt
  rw [h]
  dsimp only
  rw [if_pos hl]
theorem ls_fin {q len i : Nat} {ds : List D} {S : Sto} (h : S[q]? = some (.lst ds)) (hl : ds.length = len) (hi : len ≤ i) : lsFin q len i S = true := by
  unfold lsFin
  rw [h]
  dsimp only
  rw [decide_eq_true hl, decide_eq_true hi]
  rfl
theorem s_loop {k : Nat} (hk : 9 ≤ k) (ns ds : List Int) (hd : ∀ i ∈ ds, 0 ≤ i ∧ i < 3) (q : Nat) : ∀ (n i : Nat) (e1 e2 e3 : Option D) (S : Sto), i + n = ds.length → S[q]? = some (.lst (ds.map D.int)) →
    ∃ ρ' S', forX (lsNxt q (ds.map D.int).length) (lsFin q (ds.map D.int).length) (gN 1) (bdL (Gk k)) n i [some (.scr ns), e1, e2, e3] S = .nx ρ' S' := by
  intro n
  induction n with
  | zero =>
    intro i e1 e2 e3 S h1 h2
    refine ⟨[some (.scr ns), e1, e2, e3], S, ?_⟩
    unfold forX
    rw [if_pos (ls_fin h2 rfl (by rw [List.length_map]; omega))]
  | succ n ih =>
    intro i e1 e2 e3 S h1 h2
    obtain ⟨x, hx⟩ : ∃ x : Int, ds[i]? = some x := ⟨_, List.getElem?_eq_getElem (by omega)⟩
    obtain ⟨x0, x3⟩ := hd x (List.mem_of_getElem? hx)
    obtain ⟨e2', S1, hb, k1⟩ := s_body hk ns x x0 x3 e2 e3 S
    obtain ⟨ρ', S', e⟩ := ih (i + 1) (some (.int x)) e2' e3 S1 (by omega) (k1.get h2)
    refine ⟨ρ', S', ?_⟩
    rw [for_succ, ls_nxt h2 rfl, List.getElem?_map, hx]
    simp only [Option.map_some, gN_ap, List.set_cons_zero, List.set_cons_succ]
    rw [hb]
    exact e
theorem sem0 (ns : List Int) : ∃ S1, (Gk 60).fn 24 [.scr ns] [] = .ok (.bl true) S1 := by
  show ∃ S1, (Gk (59 + 1)).fn 24 [.scr ns] [] = .ok (.bl true) S1
  rw [ap_law]
  unfold m_law
  obtain ⟨ds, hc, hd⟩ := s_cells (k := 59) (by omega) ns []
  obtain ⟨ρ', S', e⟩ := s_loop (k := 59) (by omega) ns ds hd 0 (ds.map D.int).length 0 none none none [.lst (ds.map D.int)] (by rw [List.length_map]; omega) rfl
  have e2 : sFor (gN 1) (mCall ((Gk 59).fn 14) (mCons (mVar 0) (mCons (mC (.int 3)) mNil))) (bdL (Gk 59)) [some (.scr ns), none, none, none] [] = .nx ρ' S' := by
    unfold sFor
    simp only [bind_ok, bind_exc, oR_ap, ofR_ok, ofR_exc, bool1_bl, mVar_ap, mC_ap, mBin_ap, mTest_ap, mChain_ap, mTru_ap, dTru_bl, mAnd_ap, mOr_ap, mNot_ap, mAndV_ap, mNotV_ap, mNeg_ap, mIf_ap, mNil_ap, mCons_ap, mTup_ap, mLst_ap, mCall_ap, one_ap, two_ap, sRet_ap, sDrop_ap, sIf_ap, sNext_ap, sAsg_ap, sPar_ap, sRaise_ap, gN_ap, sSeq_ap, rseq_nx, rseq_rt, rseq_exc, rout_nx, rout_rt, rout_exc, oAdd_i, oSub_i, oLt_i, oLe_i, oGt_i, oGe_i, bAbs_i, bInt_i, bInt_b, oEq_int, oNe_int, oEq_bl, oNe_bl, oEq_pr, oNe_pr, ix_t0, ix_t1, List.getElem?_cons_zero, List.getElem?_cons_succ, List.length_cons, List.length_nil, List.set_cons_zero, List.set_cons_succ, if_true, if_false, ite_true, ite_false, reduceIte, Nat.reduceAdd, Nat.reduceSub, Nat.zero_add, Bool.not_true, Bool.not_false, Bool.true_eq_false, Bool.false_eq_true, hc]
    exact e
  exact ⟨S', out_seq e2 rfl⟩
end K30
set_option Elab.async false
set_option linter.all false
set_option maxRecDepth 100000
set_option maxHeartbeats 0
namespace K30
open PySem L2 Vi PyProof.Rows
def lo0 : List Str := ["ShallowError", "BadNumber", "BadFormula", "BadProgram", "BadLetter", "BadValues", "BadSaying", "BadWay", "BadStep", "BadMany", "BadTable", "HasOver", "ByNought", "NotWhole", "TooMany", "BadText", "NotPossible", "BadDeed", "NothingToUndo", "NothingToRedo", "NoTrial", "BadJournal", "BadLine", "BadClaim", "BadNoted", "is_integer", "is_tuple", "MOST_FIGURE", "MOST_FIGURES"]
def lo1 : List Str := ["GREAT", "PAIR", "divisor", "reduced", "is_number", "check_number", "plus", "product", "quotient", "added", "multiplied", "divided", "_law_take", "_law_of", "_law_cells", "_law_pot", "_law_caught", "_law_kinds_of", "_law_tells", "_law_divisor", "_law_ratio", "_law_joined", "_law_drawn"]
def loose : List Str := lo0 ++ lo1
abbrev R : PySem.W.OpenRow := PySem.W.OpenLaw.row PySem.Challenge.rw_madeshallow_k30_numbers_by_themselves
abbrev vw : Program := PySem.W.view R.prog [56, 57]
def iLaw : Nat := 57
def mkS : Stmt := inClass (top 1) 0

abbrev hd : HdD := hdOf rows mkS R.prog.main.file
abbrev hk : PySem.W.Hook := hdHook hd 6
def ob (s : PySem.W.SharedT) : HdW := hdObsG hd 6 (HandSHeadRun.getT s)
theorem ob_eq (s : PySem.W.SharedT) : ob s = hk.obs s.abs := hdObsG_eq (HandSHeadRun.getT_eq s)
theorem run (w : World) : HandSHeadRun.RunEq R vw hk ob 8000 loose w := by
  intro os
  kernel_rfl
end K30
set_option Elab.async false
set_option linter.all false
set_option maxRecDepth 100000
set_option maxHeartbeats 0
namespace K30
open PySem L2 Vi PyProof.Rows
theorem binds0 : ∀ r ∈ rows, bindsOk (defArgs r.st) r.ps := by
  intro r hr
  simp only [rows, List.mem_cons, List.not_mem_nil, or_false] at hr
  rcases hr with rfl | rfl | rfl | rfl | rfl | rfl | rfl | rfl | rfl | rfl | rfl | rfl | rfl | rfl | rfl | rfl | rfl | rfl | rfl | rfl | rfl | rfl | rfl | rfl | rfl <;>
    exact fun _ _ _ _ _ _ _ _ _ _ us hl => by
      first
        | exact match us, hl with | [_], _ => rfl
        | exact match us, hl with | [_, _], _ => rfl
        | exact match us, hl with | [_, _, _], _ => rfl
theorem mk0 : MkTxt mkS := ⟨_, _, _, _, _, _, _, _, _, _, _, _, rfl, rfl, rfl, rfl, rfl, rfl, by decide +kernel, rfl, rfl, rfl, rfl⟩
theorem rec0 : ∀ p ∈ rows.filterMap lqOf, ∃ d', (recsOf vw).find? (fun e => e.name == p.1) = some d' := by
  intro p hp
  have e : rows.filterMap lqOf = [(("_law_right" : Str), ("_law_right.<locals>.<lambda>" : Str))] := by kernel_rfl
  rw [e] at hp
  simp only [List.mem_cons, List.not_mem_nil, or_false] at hp
  subst hp
  exact Option.isSome_iff_exists.mp (by kernel_rfl)
end K30
open PySem PySem.W PySem.Calls PyProof.Rows
theorem PySem.Challenge.cw_madeshallow_k30_numbers_by_themselves_holds : PySem.Challenge.rw_madeshallow_k30_numbers_by_themselves.Holds := by
  w_on; o_law
  refine HandSHeadRun.head_any (r := K30.R) (q := K30.vw) (H := K30.hk) (ob := K30.ob) (M := 8000) (loose := K30.loose) (d := HandSHeadRun.topDef K30.R.prog K30.iLaw) (kwd := []) K30.ob_eq
    (by kernel_rfl) (fun s => by kernel_rfl) K30.run (by kernel_rfl) (by kernel_rfl) (by kernel_rfl) (by rfl) (by first | assumption | decide +kernel) (by decide +kernel) ⟨rfl, rfl, rfl, rfl, rfl, by decide +kernel⟩ ?hw ?hc
  case hw => w_witness2
  case hc => exact Vi.walk_R K30.rows K30.lrows (l := PySem.Challenge.rw_madeshallow_k30_numbers_by_themselves) (n := 63) (k := 60) (iL := 24) (rL := K30.r_law) (mk := K30.mkS) rfl (by decide) (by kernel_rfl) ⟨rfl, by decide, by decide⟩ (by kernel_rfl) (by kernel_rfl) K30.binds0 K30.mk0 (by kernel_rfl) K30.rec0 rfl (by kernel_rfl) (fun ns _ _ => K30.sem0 ns)
