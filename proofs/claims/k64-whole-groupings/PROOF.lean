import PyProof.Rows.All
import Wide.All
import OpenK.AllK
import Wide.FinOn
import HandS.ForMost
import HandS.ForExc
import HandS.Lambda
import HandS.Walk
import HandS.CallSlots
import HandS.TupAny
import HandS.TupMul
import HandS.Deep
import HandS.Style
import HandS.Star
import HandS.Conv
import KE.DataIsa
import KE.DataMinMax
import KE.SortData
import HandS.Zip
import KE.GoesNew
import HandS.Nested
import HandS.Wide
import HandS.WideBits
import HandS.SetFor
import KE.DataMinKey
import KE.LtData
import HandS.EndTab
import KE.DatumOrd
import PySem.Challenge.RW_seenpairs_k64_whole_groupings
import KE.KNestM
set_option Elab.async false
set_option linter.all false
set_option maxRecDepth 100000
set_option maxHeartbeats 2000000
namespace GL
open PySem PySem.Spec PyProof.Rows L2 LamX

abbrev D := PyData
/-- how an evaluation ends -/
inductive Res (α : Type) where
  | ok (a : α)
  | exc (cls : String) (arg : D)
/-- the bag's three numbers, where there is a bag -/
abbrev Bag := Option (Int × Int × Int)
/-- a meaning: none where nothing is told -/
def M (α : Type) := Bag → Option (Res α × Bag)
namespace M
def ret {α : Type} (a : α) : M α := fun b => some (.ok a, b)
def bind {α β : Type} (m : M α) (f : α → M β) : M β := fun b =>
  match m b with
  | none => none
  | some (.exc c x, b') => some (.exc c x, b')
  | some (.ok a, b') => f a b'
def fail {α : Type} : M α := fun _ => none
def throw {α : Type} (c : String) (x : D) : M α := fun b => some (.exc c x, b)
def lift {α : Type} (o : Option α) : M α := fun b => match o with
  | some a => some (.ok a, b)
  | none => none
end M
@[simp] theorem M.ret_bind {α β : Type} (a : α) (f : α → M β) : M.bind (M.ret a) f = f a := rfl
@[simp] theorem M.fail_bind {α β : Type} (f : α → M β) : M.bind M.fail f = M.fail := rfl
@[simp] theorem M.throw_bind {α β : Type} (c : String) (x : D) (f : α → M β) : M.bind (M.throw c x) f = M.throw c x := rfl
@[simp] theorem M.lift_some {α : Type} (a : α) : M.lift (some a) = M.ret a := rfl
@[simp] theorem M.lift_none {α : Type} : (M.lift (none : Option α)) = M.fail := rfl
theorem M.bind_ret {α : Type} (m : M α) : M.bind m M.ret = m := by
  funext b
  unfold M.bind M.ret
  split <;> simp_all
theorem M.bind_assoc {α β γ : Type} (m : M α) (f : α → M β) (g : β → M γ) : M.bind (M.bind m f) g = M.bind m (fun a => M.bind (f a) g) := by
  funext b
  unfold M.bind
  cases m b with
  | none => rfl
  | some r => obtain ⟨r, b'⟩ := r; cases r <;> rfl
theorem M.bind_congr {α β : Type} {m : M α} {f g : α → M β} (h : ∀ a, f a = g a) : M.bind m f = M.bind m g := by
  rw [funext h]

/-- a slot -/
inductive Sl where
  | un
  | d (x : D)
  | own (xs : List D)
  | v (x : V) (Fc : Hp)
  | bag

/-- what is fixed: the tables of code objects, the bag's address, the error classes with their field -/
structure Gx where
  T : List (Addr × Str)
  β : Addr
  ca : String → Addr
  fl : String → Str

def BagAt (β : Addr) (b : Bag) (F H : Hp) : Prop :=
  match b with
  | none => H β ≠ none ∧ F β = none ∧ ∀ q, H β ≠ some (CodeO β q)
  | some (x, y, z) => H β = some (.lst [.int x, .int y, .int z]) ∧ F β = none

/-- the frozen part grows, all else that was tracked stays but tables and the bag -/
structure Grow (g : Gx) (F H F' H' : Hp) : Prop where
  sub : ∀ a o, F a = some o → F' a = some o
  inn : ∀ a o, F' a = some o → H' a = some o
  ext : ∀ a o, H a = some o → (∀ ps, o ≠ .tbl ps) → a ≠ g.β → H' a = some o
  new : ∀ a o, F' a = some o → F a = some o ∨ H a = none ∨ ∃ q, o = CodeO a q
  tab : Tabs g.T H → Tabs g.T H'
  sor : ∀ a o ps, F' a = some o → o ≠ .tbl ps
  low : ∀ a, H' a = none → H a = none

theorem Grow.refl {g : Gx} {F H : Hp} (i : ∀ a o, F a = some o → H a = some o) (s : ∀ a o ps, F a = some o → o ≠ .tbl ps) : Grow g F H F H :=
  ⟨fun _ _ h => h, i, fun _ _ h _ _ => h, fun _ _ h => .inl h, fun h => h, s, fun _ h => h⟩
theorem Grow.trans {g : Gx} {F H F1 H1 F2 H2 : Hp} (a : Grow g F H F1 H1) (b : Grow g F1 H1 F2 H2) : Grow g F H F2 H2 := by
  refine ⟨fun c o h => b.sub c o (a.sub c o h), b.inn, fun c o h n e => b.ext c o (a.ext c o h n e) n e, fun c o h => ?_, fun h => b.tab (a.tab h), b.sor, fun c h => a.low c (b.low c h)⟩
  rcases b.new c o h with h | h | h
  · exact a.new c o h
  · exact .inr (.inl (a.low c h))
  · exact .inr (.inr h)

/-! ### data stand while the frozen part grows -/
theorem SqL.grow {K : PySem.W.Frag} {F F' : Hp} {a : Addr} {xs : List V} (e : ∀ a o, F a = some o → F' a = some o) (h : SqL K F a xs) : SqL K F' a xs := by
  rcases h with (h | ⟨o, h⟩) | h
  · exact .inl (.inl (e _ _ h))
  · exact .inl (.inr ⟨o, e _ _ h⟩)
  · exact .inr h
theorem SqT.grow {K : PySem.W.Frag} {F F' : Hp} {a : Addr} {xs : List V} (e : ∀ a o, F a = some o → F' a = some o) (h : SqT K F a xs) : SqT K F' a xs := by
  rcases h with (h | ⟨o, h⟩) | h
  · exact .inl (.inl (e _ _ h))
  · exact .inl (.inr ⟨o, e _ _ h⟩)
  · exact .inr h
mutual
theorem dp_grow {K : PySem.W.Frag} {F F' : Hp} (e : ∀ a o, F a = some o → F' a = some o) : ∀ (d : D) (v : V), Dp K F v d → Dp K F' v d
  | .none, _, h => by cases h; exact .non
  | .bool _, _, h => by cases h; exact .bl _
  | .int _, _, h => by cases h; exact .int _
  | .str _, _, h => by cases h; exact .str _
  | .list ds, _, h => by cases h with | lst hs ha => exact .lst (SqL.grow e hs) (dpAll_grow e ds _ ha)
  | .tuple ds, _, h => by cases h with | tup hs ha => exact .tup (SqT.grow e hs) (dpAll_grow e ds _ ha)
  | .dict _, _, h => by cases h
theorem dpAll_grow {K : PySem.W.Frag} {F F' : Hp} (e : ∀ a o, F a = some o → F' a = some o) : ∀ (ds : List D) (vs : List V), DpAll K F vs ds → DpAll K F' vs ds
  | [], _, h => by cases h; exact .nil
  | d :: ds, _, h => by cases h with | cons h1 h2 => exact .cons (dp_grow e d _ h1) (dpAll_grow e ds _ h2)
end
theorem Grow.dp {g : Gx} {K : PySem.W.Frag} {F H F' H' : Hp} (G : Grow g F H F' H') {v : V} {d : D} (h : Dp K F v d) : Dp K F' v d := dp_grow G.sub d v h
theorem Grow.dpAll {g : Gx} {K : PySem.W.Frag} {F H F' H' : Hp} (G : Grow g F H F' H') {v : List V} {d : List D} (h : DpAll K F v d) : DpAll K F' v d := dpAll_grow G.sub d v h
theorem DpAll.length {K : PySem.W.Frag} {F : Hp} : ∀ {vs : List V} {ds : List D}, DpAll K F vs ds → vs.length = ds.length
  | _, _, .nil => rfl
  | _, _, .cons _ t => by rw [List.length_cons, List.length_cons, DpAll.length t]
theorem DpAll.get {K : PySem.W.Frag} {F : Hp} : ∀ {vs : List V} {ds : List D} {i : Nat} {d : D}, DpAll K F vs ds → ds[i]? = some d → ∃ v, vs[i]? = some v ∧ Dp K F v d
  | _, _, _, _, .nil, e => by simp at e
  | _, _, 0, _, .cons r _, e => by simp at e; subst e; exact ⟨_, rfl, r⟩
  | _, _, i + 1, _, .cons _ t, e => by
    obtain ⟨v, h1, h2⟩ := DpAll.get (i := i) t (by simpa using e)
    exact ⟨v, by simpa using h1, h2⟩
theorem DpAll.getV {K : PySem.W.Frag} {F : Hp} : ∀ {vs : List V} {ds : List D} {i : Nat} {v : V}, DpAll K F vs ds → vs[i]? = some v → ∃ d, ds[i]? = some d ∧ Dp K F v d
  | _, _, _, _, .nil, e => by simp at e
  | _, _, 0, _, .cons r _, e => by simp at e; subst e; exact ⟨_, rfl, r⟩
  | _, _, i + 1, _, .cons _ t, e => by
    obtain ⟨v, h1, h2⟩ := DpAll.getV (i := i) t (by simpa using e)
    exact ⟨v, by simpa using h1, h2⟩
theorem DpAll.app {K : PySem.W.Frag} {F : Hp} : ∀ {vs ws : List V} {ds es : List D}, DpAll K F vs ds → DpAll K F ws es → DpAll K F (vs ++ ws) (ds ++ es)
  | _, _, _, _, .nil, s => s
  | _, _, _, _, .cons r t, s => .cons r (DpAll.app t s)
theorem DpAll.one {K : PySem.W.Frag} {F : Hp} {v : V} {d : D} (h : Dp K F v d) : DpAll K F [v] [d] := .cons h .nil
theorem DpAll.take {K : PySem.W.Frag} {F : Hp} : ∀ {vs : List V} {ds : List D} (n : Nat), DpAll K F vs ds → DpAll K F (vs.take n) (ds.take n)
  | _, _, 0, _ => .nil
  | _, _, _ + 1, .nil => .nil
  | _, _, n + 1, .cons r t => .cons r (DpAll.take n t)
theorem DpAll.drop {K : PySem.W.Frag} {F : Hp} : ∀ {vs : List V} {ds : List D} (n : Nat), DpAll K F vs ds → DpAll K F (vs.drop n) (ds.drop n)
  | _, _, 0, r => r
  | _, _, _ + 1, .nil => .nil
  | _, _, n + 1, .cons _ t => DpAll.drop n t

/-- a slot's value -/
def SlOk (g : Gx) (K : PySem.W.Frag) (F H : Hp) (o : Option V) : Sl → Prop
  | .un => True
  | .d x => ∃ v, o = some v ∧ Dp K F v x
  | .own xs => ∃ p vs, o = some (.ref p) ∧ H p = some (.lst vs) ∧ F p = none ∧ p ≠ g.β ∧ DpAll K F vs xs
  | .v x Fc => o = some x ∧ ∀ a u, Fc a = some u → F a = some u
  | .bag => o = some (.ref g.β)
/-- the state, as told -/
structure SRel (g : Gx) (K : PySem.W.Frag) (Γ : List Sl) (F H : Hp) (σ : L2.St) (b : Bag) : Prop where
  inn : ∀ a o, F a = some o → H a = some o
  sor : ∀ a o ps, F a = some o → o ≠ .tbl ps
  slot : ∀ (i : Nat) (s : Sl), Γ[i]? = some s → ∃ o, σ[i]? = some o ∧ SlOk g K F H o s
  dist : ∀ (i j : Nat) (xs ys : List D) (v : V), Γ[i]? = some (.own xs) → Γ[j]? = some (.own ys) → σ[i]? = some (some v) → σ[j]? = some (some v) → i = j
  bag : BagAt g.β b F H
  tab : Tabs g.T H
theorem BagAt.some_ {β : Addr} {b : Bag} {F H : Hp} (h : BagAt β b F H) : H β ≠ none ∧ F β = none := by
  cases b with
  | none => exact ⟨h.1, h.2.1⟩
  | some t => obtain ⟨x, y, z⟩ := t; exact ⟨fun q => by (rw [h.1] at q; cases q), h.2⟩
theorem SRel.nil {g : Gx} {K : PySem.W.Frag} {Γ : List Sl} {F H : Hp} {σ : L2.St} {b : Bag} (S : SRel g K Γ F H σ b) : SRel g K [] F H [] b :=
  ⟨S.inn, S.sor, fun i s e => by simp at e, fun i j xs ys v e => by simp at e, S.bag, S.tab⟩
theorem tabs_upd {T : List (Addr × Str)} {H : Hp} {p : Addr} {o : HO} (hp : H p = none) (t : Tabs T H) : Tabs T (upd H p o) :=
  Tabs.ext t fun b u e => by rw [upd_ne (ne_of_none e hp)]; exact e
/-- a new object, frozen at once -/
theorem SRel.alloc {g : Gx} {K : PySem.W.Frag} {Γ : List Sl} {F H : Hp} {σ : L2.St} {b : Bag} {p : Addr} {o : HO} (S : SRel g K Γ F H σ b) (hp : H p = none) (ho : ∀ ps, o ≠ .tbl ps) :
    Grow g F H (upd F p o) (upd H p o) ∧ BagAt g.β b (upd F p o) (upd H p o) := by
  have nF : F p = none := by
    cases q : F p with
    | none => rfl
    | some u => rw [S.inn p u q] at hp; cases hp
  have nb : g.β ≠ p := fun e => S.bag.some_.1 (e ▸ hp)
  refine ⟨⟨fun a u e => ?_, fun a u e => ?_, fun a u e _ _ => ?_, fun a u e => ?_, fun t => tabs_upd hp t, fun a u ps e => ?_, fun a e => ?_⟩, ?_⟩
  · rw [upd_ne (ne_of_none e nF)]; exact e
  · by_cases h : a = p
    · subst h; rw [upd_same] at e ⊢; exact e
    · rw [upd_ne h] at e ⊢; exact S.inn a u e
  · rw [upd_ne (ne_of_none e hp)]; exact e
  · by_cases h : a = p
    · subst h; exact .inr (.inl hp)
    · rw [upd_ne h] at e; exact .inl e
  · by_cases h : a = p
    · subst h; rw [upd_same] at e; cases e; exact ho ps
    · rw [upd_ne h] at e; exact S.sor a u ps e
  · by_cases h : a = p
    · subst h; exact hp
    · rw [upd_ne h] at e; exact e
  · have B := S.bag
    cases b with
    | none => exact ⟨by rw [upd_ne nb]; exact B.1, by rw [upd_ne nb]; exact B.2.1, fun q => by rw [upd_ne nb]; exact B.2.2 q⟩
    | some t => obtain ⟨x, y, z⟩ := t; exact ⟨by rw [upd_ne nb]; exact B.1, by rw [upd_ne nb]; exact B.2⟩
theorem SRel.refl {g : Gx} {K : PySem.W.Frag} {Γ : List Sl} {F H : Hp} {σ : L2.St} {b : Bag} (S : SRel g K Γ F H σ b) : Grow g F H F H := Grow.refl S.inn S.sor
/-- an own list isn't frozen by others -/
theorem Grow.stay {g : Gx} {F H F' H' : Hp} (G : Grow g F H F' H') {p : Addr} {vs : List V} (h2 : H p = some (.lst vs)) (h4 : p ≠ g.β) (h3 : F p = none) : F' p = none := by
  cases q : F' p with
  | none => rfl
  | some o' =>
    rcases G.new p o' q with z | z | ⟨qn, z⟩
    · rw [h3] at z; cases z
    · rw [h2] at z; cases z
    · have z1 := G.inn p o' q
      rw [G.ext p _ h2 (fun ps z => by cases z) h4, z] at z1
      unfold CodeO at z1
      cases z1
theorem SRel.grow {g : Gx} {K : PySem.W.Frag} {Γ : List Sl} {F H F' H' : Hp} {σ : L2.St} {b b' : Bag} (S : SRel g K Γ F H σ b) (G : Grow g F H F' H') (B : BagAt g.β b' F' H') : SRel g K Γ F' H' σ b' := by
  refine ⟨G.inn, G.sor, fun i s e => ?_, S.dist, B, G.tab S.tab⟩
  obtain ⟨o, e1, e2⟩ := S.slot i s e
  refine ⟨o, e1, ?_⟩
  cases s with
  | un => trivial
  | d x => obtain ⟨v, h1, h2⟩ := e2; exact ⟨v, h1, G.dp h2⟩
  | own xs =>
    obtain ⟨p, vs, h1, h2, h3, h4, h5⟩ := e2
    refine ⟨p, vs, h1, G.ext p _ h2 (fun ps z => by cases z) h4, ?_, h4, G.dpAll h5⟩
    cases q : F' p with
    | none => rfl
    | some o' =>
      rcases G.new p o' q with z | z | ⟨qn, z⟩
      · rw [h3] at z; cases z
      · rw [h2] at z; cases z
      · have z1 := G.inn p o' q
        rw [G.ext p _ h2 (fun ps z => by cases z) h4, z] at z1
        unfold CodeO at z1
        cases z1
  | v x Fc => exact ⟨e2.1, fun a u h => G.sub a u (e2.2 a u h)⟩
  | bag => exact e2

/-- an exception that is met by W -/
def XOk (g : Gx) (K : PySem.W.Frag) (W : WX) (σ : L2.St) (F H : Hp) {α : Type} (o : Res α) (b' : Bag) : Prop :=
  match o with
  | .ok _ => True
  | .exc c x => ∀ H' F' dx v, Grow g F H F' H' → BagAt g.β b' F' H' → H' dx = some (.xd [(g.fl c, v)]) → Dp K F' v x → W (.ref (g.ca c)) (some dx) σ H'
theorem XOk.grow {g : Gx} {K : PySem.W.Frag} {W : WX} {σ : L2.St} {F H F1 H1 : Hp} {α : Type} {o : Res α} {b' : Bag} (x : XOk g K W σ F H o b') (G : Grow g F H F1 H1) : XOk g K W σ F1 H1 o b' := by
  cases o with
  | ok a => trivial
  | exc c y => exact fun H' F' dx v G' => x H' F' dx v (G.trans G')

/-- the reading of an expression with the meaning m -/
def tEv (g : Gx) (K : PySem.W.Frag) (W : WX) (Γ : List Sl) (m : M D) : TE := fun σ H Q =>
  ∃ F b o b', SRel g K Γ F H σ b ∧ m b = some (o, b') ∧ XOk g K W σ F H o b' ∧
    ∀ d, o = .ok d → ∀ v H' F', Grow g F H F' H' → BagAt g.β b' F' H' → Dp K F' v d → Q v H'
/-- an expression has the meaning m -/
def Ev (g : Gx) (X : Cx) (W : WX) (Γ : List Sl) (e : Expr) (m : M D) : Prop := PE X e (tEv g X.K W Γ m)

section
variable {g : Gx} {K : PySem.W.Frag} {W : WX} {Γ : List Sl} {F H : Hp} {σ : L2.St} {b b' : Bag}
/-- THE STEP: a part is evaluated, then the rest -/
theorem tEv_bind {α : Type} {m : M D} {f : D → M α} {o : Res α} {R : V → Hp → Prop} (S : SRel g K Γ F H σ b) (h : M.bind m f b = some (o, b')) (x : XOk g K W σ F H o b')
    (k : ∀ a b1 v H1 F1, m b = some (.ok a, b1) → f a b1 = some (o, b') → SRel g K Γ F1 H1 σ b1 → Grow g F H F1 H1 → XOk g K W σ F1 H1 o b' → Dp K F1 v a → R v H1) : tEv g K W Γ m σ H R := by
  unfold M.bind at h
  cases q : m b with
  | none => rw [q] at h; cases h
  | some r =>
    obtain ⟨r, b1⟩ := r
    rw [q] at h
    cases r with
    | exc c y =>
      have h : (Res.exc c y, b1) = (o, b') := Option.some.inj h
      cases h
      exact ⟨F, b, _, _, S, q, x, fun d e => by cases e⟩
    | ok a =>
      refine ⟨F, b, _, _, S, q, trivial, fun d e v H' F' G B hd => ?_⟩
      cases e
      exact k a b1 v H' F' q h (S.grow G B) G (x.grow G) hd
/-- .. the last part -/
theorem tEv_last {m : M D} {o : Res D} {R : V → Hp → Prop} (S : SRel g K Γ F H σ b) (h : m b = some (o, b')) (x : XOk g K W σ F H o b')
    (k : ∀ d, o = .ok d → ∀ v H' F', Grow g F H F' H' → BagAt g.β b' F' H' → Dp K F' v d → R v H') : tEv g K W Γ m σ H R := ⟨F, b, o, b', S, h, x, k⟩
end

section
variable {g : Gx} {X : Cx} {W : WX} {Γ : List Sl}
/-- from a rule of the layer below -/
theorem Ev.of {e : Expr} {m : M D} {t : TE} (h : PE X e t) (k : ∀ F H σ b o b', SRel g X.K Γ F H σ b → m b = some (o, b') → XOk g X.K W σ F H o b' → ∀ Q : VK,
    (∀ d, o = .ok d → ∀ v H' F', Grow g F H F' H' → BagAt g.β b' F' H' → Dp X.K F' v d → Q v H') → t σ H Q) : Ev g X W Γ e m :=
  ⟨fun pins s σ H Q I ⟨F, b, o, b', S, hm, x, q⟩ => h.run pins s σ H Q I (k F H σ b o b' S hm x Q q)⟩
theorem Ev.cast {e : Expr} {m m' : M D} (h : Ev g X W Γ e m) (e' : m = m') : Ev g X W Γ e m' := e' ▸ h
end
end GL
namespace GL
open PySem PySem.Spec PyProof.Rows L2 LamX

/-- what a context gives -/
structure Cg (g : Gx) (X : Cx) (W : WX) (n : Nat) : Prop where
  calm : X.calm = true
  nd : X.N.Nodup
  room : Room n X.A
  pas : PassesOwn (model X.prog X.w) X.A X.env X.xe
  tk : Takes X W
  gd : X.A.guards = some []
theorem Cg.units {g : Gx} {X : Cx} {W : WX} {n : Nat} (C : Cg g X W n) : X.A.units + 65 < cLine := by
  have := C.room.un
  omega

section
variable {g : Gx} {X : Cx} {W : WX} {Γ : List Sl} {n : Nat} {pos : Pos}

/-! ### names and constants -/
theorem ev_var {i : Nat} {x : Str} {d : D} (hN : X.N[i]? = some x) (hv : Vis X.env.scope x) (hs : Γ[i]? = some (.d d)) (hd : (x == ("__debug__" : Str)) = false := by decide) (hcd : (x == ("__classdict__" : Str)) = false := by decide) : Ev g X W Γ (.Name x pos) (M.ret d) :=
  Ev.of (pe_var hN hv hd hcd) fun F H σ b o b' S hm x Q q => by
    cases hm
    obtain ⟨o, e1, v, e2, e3⟩ := S.slot i _ hs
    subst e2
    exact ⟨v, e1, q d rfl v H F S.refl S.bag e3⟩
theorem ev_con {e : Expr} {v : V} {d : D} (h : PE X e (tC v)) (hd : ∀ F, Dp X.K F v d) : Ev g X W Γ e (M.ret d) :=
  Ev.of h fun F H σ b o b' S hm x Q q => by
    cases hm
    exact q d rfl v H F S.refl S.bag (hd F)
theorem ev_int {i j} : Ev g X W Γ (.Constant (.int i) j pos) (M.ret (.int i)) := ev_con pe_int fun _ => .int i
theorem ev_bl {b j} : Ev g X W Γ (.Constant (.bool b) j pos) (M.ret (.bool b)) := ev_con pe_bl fun _ => .bl b
theorem ev_non {j} : Ev g X W Γ (.Constant .none j pos) (M.ret .none) := ev_con pe_non fun _ => .non
theorem ev_str {x j} : Ev g X W Γ (.Constant (.str x) j pos) (M.ret (.str x)) := ev_con pe_str fun _ => .str x
theorem ev_globI {x : Str} {i : Int} {t : Tok} (hg : Gl X x) (hm : X.mg x = some (.int i t)) (hd : (x == ("__debug__" : Str)) = false := by decide) : Ev g X W Γ (.Name x pos) (M.ret (.int i)) :=
  ev_con (pe_glob (v := .int i) hg hm ⟨t, rfl⟩ hd) fun _ => .int i

/-! ### two-place operations by values -/
/-- r of the layer below does what f says -/
def Bin (g : Gx) (K : PySem.W.Frag) (r : R2) (f : D → D → M D) : Prop :=
  ∀ (F H : Hp) (b b' : Bag) (o : Res D) (x y : V) (a c : D) (Q : VK), SRel g K [] F H [] b → Dp K F x a → Dp K F y c → f a c b = some (o, b') →
    (∀ d, o = .ok d → ∀ v H' F', Grow g F H F' H' → BagAt g.β b' F' H' → Dp K F' v d → Q v H') → r x y H Q
def Una (g : Gx) (K : PySem.W.Frag) (r : V → Hp → VK → Prop) (f : D → M D) : Prop :=
  ∀ (F H : Hp) (b b' : Bag) (o : Res D) (x : V) (a : D) (Q : VK), SRel g K [] F H [] b → Dp K F x a → f a b = some (o, b') →
    (∀ d, o = .ok d → ∀ v H' F', Grow g F H F' H' → BagAt g.β b' F' H' → Dp K F' v d → Q v H') → r x H Q
variable {a c : Expr} {ma mc : M D}
theorem rd_bin {r : R2} {f : D → D → M D} (hf : Bin g X.K r f) {F H : Hp} {σ : L2.St} {b b' : Bag} {o : Res D} {Q : VK} (S : SRel g X.K Γ F H σ b) (hm : (M.bind ma fun x => M.bind mc fun y => f x y) b = some (o, b')) (x : XOk g X.K W σ F H o b')
    (q : ∀ d, o = .ok d → ∀ v H' F', Grow g F H F' H' → BagAt g.β b' F' H' → Dp X.K F' v d → Q v H') : tOp r (tEv g X.K W Γ ma) (tEv g X.K W Γ mc) σ H Q := by
  refine tEv_bind S hm x fun a b1 v1 H1 F1 _ h1 S1 G1 x1 r1 => ?_
  refine tEv_bind S1 h1 x1 fun c b2 v2 H2 F2 _ h2 S2 G2 x2 r2 => ?_
  exact hf F2 H2 b2 b' o v1 v2 a c Q S2.nil (G2.dp r1) r2 h2 fun d e v H' F' G B hd => q d e v H' F' (G1.trans (G2.trans G)) B hd
theorem ev_bin {op : Operator} {r : R2} {f : D → D → M D} (ho : OpR X (binaryOp op) r) (hf : Bin g X.K r f) (ha : Ev g X W Γ a ma) (hc : Ev g X W Γ c mc) : Ev g X W Γ (.BinOp a op c pos) (M.bind ma fun x => M.bind mc fun y => f x y) :=
  Ev.of (pe_op ho ha hc) fun _ _ _ _ _ _ S hm x _ q => rd_bin hf S hm x q
/-- a comparison's rule -/
def CmpS (g : Gx) (X : Cx) (op : CmpOp) (f : D → D → M D) : Prop := ∃ r, OpR X (compareOp op) r ∧ Bin g X.K r f
theorem ev_cmp {op : CmpOp} {f : D → D → M D} (cs : CmpS g X op f) (ha : Ev g X W Γ a ma) (hc : Ev g X W Γ c mc) (hk : behindInMarks op c = false := by first | exact nomark _ | rfl) : Ev g X W Γ (.Compare a [op] [c] pos) (M.bind ma fun x => M.bind mc fun y => f x y) := by
  obtain ⟨r, ho, hf⟩ := cs
  exact Ev.of (pe_cmpR ho ha hc hk) fun _ _ _ _ _ _ S hm x _ q => rd_bin hf S hm x q
theorem ev_ix {r : R2} {f : D → D → M D} (hr : IxR X r) (hf : Bin g X.K r f) (ha : Ev g X W Γ a ma) (hc : Ev g X W Γ c mc) (hs : PlainIx c) : Ev g X W Γ (.Subscript a c pos) (M.bind ma fun x => M.bind mc fun y => f x y) :=
  Ev.of (pe_ix hr ha hc hs) fun _ _ _ _ _ _ S hm x _ q => rd_bin hf S hm x q
theorem ev_un {op : UnaryOp} {r : V → Hp → VK → Prop} {f : D → M D} (ho : UnR X (unaryOp op) r) (hf : Una g X.K r f) (ha : Ev g X W Γ a ma) : Ev g X W Γ (.UnaryOp op a pos) (M.bind ma f) :=
  Ev.of (pe_un ho ha) fun F H σ b o b' S hm x Q q => by
    refine tEv_bind S hm x fun a b1 v1 H1 F1 _ h1 S1 G1 x1 r1 => ?_
    exact hf F1 H1 b1 b' o v1 a Q S1.nil r1 h1 fun d e v H' F' G B hd => q d e v H' F' (G1.trans G) B hd

/-! ### the operations -/
def dI (f : Int → Int → M D) : D → D → M D
  | .int i, .int j => f i j
  | _, _ => M.fail
/-- a scalar answer that stands where it stood -/
theorem Bin.pure {K : PySem.W.Frag} {F H : Hp} {b b' : Bag} {o : Res D} {Q : VK} {v : V} {d : D} (S : SRel g K [] F H [] b) (hm : (M.ret d) b = some (o, b')) (hd : ∀ F, Dp K F v d)
    (q : ∀ d, o = .ok d → ∀ v H' F', Grow g F H F' H' → BagAt g.β b' F' H' → Dp K F' v d → Q v H') : Q v H := by
  cases hm
  exact q d rfl v H F S.refl S.bag (hd F)
def dAdd : D → D → M D
  | .int i, .int j => M.ret (.int (i + j))
  | .list xs, .list ys => if xs.length + ys.length ≤ 16777216 then M.ret (.list (xs ++ ys)) else M.fail
  | .tuple xs, .tuple ys => if xs.length + ys.length ≤ 16777216 then M.ret (.tuple (xs ++ ys)) else M.fail
  | _, _ => M.fail
def dSub : D → D → M D := dI fun i j => M.ret (.int (i - j))
def dLt : D → D → M D := dI fun i j => M.ret (.bool (decide (i < j)))
def dLe : D → D → M D := dI fun i j => M.ret (.bool (decide (i ≤ j)))
def dGt : D → D → M D := dI fun i j => M.ret (.bool (decide (j < i)))
def dGe : D → D → M D := dI fun i j => M.ret (.bool (decide (j ≤ i)))
theorem bin_i0 {K : PySem.W.Frag} {f : Int → Int → V} {h : Int → Int → D} (hd : ∀ i j F, Dp K F (f i j) (h i j)) : Bin g K (rI0 f) (dI fun i j => M.ret (h i j)) := by
  intro F H b b' o x y a c Q S hx hy hm q
  cases a <;> cases c <;> first | (cases hm; done) | skip
  rename_i i j
  cases hx; cases hy
  exact ⟨i, j, rfl, rfl, Bin.pure S hm (hd i j) q⟩
theorem ev_sub (ha : Ev g X W Γ a ma) (hc : Ev g X W Γ c mc) : Ev g X W Γ (.BinOp a .Sub c pos) (M.bind ma fun x => M.bind mc fun y => dSub x y) := ev_bin op_sub (bin_i0 fun i j _ => .int _) ha hc
theorem c_lt : CmpS g X .Lt dLt := ⟨_, op_lt, bin_i0 fun i j _ => .bl _⟩
theorem c_le : CmpS g X .LtE dLe := ⟨_, op_le, bin_i0 fun i j _ => .bl _⟩
theorem c_gt : CmpS g X .Gt dGt := ⟨_, op_gt, bin_i0 fun i j _ => .bl _⟩
theorem c_ge : CmpS g X .GtE dGe := ⟨_, op_ge, bin_i0 fun i j _ => .bl _⟩
/-- == and != of data -/
def dEqS (x y : D) : M D := if SeqAt.shaped x && SeqAt.shaped y then M.ret (.bool (PyData.eqv x y)) else M.fail
def dNeS (x y : D) : M D := if SeqAt.shaped x && SeqAt.shaped y then M.ret (.bool (!PyData.eqv x y)) else M.fail
def dEq (x y : D) : M D := match x, y with
  | .str a, .str c => M.ret (.bool (decide (a = c)))
  | x, y => dEqS x y
def dNe (x y : D) : M D := match x, y with
  | .str a, .str c => M.ret (.bool (!decide (a = c)))
  | x, y => dNeS x y
theorem dp_sub {K : PySem.W.Frag} {F H : Hp} (e : ∀ a o, F a = some o → H a = some o) {d : D} {v : V} (h : Dp K F v d) : Dp K H v d := dp_grow e d v h
theorem vstr_eq (a c : Str) : decide (V.str a = V.str c) = decide (a = c) := by
  by_cases h : a = c
  · subst h; simp
  · rw [decide_eq_false h, decide_eq_false fun z => h (V.str.inj z)]
theorem dEqS_bin : Bin g X.K (rEqD X.K) dEqS := fun F H b b' o x y a c Q S hx hy hm q => by
    unfold dEqS at hm
    split at hm
    · rename_i hs
      simp only [Bool.and_eq_true] at hs
      exact ⟨a, c, dp_sub S.inn hx, dp_sub S.inn hy, hs.1, hs.2, Bin.pure S hm (fun _ => .bl _) q⟩
    · cases hm
theorem dNeS_bin : Bin g X.K (rNeD X.K) dNeS := fun F H b b' o x y a c Q S hx hy hm q => by
    unfold dNeS at hm
    split at hm
    · rename_i hs
      simp only [Bool.and_eq_true] at hs
      exact ⟨a, c, dp_sub S.inn hx, dp_sub S.inn hy, hs.1, hs.2, Bin.pure S hm (fun _ => .bl _) q⟩
    · cases hm
theorem c_eq (C : Cg g X W n) : CmpS g X .Eq dEq := ⟨fun x y H Q => rEqD X.K x y H Q ∨ rEq x y H Q, fun pins s σ H x y v u Q I rx ry h => h.elim (op_eqD C.room.units pins s σ H x y v u Q I rx ry) (op_eq pins s σ H x y v u Q I rx ry), fun F H b b' o x y a c Q S hx hy hm q => by
    unfold dEq at hm
    split at hm
    · cases hx; cases hy
      exact .inr ⟨rfl, by rw [vstr_eq]; exact Bin.pure S hm (fun _ => .bl _) q⟩
    · exact .inl (dEqS_bin F H b b' o x y a c Q S hx hy hm q)⟩
theorem c_ne (C : Cg g X W n) : CmpS g X .NotEq dNe := ⟨fun x y H Q => rNeD X.K x y H Q ∨ rNe x y H Q, fun pins s σ H x y v u Q I rx ry h => h.elim (op_neD C.room.units pins s σ H x y v u Q I rx ry) (op_ne pins s σ H x y v u Q I rx ry), fun F H b b' o x y a c Q S hx hy hm q => by
    unfold dNe at hm
    split at hm
    · cases hx; cases hy
      exact .inr ⟨rfl, by rw [vstr_eq]; exact Bin.pure S hm (fun _ => .bl _) q⟩
    · exact .inl (dNeS_bin F H b b' o x y a c Q S hx hy hm q)⟩
/-- is None, is not None; is True, is False -/
def isN : D → Bool
  | .none => true
  | _ => false
theorem isN_iff {K : PySem.W.Frag} {F : Hp} {v : V} {d : D} (h : Dp K F v d) : decide (v = .non) = isN d := by
  cases h <;> simp [isN]
theorem ev_isN {j pos'} (ha : Ev g X W Γ a ma) : Ev g X W Γ (.Compare a [.Is] [.Constant .none j pos'] pos) (M.bind ma fun x => M.ret (.bool (isN x))) :=
  Ev.of (pe_cmp (pc_isN ha) rfl) fun F H σ b o b' S hm x Q q => by
    refine tEv_bind S hm x fun a b1 v1 H1 F1 _ h1 S1 G1 x1 r1 => ?_
    cases h1
    exact q _ rfl _ H1 F1 G1 S1.bag (by rw [isN_iff r1]; exact .bl _)
theorem ev_notN {j pos'} (ha : Ev g X W Γ a ma) : Ev g X W Γ (.Compare a [.IsNot] [.Constant .none j pos'] pos) (M.bind ma fun x => M.ret (.bool (!isN x))) :=
  Ev.of (pe_cmp (pc_notN ha) rfl) fun F H σ b o b' S hm x Q q => by
    refine tEv_bind S hm x fun a b1 v1 H1 F1 _ h1 S1 G1 x1 r1 => ?_
    cases h1
    exact q _ rfl _ H1 F1 G1 S1.bag (by rw [isN_iff r1]; exact .bl _)

/-! ### bools: and, or, not, as values -/
def andB (x : D) (k : M D) : M D := match x with
  | .bool true => k
  | .bool false => M.ret (.bool false)
  | _ => M.fail
def orB (x : D) (k : M D) : M D := match x with
  | .bool true => M.ret (.bool true)
  | .bool false => k
  | _ => M.fail
def notB (x : D) : M D := match x with
  | .bool c => M.ret (.bool (!c))
  | _ => M.fail
variable {rest : List Expr}
theorem ev_one {op} (ha : Ev g X W Γ a ma) : Ev g X W Γ (.BoolOp op [a] pos) ma := pe_one ha
theorem ev_and (ha : Ev g X W Γ a ma) (hc : Ev g X W Γ (.BoolOp .And (c :: rest) pos) mc) : Ev g X W Γ (.BoolOp .And (a :: c :: rest) pos) (M.bind ma fun x => andB x mc) :=
  Ev.of (pe_and ha hc) fun F H σ b o b' S hm x Q q => by
    refine tEv_bind S hm x fun a b1 v1 H1 F1 _ h1 S1 G1 x1 r1 => ?_
    unfold andB at h1
    obtain ⟨t, rfl⟩ : ∃ t, a = .bool t := by
      cases a <;> first | (cases h1; done) | exact ⟨_, rfl⟩
    cases r1
    refine ⟨t, rfl, ?_⟩
    cases t with
    | true => exact iteT (tEv_last S1 h1 x1 fun d e v H' F' G B hd => q d e v H' F' (G1.trans G) B hd)
    | false => cases h1; exact iteF (q _ rfl _ H1 F1 G1 S1.bag (.bl _))
theorem ev_or (ha : Ev g X W Γ a ma) (hc : Ev g X W Γ (.BoolOp .Or (c :: rest) pos) mc) : Ev g X W Γ (.BoolOp .Or (a :: c :: rest) pos) (M.bind ma fun x => orB x mc) :=
  Ev.of (pe_or ha hc) fun F H σ b o b' S hm x Q q => by
    refine tEv_bind S hm x fun a b1 v1 H1 F1 _ h1 S1 G1 x1 r1 => ?_
    unfold orB at h1
    obtain ⟨t, rfl⟩ : ∃ t, a = .bool t := by
      cases a <;> first | (cases h1; done) | exact ⟨_, rfl⟩
    cases r1
    refine ⟨t, rfl, ?_⟩
    cases t with
    | false => exact iteF (tEv_last S1 h1 x1 fun d e v H' F' G B hd => q d e v H' F' (G1.trans G) B hd)
    | true => cases h1; exact iteT (q _ rfl _ H1 F1 G1 S1.bag (.bl _))
theorem ev_not (ha : Ev g X W Γ a ma) : Ev g X W Γ (.UnaryOp .Not a pos) (M.bind ma notB) :=
  Ev.of (pe_not ha) fun F H σ b o b' S hm x Q q => by
    refine tEv_bind S hm x fun a b1 v1 H1 F1 _ h1 S1 G1 x1 r1 => ?_
    unfold notB at h1
    obtain ⟨t, rfl⟩ : ∃ t, a = .bool t := by
      cases a <;> first | (cases h1; done) | exact ⟨_, rfl⟩
    cases r1
    cases h1
    exact ⟨t, rfl, q _ rfl _ H1 F1 G1 S1.bag (.bl _)⟩

/-! ### tests -/
def tEt (g : Gx) (K : PySem.W.Frag) (W : WX) (Γ : List Sl) (m : M Bool) : TT := fun σ H Q =>
  ∃ F b o b', SRel g K Γ F H σ b ∧ m b = some (o, b') ∧ XOk g K W σ F H o b' ∧
    ∀ d, o = .ok d → ∀ H' F', Grow g F H F' H' → BagAt g.β b' F' H' → Q d H'
def Et (g : Gx) (X : Cx) (W : WX) (Γ : List Sl) (e : Expr) (m : M Bool) : Prop := PT X e (tEt g X.K W Γ m)
def EtW (g : Gx) (X : Cx) (W : WX) (Γ : List Sl) (e : Expr) (m : M Bool) : Prop := PW X e (tEt g X.K W Γ m)
theorem pt_imp {X : Cx} {e : Expr} {t t' : TT} (h : PT X e t) (k : ∀ σ H Q, t' σ H Q → t σ H Q) : PT X e t' := ⟨fun pins s σ H Q I q => h.run pins s σ H Q I (k σ H Q q)⟩
theorem pw_imp {X : Cx} {e : Expr} {t t' : TT} (h : PW X e t) (k : ∀ σ H Q, t' σ H Q → t σ H Q) : PW X e t' := ⟨fun wh pins s σ H Q I q => h.run wh pins s σ H Q I (k σ H Q q)⟩
theorem tEt_bind {α : Type} {m : M Bool} {f : Bool → M α} {F H : Hp} {σ : L2.St} {b b' : Bag} {o : Res α} {K : PySem.W.Frag} {R : Bool → Hp → Prop} (S : SRel g K Γ F H σ b) (h : M.bind m f b = some (o, b')) (x : XOk g K W σ F H o b')
    (k : ∀ a b1 H1 F1, f a b1 = some (o, b') → SRel g K Γ F1 H1 σ b1 → Grow g F H F1 H1 → XOk g K W σ F1 H1 o b' → R a H1) : tEt g K W Γ m σ H R := by
  unfold M.bind at h
  cases q : m b with
  | none => rw [q] at h; cases h
  | some r =>
    obtain ⟨r, b1⟩ := r
    rw [q] at h
    cases r with
    | exc c y =>
      have h : (Res.exc c y, b1) = (o, b') := Option.some.inj h
      cases h
      exact ⟨F, b, _, _, S, q, x, fun d e => by cases e⟩
    | ok a =>
      refine ⟨F, b, _, _, S, q, trivial, fun d e H' F' G B => ?_⟩
      cases e
      exact k a b1 H' F' h (S.grow G B) G (x.grow G)
theorem Et.of {e : Expr} {m : M Bool} {t : TT} (h : PT X e t) (k : ∀ F H σ b o b', SRel g X.K Γ F H σ b → m b = some (o, b') → XOk g X.K W σ F H o b' → ∀ Q : Bool → Hp → Prop,
    (∀ d, o = .ok d → ∀ H' F', Grow g F H F' H' → BagAt g.β b' F' H' → Q d H') → t σ H Q) : Et g X W Γ e m :=
  pt_imp h fun σ H Q ⟨F, b, o, b', S, hm, x, q⟩ => k F H σ b o b' S hm x Q q
theorem EtW.of {e : Expr} {m : M Bool} {t : TT} (h : PW X e t) (k : ∀ F H σ b o b', SRel g X.K Γ F H σ b → m b = some (o, b') → XOk g X.K W σ F H o b' → ∀ Q : Bool → Hp → Prop,
    (∀ d, o = .ok d → ∀ H' F', Grow g F H F' H' → BagAt g.β b' F' H' → Q d H') → t σ H Q) : EtW g X W Γ e m :=
  pw_imp h fun σ H Q ⟨F, b, o, b', S, hm, x, q⟩ => k F H σ b o b' S hm x Q q
def tru (x : D) : M Bool := match x with
  | .bool c => M.ret c
  | _ => M.fail
theorem et_rd {F H : Hp} {σ : L2.St} {b b' : Bag} {o : Res Bool} {Q : Bool → Hp → Prop} (S : SRel g X.K Γ F H σ b) (hm : (M.bind ma tru) b = some (o, b')) (x : XOk g X.K W σ F H o b')
    (q : ∀ d, o = .ok d → ∀ H' F', Grow g F H F' H' → BagAt g.β b' F' H' → Q d H') : tEv g X.K W Γ ma σ H fun v H' => ∃ k, v = .bl k ∧ Q k H' := by
  refine tEv_bind S hm x fun a b1 v1 H1 F1 _ h1 S1 G1 x1 r1 => ?_
  unfold tru at h1
  cases a <;> first | (cases h1; done) | skip
  cases r1
  cases h1
  exact ⟨_, rfl, q _ rfl H1 F1 G1 S1.bag⟩
/-- an expression whose test is its value's truth, the value a bool -/
theorem et_val (ha : Ev g X W Γ a ma) (he : ∀ whole, isTrue a X.env whole = (do let v ← whole; standAt a.pos; holding [v] (truthy v)) := by intro _; rfl) : Et g X W Γ a (M.bind ma tru) :=
  Et.of (pt_val ha he) fun F H σ b o b' S hm x Q q => et_rd S hm x q
theorem et_cmp {op : CmpOp} {f : D → D → M D} (cs : CmpS g X op f) (ha : Ev g X W Γ a ma) (hc : Ev g X W Γ c mc) (hk : behindInMarks op c = false := by first | exact nomark _ | rfl) : Et g X W Γ (.Compare a [op] [c] pos) (M.bind (M.bind ma fun x => M.bind mc fun y => f x y) tru) := by
  obtain ⟨r, ho, hf⟩ := cs
  refine Et.of (pt_cmpR ho ha hc hk) fun F H σ b o b' S hm x Q q => ?_
  unfold tTest
  have h := et_rd (ma := M.bind ma fun x => M.bind mc fun y => f x y) S hm x q
  obtain ⟨F2, b2, o2, b2', S2, hm2, x2, q2⟩ := h
  exact rd_bin hf S2 hm2 x2 q2
theorem et_isN {j pos'} (ha : Ev g X W Γ a ma) : Et g X W Γ (.Compare a [.Is] [.Constant .none j pos'] pos) (M.bind ma fun x => M.ret (isN x)) :=
  Et.of (pt_cmp (pc_isN ha) rfl) fun F H σ b o b' S hm x Q q => by
    refine tEv_bind S hm x fun a b1 v1 H1 F1 _ h1 S1 G1 x1 r1 => ?_
    cases h1
    exact ⟨_, by rw [isN_iff r1], q _ rfl H1 F1 G1 S1.bag⟩
theorem et_notN {j pos'} (ha : Ev g X W Γ a ma) : Et g X W Γ (.Compare a [.IsNot] [.Constant .none j pos'] pos) (M.bind ma fun x => M.ret (!isN x)) :=
  Et.of (pt_cmp (pc_notN ha) rfl) fun F H σ b o b' S hm x Q q => by
    refine tEv_bind S hm x fun a b1 v1 H1 F1 _ h1 S1 G1 x1 r1 => ?_
    cases h1
    exact ⟨_, by rw [isN_iff r1], q _ rfl H1 F1 G1 S1.bag⟩
def M.and (m : M Bool) (k : M Bool) : M Bool := M.bind m fun c => match c with | true => k | false => M.ret false
def M.or (m : M Bool) (k : M Bool) : M Bool := M.bind m fun c => match c with | true => M.ret true | false => k
variable {ta tc : M Bool}
theorem et_w (h : EtW g X W Γ a ta) : Et g X W Γ a ta := PW.pt h
theorem et_and1 (ha : Et g X W Γ a ta) : EtW g X W Γ (.BoolOp .And [a] pos) ta := pw_and1 ha
theorem et_or1 (ha : Et g X W Γ a ta) : EtW g X W Γ (.BoolOp .Or [a] pos) ta := pw_or1 ha
theorem et_and (ha : Et g X W Γ a ta) (hc : EtW g X W Γ (.BoolOp .And (c :: rest) pos) tc) : EtW g X W Γ (.BoolOp .And (a :: c :: rest) pos) (M.and ta tc) :=
  EtW.of (pw_and ha hc) fun F H σ b o b' S hm x Q q => by
    refine tEt_bind S hm x fun a b1 H1 F1 h1 S1 G1 x1 => ?_
    cases a with
    | true => exact iteT ⟨F1, b1, o, b', S1, h1, x1, fun d e H' F' G B => q d e H' F' (G1.trans G) B⟩
    | false => cases h1; exact iteF (q _ rfl H1 F1 G1 S1.bag)
theorem et_or (ha : Et g X W Γ a ta) (hc : EtW g X W Γ (.BoolOp .Or (c :: rest) pos) tc) : EtW g X W Γ (.BoolOp .Or (a :: c :: rest) pos) (M.or ta tc) :=
  EtW.of (pw_or ha hc) fun F H σ b o b' S hm x Q q => by
    refine tEt_bind S hm x fun a b1 H1 F1 h1 S1 G1 x1 => ?_
    cases a with
    | false => exact iteF ⟨F1, b1, o, b', S1, h1, x1, fun d e H' F' G B => q d e H' F' (G1.trans G) B⟩
    | true => cases h1; exact iteT (q _ rfl H1 F1 G1 S1.bag)
def M.not (m : M Bool) : M Bool := M.bind m fun c => M.ret (!c)
theorem et_not (ha : Et g X W Γ a ta) : Et g X W Γ (.UnaryOp .Not a pos) (M.not ta) :=
  Et.of (pt_not ha) fun F H σ b o b' S hm x Q q => by
    refine tEt_bind S hm x fun a b1 H1 F1 h1 S1 G1 x1 => ?_
    cases h1
    exact q _ rfl H1 F1 G1 S1.bag
/-- a if t else b -/
def M.ite {α : Type} (c : Bool) (t e : M α) : M α := match c with | true => t | false => e
theorem ev_if {t : Expr} (ht : Et g X W Γ t ta) (ha : Ev g X W Γ a ma) (hc : Ev g X W Γ c mc) : Ev g X W Γ (.IfExp t a c pos) (M.bind ta fun z => M.ite z ma mc) :=
  Ev.of (pe_ifExp ht ha hc) fun F H σ b o b' S hm x Q q => by
    refine tEt_bind S hm x fun a b1 H1 F1 h1 S1 G1 x1 => ?_
    cases a with
    | true => exact iteT (tEv_last S1 h1 x1 fun d e v H' F' G B hd => q d e v H' F' (G1.trans G) B hd)
    | false => exact iteF (tEv_last S1 h1 x1 fun d e v H' F' G B hd => q d e v H' F' (G1.trans G) B hd)
/-- a op b op' c -/
theorem chain_rd {K : PySem.W.Frag} {r r' : R2} {f f' : D → D → M D} (hf : Bin g K r f) (hf' : Bin g K r' f') {e1 e2 e3 : M D} {F H : Hp} {σ : L2.St} {b b' : Bag} {o : Res D} {Q : VK} (S : SRel g K Γ F H σ b)
    (hm : (M.bind e1 fun x => M.bind e2 fun y => M.bind (f x y) fun z => andB z (M.bind e3 fun w => f' y w)) b = some (o, b')) (x : XOk g K W σ F H o b')
    (q : ∀ d, o = .ok d → ∀ v H' F', Grow g F H F' H' → BagAt g.β b' F' H' → Dp K F' v d → Q v H') (noexc : ∀ a c b r b', f a c b = some (r, b') → ∃ z, r = .ok z) : tChain r r' (tEv g K W Γ e1) (tEv g K W Γ e2) (tEv g K W Γ e3) σ H Q := by
  refine tEv_bind S hm x fun a b1 v1 H1 F1 _ h1 S1 G1 x1 r1 => ?_
  refine tEv_bind S1 h1 x1 fun c b2 v2 H2 F2 _ h2 S2 G2 x2 r2 => ?_
  unfold M.bind at h2
  cases e : f a c b2 with
  | none => rw [e] at h2; cases h2
  | some z =>
    obtain ⟨z, b3⟩ := z
    obtain ⟨z, rfl⟩ := noexc _ _ _ _ _ e
    rw [e] at h2
    have h2 : andB z (M.bind e3 fun w => f' c w) b3 = some (o, b') := h2
    refine hf F2 H2 b2 b3 (.ok z) v1 v2 a c _ S2.nil (G2.dp r1) r2 e fun d ed v H' F' G B hd => ?_
    cases ed
    unfold andB at h2
    obtain ⟨t, rfl⟩ : ∃ t, z = .bool t := by
      cases z <;> first | (cases h2; done) | exact ⟨_, rfl⟩
    cases hd
    refine ⟨t, rfl, ?_⟩
    have S3 := S2.grow G B
    cases t with
    | true =>
      refine iteT (tEv_bind S3 h2 (x2.grow G) fun a b4 v4 H4 F4 _ h4 S4 G4 x4 r4 => ?_)
      exact hf' F4 H4 b4 b' o v2 v4 c a Q S4.nil (G4.dp (G.dp r2)) r4 h4 fun d e v H' F' G' B hd => q d e v H' F' (G1.trans (G2.trans (G.trans (G4.trans G')))) B hd
    | false =>
      cases h2
      exact iteF (q _ rfl _ H' F' (G1.trans (G2.trans G)) B (.bl _))
theorem noexcI {f : Int → Int → D} : ∀ a c b r b', dI (fun i j => M.ret (f i j)) a c b = some (r, b') → ∃ z, r = .ok z := by
  intro a c b r b' h
  cases a <;> cases c <;> first | (cases h; done) | skip
  cases h
  exact ⟨_, rfl⟩
def dChain (f f' : D → D → M D) (e1 e2 e3 : M D) : M D := M.bind e1 fun x => M.bind e2 fun y => M.bind (f x y) fun z => andB z (M.bind e3 fun w => f' y w)
variable {e1 e2 e3 : Expr} {m1 m2 m3 : M D}
theorem ev_leLe (h1 : Ev g X W Γ e1 m1) (h2 : Ev g X W Γ e2 m2) (h3 : Ev g X W Γ e3 m3) (hm : lastMarks [.LtE, .LtE] [e2, e3] = false := by with_unfolding_all rfl) : Ev g X W Γ (.Compare e1 [.LtE, .LtE] [e2, e3] pos) (dChain dLe dLe m1 m2 m3) :=
  Ev.of (pe_chain op_le op_le h1 h2 h3 hm) fun F H σ b o b' S hm x Q q => chain_rd (bin_i0 fun i j _ => .bl _) (bin_i0 fun i j _ => .bl _) S hm x q noexcI
end
end GL
namespace GL
open PySem PySem.Spec PyProof.Rows L2 LamX

section
variable {g : Gx} {X : Cx} {W : WX} {Γ : List Sl} {n : Nat} {pos : Pos}
variable {a c e : Expr} {ma mc : M D} {es : List Expr}

/-! ### lists of values -/
/-- items of a display or of a call, in order; the meaning takes what follows -/
def tEs (g : Gx) (K : PySem.W.Frag) (W : WX) (Γ : List Sl) (mk : (List D → M D) → M D) : TA := fun σ H Q =>
  ∃ (k : List D → M D) (F : Hp) (b : Bag) (o : Res D) (b' : Bag), SRel g K Γ F H σ b ∧ mk k b = some (o, b') ∧ XOk g K W σ F H o b' ∧
    ∀ ds b1 vs H1 F1, k ds b1 = some (o, b') → SRel g K Γ F1 H1 σ b1 → Grow g F H F1 H1 → XOk g K W σ F1 H1 o b' → DpAll K F1 vs ds → Q vs H1
def Es (g : Gx) (X : Cx) (W : WX) (Γ : List Sl) (es : List Expr) (mk : (List D → M D) → M D) : Prop := PA X es (tEs g X.K W Γ mk)
theorem pa_imp {X : Cx} {es : List Expr} {t t' : TA} (h : PA X es t) (k : ∀ σ H Q, t' σ H Q → t σ H Q) : PA X es t' := ⟨fun pos pins s σ H Q I q => h.run pos pins s σ H Q I (k σ H Q q)⟩
theorem es_nil : Es g X W Γ [] (fun k => k []) := pa_imp pa_nil fun σ H Q ⟨k, F, b, o, b', S, hm, x, q⟩ => q [] b [] H F hm S S.refl x .nil
theorem es_cons {mk : (List D → M D) → M D} (ha : Ev g X W Γ e ma) (hr : Es g X W Γ es mk) (hs : starEach (e :: es) X.env = (false, eval e X.env) :: starEach es X.env := by rfl) :
    Es g X W Γ (e :: es) (fun k => M.bind ma fun d => mk fun ds => k (d :: ds)) :=
  pa_imp (pa_cons ha hr hs) fun σ H Q ⟨k, F, b, o, b', S, hm, x, q⟩ => by
    refine tEv_bind S hm x fun d b1 v H1 F1 _ h1 S1 G1 x1 r1 => ?_
    refine ⟨fun ds => k (d :: ds), F1, b1, o, b', S1, h1, x1, fun ds b2 vs H2 F2 h2 S2 G2 x2 r2 => ?_⟩
    exact q (d :: ds) b2 (v :: vs) H2 F2 h2 S2 (G1.trans G2) x2 (.cons (G2.dp r1) r2)
/-- the items of a list or a tuple -/
def seqOf : D → M (List D)
  | .list xs => M.ret xs
  | .tuple xs => M.ret xs
  | _ => M.fail
theorem M.bind_some {α β : Type} {m : M α} {f : α → M β} {b b' : Bag} {o : Res β} {a : α} (h : M.bind m f b = some (o, b')) (e : m = M.ret a) : f a b = some (o, b') := by
  subst e; exact h
/-- *e in a display -/
theorem es_star {mk : (List D → M D) → M D} {p : Pos} (ha : Ev g X W Γ e ma) (hr : Es g X W Γ es mk) (hs : starEach (.Starred e p :: es) X.env = (true, eval e X.env) :: starEach es X.env := by rfl) :
    Es g X W Γ (.Starred e p :: es) (fun k => M.bind ma fun d => M.bind (seqOf d) fun xs => mk fun ds => k (xs ++ ds)) :=
  pa_imp (StX.pa_star ha hr hs) fun σ H Q ⟨k, F, b, o, b', S, hm, x, q⟩ => by
    refine tEv_bind S hm x fun d b1 v H1 F1 _ h1 S1 G1 x1 r1 => ?_
    cases r1 with
    | @lst a xs ds hs ha =>
      refine ⟨a, xs, rfl, .inr (SqL.grow S1.inn hs), ?_⟩
      refine ⟨fun es => k (ds ++ es), F1, b1, o, b', S1, h1, x1, fun es b2 vs H2 F2 h2 S2 G2 x2 r2 => ?_⟩
      exact q _ b2 _ H2 F2 h2 S2 (G1.trans G2) x2 (DpAll.app (G2.dpAll ha) r2)
    | @tup a xs ds hs ha =>
      refine ⟨a, xs, rfl, .inl (SqT.grow S1.inn hs), ?_⟩
      refine ⟨fun es => k (ds ++ es), F1, b1, o, b', S1, h1, x1, fun es b2 vs H2 F2 h2 S2 G2 x2 r2 => ?_⟩
      exact q _ b2 _ H2 F2 h2 S2 (G1.trans G2) x2 (DpAll.app (G2.dpAll ha) r2)
    | _ => exact absurd h1 (by simp [seqOf, M.bind, M.fail])

/-! ### displays -/
def sz : Nat := 16777216
theorem sz_eq : sizeLine = sz := sizeLine_eq
def mkT (xs : List D) : M D := match Nat.ble xs.length sz with | true => M.ret (.tuple xs) | false => M.fail
def mkL (xs : List D) : M D := match Nat.ble xs.length sz with | true => M.ret (.list xs) | false => M.fail
theorem mkT_some {xs : List D} {b b' : Bag} {o : Res D} (h : mkT xs b = some (o, b')) : xs.length ≤ sizeLine ∧ o = .ok (.tuple xs) ∧ b' = b := by
  unfold mkT at h
  cases q : Nat.ble xs.length sz with
  | true =>
    rw [q] at h
    cases h
    exact ⟨by rw [sz_eq]; exact Nat.le_of_ble_eq_true q, rfl, rfl⟩
  | false => rw [q] at h; cases h
theorem mkL_some {xs : List D} {b b' : Bag} {o : Res D} (h : mkL xs b = some (o, b')) : xs.length ≤ sizeLine ∧ o = .ok (.list xs) ∧ b' = b := by
  unfold mkL at h
  cases q : Nat.ble xs.length sz with
  | true =>
    rw [q] at h
    cases h
    exact ⟨by rw [sz_eq]; exact Nat.le_of_ble_eq_true q, rfl, rfl⟩
  | false => rw [q] at h; cases h
/-- a new tuple, a new list, frozen -/
theorem new_tup {K : PySem.W.Frag} {F H : Hp} {σ : L2.St} {b : Bag} {p : Addr} {vs : List V} {ds : List D} (S : SRel g K Γ F H σ b) (hp : H p = none) (r : DpAll K F vs ds) :
    Grow g F H (upd F p (.tup vs)) (upd H p (.tup vs)) ∧ BagAt g.β b (upd F p (.tup vs)) (upd H p (.tup vs)) ∧ Dp K (upd F p (.tup vs)) (.ref p) (.tuple ds) := by
  obtain ⟨G, B⟩ := S.alloc (o := .tup vs) hp (fun ps z => by cases z)
  exact ⟨G, B, .tup (SqT.of upd_same) (G.dpAll r)⟩
theorem new_lst {K : PySem.W.Frag} {F H : Hp} {σ : L2.St} {b : Bag} {p : Addr} {vs : List V} {ds : List D} (S : SRel g K Γ F H σ b) (hp : H p = none) (r : DpAll K F vs ds) :
    Grow g F H (upd F p (.lst vs)) (upd H p (.lst vs)) ∧ BagAt g.β b (upd F p (.lst vs)) (upd H p (.lst vs)) ∧ Dp K (upd F p (.lst vs)) (.ref p) (.list ds) := by
  obtain ⟨G, B⟩ := S.alloc (o := .lst vs) hp (fun ps z => by cases z)
  exact ⟨G, B, .lst (SqL.of upd_same) (G.dpAll r)⟩
theorem ev_tup {mk : (List D → M D) → M D} {k : Nat} (h : Es g X W Γ es mk) : Ev g X W Γ (.Tuple es k pos) (mk mkT) :=
  Ev.of (pe_tup h) fun F H σ b o b' S hm x Q q => by
    refine ⟨mkT, F, b, o, b', S, hm, x, fun ds b1 vs H1 F1 h1 S1 G1 x1 r1 => ?_⟩
    obtain ⟨hl, rfl, rfl⟩ := mkT_some h1
    refine ⟨by rw [DpAll.length r1]; exact hl, fun p hp => ?_⟩
    obtain ⟨G, B, r⟩ := new_tup S1 hp r1
    exact q _ rfl _ _ _ (G1.trans G) B r
theorem ev_lst {mk : (List D → M D) → M D} (h : Es g X W Γ es mk) : Ev g X W Γ (.List es pos) (mk mkL) :=
  Ev.of (pe_lst h) fun F H σ b o b' S hm x Q q => by
    refine ⟨mkL, F, b, o, b', S, hm, x, fun ds b1 vs H1 F1 h1 S1 G1 x1 r1 => ?_⟩
    obtain ⟨hl, rfl, rfl⟩ := mkL_some h1
    refine ⟨by rw [DpAll.length r1]; exact hl, fun p hp => ?_⟩
    obtain ⟨G, B, r⟩ := new_lst S1 hp r1
    exact q _ rfl _ _ _ (G1.trans G) B r

/-! ### a built-in, called -/
/-- r says of the values what f says of the data -/
def Cal (g : Gx) (K : PySem.W.Frag) (r : List V → Hp → VK → Prop) (f : List D → M D) : Prop :=
  ∀ (F H : Hp) (b b' : Bag) (o : Res D) (vs : List V) (ds : List D) (Q : VK), SRel g K [] F H [] b → DpAll K F vs ds → f ds b = some (o, b') →
    (∀ d, o = .ok d → ∀ v H' F', Grow g F H F' H' → BagAt g.β b' F' H' → Dp K F' v d → Q v H') → r vs H Q
variable {x : Str} {p : Pos} {mk : (List D → M D) → M D}
theorem rd_cal {r : List V → Hp → VK → Prop} {f : List D → M D} (hf : Cal g X.K r f) {F H : Hp} {σ : L2.St} {b b' : Bag} {o : Res D} {Q : VK} (S : SRel g X.K Γ F H σ b) (hm : (mk f) b = some (o, b')) (xo : XOk g X.K W σ F H o b')
    (q : ∀ d, o = .ok d → ∀ v H' F', Grow g F H F' H' → BagAt g.β b' F' H' → Dp X.K F' v d → Q v H') : tCB r (tEs g X.K W Γ mk) σ H Q :=
  ⟨f, F, b, o, b', S, hm, xo, fun ds b1 vs H1 F1 h1 S1 G1 x1 r1 => hf F1 H1 b1 b' o vs ds Q S1.nil r1 h1 fun d e v H' F' G B hd => q d e v H' F' (G1.trans G) B hd⟩
/-- a built-in function, a built-in type, by its name -/
def BltS (g : Gx) (X : Cx) (x : Str) (f : List D → M D) : Prop :=
  ∃ r, ((∃ id, CallR X (.builtin id) r ∧ bootBuiltins x = some (.builtin id)) ∨ (∃ T, CallR X (.type T) r ∧ bootBuiltins x = some (.type T))) ∧ Cal g X.K r f ∧ x ≠ "__name__" ∧ (x == ("__debug__" : Str)) = false
theorem ev_blt {f : List D → M D} (bs : BltS g X x f) (hg : Gl X x) (hm : X.mg x = none) (ha : Es g X W Γ (e :: es) mk) (he : starEach (e :: es) X.env = (false, eval e X.env) :: starEach es X.env := by rfl)
    (hpl : (backTo pos (starEach es X.env)).any (·.1) = false := by rfl) : Ev g X W Γ (.Call (.Name x p) (e :: es) [] pos) (mk f) := by
  obtain ⟨r, h, hf, hn, hd⟩ := bs
  rcases h with ⟨id, hc, hv⟩ | ⟨T, hc, hv⟩
  · exact Ev.of (pe_callB hc hg hm hv ha hn hd he hpl) fun F H σ b o b' S hm xo Q q => rd_cal hf S hm xo q
  · exact Ev.of (pe_callTy hc hg hm hv ha hn hd he hpl) fun F H σ b o b' S hm xo Q q => rd_cal hf S hm xo q
end
end GL
namespace GL
open PySem PySem.Spec PyProof.Rows L2 LamX

section
variable {g : Gx} {X : Cx} {W : WX} {Γ : List Sl} {n : Nat} {pos : Pos}
/-- an answer that is a scalar and stands where it stood -/
theorem Cal.scal {K : PySem.W.Frag} {F H : Hp} {b b' : Bag} {o : Res D} {Q : VK} {v : V} {d : D} (S : SRel g K [] F H [] b) (hm : (M.ret d) b = some (o, b')) (hd : ∀ F, Dp K F v d)
    (q : ∀ d, o = .ok d → ∀ v H' F', Grow g F H F' H' → BagAt g.β b' F' H' → Dp K F' v d → Q v H') : Q v H := by
  cases hm
  exact q d rfl v H F S.refl S.bag (hd F)

/-! ### len, tuple, list, int, abs -/
def fLen : List D → M D
  | [.list xs] => M.ret (.int xs.length)
  | [.tuple xs] => M.ret (.int xs.length)
  | _ => M.fail
theorem b_len : BltS g X "len" fLen := by
  refine ⟨_, .inl ⟨_, call_len_seq, PySem.boot_len⟩, ?_, by decide, by decide⟩
  intro F H b b' o vs ds Q S hd hm q
  unfold fLen at hm
  split at hm
  · rename_i xs
    cases hd with | cons h1 h2 =>
    cases h2
    cases h1 with | lst hs ha =>
    exact ⟨_, _, rfl, .inl (SqL.grow S.inn hs), by rw [DpAll.length ha]; exact Cal.scal S hm (fun _ => .int _) q⟩
  · rename_i xs
    cases hd with | cons h1 h2 =>
    cases h2
    cases h1 with | tup hs ha =>
    exact ⟨_, _, rfl, .inr (SqT.grow S.inn hs), by rw [DpAll.length ha]; exact Cal.scal S hm (fun _ => .int _) q⟩
  · cases hm
def fTuple : List D → M D
  | [.list xs] => M.ret (.tuple xs)
  | [.tuple xs] => M.ret (.tuple xs)
  | _ => M.fail
theorem b_tuple : BltS g X "tuple" fTuple := by
  refine ⟨_, .inr ⟨_, call_tuple_of, by decide +kernel⟩, ?_, by decide, by decide⟩
  intro F H b b' o vs ds Q S hd hm q
  unfold fTuple at hm
  split at hm
  · cases hd with | cons h1 h2 =>
    cases h2
    cases h1 with | lst hs ha =>
    refine ⟨_, _, rfl, .inl ⟨SqL.grow S.inn hs, fun l hl => ?_⟩⟩
    cases hm
    obtain ⟨G, B, r⟩ := new_tup S hl ha
    exact q _ rfl _ _ _ G B r
  · cases hd with | cons h1 h2 =>
    cases h2
    cases h1 with | tup hs ha =>
    refine ⟨_, _, rfl, .inr ⟨SqT.grow S.inn hs, ?_⟩⟩
    cases hm
    exact q _ rfl _ _ _ S.refl S.bag (.tup hs ha)
  · cases hm
def fList : List D → M D
  | [.list xs] => M.ret (.list xs)
  | [.tuple xs] => M.ret (.list xs)
  | _ => M.fail
theorem b_list : BltS g X "list" fList := by
  refine ⟨_, .inr ⟨_, call_list_of, by decide +kernel⟩, ?_, by decide, by decide⟩
  intro F H b b' o vs ds Q S hd hm q
  unfold fList at hm
  split at hm
  · cases hd with | cons h1 h2 =>
    cases h2
    cases h1 with | lst hs ha =>
    refine ⟨_, _, rfl, .inl (SqL.grow S.inn hs), fun l hl => ?_⟩
    cases hm
    obtain ⟨G, B, r⟩ := new_lst S hl ha
    exact q _ rfl _ _ _ G B r
  · cases hd with | cons h1 h2 =>
    cases h2
    cases h1 with | tup hs ha =>
    refine ⟨_, _, rfl, .inr (SqT.grow S.inn hs), fun l hl => ?_⟩
    cases hm
    obtain ⟨G, B, r⟩ := new_lst S hl ha
    exact q _ rfl _ _ _ G B r
  · cases hm
def fInt : List D → M D
  | [.int i] => M.ret (.int i)
  | [.bool c] => M.ret (.int (if c then 1 else 0))
  | _ => M.fail
theorem b_int : BltS g X "int" fInt := by
  refine ⟨_, .inr ⟨_, call_int1, by decide +kernel⟩, ?_, by decide, by decide⟩
  intro F H b b' o vs ds Q S hd hm q
  unfold fInt at hm
  split at hm
  · cases hd with | cons h1 h2 =>
    cases h2; cases h1
    exact .inl ⟨_, rfl, Cal.scal S hm (fun _ => .int _) q⟩
  · cases hd with | cons h1 h2 =>
    cases h2; cases h1
    exact .inr ⟨_, rfl, Cal.scal S hm (fun _ => .int _) q⟩
  · cases hm
def fAbs : List D → M D
  | [.int i] => M.ret (.int (if i < 0 then -i else i))
  | _ => M.fail
theorem b_abs : BltS g X "abs" fAbs := by
  refine ⟨_, .inl ⟨_, call_abs, by decide +kernel⟩, ?_, by decide, by decide⟩
  intro F H b b' o vs ds Q S hd hm q
  unfold fAbs at hm
  split at hm
  · cases hd with | cons h1 h2 =>
    cases h2; cases h1
    exact ⟨_, rfl, Cal.scal S hm (fun _ => .int _) q⟩
  · cases hm

/-! ### all, any, sum -/
def boolsOf : List D → Option (List Bool)
  | [] => some []
  | .bool c :: r => (boolsOf r).map (c :: ·)
  | _ => none
def intsOf : List D → Option (List Int)
  | [] => some []
  | .int c :: r => (intsOf r).map (c :: ·)
  | _ => none
theorem boolsOf_dp {K : PySem.W.Frag} {F : Hp} : ∀ {vs : List V} {ds : List D} {bs : List Bool}, DpAll K F vs ds → boolsOf ds = some bs → vs = bs.map V.bl
  | _, _, _, .nil, e => by cases e; rfl
  | _, _, _, .cons (d := d) h t, e => by
    cases d <;> first | (cases e; done) | skip
    rename_i ds c
    simp only [boolsOf, Option.map_eq_some_iff] at e
    obtain ⟨r, e1, rfl⟩ := e
    cases h
    rw [boolsOf_dp t e1]; rfl
theorem intsOf_dp {K : PySem.W.Frag} {F : Hp} : ∀ {vs : List V} {ds : List D} {bs : List Int}, DpAll K F vs ds → intsOf ds = some bs → vs = bs.map V.int
  | _, _, _, .nil, e => by cases e; rfl
  | _, _, _, .cons (d := d) h t, e => by
    cases d <;> first | (cases e; done) | skip
    rename_i ds c
    simp only [intsOf, Option.map_eq_some_iff] at e
    obtain ⟨r, e1, rfl⟩ := e
    cases h
    rw [intsOf_dp t e1]; rfl
@[simp] theorem boolsOf_map (bs : List Bool) : boolsOf (bs.map PyData.bool) = some bs := by
  induction bs with
  | nil => rfl
  | cons a r ih => simp [boolsOf, ih]
@[simp] theorem intsOf_map (bs : List Int) : intsOf (bs.map PyData.int) = some bs := by
  induction bs with
  | nil => rfl
  | cons a r ih => simp [intsOf, ih]
def fAll : List D → M D
  | [.list xs] => M.bind (M.lift (boolsOf xs)) fun bs => M.ret (.bool (bs.all id))
  | _ => M.fail
def fAny : List D → M D
  | [.list xs] => M.bind (M.lift (boolsOf xs)) fun bs => M.ret (.bool (bs.any id))
  | _ => M.fail
def fSum : List D → M D
  | [.list xs] => M.bind (M.lift (intsOf xs)) fun bs => M.ret (.int bs.sum)
  | _ => M.fail
theorem lift_some' {α β : Type} {o : Option α} {f : α → M β} {b b' : Bag} {r : Res β} (h : M.bind (M.lift o) f b = some (r, b')) : ∃ a, o = some a ∧ f a b = some (r, b') := by
  cases o with
  | none => cases h
  | some a => exact ⟨a, rfl, h⟩
theorem b_all (C : Cg g X W n) : BltS g X "all" fAll := by
  refine ⟨_, .inl ⟨_, cr_all C.calm, by decide +kernel⟩, ?_, by decide, by decide⟩
  intro F H b b' o vs ds Q S hd hm q
  unfold fAll at hm
  split at hm
  · cases hd with | cons h1 h2 =>
    cases h2
    cases h1 with | lst hs ha =>
    obtain ⟨bs, e, hm⟩ := lift_some' hm
    have ev := boolsOf_dp ha e
    subst ev
    exact ⟨_, _, rfl, SqL.grow S.inn hs, Cal.scal S hm (fun _ => .bl _) q⟩
  · cases hm
theorem b_any (C : Cg g X W n) : BltS g X "any" fAny := by
  refine ⟨_, .inl ⟨_, cr_any C.calm, by decide +kernel⟩, ?_, by decide, by decide⟩
  intro F H b b' o vs ds Q S hd hm q
  unfold fAny at hm
  split at hm
  · cases hd with | cons h1 h2 =>
    cases h2
    cases h1 with | lst hs ha =>
    obtain ⟨bs, e, hm⟩ := lift_some' hm
    have ev := boolsOf_dp ha e
    subst ev
    exact ⟨_, _, rfl, SqL.grow S.inn hs, Cal.scal S hm (fun _ => .bl _) q⟩
  · cases hm
theorem b_sum (C : Cg g X W n) : BltS g X "sum" fSum := by
  refine ⟨_, .inl ⟨_, cr_sum C.calm, by decide +kernel⟩, ?_, by decide, by decide⟩
  intro F H b b' o vs ds Q S hd hm q
  unfold fSum at hm
  split at hm
  · cases hd with | cons h1 h2 =>
    cases h2
    cases h1 with | lst hs ha =>
    obtain ⟨bs, e, hm⟩ := lift_some' hm
    have ev := intsOf_dp ha e
    subst ev
    exact ⟨_, _, rfl, SqL.grow S.inn hs, Cal.scal S hm (fun _ => .int _) q⟩
  · cases hm

/-! ### isinstance with a built-in class -/
def rIsa (K : PySem.W.Frag) (T : String) (f : D → Bool) : List V → Hp → VK → Prop := fun xs H Q => ∃ x d, xs = [x, .ty T] ∧ Dp K H x d ∧ Q (.bl (f d)) H
theorem call_isaInt : CallR X (.builtin "isinstance") (rIsa X.K "int" PyData.isInt) := by
  intro pins s σ H xs us Q I r h
  obtain ⟨x, d, rfl, hd, q⟩ := h
  obtain ⟨u, w', rfl, r1, r2⟩ := vals2 r
  obtain ⟨as, hr⟩ := Dp.reads I d x u hd r1
  cases r2
  exact PySem.W.isinstance_int_data hr fun tk _ => ⟨.bl _, H, I.tok tk, rfl, q⟩
theorem call_isaBool : CallR X (.builtin "isinstance") (rIsa X.K "bool" PyData.isBool) := by
  intro pins s σ H xs us Q I r h
  obtain ⟨x, d, rfl, hd, q⟩ := h
  obtain ⟨u, w', rfl, r1, r2⟩ := vals2 r
  obtain ⟨as, hr⟩ := Dp.reads I d x u hd r1
  cases r2
  exact PySem.W.isinstance_bool_data hr fun tk _ => ⟨.bl _, H, I.tok tk, rfl, q⟩
theorem call_isaTuple : CallR X (.builtin "isinstance") (rIsa X.K "tuple" PyData.isTuple) := by
  intro pins s σ H xs us Q I r h
  obtain ⟨x, d, rfl, hd, q⟩ := h
  obtain ⟨u, w', rfl, r1, r2⟩ := vals2 r
  obtain ⟨as, hr⟩ := Dp.reads I d x u hd r1
  cases r2
  exact PySem.W.isinstance_tuple_data hr fun tk _ => ⟨.bl _, H, I.tok tk, rfl, q⟩
variable {e e2 : Expr} {ma : M D} {p p2 : Pos} {T : String} {Tn : Str} {f : D → Bool}
theorem ev_isa (hc : CallR X (.builtin "isinstance") (rIsa X.K T f)) (hg : Gl X "isinstance") (hm : X.mg "isinstance" = none) (hg2 : Gl X Tn) (hm2 : X.mg Tn = none) (hv : bootBuiltins Tn = some (.type T)) (ha : Ev g X W Γ e ma)
    (hn : Tn ≠ "__name__" := by decide) (hd : (Tn == ("__debug__" : Str)) = false := by decide)
    (h1 : starEach [e, .Name Tn p2] X.env = (false, eval e X.env) :: starEach [.Name Tn p2] X.env := by rfl) : Ev g X W Γ (.Call (.Name "isinstance" p) [e, .Name Tn p2] [] pos) (M.bind ma fun x => M.ret (.bool (f x))) :=
  Ev.of (pe_callB hc hg hm (by decide +kernel) (pa_cons ha (pa_cons (pe_bltn (v := .ty T) hg2 hm2 hv rfl hn hd) pa_nil) h1) (by decide) (by decide) h1) fun F H σ b o b' S hm x Q q => by
    refine tEv_bind S hm x fun a b1 v1 H1 F1 _ h1 S1 G1 x1 r1 => ?_
    cases h1
    exact ⟨v1, a, rfl, dp_sub S1.inn r1, q _ rfl _ H1 F1 G1 S1.bag (.bl _)⟩

/-! ### max, min -/
theorem cr_max2 (C : Cg g X W n) : CallR X (.builtin "max") (fun xs H Q => ∃ i j, xs = [.int i, .int j] ∧ Q (.int (if j > i then j else i)) H) := call_max2 C.calm
def alikeB (xs : List D) : Bool := xs.all (fun x => xs.all fun y => PySem.W.alike x y) && xs.all (fun x => !isN x) && Nat.ble (PyData.depthAll xs) 60
theorem alikeB_some {xs : List D} (h : alikeB xs = true) : PySem.W.AlikeAll xs ∧ PyData.depthAll xs ≤ 60 := by
  unfold alikeB at h
  simp only [Bool.and_eq_true, List.all_eq_true, Bool.not_eq_true'] at h
  obtain ⟨⟨h1, h2⟩, h3⟩ := h
  exact ⟨⟨fun x hx y hy => h1 x hx y hy, fun x hx e => by have := h2 x hx; rw [e] at this; cases this⟩, Nat.le_of_ble_eq_true h3⟩
theorem minD_mem (x : D) : ∀ xs : List D, PySem.W.minD x xs ∈ x :: xs := by
  intro xs
  unfold PySem.W.minD
  induction xs generalizing x with
  | nil => exact List.mem_singleton.mpr rfl
  | cons y r ih =>
    rw [List.foldl_cons]
    split
    · exact List.mem_cons_of_mem _ (ih y)
    · rcases List.mem_cons.mp (ih x) with h | h
      · rw [h]; exact List.mem_cons_self
      · exact List.mem_cons_of_mem _ (List.mem_cons_of_mem _ h)
theorem maxD_mem (x : D) : ∀ xs : List D, PySem.W.maxD x xs ∈ x :: xs := by
  intro xs
  unfold PySem.W.maxD
  induction xs generalizing x with
  | nil => exact List.mem_singleton.mpr rfl
  | cons y r ih =>
    rw [List.foldl_cons]
    split
    · exact List.mem_cons_of_mem _ (ih y)
    · rcases List.mem_cons.mp (ih x) with h | h
      · rw [h]; exact List.mem_cons_self
      · exact List.mem_cons_of_mem _ (List.mem_cons_of_mem _ h)
theorem vals_at : ∀ {xs : List V} {us : List Value} {i : Nat} {u : Value}, Vals xs us → us[i]? = some u → ∃ x, xs[i]? = some x ∧ RelV x u
  | _, _, _, _, .nil, e => by simp at e
  | _, _, 0, _, .cons r _, e => by simp at e; subst e; exact ⟨_, rfl, r⟩
  | _, _, i + 1, _, .cons _ t, e => by
    obtain ⟨v, h1, h2⟩ := vals_at (i := i) t (by simpa using e)
    exact ⟨v, by simpa using h1, h2⟩
/-- an item of a sequence that reads as d is d's value -/
theorem item_is {pins : List (Addr × Obj)} {σ : L2.St} {H : Hp} {s : Shared} {xs : List V} {its : List Value} {ds : List D} {i : Nat} {v : Value} {d : D} {h' : Heap} {bs : List Addr} (I : Inv X pins σ H s)
    (rv : Vals xs its) (hd : DpAll X.K H xs ds) (hv : its[i]? = some v) (rd : Reads h' v d bs) (kp : ∀ b o, s.heap.get? b = some o → h'.get? b = some o) (ha : ∀ y ∈ ds, PySem.W.alike y d = true) :
    ∃ x, RelV x v ∧ xs[i]? = some x ∧ ds[i]? = some d := by
  obtain ⟨x, hx, rx⟩ := vals_at rv hv
  obtain ⟨y, hy, ry⟩ := DpAll.getV hd hx
  obtain ⟨as, hr⟩ := Dp.reads I y x v ry rx
  have e := PySem.W.alike_unique y d v as bs (ha y (List.mem_of_getElem? hy)) (PySem.W.reads_keeps kp hr) rd
  subst e
  exact ⟨x, rx, hx, hy⟩
def rBest (K : PySem.W.Frag) (f : D → List D → D) : List V → Hp → VK → Prop := fun xs H Q => ∃ a ys x ds, xs = [.ref a] ∧ (SqL K H a ys ∨ SqT K H a ys) ∧ DpAll K H ys (x :: ds) ∧ alikeB (x :: ds) = true ∧ ∀ (i : Nat) v, ys[i]? = some v → (x :: ds)[i]? = some (f x ds) → Q v H
theorem call_minD (C : Cg g X W n) : CallR X (.builtin "min") (rBest X.K PySem.W.minD) := by
  intro pins s σ H xs us Q I r h
  obtain ⟨a, ys, x, ds, rfl, hs, hd, ha, q⟩ := h
  obtain ⟨u, rfl, r1⟩ := vals1 r
  cases r1
  obtain ⟨al, dp⟩ := alikeB_some ha
  have hu := C.units
  rcases hs with hs | hs
  · obtain ⟨its, rv, pl, hz⟩ := I.list hs
    obtain ⟨as, hr⟩ := Dp.readsAll I (x :: ds) ys its hd rv
    refine PySem.W.min_list_data (vs := its.toArray) (I.ok.hd C.calm) pl.isList (by simpa using hr) al (by omega) fun i v h' tk bs hv rd kp => ?_
    obtain ⟨z, rz, z1, z2⟩ := item_is I rv hd (by simpa using hv) rd kp (fun y hy => al.1 y hy _ (minD_mem x ds))
    exact ⟨z, H, I.kept (t' := tk) kp, rz, q i z z1 z2⟩
  · obtain ⟨its, rv, pl, hz⟩ := I.tuple hs
    obtain ⟨as, hr⟩ := Dp.readsAll I (x :: ds) ys its hd rv
    refine PySem.W.min_tuple_data (vs := its.toArray) (I.ok.hd C.calm) pl (by simpa using hr) al (by omega) fun i v h' tk bs hv rd kp => ?_
    obtain ⟨z, rz, z1, z2⟩ := item_is I rv hd (by simpa using hv) rd kp (fun y hy => al.1 y hy _ (minD_mem x ds))
    exact ⟨z, H, I.kept (t' := tk) kp, rz, q i z z1 z2⟩
theorem call_maxD (C : Cg g X W n) : CallR X (.builtin "max") (rBest X.K PySem.W.maxD) := by
  intro pins s σ H xs us Q I r h
  obtain ⟨a, ys, x, ds, rfl, hs, hd, ha, q⟩ := h
  obtain ⟨u, rfl, r1⟩ := vals1 r
  cases r1
  obtain ⟨al, dp⟩ := alikeB_some ha
  have hu := C.units
  rcases hs with hs | hs
  · obtain ⟨its, rv, pl, hz⟩ := I.list hs
    obtain ⟨as, hr⟩ := Dp.readsAll I (x :: ds) ys its hd rv
    refine PySem.W.max_list_data (vs := its.toArray) (I.ok.hd C.calm) pl.isList (by simpa using hr) al (by omega) fun i v h' tk bs hv rd kp => ?_
    obtain ⟨z, rz, z1, z2⟩ := item_is I rv hd (by simpa using hv) rd kp (fun y hy => al.1 y hy _ (maxD_mem x ds))
    exact ⟨z, H, I.kept (t' := tk) kp, rz, q i z z1 z2⟩
  · obtain ⟨its, rv, pl, hz⟩ := I.tuple hs
    obtain ⟨as, hr⟩ := Dp.readsAll I (x :: ds) ys its hd rv
    refine PySem.W.max_tuple_data (vs := its.toArray) (I.ok.hd C.calm) pl (by simpa using hr) al (by omega) fun i v h' tk bs hv rd kp => ?_
    obtain ⟨z, rz, z1, z2⟩ := item_is I rv hd (by simpa using hv) rd kp (fun y hy => al.1 y hy _ (maxD_mem x ds))
    exact ⟨z, H, I.kept (t' := tk) kp, rz, q i z z1 z2⟩
def fBest (f : D → List D → D) (h : Int → Int → Int) : List D → M D
  | [.list (x :: xs)] => M.ite (alikeB (x :: xs)) (M.ret (f x xs)) M.fail
  | [.tuple (x :: xs)] => M.ite (alikeB (x :: xs)) (M.ret (f x xs)) M.fail
  | [.int i, .int j] => M.ret (.int (h i j))
  | _ => M.fail
def fMin : List D → M D := fBest PySem.W.minD fun i j => if j < i then j else i
def fMax : List D → M D := fBest PySem.W.maxD fun i j => if j > i then j else i
theorem ite_some {α : Type} {c : Bool} {t : M α} {b b' : Bag} {o : Res α} (h : M.ite c t M.fail b = some (o, b')) : c = true ∧ t b = some (o, b') := by
  cases c with
  | true => exact ⟨rfl, h⟩
  | false => cases h
theorem cal_best {K : PySem.W.Frag} {f : D → List D → D} {h : Int → Int → Int} : Cal g K (fun xs H Q => (∃ i j, xs = [.int i, .int j] ∧ Q (.int (h i j)) H) ∨ rBest K f xs H Q) (fBest f h) := by
  intro F H b b' o vs ds Q S hd hm q
  unfold fBest at hm
  split at hm
  · obtain ⟨e, hm⟩ := ite_some hm
    cases hd with | cons h1 h2 =>
    cases h2
    cases h1 with | lst hs ha =>
    refine .inr ⟨_, _, _, _, rfl, .inl (SqL.grow S.inn hs), dpAll_grow S.inn _ _ ha, e, fun i v h1 h2 => ?_⟩
    cases hm
    obtain ⟨z, z1, z2⟩ := DpAll.get ha h2
    rw [h1] at z1
    cases z1
    exact q _ rfl _ _ _ S.refl S.bag z2
  · obtain ⟨e, hm⟩ := ite_some hm
    cases hd with | cons h1 h2 =>
    cases h2
    cases h1 with | tup hs ha =>
    refine .inr ⟨_, _, _, _, rfl, .inr (SqT.grow S.inn hs), dpAll_grow S.inn _ _ ha, e, fun i v h1 h2 => ?_⟩
    cases hm
    obtain ⟨z, z1, z2⟩ := DpAll.get ha h2
    rw [h1] at z1
    cases z1
    exact q _ rfl _ _ _ S.refl S.bag z2
  · cases hd with | cons h1 h2 =>
    cases h2 with | cons h2 h3 =>
    cases h3; cases h1; cases h2
    exact .inl ⟨_, _, rfl, Cal.scal S hm (fun _ => .int _) q⟩
  · cases hm
theorem b_min (C : Cg g X W n) : BltS g X "min" fMin :=
  ⟨_, .inl ⟨_, (call_min2 C.calm).or (call_minD C), by decide +kernel⟩, cal_best, by decide, by decide⟩
theorem b_max (C : Cg g X W n) : BltS g X "max" fMax :=
  ⟨_, .inl ⟨_, (call_max2 C.calm).or (call_maxD C), by decide +kernel⟩, cal_best, by decide, by decide⟩

/-! ### sorted -/
def sortableB (xs : List D) : Bool := xs.all (fun d => match d with | .tuple (_ :: _) => true | _ => false) || xs.all (fun d => match d with | .tuple _ => false | .none => false | _ => true)
theorem sortableB_some {xs : List D} (h : sortableB xs = true) : PySem.W.Sortable xs := by
  unfold sortableB at h
  simp only [Bool.or_eq_true, List.all_eq_true] at h
  rcases h with h | h
  · refine .inl fun d hd => ?_
    have := h d hd
    split at this
    · exact ⟨_, _, rfl⟩
    · cases this
  · refine .inr fun d hd => ?_
    have := h d hd
    refine ⟨fun e => ?_, fun xs e => ?_⟩ <;> (rw [e] at this; cases this)
def sortD (xs : List D) : List D := xs.mergeSort (PySem.W.dataLe false id)
def rSortD (K : PySem.W.Frag) : List V → Hp → VK → Prop := fun xs H Q => ∃ a ys ds, xs = [.ref a] ∧ SqL K H a ys ∧ DpAll K H ys ds ∧ alikeB ds = true ∧ sortableB ds = true ∧
  ∀ p (zs : List V), H p = none → (∀ F, (∀ a o, F a = some o → H a = some o) → DpAll K F ys ds → DpAll K F zs (sortD ds)) → Q (.ref p) (upd H p (.lst zs))
theorem zip_is {K : PySem.W.Frag} {F : Hp} : ∀ {ys : List V} {ds : List D}, (∀ p ∈ ys.zip ds, Dp K F p.1 p.2) → ys.length = ds.length → DpAll K F ys ds
  | [], [], _, _ => .nil
  | y :: ys, d :: ds, h, e => .cons (h (y, d) List.mem_cons_self) (zip_is (fun p hp => h p (List.mem_cons_of_mem _ hp)) (by simpa using e))
theorem is_zip {K : PySem.W.Frag} {F : Hp} : ∀ {ys : List V} {ds : List D}, DpAll K F ys ds → ∀ p ∈ ys.zip ds, Dp K F p.1 p.2
  | _, _, .nil, p, hp => by simp at hp
  | _, _, .cons h t, p, hp => by
    rw [List.zip_cons_cons] at hp
    rcases List.mem_cons.mp hp with e | hp
    · rw [e]; exact h
    · exact is_zip t p hp
theorem pairs_is {K : PySem.W.Frag} {F : Hp} : ∀ {l : List (V × D)}, (∀ p ∈ l, Dp K F p.1 p.2) → DpAll K F (l.map Prod.fst) (l.map Prod.snd)
  | [], _ => .nil
  | p :: l, h => .cons (h p List.mem_cons_self) (pairs_is fun q hq => h q (List.mem_cons_of_mem _ hq))
theorem each_zip : ∀ {ys : List V} {its : List Value} {ds : List D}, Vals ys its → ys.length = ds.length → PySem.W.EachIs (fun (v : Value) (p : V × D) => RelV p.1 v) its (ys.zip ds)
  | _, _, [], .nil, _ => .nil
  | _, _, _ :: _, .cons r t, e => .cons r (each_zip t (by simpa using e))
  | _, _, [], .cons _ _, e => by simp at e
  | _, _, _ :: _, .nil, e => by simp at e
theorem each_vals : ∀ {out : List Value} {l : List (V × D)}, PySem.W.EachIs (fun (v : Value) (p : V × D) => RelV p.1 v) out l → Vals (l.map Prod.fst) out
  | _, _, .nil => .nil
  | _, _, .cons r t => .cons r (each_vals t)
theorem each_reads {h : Heap} : ∀ {ys : List V} {its : List Value} {ds : List D} {as : List Addr}, ReadsAll h its ds as → ys.length = ds.length → PySem.W.EachIs (fun (v : Value) (p : V × D) => ∃ as, Reads h v p.2 as) its (ys.zip ds)
  | [], _, [], _, .nil, _ => .nil
  | y :: ys, _, d :: ds, _, .cons r t, e => .cons ⟨_, r⟩ (each_reads t (by simpa using e))
theorem depth_mem {d : D} : ∀ {ds : List D}, d ∈ ds → d.depth ≤ PyData.depthAll ds
  | x :: xs, h => by
    unfold PyData.depthAll
    rcases List.mem_cons.mp h with rfl | h
    · exact Nat.le_max_left _ _
    · exact Nat.le_trans (depth_mem h) (Nat.le_max_right _ _)
theorem call_sortD (C : Cg g X W n) : CallR X (.builtin "sorted") (rSortD X.K) := by
  intro pins s σ H xs us Q I r h
  obtain ⟨a, ys, ds, rfl, hs, hd, ha, hk, q⟩ := h
  obtain ⟨u, rfl, r1⟩ := vals1 r
  cases r1
  obtain ⟨al, dp⟩ := alikeB_some ha
  have hu := C.units
  obtain ⟨its, rv, pl, hz⟩ := I.list hs
  obtain ⟨as, hr⟩ := Dp.readsAll I ds ys its hd rv
  have el := DpAll.length hd
  have em : (ys.zip ds).map Prod.snd = ds := List.map_snd_zip (by omega)
  refine PySem.W.sorted_data (vs := its) (bs := ys.zip ds) (enc := Prod.snd) pl.isList (each_zip rv el) (each_reads hr el) (by rw [em]; exact al.1) (by rw [em]; exact sortableB_some hk) (by rw [List.length_zip]; omega) (fun p hp => ?_) fun out ho he => ?_
  · have := depth_mem (List.of_mem_zip (a := p.1) (b := p.2) hp).2
    omega
  · obtain ⟨ep, he'⟩ := PyProof.Rows.sortedAll_at s.heap its out.toArray
    have hv := each_vals he
    have hl : ((ys.zip ds).mergeSort (PySem.W.dataLe false Prod.snd)).length ≤ sizeLine := by rw [List.length_mergeSort, List.length_zip]; omega
    refine ⟨.ref _, upd H (s.heap.objs.size + 1) (.lst (((ys.zip ds).mergeSort (PySem.W.dataLe false Prod.snd)).map Prod.fst)), I.laid (t' := s.toks) (fun _ _ => PyProof.Rows.sortedAll_old) (Nat.le_succ _) ⟨by rw [List.length_map]; exact hl, out, ep, hv, he'⟩, rfl, ?_⟩
    refine q _ _ (I.hok.fresh (Nat.le_succ _)) fun F hF hdF => ?_
    have e2 : ((ys.zip ds).mergeSort (PySem.W.dataLe false Prod.snd)).map Prod.snd = sortD ds := by
      unfold sortD
      have e3 := PySem.W.sort_maps (l := ys.zip ds) (r := PySem.W.dataLe false Prod.snd) (s := PySem.W.dataLe false id) Prod.snd (fun _ _ _ _ => rfl)
      rw [em] at e3
      exact e3
    rw [← e2]
    exact pairs_is fun p hp => is_zip hdF p ((List.mergeSort_perm _ _).mem_iff.mp hp)
def fSorted : List D → M D
  | [.list xs] => M.ite (alikeB xs && sortableB xs) (M.ret (.list (sortD xs))) M.fail
  | _ => M.fail
theorem b_sorted (C : Cg g X W n) : BltS g X "sorted" fSorted := by
  refine ⟨_, .inl ⟨_, call_sortD C, by decide +kernel⟩, ?_, by decide, by decide⟩
  intro F H b b' o vs ds Q S hd hm q
  unfold fSorted at hm
  split at hm
  · obtain ⟨e, hm⟩ := ite_some hm
    simp only [Bool.and_eq_true] at e
    cases hd with | cons h1 h2 =>
    cases h2
    cases h1 with | lst hs ha =>
    refine ⟨_, _, _, rfl, SqL.grow S.inn hs, dpAll_grow S.inn _ _ ha, e.1, e.2, fun p zs hp hz => ?_⟩
    cases hm
    obtain ⟨G, B, r⟩ := new_lst S hp (hz F S.inn ha)
    exact q _ rfl _ _ _ G B r
  · cases hm
end
end GL
namespace GL
open PySem PySem.Spec PyProof.Rows L2 LamX

/-- an argument: data, or the bag -/
inductive AK where
  | d | bag
def Gx.at (g : Gx) (β : Addr) : Gx := { g with β := β }
theorem Gx.at_self (g : Gx) : g.at g.β = g := rfl
/-- arguments' values -/
inductive ArgsRel (β : Addr) (K : PySem.W.Frag) (F : Hp) : List AK → List V → List D → Prop
  | nil : ArgsRel β K F [] [] []
  | d {ks vs ds v x} : Dp K F v x → ArgsRel β K F ks vs ds → ArgsRel β K F (.d :: ks) (v :: vs) (x :: ds)
  | bag {ks vs ds} : ArgsRel β K F ks vs ds → ArgsRel β K F (.bag :: ks) (.ref β :: vs) ds
theorem ArgsRel.len {β : Addr} {K : PySem.W.Frag} {F : Hp} {ks : List AK} {vs : List V} {ds : List D} (h : ArgsRel β K F ks vs ds) : vs.length = ks.length := by
  induction h with
  | nil => rfl
  | d _ _ ih => simp [ih]
  | bag _ ih => simp [ih]
theorem ArgsRel.grow {β : Addr} {K : PySem.W.Frag} {F F' : Hp} (e : ∀ a o, F a = some o → F' a = some o) {ks : List AK} {vs : List V} {ds : List D} (h : ArgsRel β K F ks vs ds) : ArgsRel β K F' ks vs ds := by
  induction h with
  | nil => exact .nil
  | d h _ ih => exact .d (dp_grow e _ _ h) ih
  | bag _ ih => exact .bag ih
/-- what a def of the meaning Mf promises -/
def spM (g : Gx) (K : PySem.W.Frag) (ks : List AK) (Mf : List D → M D) : Sp := fun vs H Q E =>
  ∃ (β : Addr) (F : Hp) (ds : List D) (b : Bag) (o : Res D) (b' : Bag), ArgsRel β K F ks vs ds ∧ SRel (g.at β) K [] F H [] b ∧ Mf ds b = some (o, b') ∧ XOk (g.at β) K (fun c d _ H => E c d H) [] F H o b' ∧
    ∀ d, o = .ok d → ∀ v H' F', Grow (g.at β) F H F' H' → BagAt β b' F' H' → Dp K F' v d → Q v H'
section
variable {P : Program} {w : World} {K : PySem.W.Frag} {mg : Str → Option Value} {base : Heap} {g : Gx}
/-- a def that keeps the promise sp where nothing is being shown -/
structure FnG (P : Program) (w : World) (K : PySem.W.Frag) (mg : Str → Option Value) (base : Heap) (k : Nat) (f : Addr) (fd : FuncData) (ps : List Str) (sp : Sp) : Prop where
  run : ∀ (A : Around) (outer : List Env) (s : Shared) (H : Hp) (args : Args) (us : List Value) (vs : List V) (Q : VK) (E : XK), Room k A → A.guards = some [] → Env0 P w K mg base A outer s H → BindsTo s fd args (ps.zip us) → Vals vs us → vs.length = ps.length → sp vs H Q E →
    codeAny (model P w) A (.call (.ref f) args) (CR (L2.CX P w) outer P w H s Q E) s
/-- a def of the text, known by its name -/
structure Kn (P : Program) (w : World) (K : PySem.W.Frag) (mg : Str → Option Value) (base : Heap) (g : Gx) (x : Str) (st : Stmt) (k : Nat) (ps : List Str) (ks : List AK) (Mf : List D → M D) : Prop where
  ex : ∃ (f : Addr) (fd : FuncData) (nm qual : Str), mg x = some (.ref f) ∧ Fun K nm qual st f fd ∧ FnG P w K mg base k f fd ps (spM g K ks Mf) ∧ Binds K fd ps []
end
section
variable {g : Gx} {X : Cx} {W : WX} {Γ : List Sl} {n : Nat} {pos p : Pos} {x : Str} {e : Expr} {es : List Expr} {k : Nat} {ps : List Str} {ks : List AK} {Mf : List D → M D} {st : Stmt} {ma : M D}
/-- arguments -/
def tAs (g : Gx) (K : PySem.W.Frag) (W : WX) (Γ : List Sl) (ks : List AK) (mk : (List D → M D) → M D) : TA := fun σ H Q =>
  ∃ (k : List D → M D) (F : Hp) (b : Bag) (o : Res D) (b' : Bag), SRel g K Γ F H σ b ∧ mk k b = some (o, b') ∧ XOk g K W σ F H o b' ∧
    ∀ ds b1 vs H1 F1, k ds b1 = some (o, b') → SRel g K Γ F1 H1 σ b1 → Grow g F H F1 H1 → XOk g K W σ F1 H1 o b' → ArgsRel g.β K F1 ks vs ds → Q vs H1
def As (g : Gx) (X : Cx) (W : WX) (Γ : List Sl) (es : List Expr) (ks : List AK) (mk : (List D → M D) → M D) : Prop := PA X es (tAs g X.K W Γ ks mk)
theorem as_nil : As g X W Γ [] [] (fun k => k []) := pa_imp pa_nil fun σ H Q ⟨k, F, b, o, b', S, hm, x, q⟩ => q [] b [] H F hm S S.refl x .nil
theorem as_d {mk : (List D → M D) → M D} (ha : Ev g X W Γ e ma) (hr : As g X W Γ es ks mk) (hs : starEach (e :: es) X.env = (false, eval e X.env) :: starEach es X.env := by rfl) :
    As g X W Γ (e :: es) (.d :: ks) (fun k => M.bind ma fun d => mk fun ds => k (d :: ds)) :=
  pa_imp (pa_cons ha hr hs) fun σ H Q ⟨k, F, b, o, b', S, hm, x, q⟩ => by
    refine tEv_bind S hm x fun d b1 v H1 F1 _ h1 S1 G1 x1 r1 => ?_
    refine ⟨fun ds => k (d :: ds), F1, b1, o, b', S1, h1, x1, fun ds b2 vs H2 F2 h2 S2 G2 x2 r2 => ?_⟩
    exact q (d :: ds) b2 (v :: vs) H2 F2 h2 S2 (G1.trans G2) x2 (.d (G2.dp r1) r2)
theorem as_bag {mk : (List D → M D) → M D} {i : Nat} {y : Str} {py : Pos} (hN : X.N[i]? = some y) (hv : Vis X.env.scope y) (hs : Γ[i]? = some .bag) (hr : As g X W Γ es ks mk)
    (hd : (y == ("__debug__" : Str)) = false := by decide) (hcd : (y == ("__classdict__" : Str)) = false := by decide) (h1 : starEach (.Name y py :: es) X.env = (false, eval (.Name y py) X.env) :: starEach es X.env := by rfl) :
    As g X W Γ (.Name y py :: es) (.bag :: ks) mk :=
  pa_imp (pa_cons (pe_var hN hv hd hcd) hr h1) fun σ H Q ⟨k, F, b, o, b', S, hm, x, q⟩ => by
    obtain ⟨o', e1, e2⟩ := S.slot i _ hs
    have e2 : o' = some (.ref g.β) := e2
    subst e2
    exact ⟨_, e1, k, F, b, o, b', S, hm, x, fun ds b1 vs H1 F1 h1 S1 G1 x1 r1 => q ds b1 (.ref g.β :: vs) H1 F1 h1 S1 G1 x1 (.bag r1)⟩
/-- the callee runs -/
theorem run_fnG {sp : Sp} {f : Addr} {fd : FuncData} {E : XK} {pins : List (Addr × Obj)} {σ : L2.St} {H : Hp} {s : Shared} {Q : VK} {us : List Value} {kw : List (Str × Value)} {vs : List V} (G : FnG X.prog X.w X.K X.mg X.base k f fd ps sp)
    (hr : Room k X.A) (hgu : X.A.guards = some []) {us' : List Value} (hb : BindsTo s fd ⟨us, kw⟩ (ps.zip us')) (hx : PassesAt (L2.CX X.prog X.w) X σ E) (I : L2.Inv X pins σ H s) (r : Vals vs us') (hl : vs.length = ps.length) (h : sp vs H Q E) :
    wpAny (model X.prog X.w) X.A (call (.ref f) us kw) (EP X pins σ Q) X.xe s := by
  refine wpAny_call (codeAny_mono (G.run X.A X.stack s H ⟨us, kw⟩ us' vs Q E hr hgu I.env0 hb r hl h) fun z s' hq => ?_)
  match z, hq with
  | .error e, hq => exact hx pins H s e s' I hq
  | .ok (.ret u), hq => exact I.after hq
  | .ok .next, hq => exact False.elim hq
  | .ok .brk, hq => exact False.elim hq
  | .ok .cont, hq => exact False.elim hq
theorem xok_we {K : PySem.W.Frag} {σ : L2.St} {F H : Hp} {o : Res D} {b' : Bag} (x : XOk g K W σ F H o b') : XOk (g.at g.β) K (fun c d _ H => WE W σ c d H) [] F H o b' := by
  cases o with
  | ok a => trivial
  | exc c y => exact x
/-- a def called by its name, arguments by position -/
theorem ev_call {mk : (List D → M D) → M D} (C : Cg g X W n) (kn : Kn X.prog X.w X.K X.mg X.base g x st k ps ks Mf) (hk : k ≤ n) (hl : ks.length = ps.length) (hg : Gl X x) (ha : As g X W Γ (e :: es) ks mk)
    (hdb : (x == ("__debug__" : Str)) = false := by decide) (he : starEach (e :: es) X.env = (false, eval e X.env) :: starEach es X.env := by rfl) (hpl : (backTo pos (starEach es X.env)).any (·.1) = false := by rfl) :
    Ev g X W Γ (.Call (.Name x p) (e :: es) [] pos) (mk Mf) := by
  obtain ⟨f, fd, nm, qual, hm, F, G, hb⟩ := kn
  refine ⟨fun pins s σ H Q I ⟨F0, b, o, b', S, hm0, xo, q⟩ => ?_⟩
  refine wpAny_Call_Name_kw (ld_glob I hg hm ?_ hdb)
  refine PySem.W.callWith_K (h₀ := X.base) I.ok.mod.kin F.kp (thn (ha.run pos pins s σ H (fun vs H1 => vs.length = ps.length ∧ spM g X.K ks Mf vs H1 Q (WE W σ)) I ?_) fun us s1 ⟨vs, H1, I1, r, hlv, hsp⟩ => ⟨I1.kIn, ?_⟩) he hpl
  · refine ⟨Mf, F0, b, o, b', S, hm0, xo, fun ds b1 vs H1 F1 h1 S1 G1 x1 r1 => ⟨r1.len.trans hl, ?_⟩⟩
    exact ⟨g.β, F1, ds, b1, o, b', r1, S1.nil, h1, xok_we x1, fun d e v H' F' G B hd => q d e v H' F' (G1.trans G) B hd⟩
  · have hbb := hb s1 us I1.kIn (by rw [List.append_nil, ← r.length]; exact hlv)
    rw [List.append_nil] at hbb
    exact run_fnG G (C.room.mono hk) C.gd hbb (passAt C.tk σ) I1 r hlv hsp
/-- .. all by keywords: pm puts what stands written into the parameters' order -/
theorem ev_callK {mk : (List D → M D) → M D} {kws : List Keyword} {kn' : List Str} {pm : {α : Type} → List α → List α} {ks' : List AK} {Mk : List D → M D} (C : Cg g X W n) (kn : Kn X.prog X.w X.K X.mg X.base g x st k ps ks Mf) (hk : k ≤ n)
    (hg : Gl X x) (ha : PK X kws (tAs g X.K W Γ ks' mk)) (hdb : (x == ("__debug__" : Str)) = false := by decide)
    (hall : (backToKw pos (keywordEach kws X.env)).all (·.1.isSome) = true := by rfl) (hks : (backToKw pos (keywordEach kws X.env)).filterMap (·.1) = kn' := by rfl)
    (hpl : ((backTo pos (starEach [] X.env)).any (·.1) || (backToKw pos (keywordEach kws X.env)).any (·.1.isNone)) = false := by rfl)
    (hbd : ∀ (nm qual : Str) (kV doc pm' : Value) (an : Option Addr) (cdv ct : Value) (us : List Value), us.length = ks'.length → bindArgs (PySem.W.fnOf nm qual (defArgs st) (defBody st) (defScope st) .none kV doc pm' an cdv ct) ⟨[], kn'.zip us⟩ = pure (ps.zip (pm us)))
    (hrel : ∀ {vs : List V} {us : List Value}, Vals vs us → vs.length = ks'.length → Vals (pm vs) (pm us) ∧ (pm vs).length = ps.length)
    (hargs : ∀ {β : Addr} {K : PySem.W.Frag} {F : Hp} {vs : List V} {ds : List D}, ArgsRel β K F ks' vs ds → ∃ ds', ArgsRel β K F ks (pm vs) ds' ∧ Mk ds = Mf ds') :
    Ev g X W Γ (.Call (.Name x p) [] kws pos) (mk Mk) := by
  obtain ⟨f, fd, nm, qual, hm, F, G, hb⟩ := kn
  refine ⟨fun pins s σ H Q I ⟨F0, b, o, b', S, hm0, xo, q⟩ => ?_⟩
  refine wpAny_Call_Name_kw (ld_glob I hg hm ?_ hdb)
  refine PySem.W.callWith_KW0 (h₀ := X.base) I.ok.mod.kin F.kp hall (thn (ha.run pos pins s σ H (fun vs H1 => vs.length = ks'.length ∧ spM g X.K ks Mf (pm vs) H1 Q (WE W σ)) I ?_) fun us s1 ⟨vs, H1, I1, r, hlv, hsp⟩ => ⟨I1.kIn, ?_⟩) hpl
  · refine ⟨Mk, F0, b, o, b', S, hm0, xo, fun ds b1 vs H1 F1 h1 S1 G1 x1 r1 => ⟨r1.len, ?_⟩⟩
    obtain ⟨ds', r2, e2⟩ := hargs r1
    exact ⟨g.β, F1, ds', b1, o, b', r2, S1.nil, e2 ▸ h1, xok_we x1, fun d e v H' F' G B hd => q d e v H' F' (G1.trans G) B hd⟩
  · obtain ⟨r2, hl2⟩ := hrel r hlv
    rw [hks]
    obtain ⟨oc, od, kV, doc, pm', an, cdv, ct, osl, rfl, lk, hcd⟩ := F.ex
    exact run_fnG G (C.room.mono hk) C.gd (.of_eq (hbd _ _ _ _ _ _ _ _ us (by rw [← r.length]; exact hlv))) (passAt C.tk σ) I1 r2 hl2 hsp
theorem ak_nil : PK X [] (tAs g X.K W Γ [] (fun k => k [])) :=
  ⟨fun pos pins s σ H Q I ⟨k, F, b, o, b', S, hm, x, q⟩ => pk_nil.run pos pins s σ H Q I (q [] b [] H F hm S S.refl x .nil)⟩
theorem ak_d {mk : (List D → M D) → M D} {nm : Option Str} {kws : List Keyword} {kpos : Pos} (ha : Ev g X W Γ e ma) (hr : PK X kws (tAs g X.K W Γ ks mk)) :
    PK X (⟨nm, e, kpos⟩ :: kws) (tAs g X.K W Γ (.d :: ks) (fun k => M.bind ma fun d => mk fun ds => k (d :: ds))) :=
  ⟨fun pos pins s σ H Q I ⟨k, F, b, o, b', S, hm, x, q⟩ => (pk_cons ha hr).run pos pins s σ H Q I (by
    refine tEv_bind S hm x fun d b1 v H1 F1 _ h1 S1 G1 x1 r1 => ?_
    refine ⟨fun ds => k (d :: ds), F1, b1, o, b', S1, h1, x1, fun ds b2 vs H2 F2 h2 S2 G2 x2 r2 => ?_⟩
    exact q (d :: ds) b2 (v :: vs) H2 F2 h2 S2 (G1.trans G2) x2 (.d (G2.dp r1) r2))⟩
end
end GL
namespace GL
open PySem PySem.Spec PyProof.Rows L2 LamX

/-- how a block ends: it goes on with a state, or hands back -/
inductive Out (S : Type) where
  | nx (s : S)
  | rt (d : D)
/-- a wish that does not look at the slots -/
abbrev WK (E : XK) : WX := fun c d _ H => E c d H
/-- the def's own lists are younger than its entry -/
def OwnF (Γ : List Sl) (σ : L2.St) (H0 : Hp) : Prop := ∀ (i : Nat) (xs : List D) (p : Addr), Γ[i]? = some (.own xs) → σ[i]? = some (some (.ref p)) → H0 p = none
/-- grown from the entry, what stood frozen at Fl still so -/
structure GrowL (g : Gx) (F0 H0 Fl F H : Hp) : Prop where
  gr : Grow g F0 H0 F H
  fl : ∀ a o, Fl a = some o → F a = some o
theorem GrowL.trans {g : Gx} {F0 H0 Fl F H F1 H1 : Hp} (a : GrowL g F0 H0 Fl F H) (b : Grow g F H F1 H1) : GrowL g F0 H0 Fl F1 H1 := ⟨a.gr.trans b, fun c o h => b.sub c o (a.fl c o h)⟩
/-- what is wanted behind a block -/
def Fin (g : Gx) (K : PySem.W.Frag) {S : Type} (sh : S → List Sl) (F0 H0 Fl : Hp) (b' : Bag) (D : Ends) : Out S → Prop
  | .nx s => ∀ σ' F' H', GrowL g F0 H0 Fl F' H' → SRel g K (sh s) F' H' σ' b' → OwnF (sh s) σ' H0 → D.nx σ' H'
  | .rt d => ∀ v F' H', GrowL g F0 H0 Fl F' H' → BagAt g.β b' F' H' → Dp K F' v d → D.rt v H'
/-- the reading of a block of the meaning m -/
def tBj (g : Gx) (K : PySem.W.Frag) (E : XK) (Γ : List Sl) {S : Type} (sh : S → List Sl) (m : M (Out S)) : TS := fun D σ H =>
  ∃ (F0 H0 Fl F : Hp) (b : Bag) (o : Res (Out S)) (b' : Bag), GrowL g F0 H0 Fl F H ∧ SRel g K Γ F H σ b ∧ OwnF Γ σ H0 ∧ m b = some (o, b') ∧ XOk g K (WK E) [] F0 H0 o b' ∧ ∀ r, o = .ok r → Fin g K sh F0 H0 Fl b' D r
def Bj (g : Gx) (X : Cx) (E : XK) (Γ : List Sl) (ss : List Stmt) {S : Type} (sh : S → List Sl) (m : M (Out S)) : Prop := PSs X ss (tBj g X.K E Γ sh m)
def Sj (g : Gx) (X : Cx) (E : XK) (Γ : List Sl) (st : Stmt) {S : Type} (sh : S → List Sl) (m : M (Out S)) : Prop := PS X st (tBj g X.K E Γ sh m)
theorem pss_imp {X : Cx} {ss : List Stmt} {t t' : TS} (h : PSs X ss t) (k : ∀ D σ H, t' D σ H → t D σ H) : PSs X ss t' := ⟨fun pins s σ H D I q => h.run pins s σ H D I (k D σ H q)⟩
theorem ps_imp {X : Cx} {ss : Stmt} {t t' : TS} (h : PS X ss t) (k : ∀ D σ H, t' D σ H → t D σ H) : PS X ss t' := ⟨fun pins s σ H D I q => h.run pins s σ H D I (k D σ H q)⟩
theorem pss_ex {X : Cx} {ss : List Stmt} {α : Type} {t : α → TS} (h : ∀ a, PSs X ss (t a)) : PSs X ss (fun D σ H => ∃ a, t a D σ H) := ⟨fun pins s σ H D I ⟨a, q⟩ => (h a).run pins s σ H D I q⟩

section
variable {g : Gx} {X : Cx} {E : XK} {Γ : List Sl} {n : Nat} {pos p : Pos} {S S' : Type} {sh : S → List Sl} {sh' : S' → List Sl} {e : Expr} {me : M D} {ss rest : List Stmt} {st : Stmt} {m : M (Out S)}

/-! ### states -/
theorem xok_sig {K : PySem.W.Frag} {σ : L2.St} {F H : Hp} {α β : Type} {o : Res α} {b' : Bag} (x : XOk g K (WK E) [] F H o b') : XOk g K (WK E) σ F H o b' := by
  cases o with
  | ok a => trivial
  | exc c y => exact x
theorem SRel.set {K : PySem.W.Frag} {F H : Hp} {σ : L2.St} {b : Bag} (R : SRel g K Γ F H σ b) {i : Nat} {v : V} {s : Sl} (hi : i < Γ.length) (hs : SlOk g K F H (some v) s)
    (hd : ∀ xs, s = .own xs → ∀ (j : Nat) ys, j ≠ i → Γ[j]? = some (.own ys) → σ[j]? ≠ some (some v)) : SRel g K (Γ.set i s) F H (σ.set i (some v)) b := by
  have hiσ : i < σ.length := by
    obtain ⟨o, e, _⟩ := R.slot i _ (List.getElem?_eq_getElem hi)
    exact (List.getElem?_eq_some_iff.mp e).1
  refine ⟨R.inn, R.sor, fun j s' e => ?_, fun j k xs ys v' e1 e2 e3 e4 => ?_, R.bag, R.tab⟩
  · by_cases h : i = j
    · subst h
      rw [List.getElem?_set_self hi] at e
      cases e
      exact ⟨_, List.getElem?_set_self hiσ, hs⟩
    · rw [List.getElem?_set_ne h] at e
      obtain ⟨o, e1, e2⟩ := R.slot j _ e
      exact ⟨o, by rw [List.getElem?_set_ne h]; exact e1, e2⟩
  · by_cases hj : i = j
    · by_cases hk : i = k
      · exact hj.symm.trans hk
      · subst hj
        rw [List.getElem?_set_self hi] at e1
        rw [List.getElem?_set_self hiσ] at e3
        rw [List.getElem?_set_ne hk] at e2 e4
        cases e3
        exact absurd e4 (hd xs (Option.some.inj e1) k ys (Ne.symm hk) e2)
    · rw [List.getElem?_set_ne hj] at e1 e3
      by_cases hk : i = k
      · subst hk
        rw [List.getElem?_set_self hi] at e2
        rw [List.getElem?_set_self hiσ] at e4
        cases e4
        exact absurd e3 (hd ys (Option.some.inj e2) j xs (Ne.symm hj) e1)
      · rw [List.getElem?_set_ne hk] at e2 e4
        exact R.dist j k xs ys v' e1 e2 e3 e4
theorem OwnF.set {σ : L2.St} {H0 : Hp} (o : OwnF Γ σ H0) {i : Nat} {v : V} {s : Sl} (hs : ∀ xs p, s = .own xs → v = .ref p → H0 p = none) : OwnF (Γ.set i s) (σ.set i (some v)) H0 := by
  intro j xs p e1 e2
  by_cases h : i = j
  · subst h
    have h1 : i < Γ.length := by
      have := (List.getElem?_eq_some_iff.mp e1).1
      simpa using this
    have h2 : i < σ.length := by
      have := (List.getElem?_eq_some_iff.mp e2).1
      simpa using this
    rw [List.getElem?_set_self h1] at e1
    rw [List.getElem?_set_self h2] at e2
    exact hs xs p (Option.some.inj e1) (Option.some.inj (Option.some.inj e2))
  · rw [List.getElem?_set_ne h] at e1 e2
    exact o j xs p e1 e2

/-! ### blocks -/
/-- one after another -/
def seqO {S S' : Type} (m : M (Out S')) (k : S' → M (Out S)) : M (Out S) := M.bind m fun r => match r with
  | .nx s => k s
  | .rt d => M.ret (.rt d)
theorem bj_seq {m' : M (Out S')} {k : S' → M (Out S)} (h1 : Sj g X E Γ st sh' m') (h2 : ∀ s, Bj g X E (sh' s) rest sh (k s)) : Bj g X E Γ (st :: rest) sh (seqO m' k) := by
  refine pss_imp (pss_cons h1 (pss_ex h2)) fun D σ H ⟨F0, H0, Fl, F, b, o, b', G, R, ow, hm, x, q⟩ => ?_
  unfold seqO M.bind at hm
  cases e : m' b with
  | none => rw [e] at hm; cases hm
  | some r =>
    obtain ⟨r, b1⟩ := r
    rw [e] at hm
    cases r with
    | exc c y =>
      have hm : (Res.exc c y, b1) = (o, b') := Option.some.inj hm
      cases hm
      exact ⟨F0, H0, Fl, F, b, _, _, G, R, ow, e, x, fun r z => by cases z⟩
    | ok r =>
      refine ⟨F0, H0, Fl, F, b, _, _, G, R, ow, e, trivial, fun r z => ?_⟩
      cases z
      cases r with
      | nx s => exact fun σ' F' H' G' R' ow' => ⟨s, F0, H0, Fl, F', b1, o, b', G', R', ow', hm, x, q⟩
      | rt d =>
        cases hm
        exact q _ rfl
theorem bj_nil (s : S) (h : sh s = Γ) : Bj g X E Γ [] sh (M.ret (.nx s)) :=
  pss_imp pss_nil fun D σ H ⟨F0, H0, Fl, F, b, o, b', G, R, ow, hm, x, q⟩ => by
    cases hm
    subst h
    exact q _ rfl σ F H G R ow
theorem bj_one (h : Sj g X E Γ st sh m) : Bj g X E Γ [st] sh m := pss_one h
/-- forgetting -/
def Sl.le : Sl → Sl → Prop
  | _, .un => True
  | a, b => a = b
/-- Γ' tells less than Γ -/
inductive Wk : List Sl → List Sl → Prop
  | nil : Wk [] []
  | keep {s : Sl} {a b : List Sl} : Wk a b → Wk (s :: a) (s :: b)
  | drop {s : Sl} {a b : List Sl} : Wk a b → Wk (.un :: a) (s :: b)
theorem Wk.len {a b : List Sl} (h : Wk a b) : a.length = b.length := by
  induction h with
  | nil => rfl
  | keep _ ih => simp [ih]
  | drop _ ih => simp [ih]
theorem Wk.at {a b : List Sl} (h : Wk a b) : ∀ (i : Nat) (s : Sl), a[i]? = some s → s = Sl.un ∨ b[i]? = some s := by
  induction h with
  | nil => intro i s e; simp at e
  | keep _ ih =>
    intro i s e
    cases i with
    | zero => exact .inr e
    | succ i => exact ih i s e
  | drop _ ih =>
    intro i s e
    cases i with
    | zero => exact .inl (Option.some.inj e).symm
    | succ i => exact ih i s e
theorem Wk.refl : ∀ a : List Sl, Wk a a
  | [] => .nil
  | _ :: a => .keep (Wk.refl a)
theorem bj_weak0 {Γ' : List Sl} (hl : Γ'.length = Γ.length) (hw : ∀ (i : Nat) (s' : Sl), Γ'[i]? = some s' → s' = Sl.un ∨ Γ[i]? = some s') (h : Bj g X E Γ' ss sh m) : Bj g X E Γ ss sh m :=
  pss_imp h fun D σ H ⟨F0, H0, Fl, F, b, o, b', G, R, ow, hm, x, q⟩ => by
    refine ⟨F0, H0, Fl, F, b, o, b', G, ⟨R.inn, R.sor, fun i s e => ?_, fun i j xs ys v e1 e2 e3 e4 => ?_, R.bag, R.tab⟩, fun i xs p e1 e2 => ?_, hm, x, q⟩
    · rcases hw i s e with z | z
      · subst z
        have : i < Γ.length := by rw [← hl]; exact (List.getElem?_eq_some_iff.mp e).1
        obtain ⟨o, h1, _⟩ := R.slot i _ (List.getElem?_eq_getElem this)
        exact ⟨o, h1, trivial⟩
      · exact R.slot i s z
    · have z1 := (hw i _ e1).resolve_left (by intro z; cases z)
      have z2 := (hw j _ e2).resolve_left (by intro z; cases z)
      exact R.dist i j xs ys v z1 z2 e3 e4
    · exact ow i xs p ((hw i _ e1).resolve_left (by intro z; cases z)) e2
theorem bj_weak {Γ' : List Sl} (w : Wk Γ' Γ) (h : Bj g X E Γ' ss sh m) : Bj g X E Γ ss sh m := bj_weak0 w.len w.at h
/-- an own list is frozen -/
theorem bj_freeze {i : Nat} {xs : List D} (hi : Γ[i]? = some (.own xs)) (h : Bj g X E (Γ.set i (.d (.list xs))) ss sh m) : Bj g X E Γ ss sh m :=
  pss_imp h fun D σ H ⟨F0, H0, Fl, F, b, o, b', G, R, ow, hm, x, q⟩ => by
    obtain ⟨ov, e1, a, vs, rfl, hH, hF, hβ, hd⟩ := R.slot i _ hi
    have hil : i < Γ.length := (List.getElem?_eq_some_iff.mp hi).1
    have hiσ : i < σ.length := (List.getElem?_eq_some_iff.mp e1).1
    have hsub : ∀ c u, F c = some u → upd F a (.lst vs) c = some u := fun c u e => by rw [upd_ne (ne_of_none e hF)]; exact e
    have hinn : ∀ c u, upd F a (.lst vs) c = some u → H c = some u := fun c u e => by
      by_cases hc : c = a
      · subst hc; rw [upd_same] at e; cases e; exact hH
      · rw [upd_ne hc] at e; exact R.inn c u e
    have hsor : ∀ c u ps, upd F a (.lst vs) c = some u → u ≠ .tbl ps := fun c u ps e => by
      by_cases hc : c = a
      · subst hc; rw [upd_same] at e; cases e; intro z; cases z
      · rw [upd_ne hc] at e; exact R.sor c u ps e
    refine ⟨F0, H0, Fl, upd F a (.lst vs), b, o, b', ⟨⟨fun c u e => hsub c u (G.gr.sub c u e), hinn, G.gr.ext, fun c u e => ?_, G.gr.tab, hsor, G.gr.low⟩, fun c u e => hsub c u (G.fl c u e)⟩, ?_, ?_, hm, x, q⟩
    · by_cases hc : c = a
      · subst hc; exact .inr (.inl (ow i xs c hi e1))
      · rw [upd_ne hc] at e; exact G.gr.new c u e
    · refine ⟨hinn, hsor, fun j s e => ?_, fun j k ys zs v e1' e2' e3 e4 => ?_, ?_, R.tab⟩
      · by_cases hj : i = j
        · subst hj
          rw [List.getElem?_set_self hil] at e
          cases e
          exact ⟨_, e1, .ref a, rfl, .lst (SqL.of upd_same) (dpAll_grow hsub _ _ hd)⟩
        · rw [List.getElem?_set_ne hj] at e
          obtain ⟨o', h1, h2⟩ := R.slot j s e
          refine ⟨o', h1, ?_⟩
          cases s with
          | un => trivial
          | d y => obtain ⟨v, h3, h4⟩ := h2; exact ⟨v, h3, dp_grow hsub _ _ h4⟩
          | own ys =>
            obtain ⟨p2, vs2, rfl, h4, h5, h6, h7⟩ := h2
            have hne : p2 ≠ a := fun z => hj (R.dist i j xs ys (.ref a) hi e e1 (by rw [h1, z]))
            exact ⟨p2, vs2, rfl, h4, by rw [upd_ne hne]; exact h5, h6, dpAll_grow hsub _ _ h7⟩
          | v y Fc => exact ⟨h2.1, fun c u e => hsub c u (h2.2 c u e)⟩
          | bag => exact h2
      · have j1 : j ≠ i := fun z => by subst z; rw [List.getElem?_set_self hil] at e1'; cases e1'
        have k1 : k ≠ i := fun z => by subst z; rw [List.getElem?_set_self hil] at e2'; cases e2'
        rw [List.getElem?_set_ne (Ne.symm j1)] at e1'
        rw [List.getElem?_set_ne (Ne.symm k1)] at e2'
        exact R.dist j k ys zs v e1' e2' e3 e4
      · have B := R.bag
        cases b with
        | none => exact ⟨B.1, by rw [upd_ne (Ne.symm hβ)]; exact B.2⟩
        | some t => obtain ⟨u1, u2, u3⟩ := t; exact ⟨B.1, by rw [upd_ne (Ne.symm hβ)]; exact B.2⟩
    · intro j ys p2 h1 h2
      have j1 : j ≠ i := fun z => by subst z; rw [List.getElem?_set_self hil] at h1; cases h1
      rw [List.getElem?_set_ne (Ne.symm j1)] at h1
      exact ow j ys p2 h1 h2

/-! ### statements -/
/-- e evaluated in a block, then what follows -/
theorem bj_bind {k : D → M (Out S)} {F0 H0 Fl F H : Hp} {σ : L2.St} {b b' : Bag} {o : Res (Out S)} {K : PySem.W.Frag} {Q : VK} (G : GrowL g F0 H0 Fl F H) (R : SRel g K Γ F H σ b) (ow : OwnF Γ σ H0) (hm : (M.bind me k) b = some (o, b')) (x : XOk g K (WK E) [] F0 H0 o b')
    (q : ∀ a b1 v H1 F1, k a b1 = some (o, b') → SRel g K Γ F1 H1 σ b1 → GrowL g F0 H0 Fl F1 H1 → Grow g F H F1 H1 → Dp K F1 v a → Q v H1) : tEv g K (WK E) Γ me σ H Q :=
  tEv_bind R hm (xok_sig (α := Out S) (β := Out S) (x.grow G.gr)) fun a b1 v H1 F1 _ h1 R1 G1 x1 r1 => q a b1 v H1 F1 h1 R1 (G.trans G1) G1 r1
theorem bj_set {i : Nat} {y : Str} {py : Pos} {k : D → M (Out S)} (C : Cg g X (WK E) n) (hi : X.N[i]? = some y) (hx : Loc X.env.scope y) (hΓ : i < Γ.length) (he : Ev g X (WK E) Γ e me) (hr : ∀ d, Bj g X E (Γ.set i (.d d)) rest sh (k d))
    (hs : swapsWith e (some (.Name y py)) pos.line X.env = pure false := by rfl) (hf : X.fn y = true ∨ X.env.scope.names.lookup y = some .local := by first | exact .inl rfl | exact .inr rfl | assumption) :
    Bj g X E Γ (.Assign [.Name y py] e pos :: rest) sh (M.bind me k) :=
  pss_imp (pss_cons (ps_set C.nd hi hx he hs hf) (pss_ex hr)) fun D σ H ⟨F0, H0, Fl, F, b, o, b', G, R, ow, hm, x, q⟩ => by
    refine bj_bind G R ow hm x fun a b1 v H1 F1 h1 R1 G1 _ r1 => ?_
    exact ⟨a, F0, H0, Fl, F1, b1, o, b', G1, R1.set hΓ ⟨v, rfl, r1⟩ (fun xs e => by cases e), ow.set (fun xs p e => by cases e), h1, x, q⟩
theorem bj_ret {sh : S → List Sl} (he : Ev g X (WK E) Γ e me) : Bj g X E Γ [.Return (some e) pos] sh (M.bind me fun d => M.ret (.rt d)) :=
  pss_imp (pss_one (ps_ret he)) fun D σ H ⟨F0, H0, Fl, F, b, o, b', G, R, ow, hm, x, q⟩ => by
    refine bj_bind G R ow hm x fun a b1 v H1 F1 h1 R1 G1 _ r1 => ?_
    cases h1
    exact q _ rfl v F1 H1 G1 R1.bag r1
theorem bj_expr {k : M (Out S)} (he : Ev g X (WK E) Γ e me) (hr : Bj g X E Γ rest sh k) (hs : swapsWith e none pos.line X.env = pure false := by rfl) : Bj g X E Γ (.Expr e pos :: rest) sh (M.bind me fun _ => k) :=
  pss_imp (pss_cons (ps_expr he hs) hr) fun D σ H ⟨F0, H0, Fl, F, b, o, b', G, R, ow, hm, x, q⟩ => by
    refine bj_bind G R ow hm x fun a b1 v H1 F1 h1 R1 G1 _ r1 => ?_
    exact ⟨F0, H0, Fl, F1, b1, o, b', G1, R1, ow, h1, x, q⟩
theorem sj_if {c : Expr} {mc : M Bool} {ya yb : List Stmt} {ma mb : M (Out S)} (hc : Et g X (WK E) Γ c mc) (ha : Bj g X E Γ ya sh ma) (hb : Bj g X E Γ yb sh mb) : Sj g X E Γ (.If c ya yb pos) sh (M.bind mc fun z => M.ite z ma mb) :=
  ps_imp (ps_if hc ha hb) fun D σ H ⟨F0, H0, Fl, F, b, o, b', G, R, ow, hm, x, q⟩ => by
    refine tEt_bind R hm (xok_sig (α := Out S) (β := Out S) (x.grow G.gr)) fun a b1 H1 F1 h1 R1 G1 x1 => ?_
    cases a with
    | true => exact iteT ⟨F0, H0, Fl, F1, b1, o, b', G.trans G1, R1, ow, h1, x, q⟩
    | false => exact iteF ⟨F0, H0, Fl, F1, b1, o, b', G.trans G1, R1, ow, h1, x, q⟩
/-- what is never reached -/
theorem bj_never : Bj g X E Γ ss sh M.fail := pss_imp pss_never fun D σ H ⟨F0, H0, Fl, F, b, o, b', G, R, ow, hm, x, q⟩ => by cases hm
/-- an own list is changed -/
theorem own_upd {K : PySem.W.Frag} {F0 H0 Fl F H : Hp} {σ : L2.St} {b : Bag} {i : Nat} {xs ys : List D} {a : Addr} {vs ws : List V} (G : GrowL g F0 H0 Fl F H) (R : SRel g K Γ F H σ b) (ow : OwnF Γ σ H0) (hi : Γ[i]? = some (.own xs)) (e1 : σ[i]? = some (some (.ref a)))
    (hH : H a = some (.lst vs)) (hF : F a = none) (hβ : a ≠ g.β) (hd : DpAll K F ws ys) :
    GrowL g F0 H0 Fl F (upd H a (.lst ws)) ∧ SRel g K (Γ.set i (.own ys)) F (upd H a (.lst ws)) σ b ∧ OwnF (Γ.set i (.own ys)) σ H0 := by
  have h0 : H0 a = none := ow i xs a hi e1
  have hil : i < Γ.length := (List.getElem?_eq_some_iff.mp hi).1
  have hinn : ∀ c u, F c = some u → upd H a (.lst ws) c = some u := fun c u e => by rw [upd_ne (ne_of_none e hF)]; exact R.inn c u e
  have hset : ∀ j s, (Γ.set i (.own ys))[j]? = some s → (j = i ∧ s = .own ys) ∨ (j ≠ i ∧ Γ[j]? = some s) := fun j s e => by
    by_cases hj : i = j
    · subst hj; rw [List.getElem?_set_self hil] at e; exact .inl ⟨rfl, (Option.some.inj e).symm⟩
    · rw [List.getElem?_set_ne hj] at e; exact .inr ⟨Ne.symm hj, e⟩
  refine ⟨⟨⟨G.gr.sub, hinn, fun c u e n1 n2 => ?_, G.gr.new, fun t => ?_, G.gr.sor, fun c e => ?_⟩, G.fl⟩, ⟨hinn, R.sor, fun j s e => ?_, fun j k zs zs' v e1' e2' e3 e4 => ?_, ?_, ?_⟩, fun j zs p2 h1 h2 => ?_⟩
  · rw [upd_ne (ne_of_none e h0)]; exact G.gr.ext c u e n1 n2
  · intro q hq
    obtain ⟨ps, t1, t2, t3⟩ := G.gr.tab t q hq
    have n1 : q.1 ≠ a := fun z => by rw [z, hH] at t1; cases t1
    refine ⟨ps, by rw [upd_ne n1]; exact t1, t2, fun pos cv hc => ?_⟩
    obtain ⟨c, z1, z2⟩ := t3 pos cv hc
    exact ⟨c, z1, by rw [upd_ne (fun z => by rw [z, hH] at z2; cases z2)]; exact z2⟩
  · by_cases hc : c = a
    · subst hc; exact h0
    · rw [upd_ne hc] at e; exact G.gr.low c e
  · rcases hset j s e with ⟨rfl, rfl⟩ | ⟨hj, e⟩
    · exact ⟨_, e1, a, ws, rfl, upd_same, hF, hβ, hd⟩
    · obtain ⟨o', h1, h2⟩ := R.slot j s e
      refine ⟨o', h1, ?_⟩
      cases s with
      | un => trivial
      | d y => exact h2
      | own zs =>
        obtain ⟨p2, vs2, rfl, h4, h5, h6, h7⟩ := h2
        have hne : p2 ≠ a := fun z => hj (R.dist j i zs xs (.ref a) e hi (by rw [h1, z]) e1)
        exact ⟨p2, vs2, rfl, by rw [upd_ne hne]; exact h4, h5, h6, h7⟩
      | v y Fc => exact h2
      | bag => exact h2
  · have back : ∀ (j : Nat) (zs : List D), (Γ.set i (.own ys))[j]? = some (Sl.own zs) → ∃ zs' : List D, Γ[j]? = some (Sl.own zs') := fun j zs e => by
      rcases hset j _ e with ⟨rfl, _⟩ | ⟨_, e⟩
      · exact ⟨_, hi⟩
      · exact ⟨_, e⟩
    obtain ⟨y1, z1⟩ := back j zs e1'
    obtain ⟨y2, z2⟩ := back k zs' e2'
    exact R.dist j k y1 y2 v z1 z2 e3 e4
  · have B := R.bag
    cases b with
    | none => exact ⟨by rw [upd_ne (Ne.symm hβ)]; exact B.1, B.2.1, fun q => by rw [upd_ne (Ne.symm hβ)]; exact B.2.2 q⟩
    | some t => obtain ⟨u1, u2, u3⟩ := t; exact ⟨by rw [upd_ne (Ne.symm hβ)]; exact B.1, B.2⟩
  · intro q hq
    obtain ⟨ps, t1, t2, t3⟩ := R.tab q hq
    have n1 : q.1 ≠ a := fun z => by rw [z, hH] at t1; cases t1
    refine ⟨ps, by rw [upd_ne n1]; exact t1, t2, fun pos cv hc => ?_⟩
    obtain ⟨c, z1, z2⟩ := t3 pos cv hc
    exact ⟨c, z1, by rw [upd_ne (fun z => by rw [z, hH] at z2; cases z2)]; exact z2⟩
  · rcases hset j _ h1 with ⟨rfl, _⟩ | ⟨_, e⟩
    · exact ow j xs p2 hi h2
    · exact ow j zs p2 e h2
/-- x.append(e), x an own list -/
theorem bj_append {i : Nat} {y : Str} {py pa pc : Pos} {xs : List D} {k : D → M (Out S)} (C : Cg g X (WK E) n) (hi : X.N[i]? = some y) (hv : Vis X.env.scope y) (hΓ : Γ[i]? = some (.own xs)) (he : Ev g X (WK E) Γ e me)
    (hr : ∀ d, Bj g X E (Γ.set i (.own (xs ++ [d]))) rest sh (k d)) (hd : (y == ("__debug__" : Str)) = false := by decide) (hcd : (y == ("__classdict__" : Str)) = false := by decide)
    (h1 : starEach [e] X.env = (false, eval e X.env) :: starEach [] X.env := by rfl) (hs : swapsWith (.Call (.Attribute (.Name y py) "append" pa) [e] [] pc) none pos.line X.env = pure false := by rfl)
    (hb : attributeBase (.Name y py) "append" X.env (eval (.Name y py) X.env) = eval (.Name y py) X.env := by rfl)
    (hw : ((backTo pc (starEach [e] X.env)).all (fun x => !x.1) && (backToKw pc (keywordEach [] X.env)).all (fun x => x.1.isSome) && decide ([e].length + ([] : List Keyword).length + (if ([] : List Keyword).isEmpty then 0 else 1) < 30)) = true := by rfl)
    (hn : (pa.endLine == pc.line) = true := by rfl) :
    Bj g X E Γ (.Expr (.Call (.Attribute (.Name y py) "append" pa) [e] [] pc) pos :: rest) sh (M.bind me fun d => M.ite (Nat.blt xs.length sz) (k d) M.fail) :=
  pss_imp (pss_cons (ps_expr (pe_bm PySem.F.plainAttrs_list PySem.F.slot_list_append PySem.F.type_list_append mt_append (pe_var hi hv hd hcd) (pa_cons he pa_nil h1) hb hw hn h1) hs) (pss_ex hr)) fun D σ H ⟨F0, H0, Fl, F, b, o, b', G, R, ow, hm, x, q⟩ => by
    obtain ⟨ov, e1, a, vs, rfl, hH, hF, hβ, hd⟩ := R.slot i _ hΓ
    refine ⟨_, e1, .inl ⟨rfl, _, SqL.of hH⟩, ?_⟩
    refine bj_bind G R ow hm x fun d b1 v H1 F1 h1 R1 G1 G2 r1 => ?_
    obtain ⟨hc, h1⟩ := ite_some h1
    obtain ⟨ov', e1', a', vs', e2', hH', hF', hβ', hd'⟩ := R1.slot i _ hΓ
    rw [e1] at e1'
    cases e1'
    cases e2'
    have hl := Nat.le_of_ble_eq_true hc
    refine ⟨a, vs', v, rfl, rfl, hH', by rw [DpAll.length hd', sz_eq]; exact hl, ?_⟩
    obtain ⟨G3, R3, ow3⟩ := own_upd G1 R1 ow hΓ e1 hH' hF' hβ (DpAll.app hd' (DpAll.one r1))
    exact ⟨d, F0, H0, Fl, F1, b1, o, b', G3, R3, ow3, h1, x, q⟩
end
end GL
namespace GL
open PySem PySem.Spec PyProof.Rows L2 LamX

/-! ### enumerate of a tuple -/
theorem meets_enum1 {v : Value} {ob : Obj} {Hh : Heap → Prop} (B : Begins v ob Hh) :
    Meets (Builtin.«enumerate.__new__» ⟨[.type "enumerate", v], []⟩) (fun _ Rr st => Hh st.heap ∧
      Rr (.ok (.ret (.ref (st.heap.push ob).objs.size))) { st with heap := (st.heap.push ob).push { cls := .type "enumerate", data := .fields #[.none, .bool false, .ref st.heap.objs.size, rawInt 0, .none, .none] } }) :=
  .of_wp fun prog w A Rr st h => by
    obtain ⟨hq, gg, dd, tk, os⟩ := st
    obtain ⟨h1, h⟩ := h
    have hsub := sub_enumerate
    have q1 : ∀ {A' : Around} {E : Value → Shared → Prop} {Q : Value → Shared → Prop}, Q (.ref hq.objs.size) ⟨hq.push ob, gg, dd, tk, os⟩ → wpAny (model prog w) A' (pyIter v) Q E ⟨hq, gg, dd, tk, os⟩ :=
      fun q => B.iter prog w _ _ ⟨hq, gg, dd, tk, os⟩ _ h1 q
    wp_walk using q1
    refine wpAny_stack_any fun stk => wpAny_pure ?_
    split
    · rename_i cc _ _ _ _ _
      cases (cc == Value.type "enumerate") <;> (wp_walk using q1; exact ⟨_, rfl, h⟩)
    · (wp_walk using q1; exact ⟨_, rfl, h⟩)
theorem enum1_begins {prog : Program} {w : World} {A : Around} {E : Value → Shared → Prop} {s : Shared} {v : Value} {ob : Obj} {Hh : Heap → Prop} {Q : Value → Shared → Prop} (B : Begins v ob Hh) (h1 : Hh s.heap)
    (h : ∀ h', IsEnum h' (s.heap.objs.size + 1) s.heap.objs.size 0 .none → h'.get? s.heap.objs.size = some ob → h'.objs.size = s.heap.objs.size + 2 →
      (∀ b u, s.heap.get? b = some u → h'.get? b = some u) → Q (.ref (s.heap.objs.size + 1)) { s with heap := h' }) :
    wpAny (model prog w) A (call (.type "enumerate") [v]) Q E s := by
  refine callType_new F.called_enumerate (by decide) (F.typeCall_enumerate_1 _) (F.newCall_enumerate_1 _) (fun obj => F.args_object_init_2 obj _) F.entry_enumerate_new (meets_enum1 B) ⟨h1, ?_⟩
  have hz : (s.heap.push ob).objs.size = s.heap.objs.size + 1 := Heap.size_push ..
  rw [hz]
  have he := Heap.get?_push_size (s.heap.push ob) (o := { cls := .type "enumerate", data := .fields #[.none, .bool false, .ref s.heap.objs.size, rawInt 0, .none, .none] }) rfl
  rw [hz] at he
  exact ⟨⟨_, he, rfl⟩, h _ he (Heap.get?_push_of_some _ (Heap.get?_push_size _ B.free)) (by rw [Heap.size_push, hz]) fun b u x => Heap.get?_push_of_some _ (Heap.get?_push_of_some _ x)⟩
/-- the tuple at a, its items in new pairs with their places -/
def IteT (K : PySem.W.Frag) (a : Addr) : It :=
  ⟨fun i H => ∃ (xs : List V) (x : V), SqT K H a xs ∧ xs[i]? = some x, fun i H v H' => ∃ T x, v = .ref T ∧ H T = none ∧ H' = upd H T (.tup [.int (i : Nat), x]) ∧ ∀ xs, SqT K H a xs → xs[i]? = some x,
   fun i H => ∃ xs : List V, SqT K H a xs ∧ xs.length = i⟩
theorem turn_enumT {P : Program} {w : World} {K : PySem.W.Frag} {elts : List Expr} {kk : Nat} {tpos : Pos} (a e it : Addr) :
    Turn P w K (.Tuple elts kk tpos) (IteT K a) [e, it] e (fun i h => (∃ old, IsEnum h e it ((0 : Int) + (i : Nat)) old) ∧ h.IsTupleIter it a i ∧ e ≠ it ∧ a ≠ it ∧ a ≠ e) where
  mem := by simp
  obj := fun i h st b hb => by
    obtain ⟨⟨old, he⟩, ⟨o, ho, hc, hd⟩, _⟩ := st
    rcases List.mem_cons.mp hb with z | hb
    · subst z; exact ⟨_, he, fun v q => nomatch q⟩
    · obtain rfl : b = it := by simpa using hb
      exact ⟨o, ho, fun v q => by rw [hd] at q; cases q⟩
  keep := fun i h h' st k => ⟨⟨st.1.choose, k e (by simp) _ st.1.choose_spec⟩, st.2.1.at fun o q => k it (by simp) o q, st.2.2⟩
  item := by
    intro X hP hw hK hc i pins s σ H E I hf st hg
    subst hP hw hK
    obtain ⟨⟨old, he⟩, hit, hne, ha1, ha2⟩ := st
    obtain ⟨xs, x, hq, hx⟩ := hg
    obtain ⟨its, rv, p, hz⟩ := I.tuple hq
    obtain ⟨u, hu, ru⟩ := rv.get hx
    have hi : i < its.toArray.size := by
      have := (List.getElem?_eq_some_iff.mp hu).1
      simpa using this
    have DT := Draws.tuple (prog := X.prog) (w := X.w) (A := X.A.in1) (I.ok.hd hc) it a ha1 its.toArray
    have GN := GoesN.enumFrom (elts := elts) (x1 := kk) (pos := tpos) 0 DT e hne (by simp [hne, Ne.symm ha2]) (by simp)
    refine wpAny_mono (GN.goes i s (fun v s' => ∃ x' H', L2.Inv X pins σ H' s' ∧ L2.RelV x' v ∧ (IteT X.K a).yld i H x' H' ∧ ((∃ old, IsEnum s'.heap e it ((0 : Int) + ((i + 1 : Nat))) old) ∧ s'.heap.IsTupleIter it a (i + 1) ∧ e ≠ it ∧ a ≠ it ∧ a ≠ e) ∧ ∀ b ∈ [e, it], H' b = none) E hi ⟨⟨old, he⟩, hit, show s.heap.IsTuple a its.toArray from p⟩ ?_) (fun r s1 h => h) fun _ _ z => z
    rintro v h' tk ⟨T, t, y, rfl, hT, hy, o, ho, hcl, n, hd⟩ ⟨hE, hit', _⟩ hk htk
    obtain rfl : y = u := by
      have hy' : its[i]? = some y := by simpa using hy
      rw [hu] at hy'; exact (Option.some.inj hy').symm
    have nH : H T = none := I.hok.fresh hT
    have new : ObjOk X.prog X.w (upd H T (.tup [.int (i : Nat), x])) h' T (.tup [.int (i : Nat), x]) :=
      ⟨by show 2 ≤ sizeLine; decide, [.int (0 + (i : Int)) t, y], .cons ⟨t, by rw [Int.zero_add]⟩ (.cons ru .nil), ⟨o, ho, hcl, n, by simpa using hd⟩⟩
    have hel : e < s.heap.objs.size := Heap.lt_size he
    have hil : it < s.heap.objs.size := by obtain ⟨_, q, _⟩ := hit; exact Heap.lt_size q
    refine ⟨.ref T, upd H T (.tup [.int (i : Nat), x]), I.turnedNew (ch := [e, it]) (fun b ob hb q => hk b ob (by simpa using hb) q) hf hT new, rfl, ⟨T, x, rfl, nH, rfl, fun ys hy => by rw [I.tuple_inj hy hq]; exact hx⟩, ⟨hE, hit', hne, ha1, ha2⟩, fun b hb => ?_⟩
    have hb' : b < s.heap.objs.size := by
      rcases List.mem_cons.mp hb with z | hb
      · rw [z]; exact hel
      · obtain rfl : b = it := by simpa using hb
        exact hil
    rw [upd_ne (Nat.ne_of_lt (Nat.lt_of_lt_of_le hb' hT))]
    exact (hf b hb).1
  done := by
    intro X hP hw hK hc i pins s σ H E I hf st hg
    subst hP hw hK
    obtain ⟨⟨old, he⟩, hit, hne, ha1, ha2⟩ := st
    obtain ⟨xs, hq, hx⟩ := hg
    obtain ⟨its, rv, p, hz⟩ := I.tuple hq
    have hl := rv.length
    have DT := Draws.tuple (prog := X.prog) (w := X.w) (A := X.A.in1) (I.ok.hd hc) it a ha1 its.toArray
    have ei : its.toArray.size = i := by rw [List.size_toArray]; omega
    obtain ⟨f0, f1, f2, f3, f4, f5⟩ := hf it (by simp)
    exact wpAny_pyNext_enum_endD DT he ⟨by rw [ei]; exact hit, show s.heap.IsTuple a its.toArray from p⟩ fun h' eb => ⟨rfl, I.turned (t' := s.toks) (fun b ob hb q => eb b ob hb q) f0 f1 f3 f4 f5⟩
  self := fun A i s Q E st h => let ⟨⟨_, he⟩, _⟩ := st; wpAny_pyIter_enum he h
def iEnumA (K : PySem.W.Frag) (ta : TA) : TI := fun σ H R => ta σ H fun vs H1 => ∃ a xs, vs = [.ref a] ∧ ((SqL K H1 a xs ∧ R (Ite K a) H1) ∨ (SqT K H1 a xs ∧ R (IteT K a) H1))
theorem pi_enumA {X : Cx} {e : Expr} {ta : TA} {p pos tpos : Pos} {elts : List Expr} {kk : Nat} (hg : Gl X "enumerate") (hm : X.mg "enumerate" = none) (ha : PA X [e] ta) (hs : starEach [e] X.env = [(false, eval e X.env)] := by rfl) :
    PI X (.Tuple elts kk tpos) (.Call (.Name "enumerate" p) [e] [] pos) (iEnumA X.K ta) := by
  refine ⟨fun pins s σ H R I h => ?_⟩
  refine Call_ (ld_blt I hg hm boot_enumerate (PyProof.Rows.callWith_type1 (thn (ha.run pos pins s σ H _ I h) fun us s1 ⟨vs, H1, I1, r1, q1⟩ => ?_) hs rfl))
  obtain ⟨a, xs, rfl, q⟩ := q1
  obtain ⟨u, rfl, r⟩ := vals1 r1
  cases r
  have fr : ∀ b, s1.heap.objs.size ≤ b → FpOk X pins H1 b := fun b hb => I1.fpOk hb (I1.hok.fresh hb)
  rcases q with ⟨hq, q⟩ | ⟨hq, q⟩
  · obtain ⟨its, rv, p', hz⟩ := I1.list hq
    refine call_enumerate_list p'.isList fun h' he hit hsz hk => wpAny_pyIter_enum he ?_
    refine ⟨s1.heap.objs.size + 1, [s1.heap.objs.size + 1, s1.heap.objs.size], _, _, H1, rfl, I1.kept (t' := s1.toks) hk, turn_enum a _ _, ⟨⟨.none, he⟩, hit, Nat.succ_ne_self _⟩, fun b hb => fr b ?_, q⟩
    rcases List.mem_cons.mp hb with z | hb
    · rw [z]; exact Nat.le_succ _
    · obtain rfl : b = s1.heap.objs.size := by simpa using hb
      exact Nat.le_refl _
  · obtain ⟨its, rv, p', hz⟩ := I1.tuple hq
    obtain ⟨oo, hoo, _⟩ := id p'
    have hlt := Heap.lt_size hoo
    refine enum1_begins (begins_tuple a its.toArray) p' fun h' he hit hsz hk => wpAny_pyIter_enum he ?_
    refine ⟨s1.heap.objs.size + 1, [s1.heap.objs.size + 1, s1.heap.objs.size], _, _, H1, rfl, I1.kept (t' := s1.toks) hk, turn_enumT a _ _, ⟨⟨.none, he⟩, ⟨_, hit, rfl, rfl⟩, Nat.succ_ne_self _, Nat.ne_of_lt hlt, Nat.ne_of_lt (Nat.lt_succ_of_lt hlt)⟩, fun b hb => fr b ?_, q⟩
    rcases List.mem_cons.mp hb with z | hb
    · rw [z]; exact Nat.le_succ _
    · obtain rfl : b = s1.heap.objs.size := by simpa using hb
      exact Nat.le_refl _

/-! ### what is walked, by data -/
/-- J walks the data ds, whatever is frozen further -/
structure WalkD (g : Gx) (K : PySem.W.Frag) (J : It) (F : Hp) (ds : List D) : Prop where
  go : ∀ i F1 H1 b, (∀ a o, F a = some o → F1 a = some o) → SRel g K [] F1 H1 [] b → i < ds.length → J.go i H1
  stop : ∀ F1 H1 b, (∀ a o, F a = some o → F1 a = some o) → SRel g K [] F1 H1 [] b → J.stop ds.length H1
  yld : ∀ i F1 H1 b x H2, (∀ a o, F a = some o → F1 a = some o) → SRel g K [] F1 H1 [] b → i < ds.length → J.yld i H1 x H2 → ∃ F2 d, ds[i]? = some d ∧ Grow g F1 H1 F2 H2 ∧ BagAt g.β b F2 H2 ∧ Dp K F2 x d
def tIt (g : Gx) (K : PySem.W.Frag) (W : WX) (Γ : List Sl) (m : M (List D)) : TI := fun σ H R =>
  ∃ (F : Hp) (b : Bag) (o : Res (List D)) (b' : Bag), SRel g K Γ F H σ b ∧ m b = some (o, b') ∧ XOk g K W σ F H o b' ∧
    ∀ ds, o = .ok ds → ∀ J H' F', Grow g F H F' H' → BagAt g.β b' F' H' → WalkD g K J F' ds → R J H'
def Itj (g : Gx) (X : Cx) (W : WX) (Γ : List Sl) (tg e : Expr) (m : M (List D)) : Prop := PI X tg e (tIt g X.K W Γ m)
theorem pi_imp {X : Cx} {tg e : Expr} {t t' : TI} (h : PI X tg e t) (k : ∀ σ H R, t' σ H R → t σ H R) : PI X tg e t' := ⟨fun pins s σ H R I q => h.run pins s σ H R I (k σ H R q)⟩
section
variable {g : Gx} {X : Cx} {W : WX} {Γ : List Sl} {n : Nat} {pos p tpos : Pos} {tg e e2 : Expr} {ma mc : M D} {elts : List Expr} {kk : Nat}
theorem walkD_list {K : PySem.W.Frag} {F : Hp} {a : Addr} {xs : List V} {ds : List D} (hs : SqL K F a xs) (hd : DpAll K F xs ds) : WalkD g K (Itl K a) F ds where
  go := fun i F1 H1 b e S hi => ⟨xs, xs[i]'(by rw [DpAll.length hd]; exact hi), SqL.grow (fun a o h => S.inn a o (e a o h)) hs, by simp [DpAll.length hd, hi]⟩
  stop := fun F1 H1 b e S => ⟨xs, SqL.grow (fun a o h => S.inn a o (e a o h)) hs, by rw [DpAll.length hd]; exact Nat.le_refl _⟩
  yld := fun i F1 H1 b x H2 e S hi y => by
    obtain ⟨rfl, y⟩ := y
    obtain ⟨d, h1, h2⟩ := DpAll.getV hd (y xs (SqL.grow (fun a o h => S.inn a o (e a o h)) hs))
    exact ⟨F1, d, h1, S.refl, S.bag, dp_grow e _ _ h2⟩
theorem walkD_tup {K : PySem.W.Frag} {F : Hp} {a : Addr} {xs : List V} {ds : List D} (hs : SqT K F a xs) (hd : DpAll K F xs ds) : WalkD g K (Itt K a) F ds where
  go := fun i F1 H1 b e S hi => ⟨xs, xs[i]'(by rw [DpAll.length hd]; exact hi), SqT.grow (fun a o h => S.inn a o (e a o h)) hs, by simp [DpAll.length hd, hi]⟩
  stop := fun F1 H1 b e S => ⟨xs, SqT.grow (fun a o h => S.inn a o (e a o h)) hs, by rw [DpAll.length hd]; exact Nat.le_refl _⟩
  yld := fun i F1 H1 b x H2 e S hi y => by
    obtain ⟨rfl, y⟩ := y
    obtain ⟨d, h1, h2⟩ := DpAll.getV hd (y xs (SqT.grow (fun a o h => S.inn a o (e a o h)) hs))
    exact ⟨F1, d, h1, S.refl, S.bag, dp_grow e _ _ h2⟩
/-- lo, lo + 1, .. -/
def rangeD (lo : Int) (n : Nat) : List D := (List.range n).map fun (i : Nat) => PyData.int (lo + i)
theorem walkD_range {K : PySem.W.Frag} {F : Hp} {lo : Int} {n : Nat} : WalkD g K (Itr lo n) F (rangeD lo n) where
  go := fun i F1 H1 b e S hi => by
    have h : i < n := by simpa [rangeD] using hi
    exact h
  stop := fun F1 H1 b e S => by show n ≤ _; simp [rangeD]
  yld := fun i F1 H1 b x H2 e S hi y => by
    obtain ⟨rfl, rfl⟩ := y
    have hi' : i < n := by simpa [rangeD] using hi
    exact ⟨F1, .int (lo + i), by simp [rangeD, hi'], S.refl, S.bag, .int _⟩
/-- a new pair -/
theorem new_pair {K : PySem.W.Frag} {F H : Hp} {b : Bag} {T : Addr} {v w : V} {d c : D} (S : SRel g K [] F H [] b) (hT : H T = none) (h1 : Dp K F v d) (h2 : Dp K F w c) :
    Grow g F H (upd F T (.tup [v, w])) (upd H T (.tup [v, w])) ∧ BagAt g.β b (upd F T (.tup [v, w])) (upd H T (.tup [v, w])) ∧ Dp K (upd F T (.tup [v, w])) (.ref T) (.tuple [d, c]) :=
  new_tup S hT (.cons h1 (.cons h2 .nil))
def enumD (ds : List D) : List D := ds.zipIdx.map fun p => PyData.tuple [.int (p.2 : Nat), p.1]
theorem enumD_len (ds : List D) : (enumD ds).length = ds.length := by simp [enumD]
theorem enumD_at {ds : List D} {i : Nat} {d : D} (h : ds[i]? = some d) : (enumD ds)[i]? = some (.tuple [.int (i : Nat), d]) := by
  simp [enumD, List.getElem?_zipIdx, h]
theorem walkD_enumL {K : PySem.W.Frag} {F : Hp} {a : Addr} {xs : List V} {ds : List D} (hs : SqL K F a xs) (hd : DpAll K F xs ds) : WalkD g K (Ite K a) F (enumD ds) where
  go := fun i F1 H1 b e S hi => by
    rw [enumD_len] at hi
    exact ⟨xs, xs[i]'(by rw [DpAll.length hd]; exact hi), SqL.grow (fun a o h => S.inn a o (e a o h)) hs, by simp [DpAll.length hd, hi]⟩
  stop := fun F1 H1 b e S => ⟨xs, SqL.grow (fun a o h => S.inn a o (e a o h)) hs, by rw [DpAll.length hd, enumD_len]; exact Nat.le_refl _⟩
  yld := fun i F1 H1 b x H2 e S hi y => by
    obtain ⟨T, z, rfl, hT, rfl, y⟩ := y
    obtain ⟨d, h1, h2⟩ := DpAll.getV hd (y xs (SqL.grow (fun a o h => S.inn a o (e a o h)) hs))
    obtain ⟨G, B, r⟩ := new_pair S hT (.int (i : Nat)) (dp_grow e _ _ h2)
    exact ⟨_, _, enumD_at h1, G, B, r⟩
theorem walkD_enumT {K : PySem.W.Frag} {F : Hp} {a : Addr} {xs : List V} {ds : List D} (hs : SqT K F a xs) (hd : DpAll K F xs ds) : WalkD g K (IteT K a) F (enumD ds) where
  go := fun i F1 H1 b e S hi => by
    rw [enumD_len] at hi
    exact ⟨xs, xs[i]'(by rw [DpAll.length hd]; exact hi), SqT.grow (fun a o h => S.inn a o (e a o h)) hs, by simp [DpAll.length hd, hi]⟩
  stop := fun F1 H1 b e S => ⟨xs, SqT.grow (fun a o h => S.inn a o (e a o h)) hs, by rw [DpAll.length hd, enumD_len]⟩
  yld := fun i F1 H1 b x H2 e S hi y => by
    obtain ⟨T, z, rfl, hT, rfl, y⟩ := y
    obtain ⟨d, h1, h2⟩ := DpAll.getV hd (y xs (SqT.grow (fun a o h => S.inn a o (e a o h)) hs))
    obtain ⟨G, B, r⟩ := new_pair S hT (.int (i : Nat)) (dp_grow e _ _ h2)
    exact ⟨_, _, enumD_at h1, G, B, r⟩
def zipD (ds es : List D) : List D := (ds.zip es).map fun p => PyData.tuple [p.1, p.2]
theorem zipD_len (ds es : List D) : (zipD ds es).length = min ds.length es.length := by simp [zipD]
theorem zipD_at {ds es : List D} {i : Nat} {d e : D} (h : ds[i]? = some d) (h' : es[i]? = some e) : (zipD ds es)[i]? = some (.tuple [d, e]) := by
  simp [zipD, List.getElem?_zip_eq_some, h, h']
theorem walkD_zipT {K : PySem.W.Frag} {F : Hp} {a c : Addr} {xs ys : List V} {ds es : List D} (hs : SqT K F a xs) (hd : DpAll K F xs ds) (hs2 : SqT K F c ys) (hd2 : DpAll K F ys es) : WalkD g K (RZ.ItzT K a c) F (zipD ds es) where
  go := fun i F1 H1 b e S hi => by
    rw [zipD_len] at hi
    have h1 : i < xs.length := by rw [DpAll.length hd]; omega
    have h2 : i < ys.length := by rw [DpAll.length hd2]; omega
    exact ⟨xs, ys, xs[i], ys[i], SqT.grow (fun a o h => S.inn a o (e a o h)) hs, SqT.grow (fun a o h => S.inn a o (e a o h)) hs2, by simp [h1], by simp [h2]⟩
  stop := fun F1 H1 b e S => ⟨xs, ys, SqT.grow (fun a o h => S.inn a o (e a o h)) hs, SqT.grow (fun a o h => S.inn a o (e a o h)) hs2, by rw [DpAll.length hd, DpAll.length hd2, zipD_len]; omega⟩
  yld := fun i F1 H1 b x H2 e S hi y => by
    obtain ⟨T, z, z', rfl, hT, rfl, y1, y2⟩ := y
    obtain ⟨d, h1, h2⟩ := DpAll.getV hd (y1 xs (SqT.grow (fun a o h => S.inn a o (e a o h)) hs))
    obtain ⟨d', h1', h2'⟩ := DpAll.getV hd2 (y2 ys (SqT.grow (fun a o h => S.inn a o (e a o h)) hs2))
    obtain ⟨G, B, r⟩ := new_pair S hT (dp_grow e _ _ h2) (dp_grow e _ _ h2')
    exact ⟨_, _, zipD_at h1 h1', G, B, r⟩
theorem walkD_zipL {K : PySem.W.Frag} {F : Hp} {a c : Addr} {xs ys : List V} {ds es : List D} (hs : SqL K F a xs) (hd : DpAll K F xs ds) (hs2 : SqL K F c ys) (hd2 : DpAll K F ys es) : WalkD g K (Itz K a c) F (zipD ds es) where
  go := fun i F1 H1 b e S hi => by
    rw [zipD_len] at hi
    have h1 : i < xs.length := by rw [DpAll.length hd]; omega
    have h2 : i < ys.length := by rw [DpAll.length hd2]; omega
    exact ⟨xs, ys, xs[i], ys[i], SqL.grow (fun a o h => S.inn a o (e a o h)) hs, SqL.grow (fun a o h => S.inn a o (e a o h)) hs2, by simp [h1], by simp [h2]⟩
  stop := fun F1 H1 b e S => ⟨xs, ys, SqL.grow (fun a o h => S.inn a o (e a o h)) hs, SqL.grow (fun a o h => S.inn a o (e a o h)) hs2, by rw [DpAll.length hd, DpAll.length hd2, zipD_len]; omega⟩
  yld := fun i F1 H1 b x H2 e S hi y => by
    obtain ⟨T, z, z', rfl, hT, rfl, y1, y2⟩ := y
    obtain ⟨d, h1, h2⟩ := DpAll.getV hd (y1 xs (SqL.grow (fun a o h => S.inn a o (e a o h)) hs))
    obtain ⟨d', h1', h2'⟩ := DpAll.getV hd2 (y2 ys (SqL.grow (fun a o h => S.inn a o (e a o h)) hs2))
    obtain ⟨G, B, r⟩ := new_pair S hT (dp_grow e _ _ h2) (dp_grow e _ _ h2')
    exact ⟨_, _, zipD_at h1 h1', G, B, r⟩

/-! ### iterables -/
/-- a list or a tuple -/
def iSeq (K : PySem.W.Frag) (tl : TE) : TI := fun σ H R => tl σ H fun x H1 => ∃ a xs, x = .ref a ∧ ((SqL K H1 a xs ∧ R (Itl K a) H1) ∨ (SqT K H1 a xs ∧ R (Itt K a) H1))
theorem pi_seq {l : Expr} {tl : TE} (hl : PE X l tl) : PI X tg l (iSeq X.K tl) := by
  refine ⟨fun pins s σ H R I h => thn (hl.run pins s σ H _ I h) fun v s1 ⟨x, H1, I1, r1, a, xs, e, q⟩ => ?_⟩
  subst e
  cases r1
  have fr : ∀ b ∈ [s1.heap.objs.size], FpOk X pins H1 b := fun b hb => by
    obtain rfl : b = s1.heap.objs.size := by simpa using hb
    exact I1.fpOk (Nat.le_refl _) (I1.hok.fresh (Nat.le_refl _))
  rcases q with ⟨hq, q⟩ | ⟨hq, q⟩
  · obtain ⟨its, rv, p, hz⟩ := I1.list hq
    refine wpAny_pyIter_list p.isList ?_
    exact ⟨_, [s1.heap.objs.size], _, _, H1, rfl, I1.kept (t' := s1.toks) fun b o e => Heap.get?_push_of_some _ e, turn_list a _, ⟨_, Heap.get?_push_size _ rfl, rfl, rfl⟩, fr, q⟩
  · obtain ⟨its, rv, p, hz⟩ := I1.tuple hq
    refine wpAny_pyIter_tuple (show s1.heap.IsTuple a its.toArray from p) ?_
    exact ⟨_, [s1.heap.objs.size], _, _, H1, rfl, I1.kept (t' := s1.toks) fun b o e => Heap.get?_push_of_some _ e, turn_tuple a _, ⟨_, Heap.get?_push_size _ rfl, rfl, rfl⟩, fr, q⟩
theorem seqOf_some {d : D} {α : Type} {f : List D → M α} {b b' : Bag} {o : Res α} (h : M.bind (seqOf d) f b = some (o, b')) : (∃ xs, d = .list xs ∧ f xs b = some (o, b')) ∨ (∃ xs, d = .tuple xs ∧ f xs b = some (o, b')) := by
  cases d <;> first | (cases h; done) | exact .inl ⟨_, rfl, h⟩ | exact .inr ⟨_, rfl, h⟩
theorem xres {α β : Type} {K : PySem.W.Frag} {σ : L2.St} {F H : Hp} {b' : Bag} {r : Res α} {o : Res β} (x : XOk g K W σ F H o b') (h : ∀ c y, r = .exc c y → o = .exc c y) : XOk g K W σ F H r b' := by
  cases r with
  | ok a => trivial
  | exc c y => rw [h c y rfl] at x; exact x
/-- a list or a tuple of data -/
theorem it_seq (ha : Ev g X W Γ e ma) : Itj g X W Γ tg e (M.bind ma seqOf) :=
  pi_imp (pi_seq ha) fun σ H R ⟨F, b, o, b', S, hm, x, q⟩ => by
    refine tEv_bind S hm x fun d b1 v H1 F1 _ h1 S1 G1 x1 r1 => ?_
    cases r1 with
    | @lst a xs ds hs hd =>
      cases h1
      exact ⟨a, xs, rfl, .inl ⟨SqL.grow S1.inn hs, q ds rfl _ H1 F1 G1 S1.bag (walkD_list hs hd)⟩⟩
    | @tup a xs ds hs hd =>
      cases h1
      exact ⟨a, xs, rfl, .inr ⟨SqT.grow S1.inn hs, q ds rfl _ H1 F1 G1 S1.bag (walkD_tup hs hd)⟩⟩
    | _ => cases h1
def big : Nat := 1152921504606846976
def rng1 (d : D) : M (List D) := match d with
  | .int j => M.ite (Nat.ble j.natAbs big) (M.ret (rangeD 0 j.toNat)) M.fail
  | _ => M.fail
def rng2 (d c : D) : M (List D) := match d, c with
  | .int i, .int j => M.ite (Nat.ble i.natAbs big && Nat.ble j.natAbs big) (M.ret (rangeD i (j - i).toNat)) M.fail
  | _, _ => M.fail
theorem it_range1 (hg : Gl X "range") (hm : X.mg "range" = none) (ha : Ev g X W Γ e ma) (h1 : starEach [e] X.env = (false, eval e X.env) :: starEach [] X.env := by rfl) (hs : starEach [e] X.env = [(false, eval e X.env)] := by rfl) :
    Itj g X W Γ tg (.Call (.Name "range" p) [e] [] pos) (M.bind ma rng1) :=
  pi_imp (pi_range1 hg hm (pa_cons ha pa_nil h1) hs) fun σ H R ⟨F, b, o, b', S, hm, x, q⟩ => by
    refine tEv_bind S hm x fun d b1 v H1 F1 _ h1 S1 G1 x1 r1 => ?_
    obtain ⟨j, rfl⟩ : ∃ j, d = .int j := by cases d <;> first | (cases h1; done) | exact ⟨_, rfl⟩
    cases r1
    obtain ⟨hc, h1⟩ := ite_some h1
    cases h1
    have hj := Nat.le_of_ble_eq_true hc
    have hb : big = 1152921504606846976 := rfl
    exact ⟨j, rfl, by omega, by omega, q _ rfl _ H1 F1 G1 S1.bag walkD_range⟩
theorem it_range2 (hg : Gl X "range") (hm : X.mg "range" = none) (ha : Ev g X W Γ e ma) (hc : Ev g X W Γ e2 mc) (h1 : starEach [e, e2] X.env = (false, eval e X.env) :: starEach [e2] X.env := by rfl) (h2 : starEach [e2] X.env = (false, eval e2 X.env) :: starEach [] X.env := by rfl)
    (h3 : starEach [e, e2] X.env = [(false, eval e X.env), (false, eval e2 X.env)] := by rfl) (h4 : starEach [e2] X.env = [(false, eval e2 X.env)] := by rfl) :
    Itj g X W Γ tg (.Call (.Name "range" p) [e, e2] [] pos) (M.bind ma fun d => M.bind mc fun c => rng2 d c) :=
  pi_imp (pi_range2 hg hm (pa_cons ha (pa_cons hc pa_nil h2) h1) h3 h4) fun σ H R ⟨F, b, o, b', S, hm, x, q⟩ => by
    refine tEv_bind S hm x fun d b1 v H1 F1 _ h1 S1 G1 x1 r1 => ?_
    refine tEv_bind S1 h1 x1 fun d2 b2 v2 H2 F2 _ h2 S2 G2 x2 r2 => ?_
    obtain ⟨i, j, rfl, rfl⟩ : ∃ i j, d = .int i ∧ d2 = .int j := by cases d <;> cases d2 <;> first | (cases h2; done) | exact ⟨_, _, rfl, rfl⟩
    cases r1
    cases r2
    obtain ⟨hc, h2⟩ := ite_some h2
    simp only [Bool.and_eq_true] at hc
    cases h2
    have hi := Nat.le_of_ble_eq_true hc.1
    have hj := Nat.le_of_ble_eq_true hc.2
    have hb : big = 1152921504606846976 := rfl
    exact ⟨i, j, rfl, ⟨by omega, by omega, by omega, by omega⟩, q _ rfl _ H2 F2 (G1.trans G2) S2.bag walkD_range⟩
theorem it_enum (hg : Gl X "enumerate") (hm : X.mg "enumerate" = none) (ha : Ev g X W Γ e ma) (h1 : starEach [e] X.env = (false, eval e X.env) :: starEach [] X.env := by rfl) (hs : starEach [e] X.env = [(false, eval e X.env)] := by rfl) :
    Itj g X W Γ (.Tuple elts kk tpos) (.Call (.Name "enumerate" p) [e] [] pos) (M.bind ma fun d => M.bind (seqOf d) fun xs => M.ret (enumD xs)) :=
  pi_imp (pi_enumA hg hm (pa_cons ha pa_nil h1) hs) fun σ H R ⟨F, b, o, b', S, hm, x, q⟩ => by
    refine tEv_bind S hm x fun d b1 v H1 F1 _ h1 S1 G1 x1 r1 => ?_
    cases r1 with
    | @lst a xs ds hs hd =>
      cases h1
      exact ⟨a, xs, rfl, .inl ⟨SqL.grow S1.inn hs, q _ rfl _ H1 F1 G1 S1.bag (walkD_enumL hs hd)⟩⟩
    | @tup a xs ds hs hd =>
      cases h1
      exact ⟨a, xs, rfl, .inr ⟨SqT.grow S1.inn hs, q _ rfl _ H1 F1 G1 S1.bag (walkD_enumT hs hd)⟩⟩
    | _ => cases h1
/-- zip of two tuples, or of two lists -/
def zip2 (d c : D) : M (List D) := match d, c with
  | .tuple xs, .tuple ys => M.ret (zipD xs ys)
  | .list xs, .list ys => M.ret (zipD xs ys)
  | _, _ => M.fail
theorem it_zip (hg : Gl X "zip") (hm : X.mg "zip" = none) (ha : Ev g X W Γ e ma) (hc : Ev g X W Γ e2 mc) (h1 : starEach [e, e2] X.env = (false, eval e X.env) :: starEach [e2] X.env := by rfl) (h2 : starEach [e2] X.env = (false, eval e2 X.env) :: starEach [] X.env := by rfl)
    (hpl : (backTo pos (starEach [e2] X.env)).any (·.1) = false := by rfl) :
    Itj g X W Γ (.Tuple elts kk tpos) (.Call (.Name "zip" p) [e, e2] [] pos) (M.bind ma fun d => M.bind mc fun c => zip2 d c) :=
  pi_imp (RZ.pi_zipA hg hm (pa_cons ha (pa_cons hc pa_nil h2) h1) h1 hpl) fun σ H R ⟨F, b, o, b', S, hm, x, q⟩ => by
    refine tEv_bind S hm x fun d b1 v H1 F1 _ h1 S1 G1 x1 r1 => ?_
    refine tEv_bind S1 h1 x1 fun d2 b2 v2 H2 F2 _ h2 S2 G2 x2 r2 => ?_
    cases r1 with
    | @lst a xs ds hs hd =>
      cases r2 with
      | @lst a' xs' ds' hs' hd' =>
        cases h2
        have hs := SqL.grow G2.sub hs
        exact ⟨a, a', xs, xs', rfl, .inl ⟨SqL.grow S2.inn hs, SqL.grow S2.inn hs', q _ rfl _ H2 F2 (G1.trans G2) S2.bag (walkD_zipL hs (G2.dpAll hd) hs' hd')⟩⟩
      | _ => cases h2
    | @tup a xs ds hs hd =>
      cases r2 with
      | @tup a' xs' ds' hs' hd' =>
        cases h2
        have hs := SqT.grow G2.sub hs
        exact ⟨a, a', xs, xs', rfl, .inr ⟨SqT.grow S2.inn hs, SqT.grow S2.inn hs', q _ rfl _ H2 F2 (G1.trans G2) S2.bag (walkD_zipT hs (G2.dpAll hd) hs' hd')⟩⟩
      | _ => cases h2
    | _ => cases h2
end
end GL
namespace GL
open PySem PySem.Spec PyProof.Rows L2 LamX

/-! ### targets -/
def setG (Γ : List Sl) : List Nat → List D → List Sl
  | i :: is, d :: ds => setG (Γ.set i (.d d)) is ds
  | _, _ => Γ
def setV (σ : L2.St) : List Nat → List V → L2.St
  | i :: is, v :: vs => setV (σ.set i (some v)) is vs
  | _, _ => σ
section
variable {g : Gx} {X : Cx} {W : WX} {E : XK} {Γ : List Sl} {n : Nat} {pos p tpos : Pos} {tg e e2 : Expr} {ma mc : M D}
theorem SRel.setG {K : PySem.W.Frag} {F H : Hp} {b : Bag} : ∀ {is : List Nat} {vs : List V} {ds : List D} {Γ : List Sl} {σ : L2.St}, SRel g K Γ F H σ b → DpAll K F vs ds → (∀ i ∈ is, i < Γ.length) → SRel g K (setG Γ is ds) F H (setV σ is vs) b
  | [], vs, ds, Γ, σ, R, hd, hi => by cases hd <;> exact R
  | i :: is, _, _, Γ, σ, R, .nil, hi => R
  | i :: is, _, _, Γ, σ, R, .cons h t, hi =>
    SRel.setG (is := is) (R.set (hi i List.mem_cons_self) ⟨_, rfl, h⟩ (fun xs e => by cases e)) t (fun j hj => by rw [List.length_set]; exact hi j (List.mem_cons_of_mem _ hj))
theorem OwnF.setG {H0 : Hp} {K : PySem.W.Frag} {F : Hp} : ∀ {is : List Nat} {vs : List V} {ds : List D} {Γ : List Sl} {σ : L2.St}, OwnF Γ σ H0 → DpAll K F vs ds → OwnF (setG Γ is ds) (setV σ is vs) H0
  | [], vs, ds, Γ, σ, o, hd => by cases hd <;> exact o
  | i :: is, _, _, Γ, σ, o, .nil => o
  | i :: is, _, _, Γ, σ, o, .cons h t => OwnF.setG (is := is) (o.set (fun xs p e => by cases e)) t
/-- the reading of a target: what it takes apart goes to the slots is -/
def tTg (g : Gx) (K : PySem.W.Frag) (is : List Nat) (un : D → Option (List D)) : TG := fun v σ H Q =>
  ∃ (F : Hp) (d : D) (ds : List D), (∀ a o, F a = some o → H a = some o) ∧ Dp K F v d ∧ un d = some ds ∧ ∀ vs, DpAll K F vs ds → Q (setV σ is vs) H
def Tg (g : Gx) (X : Cx) (tg : Expr) (is : List Nat) (un : D → Option (List D)) : Prop := PG X tg (tTg g X.K is un)
theorem pg_imp {X : Cx} {tg : Expr} {t t' : TG} (h : PG X tg t) (k : ∀ v σ H Q, t' v σ H Q → t v σ H Q) : PG X tg t' := ⟨fun pins s σ H v u Q I r q => h.run pins s σ H v u Q I r (k v σ H Q q)⟩
theorem pgs_imp {X : Cx} {tg : List Expr} {t t' : TGs} (h : PGs X tg t) (k : ∀ v σ H Q, t' v σ H Q → t v σ H Q) : PGs X tg t' := ⟨fun pins s σ H v u Q I r q => h.run pins s σ H v u Q I r (k v σ H Q q)⟩
def un1 (d : D) : Option (List D) := some [d]
def unT (n : Nat) (d : D) : Option (List D) := match d with
  | .tuple ds => if ds.length = n then some ds else none
  | _ => none
theorem tg_name {i : Nat} {x : Str} (hN : X.N.Nodup) (hi : X.N[i]? = some x) (hx : Loc X.env.scope x) (hf : X.fn x = true ∨ X.env.scope.names.lookup x = some .local := by first | exact .inl rfl | exact .inr rfl | assumption) : Tg g X (.Name x pos) [i] un1 :=
  pg_imp (pg_name hN hi hx hf) fun v σ H Q ⟨F, d, ds, hF, hd, hu, q⟩ => by
    cases hu
    exact q [v] (.cons hd .nil)
/-- names in a row -/
def tTgs (K : PySem.W.Frag) (is : List Nat) : TGs := fun vs σ H Q => vs.length = is.length ∧ Q (setV σ is vs) H
theorem tgs_nil : PGs X [] (tTgs X.K []) := pgs_imp pgs_nil fun vs σ H Q ⟨h, q⟩ => by
  cases vs with
  | nil => exact ⟨rfl, q⟩
  | cons v vs => cases h
theorem tgs_cons {i : Nat} {x : Str} {is : List Nat} {es : List Expr} (hN : X.N.Nodup) (hi : X.N[i]? = some x) (hx : Loc X.env.scope x) (hr : PGs X es (tTgs X.K is)) (hf : X.fn x = true ∨ X.env.scope.names.lookup x = some .local := by first | exact .inl rfl | exact .inr rfl | assumption)
    (hs : (assignEach (.Name x pos :: es) X.env).map (·.2) = assign (.Name x pos) X.env :: (assignEach es X.env).map (·.2) := by rfl) : PGs X (.Name x pos :: es) (tTgs X.K (i :: is)) :=
  pgs_imp (pgs_cons (pg_name hN hi hx hf) hr hs) fun vs σ H Q ⟨h, q⟩ => by
    cases vs with
    | nil => cases h
    | cons v vs => exact ⟨v, vs, rfl, by simpa using h, q⟩
theorem tg_tup {es : List Expr} {is : List Nat} {k : Nat} (hc : X.calm = true) (h : PGs X es (tTgs X.K is)) (hn : (assignEach es X.env).length = is.length := by rfl) (hst : (assignEach es X.env).findIdx? (·.1) = none := by rfl) : Tg g X (.Tuple es k pos) is (unT is.length) :=
  pg_imp (pg_tup (n := is.length) hc h hn hst) fun v σ H Q ⟨F, d, ds, hF, hd, hu, q⟩ => by
    unfold unT at hu
    split at hu
    · rename_i ds'
      split at hu
      · rename_i hl
        cases hu
        cases hd with
        | tup hs ha => exact ⟨_, _, rfl, SqT.grow hF hs, by rw [DpAll.length ha]; exact hl, by rw [DpAll.length ha]; exact hl, q _ ha⟩
      · cases hu
    · cases hu

theorem xok_ex {α β : Type} {K : PySem.W.Frag} {σ σ' : L2.St} {F H : Hp} {b' : Bag} {c : String} {y : D} (x : XOk g K (WK E) σ F H (Res.exc c y : Res α) b') : XOk g K (WK E) σ' F H (Res.exc c y : Res β) b' := x
/-! ### for -/
variable {S : Type} {sh : S → List Sl} {rest body : List Stmt}
def forO {S : Type} (f : D → S → M (Out S)) : List D → S → M (Out S)
  | [], s => M.ret (.nx s)
  | d :: ds, s => M.bind (f d s) fun r => match r with
    | .nx s' => forO f ds s'
    | .rt x => M.ret (.rt x)
theorem Grow.le {F H F' H' : Hp} (G : Grow g F H F' H') : ∀ a o, F a = some o → F' a = some o := G.sub
theorem sj_forG {is : List Nat} {un : D → Option (List D)} {mi : M (List D)} {f : List D → S → M (Out S)} {s0 : S} (C : Cg g X (WK E) n) (hi : Itj g X (WK E) Γ tg e mi) (ht : Tg g X tg is un) (hw : Wk (sh s0) Γ) (hl : ∀ s, ∀ i ∈ is, i < (sh s).length)
    (hb : ∀ ds s, Bj g X E (setG (sh s) is ds) body sh (f ds s)) (hs : ∀ x, foldedSetIterable e X.env x = pure x := by intro _; rfl) :
    Sj g X E Γ (.For tg e body [] pos) sh (M.bind mi fun xs => forO (fun d s => M.bind (M.lift (un d)) fun ds => f ds s) xs s0) := by
  refine ps_imp (ps_for C.pas C.calm hi ht (pss_ex fun ds => pss_ex fun s => hb ds s) hs) fun D σ H ⟨F0, H0, Fl, F, b, o, b', G, R, ow, hm, x, q⟩ => ?_
  unfold M.bind at hm
  cases e1 : mi b with
  | none => rw [e1] at hm; cases hm
  | some r =>
    obtain ⟨r, b1⟩ := r
    rw [e1] at hm
    cases r with
    | exc c y =>
      have hm : (Res.exc c y, b1) = (o, b') := Option.some.inj hm
      cases hm
      exact ⟨F, b, _, _, R, e1, xok_ex (x.grow G.gr), fun ds z => by cases z⟩
    | ok xs =>
      refine ⟨F, b, _, _, R, e1, trivial, fun ds z J H1 F1 G1 B1 WD => ?_⟩
      cases z
      have R1 := R.grow G1 B1
      -- the state told by sh s0
      have Rw : SRel g X.K (sh s0) F1 H1 σ b1 := ⟨R1.inn, R1.sor, fun i s' ei => by
          rcases hw.at i s' ei with z | z
          · subst z
            have hl : i < Γ.length := by rw [← hw.len]; exact (List.getElem?_eq_some_iff.mp ei).1
            obtain ⟨o', h1, _⟩ := R1.slot i _ (List.getElem?_eq_getElem hl)
            exact ⟨o', h1, trivial⟩
          · exact R1.slot i s' z, fun i j ys zs v a1 a2 a3 a4 => R1.dist i j ys zs v ((hw.at i _ a1).resolve_left (fun z => by cases z)) ((hw.at j _ a2).resolve_left (fun z => by cases z)) a3 a4, R1.bag, R1.tab⟩
      have oww : OwnF (sh s0) σ H0 := fun i ys p a1 a2 => ow i ys p ((hw.at i _ a1).resolve_left (fun z => by cases z)) a2
      refine ⟨fun i m σ H => m = xs.length - i ∧ i ≤ xs.length ∧ ∃ s F2 b2, GrowL g F0 H0 Fl F2 H ∧ (∀ a u, F1 a = some u → F2 a = some u) ∧ SRel g X.K (sh s) F2 H σ b2 ∧ OwnF (sh s) σ H0 ∧ forO (fun d s => M.bind (M.lift (un d)) fun ds => f ds s) (xs.drop i) s b2 = some (o, b'),
        ⟨_, rfl, Nat.zero_le _, s0, F1, b1, G.trans G1, fun a u h => h, Rw, oww, hm⟩, ?_⟩
      rintro i m σ2 H2 ⟨rfl, hi2, s, F2, b2, G2, le2, R2, ow2, hm2⟩
      by_cases hlt : i < xs.length
      · refine .inr ⟨WD.go i F2 H2 b2 le2 R2.nil hlt, _, fun σ' H' h => h, fun v H3 hy => ?_⟩
        obtain ⟨F3, d, hd1, G3, B3, rd⟩ := WD.yld i F2 H2 b2 v H3 le2 R2.nil hlt hy
        have edrop : xs.drop i = d :: xs.drop (i + 1) := by
          rw [List.drop_eq_getElem_cons hlt]
          congr 1
          rw [List.getElem?_eq_getElem hlt] at hd1
          exact Option.some.inj hd1
        rw [edrop] at hm2
        unfold forO at hm2
        cases eu : un d with
        | none =>
          simp only [eu] at hm2
          cases hm2
        | some vs =>
          simp only [eu] at hm2
          have hm2 : M.bind (f vs s) (fun r => match r with | .nx s' => forO (fun d s => M.bind (M.lift (un d)) fun ds => f ds s) (xs.drop (i + 1)) s' | .rt x => M.ret (.rt x)) b2 = some (o, b') := hm2
          refine ⟨F3, d, vs, G3.inn, rd, eu, fun ws hws => ?_⟩
          have R3 := (R2.grow G3 B3).setG (is := is) hws (hl s)
          have ow3 := ow2.setG (is := is) hws
          unfold M.bind at hm2
          cases ef : f vs s b2 with
          | none => rw [ef] at hm2; cases hm2
          | some r =>
            obtain ⟨r, b3⟩ := r
            rw [ef] at hm2
            cases r with
            | exc c y =>
              have hm2 : (Res.exc c y, b3) = (o, b') := Option.some.inj hm2
              cases hm2
              exact ⟨vs, s, F0, H0, F1, F3, b2, _, _, ⟨G2.gr.trans G3, fun a u h => G3.sub a u (le2 a u h)⟩, R3, ow3, ef, x, fun r z => by cases z⟩
            | ok r =>
              refine ⟨vs, s, F0, H0, F1, F3, b2, _, _, ⟨G2.gr.trans G3, fun a u h => G3.sub a u (le2 a u h)⟩, R3, ow3, ef, trivial, fun r' z => ?_⟩
              cases z
              cases r with
              | nx s' => exact fun σ4 F4 H4 G4 R4 ow4 => ⟨xs.length - (i + 1), by omega, rfl, hlt, s', F4, b3, ⟨G4.gr, fun a u h => G4.fl a u (G1.sub a u (G.fl a u h))⟩, G4.fl, R4, ow4, hm2⟩
              | rt z =>
                cases hm2
                exact fun v F4 H4 G4 B4 r4 => q _ rfl v F4 H4 ⟨G4.gr, fun a u h => G4.fl a u (G1.sub a u (G.fl a u h))⟩ B4 r4
      · have ei : i = xs.length := by omega
        subst ei
        rw [List.drop_length] at hm2
        cases hm2
        exact .inl ⟨WD.stop F2 H2 _ le2 R2.nil, q _ rfl σ2 F2 H2 G2 R2 ow2⟩
end
end GL
namespace GL
open PySem PySem.Spec PyProof.Rows L2 LamX

abbrev W0 : WX := fun _ _ _ _ => False
section
variable {g : Gx} {X : Cx} {W : WX} {E : XK} {Γ : List Sl} {n : Nat} {pos p tpos : Pos} {tg e e2 elt : Expr} {ma mc : M D} {scope : Scope} {own : List (Str × Nat)} {ifs : List Expr}
theorem Cg.blk (C : Cg g X W n) (s : Shared) (H : Hp) (sc : Scope) (cenv : Env) (fp : List Addr) : Cg g (X.blk s H sc cenv fp) W0 n :=
  ⟨C.calm, C.nd, C.room, PassesOwn.never, LamX.takes0, C.gd⟩

/-! ### a new list -/
def tEvN (g : Gx) (K : PySem.W.Frag) (W : WX) (Γ : List Sl) (m : M (List D)) : TE := fun σ H Q =>
  ∃ (F : Hp) (b : Bag) (o : Res (List D)) (b' : Bag), SRel g K Γ F H σ b ∧ m b = some (o, b') ∧ XOk g K W σ F H o b' ∧
    ∀ ds, o = .ok ds → ∀ p vs H' F', Grow g F H F' H' → BagAt g.β b' F' H' → H' p = some (.lst vs) → F' p = none → H p = none → p ≠ g.β → DpAll K F' vs ds → Q (.ref p) H'
def EvN (g : Gx) (X : Cx) (W : WX) (Γ : List Sl) (e : Expr) (m : M (List D)) : Prop := PE X e (tEvN g X.K W Γ m)
theorem pe_imp {X : Cx} {e : Expr} {t t' : TE} (h : PE X e t) (k : ∀ σ H Q, t' σ H Q → t σ H Q) : PE X e t' := ⟨fun pins s σ H Q I q => h.run pins s σ H Q I (k σ H Q q)⟩
theorem pe_ex {X : Cx} {e : Expr} {α : Type} {t : α → TE} (h : ∀ a, PE X e (t a)) : PE X e (fun σ H Q => ∃ a, t a σ H Q) := ⟨fun pins s σ H Q I ⟨a, q⟩ => (h a).run pins s σ H Q I q⟩
/-- frozen at once -/
theorem freeze_new {K : PySem.W.Frag} {F H F' H' : Hp} {b : Bag} {p : Addr} {vs : List V} {ds : List D} (G : Grow g F H F' H') (B : BagAt g.β b F' H') (h1 : H' p = some (.lst vs)) (h2 : F' p = none) (h3 : H p = none) (h4 : p ≠ g.β) (hd : DpAll K F' vs ds) :
    Grow g F H (upd F' p (.lst vs)) H' ∧ BagAt g.β b (upd F' p (.lst vs)) H' ∧ Dp K (upd F' p (.lst vs)) (.ref p) (.list ds) := by
  have hs : ∀ a u, F' a = some u → upd F' p (.lst vs) a = some u := fun a u e => by rw [upd_ne (ne_of_none e h2)]; exact e
  refine ⟨⟨fun a u e => hs a u (G.sub a u e), fun a u e => ?_, G.ext, fun a u e => ?_, G.tab, fun a u ps e => ?_, G.low⟩, ?_, .lst (SqL.of upd_same) (dpAll_grow hs _ _ hd)⟩
  · by_cases h : a = p
    · subst h; rw [upd_same] at e; cases e; exact h1
    · rw [upd_ne h] at e; exact G.inn a u e
  · by_cases h : a = p
    · subst h; exact .inr (.inl h3)
    · rw [upd_ne h] at e; exact G.new a u e
  · by_cases h : a = p
    · subst h; rw [upd_same] at e; cases e; intro z; cases z
    · rw [upd_ne h] at e; exact G.sor a u ps e
  · cases b with
    | none => exact ⟨B.1, by rw [upd_ne (Ne.symm h4)]; exact B.2⟩
    | some t => obtain ⟨x, y, z⟩ := t; exact ⟨B.1, by rw [upd_ne (Ne.symm h4)]; exact B.2⟩
theorem Ev.ofN {m : M (List D)} (h : EvN g X W Γ e m) : Ev g X W Γ e (M.bind m fun ds => M.ret (.list ds)) :=
  Ev.of h fun F H σ b o b' S hm x Q q => by
    unfold M.bind at hm
    cases e1 : m b with
    | none => rw [e1] at hm; cases hm
    | some r =>
      obtain ⟨r, b1⟩ := r
      rw [e1] at hm
      cases r with
      | exc c y =>
        have hm : (Res.exc c y, b1) = (o, b') := Option.some.inj hm
        cases hm
        exact ⟨F, b, _, _, S, e1, x, fun d z => by cases z⟩
      | ok ds =>
        cases hm
        refine ⟨F, b, _, _, S, e1, trivial, fun d z p vs H' F' G B h1 h2 h3 h4 hd => ?_⟩
        cases z
        obtain ⟨G', B', r⟩ := freeze_new G B h1 h2 h3 h4 hd
        exact q _ rfl _ _ _ G' B' r
def chkL (xs : List D) : M (List D) := M.ite (Nat.ble xs.length sz) (M.ret xs) M.fail
/-- a name holds a new list of its own -/
theorem bj_setN {S : Type} {sh : S → List Sl} {rest : List Stmt} {i : Nat} {y : Str} {py : Pos} {m : M (List D)} {k : List D → M (Out S)} (C : Cg g X (WK E) n) (hi : X.N[i]? = some y) (hx : Loc X.env.scope y) (hΓ : i < Γ.length) (he : EvN g X (WK E) Γ e m)
    (hr : ∀ xs, Bj g X E (Γ.set i (.own xs)) rest sh (k xs)) (hs : swapsWith e (some (.Name y py)) pos.line X.env = pure false := by rfl) (hf : X.fn y = true ∨ X.env.scope.names.lookup y = some .local := by first | exact .inl rfl | exact .inr rfl | assumption) :
    Bj g X E Γ (.Assign [.Name y py] e pos :: rest) sh (M.bind m k) :=
  pss_imp (pss_cons (ps_set C.nd hi hx he hs hf) (pss_ex hr)) fun D σ H ⟨F0, H0, Fl, F, b, o, b', G, R, ow, hm, x, q⟩ => by
    unfold M.bind at hm
    cases e1 : m b with
    | none => rw [e1] at hm; cases hm
    | some r =>
      obtain ⟨r, b1⟩ := r
      rw [e1] at hm
      cases r with
      | exc c y =>
        have hm : (Res.exc c y, b1) = (o, b') := Option.some.inj hm
        cases hm
        exact ⟨F, b, _, _, R, e1, xok_ex (x.grow G.gr), fun d z => by cases z⟩
      | ok xs =>
        refine ⟨F, b, _, _, R, e1, trivial, fun d z p vs H' F' G1 B h1 h2 h3 h4 hd => ?_⟩
        cases z
        have R1 := R.grow G1 B
        refine ⟨xs, F0, H0, Fl, F', b1, o, b', G.trans G1, R1.set hΓ ⟨p, vs, rfl, h1, h2, h4, hd⟩ (fun ys ey j zs hj hz e2 => ?_), ow.set (fun ys p' ey ep => ?_), hm, x, q⟩
        · obtain ⟨ov, z1, a, ws, rfl, z2, _⟩ := R.slot j _ hz
          rw [e2] at z1
          cases z1
          rw [h3] at z2
          cases z2
        · cases ep
          exact G.gr.low p h3

/-! ### comprehensions -/
def compM (f : D → M (List D)) : List D → M (List D)
  | [] => M.ret []
  | d :: ds => fun b => match f d b with
    | some (.ok ys, b1) => (match compM f ds b1 with
      | some (.ok zs, b2) => some (.ok (ys ++ zs), b2)
      | _ => none)
    | _ => none
def wipeG (Γ : List Sl) : List Nat → List Sl
  | [] => Γ
  | v :: vs => (wipeG Γ vs).set v .un
theorem wipeG_length (Γ : List Sl) : ∀ vs : List Nat, (wipeG Γ vs).length = Γ.length
  | [] => rfl
  | v :: vs => by unfold wipeG; rw [List.length_set, wipeG_length Γ vs]
theorem SRel.wipe {K : PySem.W.Frag} {F H : Hp} {σ : L2.St} {b : Bag} (R : SRel g K Γ F H σ b) : ∀ vs : List Nat, SRel g K (wipeG Γ vs) F H (L2.wipe σ vs) b
  | [] => R
  | v :: vs => by
    have R1 := SRel.wipe R vs
    unfold wipeG L2.wipe
    refine ⟨R1.inn, R1.sor, fun i s e => ?_, fun i j xs ys u e1 e2 e3 e4 => ?_, R1.bag, R1.tab⟩
    · by_cases h : v = i
      · subst h
        have hl : v < (wipeG Γ vs).length := by
          have := (List.getElem?_eq_some_iff.mp e).1
          simpa using this
        rw [List.getElem?_set_self hl] at e
        cases e
        obtain ⟨o, h1, _⟩ := R1.slot v _ (List.getElem?_eq_getElem hl)
        exact ⟨none, List.getElem?_set_self (List.getElem?_eq_some_iff.mp h1).1, trivial⟩
      · rw [List.getElem?_set_ne h] at e
        obtain ⟨o, h1, h2⟩ := R1.slot i s e
        exact ⟨o, by rw [List.getElem?_set_ne h]; exact h1, h2⟩
    · have n1 : v ≠ i := fun z => by
        subst z
        have hl : v < (wipeG Γ vs).length := by
          have := (List.getElem?_eq_some_iff.mp e1).1
          simpa using this
        rw [List.getElem?_set_self hl] at e1
        cases e1
      have n2 : v ≠ j := fun z => by
        subst z
        have hl : v < (wipeG Γ vs).length := by
          have := (List.getElem?_eq_some_iff.mp e2).1
          simpa using this
        rw [List.getElem?_set_self hl] at e2
        cases e2
      rw [List.getElem?_set_ne n1] at e1 e3
      rw [List.getElem?_set_ne n2] at e2 e4
      exact R1.dist i j xs ys u e1 e2 e3 e4
theorem wipe_set {σ : L2.St} {i : Nat} {o : Option V} : ∀ {vs : List Nat}, i ∈ vs → L2.wipe (σ.set i o) vs = L2.wipe σ vs
  | v :: vs, h => by
    unfold L2.wipe
    by_cases hv : i ∈ vs
    · rw [wipe_set hv]
    · have e : i = v := (List.mem_cons.mp h).resolve_right hv
      subst e
      have aux : ∀ (ws : List Nat), i ∉ ws → L2.wipe (σ.set i o) ws = (L2.wipe σ ws).set i o := by
        intro ws
        induction ws with
        | nil => intro _; rfl
        | cons w ws ih =>
          intro hw
          unfold L2.wipe
          rw [ih (fun z => hw (List.mem_cons_of_mem _ z)), List.set_comm]
          exact fun z => hw (by rw [z]; exact List.mem_cons_self)
      rw [aux vs hv, List.set_set]
theorem wipe_wipe {σ : L2.St} {vs : List Nat} : L2.wipe (L2.wipe σ vs) vs = L2.wipe σ vs := by
  have : ∀ ws : List Nat, (∀ w ∈ ws, w ∈ vs) → L2.wipe (L2.wipe σ ws) vs = L2.wipe σ vs := by
    intro ws
    induction ws with
    | nil => intro _; rfl
    | cons w ws ih =>
      intro h
      show L2.wipe ((L2.wipe σ ws).set w none) vs = _
      rw [wipe_set (h w List.mem_cons_self), ih (fun z hz => h z (List.mem_cons_of_mem _ hz))]
  exact this vs fun w h => h
theorem wipe_setV {vs : List Nat} : ∀ {is : List Nat} {us : List V} {σ : L2.St}, (∀ i ∈ is, i ∈ vs) → L2.wipe (setV σ is us) vs = L2.wipe σ vs
  | [], us, σ, _ => by cases us <;> rfl
  | i :: is, [], σ, _ => rfl
  | i :: is, u :: us, σ, h => by
    show L2.wipe (setV (σ.set i (some u)) is us) vs = _
    rw [wipe_setV (fun j hj => h j (List.mem_cons_of_mem _ hj)), wipe_set (h i List.mem_cons_self)]
def Ets (g : Gx) (X : Cx) (W : WX) (Γ : List Sl) (ifs : List Expr) (m : M Bool) : Prop := PTs X ifs (tEt g X.K W Γ m)
theorem pts_imp {X : Cx} {e : List Expr} {t t' : TT} (h : PTs X e t) (k : ∀ σ H Q, t' σ H Q → t σ H Q) : PTs X e t' := ⟨fun pins s σ H Q I q => h.run pins s σ H Q I (k σ H Q q)⟩
theorem pts_ex {X : Cx} {e : List Expr} {α : Type} {t : α → TT} (h : ∀ a, PTs X e (t a)) : PTs X e (fun σ H Q => ∃ a, t a σ H Q) := ⟨fun pins s σ H Q I ⟨a, q⟩ => (h a).run pins s σ H Q I q⟩
theorem ets_nil : Ets g X W Γ [] (M.ret true) := pts_imp pts_nil fun σ H Q ⟨F, b, o, b', S, hm, x, q⟩ => by
  cases hm
  exact q _ rfl H F S.refl S.bag
theorem ets_one {c : Expr} {m : M Bool} (h : Et g X W Γ c m) : Ets g X W Γ [c] m := pts_one h
/-- a list that no slot holds is changed -/
theorem srel_D {K : PySem.W.Frag} {F H : Hp} {σ : L2.St} {b : Bag} {a : Addr} {vs ws : List V} (R : SRel g K Γ F H σ b) (hH : H a = none ∨ H a = some (.lst vs)) (hF : F a = none) (hβ : a ≠ g.β)
    (ho : ∀ (i : Nat) (xs : List D) (q : Addr), Γ[i]? = some (Sl.own xs) → σ[i]? = some (some (.ref q)) → q ≠ a) : SRel g K Γ F (upd H a (.lst ws)) σ b := by
  refine ⟨fun c u e => by rw [upd_ne (ne_of_none e hF)]; exact R.inn c u e, R.sor, fun i s e => ?_, R.dist, ?_, fun q hq => ?_⟩
  · obtain ⟨o', h1, h2⟩ := R.slot i s e
    refine ⟨o', h1, ?_⟩
    cases s with
    | un => trivial
    | d y => exact h2
    | own zs =>
      obtain ⟨p2, vs2, rfl, h4, h5, h6, h7⟩ := h2
      exact ⟨p2, vs2, rfl, by rw [upd_ne (ho i zs p2 e h1)]; exact h4, h5, h6, h7⟩
    | v y Fc => exact h2
    | bag => exact h2
  · have B := R.bag
    cases b with
    | none => exact ⟨by rw [upd_ne (Ne.symm hβ)]; exact B.1, B.2.1, fun q => by rw [upd_ne (Ne.symm hβ)]; exact B.2.2 q⟩
    | some t => obtain ⟨u1, u2, u3⟩ := t; exact ⟨by rw [upd_ne (Ne.symm hβ)]; exact B.1, B.2⟩
  · obtain ⟨ps, t1, t2, t3⟩ := R.tab q hq
    have nt : ∀ (c : Addr) (u : HO), H c = some u → (∀ zs, u ≠ .lst zs) → c ≠ a := fun c u e n z => by
      subst z
      rcases hH with z | z
      · rw [z] at e; cases e
      · rw [z] at e; exact n vs (Option.some.inj e).symm
    refine ⟨ps, by rw [upd_ne (nt _ _ t1 fun zs z => by cases z)]; exact t1, t2, fun pos cv hc => ?_⟩
    obtain ⟨c, z1, z2⟩ := t3 pos cv hc
    exact ⟨c, z1, by rw [upd_ne (nt _ _ z2 fun zs z => by cases z)]; exact z2⟩
theorem grow_D {F1 H1 F H : Hp} {a : Addr} {vs ws : List V} (G : Grow g F1 H1 F H) (h1 : H1 a = none) (hH : H a = none ∨ H a = some (.lst vs)) (hF : F a = none) : Grow g F1 H1 F (upd H a (.lst ws)) := by
  refine ⟨G.sub, fun c u e => by rw [upd_ne (ne_of_none e hF)]; exact G.inn c u e, fun c u e n1 n2 => by rw [upd_ne (ne_of_none e h1)]; exact G.ext c u e n1 n2, G.new, fun t q hq => ?_, G.sor, fun c e => ?_⟩
  · obtain ⟨ps, t1, t2, t3⟩ := G.tab t q hq
    have nt : ∀ (c : Addr) (u : HO), H c = some u → (∀ zs, u ≠ .lst zs) → c ≠ a := fun c u e n z => by
      subst z
      rcases hH with z | z
      · rw [z] at e; cases e
      · rw [z] at e; exact n vs (Option.some.inj e).symm
    refine ⟨ps, by rw [upd_ne (nt _ _ t1 fun zs z => by cases z)]; exact t1, t2, fun pos cv hc => ?_⟩
    obtain ⟨c, z1, z2⟩ := t3 pos cv hc
    exact ⟨c, z1, by rw [upd_ne (nt _ _ z2 fun zs z => by cases z)]; exact z2⟩
  · by_cases hc : c = a
    · subst hc; exact h1
    · rw [upd_ne hc] at e; exact G.low c e
theorem wipeG_own : ∀ {vs : List Nat} {i : Nat} {xs : List D} {o : Option V} {σ : L2.St} {Γ : List Sl}, (wipeG Γ vs)[i]? = some (Sl.own xs) → (L2.wipe σ vs)[i]? = some o → Γ[i]? = some (Sl.own xs) ∧ σ[i]? = some o
  | [], _, _, _, _, _, h, h' => ⟨h, h'⟩
  | v :: vs, i, xs, o, σ, Γ, h, h' => by
    unfold wipeG at h
    unfold L2.wipe at h'
    have n1 : v ≠ i := fun z => by
      subst z
      have hl : v < (wipeG Γ vs).length := by
        have := (List.getElem?_eq_some_iff.mp h).1
        simpa using this
      rw [List.getElem?_set_self hl] at h
      cases h
    rw [List.getElem?_set_ne n1] at h h'
    exact wipeG_own h h'
/-- one item: taken apart, tested, reckoned -/
def itemM (un : D → Option (List D)) (mt : List D → M Bool) (me : List D → M D) (d : D) : M (List D) :=
  M.bind (M.lift (un d)) fun ds => M.bind (mt ds) fun c => M.ite c (M.bind (me ds) fun y => M.ret [y]) (M.ret [])
/-- the reading of a comprehension's block -/
theorem rd_lc {K : PySem.W.Frag} {is : List Nat} {un : D → Option (List D)} {mi : M (List D)} {mt : List D → M Bool} {me : List D → M D} {vs : List Nat} (his : ∀ i ∈ is, i ∈ vs) (hvs : ∀ i ∈ is, i < Γ.length) {σ : L2.St} {H : Hp} {Q : VK}
    (h : tEvN g K W Γ (M.bind mi fun xs => M.bind (compM (itemM un mt me) xs) chkL) σ H Q) :
    tLc (tIt g K W Γ mi) (tTg g K is un) (fun σ H Q => ∃ ds, tEt g K W0 (setG (wipeG Γ vs) is ds) (mt ds) σ H Q) (fun σ H Q => ∃ ds, tEv g K W0 (setG (wipeG Γ vs) is ds) (me ds) σ H Q) vs σ H Q := by
  obtain ⟨F, b, o, b', S, hm, x, q⟩ := h
  unfold M.bind at hm
  cases e1 : mi b with
  | none => rw [e1] at hm; cases hm
  | some r =>
    obtain ⟨r, b1⟩ := r
    rw [e1] at hm
    cases r with
    | exc c y =>
      have hm : (Res.exc c y, b1) = (o, b') := Option.some.inj hm
      cases hm
      exact ⟨F, b, _, _, S, e1, x, fun ds z => by cases z⟩
    | ok xs =>
      refine ⟨F, b, _, _, S, e1, trivial, fun ds z J H1 F1 G1 B1 WD => ?_⟩
      cases z
      have hm : M.bind (compM (itemM un mt me) xs) chkL b1 = some (o, b') := hm
      unfold M.bind at hm
      cases e2 : compM (itemM un mt me) xs b1 with
      | none => rw [e2] at hm; cases hm
      | some r =>
        obtain ⟨r, b2⟩ := r
        rw [e2] at hm
        have noexc : ∀ (xs : List D) (b b' : Bag) (c : String) (y : D), compM (itemM un mt me) xs b ≠ some (.exc c y, b') := by
          intro xs
          induction xs with
          | nil => intro b b' c y z; cases z
          | cons d ds ih =>
            intro b b' c y z
            unfold compM at z
            cases e3 : itemM un mt me d b with
            | none => simp only [e3] at z; cases z
            | some r =>
              obtain ⟨r, b3⟩ := r
              simp only [e3] at z
              cases r with
              | exc c y => cases z
              | ok ys =>
                cases e4 : compM (itemM un mt me) ds b3 with
                | none => simp only [e4] at z; cases z
                | some r =>
                  obtain ⟨r, b4⟩ := r
                  simp only [e4] at z
                  cases r with
                  | exc c y => cases z
                  | ok zs => cases z
        cases r with
        | exc c y => exact absurd e2 (noexc _ _ _ _ _)
        | ok total =>
          obtain ⟨hc, hm⟩ := ite_some hm
          cases hm
          have hsz := Nat.le_of_ble_eq_true hc
          have S1 := S.grow G1 B1
          have Rw := S1.wipe vs
          intro a ha
          have hβ : a ≠ g.β := fun z => S1.bag.some_.1 (z ▸ ha)
          have hFa : F1 a = none := by
            cases z : F1 a with
            | none => rfl
            | some u => rw [S1.inn a u z] at ha; cases ha
          have hown : ∀ (i : Nat) (ys : List D) (p : Addr), (wipeG Γ vs)[i]? = some (Sl.own ys) → (L2.wipe σ vs)[i]? = some (some (.ref p)) → p ≠ a := fun i ys p z1 z2 z => by
            obtain ⟨z3, z4⟩ := wipeG_own z1 z2
            obtain ⟨o', z5, p2, us, rfl, z6, _⟩ := S1.slot i _ z3
            rw [z4] at z5
            cases z5
            rw [z, ha] at z6
            cases z6
          refine ⟨fun i m H2 => m = xs.length - i ∧ i ≤ xs.length ∧ ∃ F2 b3 us acc zs, Grow g F1 H1 F2 H2 ∧ SRel g K (wipeG Γ vs) F2 H2 (L2.wipe σ vs) b3 ∧ H2 a = some (.lst us) ∧ F2 a = none ∧ DpAll K F2 us acc ∧ compM (itemM un mt me) (xs.drop i) b3 = some (.ok zs, b') ∧ acc ++ zs = total,
            ⟨_, rfl, Nat.zero_le _, F1, b1, [], [], total, grow_D (vs := []) S1.refl ha (.inl ha) hFa, srel_D (vs := []) Rw (.inl ha) hFa hβ hown, upd_same, hFa, .nil, e2, rfl⟩, ?_⟩
          rintro i m H2 ⟨rfl, hi2, F2, b3, us, acc, zs, G2, R2, hD, hFD, hda, hcm, htot⟩
          by_cases hlt : i < xs.length
          · refine .inr ⟨WD.go i F2 H2 b3 G2.sub R2.nil hlt, _, fun H' h => h, fun v H3 hy => ?_⟩
            obtain ⟨F3, d, hd1, G3, B3, rd⟩ := WD.yld i F2 H2 b3 v H3 G2.sub R2.nil hlt hy
            have edrop : xs.drop i = d :: xs.drop (i + 1) := by
              rw [List.drop_eq_getElem_cons hlt]
              congr 1
              rw [List.getElem?_eq_getElem hlt] at hd1
              exact Option.some.inj hd1
            rw [edrop] at hcm
            unfold compM at hcm
            cases ei : itemM un mt me d b3 with
            | none => simp only [ei] at hcm; cases hcm
            | some r =>
              obtain ⟨r, b4⟩ := r
              simp only [ei] at hcm
              cases r with
              | exc c y => cases hcm
              | ok ys =>
                cases er : compM (itemM un mt me) (xs.drop (i + 1)) b4 with
                | none => simp only [er] at hcm; cases hcm
                | some r =>
                  obtain ⟨r, b5⟩ := r
                  simp only [er] at hcm
                  cases r with
                  | exc c y => cases hcm
                  | ok zs' =>
                    cases hcm
                    unfold itemM at ei
                    cases eu : un d with
                    | none => rw [eu] at ei; cases ei
                    | some ds =>
                      rw [eu] at ei
                      have ei : M.bind (mt ds) (fun c => M.ite c (M.bind (me ds) fun y => M.ret [y]) (M.ret [])) b3 = some (.ok ys, b4) := ei
                      refine ⟨F3, d, ds, G3.inn, rd, eu, fun ws hws => ⟨(wipe_setV his).trans wipe_wipe, ds, ?_⟩⟩
                      have R3w := R2.grow G3 B3
                      have R3 := R3w.setG (is := is) hws (fun j hj => by rw [wipeG_length]; exact hvs j hj)
                      have hD3 : H3 a = some (.lst us) := G3.ext a _ hD (fun ps z => by cases z) hβ
                      have hF3 : F3 a = none := G3.stay hD hβ hFD
                      refine tEt_bind R3 ei trivial fun c b6 H6 F6 h6 R6 G6 x6 => ?_
                      have hD6 : H6 a = some (.lst us) := G6.ext a _ hD3 (fun ps z => by cases z) hβ
                      have hF6 : F6 a = none := G6.stay hD3 hβ hF3
                      cases c with
                      | true =>
                        refine iteT ⟨ds, tEv_bind R6 h6 trivial fun y b7 vy H7 F7 _ h7 R7 G7 x7 r7 => ?_⟩
                        cases h7
                        have hD7 : H7 a = some (.lst us) := G7.ext a _ hD6 (fun ps z => by cases z) hβ
                        have hF7 : F7 a = none := G7.stay hD6 hβ hF6
                        have Gall : Grow g F1 H1 F7 H7 := G2.trans (G3.trans (G6.trans G7))
                        have hlen : us.length < sizeLine := by
                          have h1 := DpAll.length hda
                          have h2 : total.length = acc.length + (1 + zs'.length) := by rw [← htot]; simp; omega
                          rw [sz_eq]
                          omega
                        refine ⟨us, hD7, hlen, xs.length - (i + 1), by omega, rfl, hlt, F7, _, us ++ [vy], acc ++ [y], zs', grow_D Gall ha (.inr hD7) hF7, srel_D ((R3w.grow G6 R6.bag).grow G7 R7.bag) (.inr hD7) hF7 hβ hown, upd_same, hF7, DpAll.app (G7.dpAll (G6.dpAll (G3.dpAll hda))) (DpAll.one r7), er, by rw [← htot]; simp⟩
                      | false =>
                        cases h6
                        exact iteF ⟨xs.length - (i + 1), by omega, rfl, hlt, F6, _, us, acc, zs', G2.trans (G3.trans G6), R3w.grow G6 R6.bag, hD6, hF6, G6.dpAll (G3.dpAll hda), er, by rw [← htot]; simp⟩
          · have ei : i = xs.length := by omega
            subst ei
            rw [List.drop_length] at hcm
            cases hcm
            have ht : acc = total := by rw [← htot]; simp
            subst ht
            exact .inl ⟨WD.stop F2 H2 _ G2.sub R2.nil, q _ rfl a us H2 F2 (G1.trans G2) R2.bag hD hFD (G1.low a ha) hβ hda⟩
end
end GL
namespace GL
open PySem PySem.Spec PyProof.Rows L2 LamX
section
variable {g : Gx} {X : Cx} {W : WX} {E : XK} {Γ : List Sl} {n : Nat} {pos p tpos : Pos} {tg e e2 elt : Expr} {ma mc : M D} {scope : Scope} {own : List (Str × Nat)} {ifs : List Expr}
  {is : List Nat} {un : D → Option (List D)} {mi : M (List D)} {mt : List D → M Bool} {me : List D → M D}
/-- the meaning of [elt for tg in e if ..] -/
def lcM (mi : M (List D)) (un : D → Option (List D)) (mt : List D → M Bool) (me : List D → M D) : M (List D) := M.bind mi fun xs => M.bind (compM (itemM un mt me) xs) chkL
/-- every slot in is a name of the block's own -/
def within (is : List Nat) (vs : List Nat) (n : Nat) : Bool := is.all fun i => vs.contains i && decide (i < n)
theorem within_ok {is vs : List Nat} {n : Nat} (h : within is vs n = true) : (∀ i ∈ is, i ∈ vs) ∧ ∀ i ∈ is, i < n := by
  unfold within at h
  simp only [List.all_eq_true, Bool.and_eq_true, List.contains_iff_mem, decide_eq_true_eq] at h
  exact ⟨fun i hi => (h i hi).1, fun i hi => (h i hi).2⟩
theorem evN_lc (C : Cg g X W n) (hi : Itj g X W Γ tg e mi) (ok : blkC X.N X.env.scope scope own = true) (hw : within is (own.map fun y : Str × Nat => y.2) Γ.length = true)
    (ht : ∀ (s : Shared) (H : Hp) (Ca : Addr) (cl : List (Str × Addr)) (fp : List Addr), Tg g (X.blk s H scope (compEnvC scope cl Ca X.env) fp) tg is un)
    (hf : ∀ (s : Shared) (H : Hp) (Ca : Addr) (cl : List (Str × Addr)) (fp : List Addr), Cg g (X.blk s H scope (compEnvC scope cl Ca X.env) fp) W0 n → ∀ ds, Ets g (X.blk s H scope (compEnvC scope cl Ca X.env) fp) W0 (setG (wipeG Γ (own.map fun y : Str × Nat => y.2)) is ds) ifs (mt ds))
    (he : ∀ (s : Shared) (H : Hp) (Ca : Addr) (cl : List (Str × Addr)) (fp : List Addr), Cg g (X.blk s H scope (compEnvC scope cl Ca X.env) fp) W0 n → ∀ ds, Ev g (X.blk s H scope (compEnvC scope cl Ca X.env) fp) W0 (setG (wipeG Γ (own.map fun y : Str × Nat => y.2)) is ds) elt (me ds))
    (hs : ∀ x, foldedSetIterable e X.env x = pure x := by intro _; rfl) : EvN g X W Γ (.ListComp elt [⟨tg, e, ifs, 0⟩] scope pos) (lcM mi un mt me) :=
  pe_imp (pe_lc (g := tTg g X.K is un) (tt := fun σ H Q => ∃ ds, tEt g X.K W0 (setG (wipeG Γ (own.map fun y : Str × Nat => y.2)) is ds) (mt ds) σ H Q) (te := fun σ H Q => ∃ ds, tEv g X.K W0 (setG (wipeG Γ (own.map fun y : Str × Nat => y.2)) is ds) (me ds) σ H Q) C.calm C.nd hi (blkOk_by ok) (fun s H Ca cl fp => ht s H Ca cl fp) (fun s H Ca cl fp => pts_ex fun ds => hf s H Ca cl fp (C.blk s H scope (compEnvC scope cl Ca X.env) fp) ds)
    (fun s H Ca cl fp => pe_ex fun ds => he s H Ca cl fp (C.blk s H scope (compEnvC scope cl Ca X.env) fp) ds) hs) fun σ H Q h => rd_lc (within_ok hw).1 (within_ok hw).2 h
/-- y = [..] on one line: a list of y's own -/
theorem bj_setLcN {S : Type} {sh : S → List Sl} {rest : List Stmt} {i : Nat} {y : Str} {py spos : Pos} {k : List D → M (Out S)} (C : Cg g X (WK E) n) (hiy : X.N[i]? = some y) (hyl : X.env.scope.names.lookup y = some .local) (hΓ : i < Γ.length)
    (hsw : swapsWith (.ListComp elt [⟨tg, e, ifs, 0⟩] scope pos) (some (.Name y py)) spos.line X.env = pure true)
    (hi : Itj g X (WK E) Γ tg e mi) (ok : blkC X.N X.env.scope scope own = true) (hw : within is (own.map fun y : Str × Nat => y.2) Γ.length = true)
    (ht : ∀ (s : Shared) (H : Hp) (Ca : Addr) (cl : List (Str × Addr)) (fp : List Addr), Tg g (X.blk s H scope (compEnvC scope cl Ca X.env) fp) tg is un)
    (hf : ∀ (s : Shared) (H : Hp) (Ca : Addr) (cl : List (Str × Addr)) (fp : List Addr), Cg g (X.blk s H scope (compEnvC scope cl Ca X.env) fp) W0 n → ∀ ds, Ets g (X.blk s H scope (compEnvC scope cl Ca X.env) fp) W0 (setG (wipeG Γ (own.map fun y : Str × Nat => y.2)) is ds) ifs (mt ds))
    (he : ∀ (s : Shared) (H : Hp) (Ca : Addr) (cl : List (Str × Addr)) (fp : List Addr), Cg g (X.blk s H scope (compEnvC scope cl Ca X.env) fp) W0 n → ∀ ds, Ev g (X.blk s H scope (compEnvC scope cl Ca X.env) fp) W0 (setG (wipeG Γ (own.map fun y : Str × Nat => y.2)) is ds) elt (me ds))
    (hr : ∀ xs, Bj g X E (Γ.set i (.own xs)) rest sh (k xs)) (hs : ∀ x, foldedSetIterable e X.env x = pure x := by intro _; rfl) :
    Bj g X E Γ (.Assign [.Name y py] (.ListComp elt [⟨tg, e, ifs, 0⟩] scope pos) spos :: rest) sh (M.bind (lcM mi un mt me) k) :=
  pss_imp (pss_cons (ps_setLc (g := tTg g X.K is un) (tt := fun σ H Q => ∃ ds, tEt g X.K W0 (setG (wipeG Γ (own.map fun y : Str × Nat => y.2)) is ds) (mt ds) σ H Q) (te := fun σ H Q => ∃ ds, tEv g X.K W0 (setG (wipeG Γ (own.map fun y : Str × Nat => y.2)) is ds) (me ds) σ H Q) C.calm C.nd hiy hyl hsw hi (blkOk_by ok) (fun s H Ca cl fp => ht s H Ca cl fp) (fun s H Ca cl fp => pts_ex fun ds => hf s H Ca cl fp (C.blk s H scope (compEnvC scope cl Ca X.env) fp) ds)
    (fun s H Ca cl fp => pe_ex fun ds => he s H Ca cl fp (C.blk s H scope (compEnvC scope cl Ca X.env) fp) ds) hs) (pss_ex hr)) fun D σ H ⟨F0, H0, Fl, F, b, o, b', G, R, ow, hm, x, q⟩ => by
    refine rd_lc (g := g) (K := X.K) (W := WK E) (σ := σ) (H := H) (Q := fun v H1 => ∃ a, tBj g X.K E (Γ.set i (.own a)) sh (k a) D (σ.set i (some v)) H1) (within_ok hw).1 (within_ok hw).2 ?_
    unfold M.bind at hm
    cases e1 : lcM mi un mt me b with
    | none => rw [e1] at hm; cases hm
    | some r =>
      obtain ⟨r, b1⟩ := r
      rw [e1] at hm
      cases r with
      | exc c y =>
        have hm : (Res.exc c y, b1) = (o, b') := Option.some.inj hm
        cases hm
        exact ⟨F, b, _, _, R, e1, xok_ex (x.grow G.gr), fun d z => by cases z⟩
      | ok xs =>
        refine ⟨F, b, _, _, R, e1, trivial, fun d z p vs H' F' G1 B h1 h2 h3 h4 hd => ?_⟩
        cases z
        have R1 := R.grow G1 B
        refine ⟨xs, F0, H0, Fl, F', b1, o, b', G.trans G1, R1.set hΓ ⟨p, vs, rfl, h1, h2, h4, hd⟩ (fun ys ey j zs hj hz e2 => ?_), ow.set (fun ys p' ey ep => ?_), hm, x, q⟩
        · obtain ⟨ov, z1, a, ws, rfl, z2, _⟩ := R.slot j _ hz
          rw [e2] at z1
          cases z1
          rw [h3] at z2
          cases z2
        · cases ep
          exact G.gr.low p h3
/-- a written list as a new one -/
def tEsN (g : Gx) (K : PySem.W.Frag) (W : WX) (Γ : List Sl) (m : M (List D)) : TA := fun σ H Q =>
  ∃ (F : Hp) (b : Bag) (o : Res (List D)) (b' : Bag), SRel g K Γ F H σ b ∧ m b = some (o, b') ∧ XOk g K W σ F H o b' ∧
    ∀ ds, o = .ok ds → ∀ vs H1 F1, SRel g K Γ F1 H1 σ b' → Grow g F H F1 H1 → DpAll K F1 vs ds → Q vs H1
def EsN (g : Gx) (X : Cx) (W : WX) (Γ : List Sl) (es : List Expr) (m : M (List D)) : Prop := PA X es (tEsN g X.K W Γ m)
theorem esN_nil : EsN g X W Γ [] (M.ret []) := pa_imp pa_nil fun σ H Q ⟨F, b, o, b', S, hm, x, q⟩ => by
  cases hm
  exact q _ rfl [] H F S S.refl .nil
theorem bind_cases {α β : Type} {m : M α} {f : α → M β} {b b' : Bag} {o : Res β} (h : M.bind m f b = some (o, b')) : (∃ c y, m b = some (.exc c y, b') ∧ o = .exc c y) ∨ ∃ a b1, m b = some (.ok a, b1) ∧ f a b1 = some (o, b') := by
  unfold M.bind at h
  cases e1 : m b with
  | none => rw [e1] at h; cases h
  | some r =>
    obtain ⟨r, b1⟩ := r
    rw [e1] at h
    cases r with
    | exc c y =>
      have h : (Res.exc c y, b1) = (o, b') := Option.some.inj h
      cases h
      exact .inl ⟨c, y, rfl, rfl⟩
    | ok a => exact .inr ⟨a, b1, rfl, h⟩
theorem esN_cons {es : List Expr} {ms : M (List D)} (ha : Ev g X W Γ e ma) (hr : EsN g X W Γ es ms) (hs : starEach (e :: es) X.env = (false, eval e X.env) :: starEach es X.env := by rfl) :
    EsN g X W Γ (e :: es) (M.bind ma fun d => M.bind ms fun ds => M.ret (d :: ds)) :=
  pa_imp (pa_cons ha hr hs) fun σ H Q ⟨F, b, o, b', S, hm, x, q⟩ => by
    refine tEv_bind S hm x fun d b1 v H1 F1 _ h1 S1 G1 x1 r1 => ?_
    rcases bind_cases h1 with ⟨c, y, h2, rfl⟩ | ⟨ds, b2, h2, h3⟩
    · exact ⟨F1, b1, _, _, S1, h2, x1, fun ds z => by cases z⟩
    · cases h3
      refine ⟨F1, b1, _, _, S1, h2, trivial, fun ds z vs H2 F2 S2 G2 r2 => ?_⟩
      cases z
      exact q _ rfl (v :: vs) H2 F2 S2 (G1.trans G2) (.cons (G2.dp r1) r2)
theorem evN_lst {es : List Expr} {ms : M (List D)} (h : EsN g X W Γ es ms) : EvN g X W Γ (.List es pos) (M.bind ms chkL) :=
  pe_imp (pe_lst h) fun σ H Q ⟨F, b, o, b', S, hm, x, q⟩ => by
    rcases bind_cases hm with ⟨c, y, h2, rfl⟩ | ⟨ds, b2, h2, h3⟩
    · exact ⟨F, b, _, _, S, h2, x, fun ds z => by cases z⟩
    · obtain ⟨hc, h3⟩ := ite_some h3
      cases h3
      refine ⟨F, b, _, _, S, h2, trivial, fun ds z vs H2 F2 S2 G2 r2 => ?_⟩
      cases z
      refine ⟨by rw [DpAll.length r2, sz_eq]; exact Nat.le_of_ble_eq_true hc, fun a ha => ?_⟩
      have hFa : F2 a = none := by
        cases z : F2 a with
        | none => rfl
        | some u => rw [S2.inn a u z] at ha; cases ha
      have hβ : a ≠ g.β := fun z => S2.bag.some_.1 (z ▸ ha)
      have S3 := srel_D (vs := []) (ws := vs) S2 (.inl ha) hFa hβ (fun i ys p z1 z2 z => by
        obtain ⟨o', z5, p2, us, rfl, z6, _⟩ := S2.slot i _ z1
        rw [z2] at z5
        cases z5
        rw [z, ha] at z6
        cases z6)
      exact q _ rfl a vs _ F2 (grow_D (vs := []) G2 (G2.low a ha) (.inl ha) hFa) S3.bag upd_same hFa (G2.low a ha) hβ r2
end
end GL
namespace GL
open PySem PySem.Spec PyProof.Rows L2 LamX

/-! ### defs by their bodies -/
def nD : List AK → Nat
  | [] => 0
  | .d :: ks => nD ks + 1
  | .bag :: ks => nD ks
def slots : List AK → List D → List Sl
  | .d :: ks, x :: ds => .d x :: slots ks ds
  | .bag :: ks, ds => .bag :: slots ks ds
  | _, _ => []
theorem ArgsRel.nD {β : Addr} {K : PySem.W.Frag} {F : Hp} {ks : List AK} {vs : List V} {ds : List D} (h : ArgsRel β K F ks vs ds) : ds.length = nD ks ∧ (slots ks ds).length = vs.length := by
  induction h with
  | nil => exact ⟨rfl, rfl⟩
  | d _ _ ih => exact ⟨by show _ + 1 = _ + 1; rw [ih.1], by show _ + 1 = _ + 1; rw [ih.2]⟩
  | bag _ ih => exact ⟨ih.1, by show _ + 1 = _ + 1; rw [ih.2]⟩
theorem ArgsRel.slots {g : Gx} {K : PySem.W.Frag} {F H : Hp} {ks : List AK} {vs : List V} {ds : List D} (h : ArgsRel g.β K F ks vs ds) : ∀ (i : Nat) (s : Sl), (slots ks ds)[i]? = some s → ∃ v, vs[i]? = some v ∧ SlOk g K F H (some v) s ∧ ∀ xs, s ≠ .own xs := by
  induction h with
  | nil => intro i s e; simp [GL.slots] at e
  | d hd _ ih =>
    intro i s e
    cases i with
    | zero =>
      cases e
      exact ⟨_, rfl, ⟨_, rfl, hd⟩, fun xs z => by cases z⟩
    | succ i => exact ih i s e
  | bag _ ih =>
    intro i s e
    cases i with
    | zero =>
      cases e
      exact ⟨_, rfl, rfl, fun xs z => by cases z⟩
    | succ i => exact ih i s e
theorem start_get {N : List Str} {vs : List V} {i : Nat} {v : V} (h : vs[i]? = some v) : (L2.start N vs)[i]? = some (some v) := by
  have hi : i < vs.length := (List.getElem?_eq_some_iff.mp h).1
  unfold L2.start
  rw [List.getElem?_append_left (by rw [List.length_map]; exact hi), List.getElem?_map, h]
  rfl
/-- the state at a def's entry -/
theorem srel_start {g : Gx} {K : PySem.W.Frag} {F H : Hp} {b : Bag} {ks : List AK} {vs : List V} {ds : List D} {N : List Str} (S : SRel g K [] F H [] b) (a : ArgsRel g.β K F ks vs ds) (hN : vs.length ≤ N.length) :
    SRel g K (slots ks ds ++ List.replicate (N.length - ks.length) .un) F H (L2.start N vs) b ∧ ∀ H0, OwnF (slots ks ds ++ List.replicate (N.length - ks.length) .un) (L2.start N vs) H0 := by
  have key : ∀ (i : Nat) (s : Sl), (slots ks ds ++ List.replicate (N.length - ks.length) Sl.un)[i]? = some s → (∃ v, vs[i]? = some v ∧ SlOk g K F H (some v) s ∧ ∀ xs, s ≠ .own xs) ∨ (s = .un ∧ i < N.length) := fun i s e => by
    by_cases h : i < (slots ks ds).length
    · rw [List.getElem?_append_left h] at e
      exact .inl (a.slots i s e)
    · rw [List.getElem?_append_right (Nat.le_of_not_lt h)] at e
      rw [List.getElem?_replicate] at e
      split at e
      · rename_i q
        cases e
        have e1 := a.nD.2
        have e2 := a.len
        exact .inr ⟨rfl, by omega⟩
      · cases e
  have nown : ∀ (i : Nat) (xs : List D), (slots ks ds ++ List.replicate (N.length - ks.length) Sl.un)[i]? ≠ some (.own xs) := fun i xs e => by
    rcases key i _ e with ⟨v, _, _, h⟩ | ⟨h, _⟩
    · exact h xs rfl
    · cases h
  refine ⟨⟨S.inn, S.sor, fun i s e => ?_, fun i j xs ys v e => absurd e (nown i xs), S.bag, S.tab⟩, fun H0 i xs p e => absurd e (nown i xs)⟩
  rcases key i s e with ⟨v, h1, h2, _⟩ | ⟨h, hi⟩
  · exact ⟨_, start_get h1, h2⟩
  · subst h
    have hl : (L2.start N vs).length = N.length := by
      unfold L2.start
      rw [List.length_append, List.length_map, List.length_replicate]
      omega
    exact ⟨_, List.getElem?_eq_getElem (by rw [hl]; exact hi), trivial⟩
/-- what a def hands back -/
def fnM {S : Type} (m : M (Out S)) : M D := M.bind m fun r => match r with
  | .nx _ => M.ret .none
  | .rt d => M.ret d
section
variable {P : Program} {w : World} {K : PySem.W.Frag} {mg : Str → Option Value} {base : Heap} {g : Gx}
theorem srel_at {g : Gx} {K : PySem.W.Frag} {F H : Hp} {b : Bag} (β : Addr) : SRel (g.at β) K [] F H [] b = SRel (g.at β) K [] F H [] b := rfl
/-- the very body -/
theorem fin_body {S : Type} {sh : S → List Sl} {X : Cx} {g : Gx} {Γ : List Sl} {E : XK} {ss : List Stmt} {m : M (Out S)} {F H : Hp} {σ : L2.St} {b b' : Bag} {o : Res D} {Q : VK} (h : Bj g X E Γ ss sh m) (S : SRel g X.K Γ F H σ b) (ow : OwnF Γ σ H) (hm : fnM m b = some (o, b')) (x : XOk g X.K (WK E) [] F H o b')
    (q : ∀ d, o = .ok d → ∀ v H' F', Grow g F H F' H' → BagAt g.β b' F' H' → Dp X.K F' v d → Q v H') : tBj g X.K E Γ sh m { nx := fun _ H' => Q .non H', rt := Q } σ H := by
  unfold fnM M.bind at hm
  cases e : m b with
  | none => rw [e] at hm; cases hm
  | some r =>
    obtain ⟨r, b1⟩ := r
    rw [e] at hm
    cases r with
    | exc c y =>
      have hm : (Res.exc c y, b1) = (o, b') := Option.some.inj hm
      cases hm
      exact ⟨F, H, F, F, b, _, _, ⟨S.refl, fun a o h => h⟩, S, ow, e, x, fun r z => by cases z⟩
    | ok r =>
      refine ⟨F, H, F, F, b, _, _, ⟨S.refl, fun a o h => h⟩, S, ow, e, trivial, fun r z => ?_⟩
      cases z
      cases r with
      | nx s =>
        cases hm
        exact fun σ' F' H' G R _ => q _ rfl .non H' F' G.gr R.bag .non
      | rt d =>
        cases hm
        exact fun v F' H' G B hd => q _ rfl v H' F' G.gr B hd
/-- a def by its body -/
theorem fnG_of {nm qual : Str} {st : Stmt} {f : Addr} {fd : FuncData} {N ps : List Str} {ks : List AK} {k : Nat} {Mf : List D → M D} {cc : Value → Prop} (F : Fun K nm qual st f fd) (S : FnScope N ps (defScope st)) (hl : ks.length = ps.length)
    (hcc : ∀ cdv, fd.code = cdv → cc cdv)
    (hbody : ∀ (β : Addr) (cdv : Value) (A : Around) (outer : List Env) (s : Shared) (H : Hp) (E : XK) (ds : List D), cc cdv → (∀ n, n ≤ k → Cg (g.at β) (cxOf (L2.CX P w) P w K mg base N qual (defScope st) f cdv A outer s H E) (WK E) n) → ds.length = nD ks →
      ∃ (S : Type) (sh : S → List Sl) (m : M (Out S)), Mf ds = fnM m ∧ Bj (g.at β) (cxOf (L2.CX P w) P w K mg base N qual (defScope st) f cdv A outer s H E) E (slots ks ds ++ List.replicate (N.length - ks.length) .un) (defBody st) sh m) :
    FnG P w K mg base (k + 1) f fd ps (spM g K ks Mf) := by
  obtain ⟨oc, od, kV, doc, pm, an, cdv, ct, osl, rfl, lk, hcd⟩ := F.ex
  refine ⟨fun A outer s H args us vs Q E hr hgu e0 hb r hlv ⟨β, F0, ds, b, o, b', ha, hS, hm, x, q⟩ => ?_⟩
  have hN : ps.length ≤ N.length := by
    have q := congrArg List.length S.pre
    rw [List.length_take] at q
    omega
  refine run_ofS lk hcd S hr e0 hb r hlv fun hr' => ?_
  have C : ∀ n, n ≤ k → Cg (g.at β) (cxOf (L2.CX P w) P w K mg base N qual (defScope st) f cdv A outer s H E) (WK E) n := fun n hn =>
    ⟨rfl, S.nd, hr'.mono hn, passes_of rfl, takes_of rfl rfl rfl rfl, hgu⟩
  obtain ⟨T, sh, m, e, hB⟩ := hbody β cdv A outer s H E ds (hcc _ rfl) C ha.nD.1
  obtain ⟨S1, ow⟩ := srel_start (N := N) hS ha (by rw [hlv]; exact hN)
  rw [e] at hm
  refine ⟨_, hB, fin_body hB S1 (ow H) hm x q⟩
end
end GL
namespace GL
open PySem PySem.Spec PyProof.Rows L2 LamX

/-! ### lambdas -/
/-- a function at f, known since (s0, H0) outside the frames fs: its promise at any later state -/
def Clb (P : Program) (w : World) (K : PySem.W.Frag) (mg : Str → Option Value) (base : Heap) (g : Gx) (fs : List Addr) (s0 : Shared) (H0 Fc : Hp) (k : Nat) (f : Addr) (n : Nat) (Mc : List D → M D) : Prop :=
  ∀ (s1 : Shared) (H1 : Hp), Un fs [] H0 H1 s0.heap s1.heap → PySem.W.FnAt f s1.heap ∧
    ∀ (A : Around) (outer : List Env) (us : List Value) (vs : List V) (Q : VK) (E : XK), Room k A → A.guards = some [] → Env0 P w K mg base A outer s1 H1 → Vals vs us → vs.length = n →
      (∃ (F : Hp) (ds : List D) (b : Bag) (o : Res D) (b' : Bag), DpAll K F vs ds ∧ (∀ a u, Fc a = some u → F a = some u) ∧ SRel g K [] F H1 [] b ∧ Mc ds b = some (o, b') ∧ XOk g K (fun c d _ H => E c d H) [] F H1 o b' ∧
        ∀ d, o = .ok d → ∀ v H' F', Grow g F H1 F' H' → BagAt g.β b' F' H' → Dp K F' v d → Q v H') →
      codeAny (model P w) A (.call (.ref f) ⟨us, []⟩) (CR (L2.CX P w) outer P w H1 s1 Q E) s1
theorem Clb.fn {P : Program} {w : World} {K : PySem.W.Frag} {mg : Str → Option Value} {base : Heap} {g : Gx} {fs : List Addr} {s0 : Shared} {H0 Fc : Hp} {k : Nat} {f : Addr} {n : Nat} {Mc : List D → M D} (c : Clb P w K mg base g fs s0 H0 Fc k f n Mc) : PySem.W.FnAt f s0.heap := (c s0 H0 Un.refl).1
/-- the slots at a lambda's entry -/
def lamSl (ds cs : List D) (m : Nat) : List Sl := ds.map .d ++ (cs.map .d ++ List.replicate m .un)
theorem lamSl_get {ds cs : List D} {m i : Nat} {s : Sl} (h : (lamSl ds cs m)[i]? = some s) : (∃ d, ds[i]? = some d ∧ s = .d d) ∨ (∃ j d, i = ds.length + j ∧ cs[j]? = some d ∧ s = .d d) ∨ (s = .un ∧ ∃ j, i = ds.length + cs.length + j ∧ j < m) := by
  unfold lamSl at h
  by_cases h1 : i < ds.length
  · rw [List.getElem?_append_left (by rw [List.length_map]; exact h1), List.getElem?_map] at h
    cases e : ds[i]? with
    | none => rw [e] at h; cases h
    | some d => rw [e] at h; cases h; exact .inl ⟨d, rfl, rfl⟩
  · rw [List.getElem?_append_right (by rw [List.length_map]; omega), List.length_map] at h
    by_cases h2 : i - ds.length < cs.length
    · rw [List.getElem?_append_left (by rw [List.length_map]; exact h2), List.getElem?_map] at h
      cases e : cs[i - ds.length]? with
      | none => rw [e] at h; cases h
      | some d => rw [e] at h; cases h; exact .inr (.inl ⟨_, d, by omega, e, rfl⟩)
    · rw [List.getElem?_append_right (by rw [List.length_map]; omega), List.length_map, List.getElem?_replicate] at h
      split at h
      · rename_i q
        cases h
        exact .inr (.inr ⟨rfl, i - ds.length - cs.length, by omega, by omega⟩)
      · cases h
section
variable {X : Cx} {pins : List (Addr × Obj)} {σ : L2.St} {H : Hp} {s : Shared}
/-- the function object is made; nothing that was tracked is gone -/
theorem lamMk {T : List (Addr × Str)} {c P : Addr} {params : Arguments} {body : Expr} {scope : Scope} {pos : Pos} {E Q : Value → Shared → Prop} (J : Inv X pins σ H s) (tb : TabB X.base X.mg c P) (hcode : X.env.code = .ref c) (hm : (P, X.env.qual ++ "<lambda>") ∈ T)
    (hu : ∀ p ∈ T, p.1 = P → p.2 = X.env.qual ++ "<lambda>") (hT : Tabs T H) (hdef : defaultsOf params X.env = ([], [])) (hfree : ∀ y ∈ scope.names, y.2 = .free → ∃ c, X.env.cells.lookup y.1 = some c)
    (fin : ∀ (f c' : Addr) (pm ctv : Value) (H1 : Hp) (s' : Shared), Inv X pins σ H1 s' → ExtN H H1 → (∀ b, H1 b = none → H b = none) → Tabs T H1 → s'.heap.get? f = some (PySem.W.kla_obj "<lambda>" (X.env.qual ++ "<lambda>") params body scope (cloFrom X.env.cells scope.names []) pm c' ctv) →
      H1 f = none → f ∉ frs X.stack → H1 c' = some (CodeO c' (X.env.qual ++ "<lambda>")) → (H c' = none ∨ H c' = some (CodeO c' (X.env.qual ++ "<lambda>"))) → (∀ b q, b ≠ c' → H1 b = some (CodeO b q) → H b = some (CodeO b q)) → Q (.ref f) s') : wpAny (model X.prog X.w) X.A (eval (.Lambda params body scope pos) X.env) Q E s := by
  obtain ⟨tbv, tP, tOk, tA⟩ := hT _ hm
  have tP' : s.heap.get? P = some { cls := .none, data := .fields tbv } := J.hok P _ tP
  have out : ∀ f, s.heap.objs.size ≤ f → f ∉ frs X.stack := fun f hf z => (List.mem_cons.mp (J.stkSub _ z)).elim (fun e => Nat.lt_irrefl _ (Nat.lt_of_lt_of_le (e ▸ J.lt) hf)) fun e => J.nofs hf e
  refine PySem.W.kla_eval hdef ?_
  cases hc : codeAmong pos tbv.toList with
  | some cv =>
    obtain ⟨c', rfl, hco⟩ := tA pos cv hc
    refine PySem.W.kla_makeFunctionHit (mg := X.mg) (c := c) (P := P) (ps := tbv) (closure_ok hfree) J.ok.glob (J.mod.glob.keeps J.bk) hcode (tb.code.keeps J.bk) tP' tOk hc (tb.bm.keeps J.bk) fun ctv h' tk hx hsz => ?_
    exact fin h'.objs.size c' ((X.mg "__name__").getD .none) ctv H _ (J.kept fun b o e => Heap.get?_push_of_some _ (hx b o e)) (ExtN.refl H) (fun _ e => e) hT (Heap.get?_push_size _ rfl) (J.hok.fresh hsz) (out _ hsz) hco (.inr hco) (fun _ _ _ e => e)
  | none =>
    refine PySem.W.kla_makeFunction (mg := X.mg) (c := c) (P := P) (ps := tbv) (closure_ok hfree) J.ok.glob (J.mod.glob.keeps J.bk) hcode (tb.code.keeps J.bk) tP' tOk hc tb.gP (tb.bm.keeps J.bk) fun c' ctv h' tk hx hge hlt hrec htb => ?_
    obtain ⟨c2, oc, vs, t, e2, hoc, hd, hv⟩ := hrec
    cases e2
    have hsz : s.heap.objs.size ≤ h'.objs.size := Nat.le_trans hge (Nat.le_of_lt hlt)
    have nC : H c' = none := J.hok.fresh hge
    have J1 := inv_table (t' := tk) (more := #[rawInt pos.line, rawInt pos.col, .ref c']) (h' := h'.push (PySem.W.kla_obj "<lambda>" (X.env.qual ++ "<lambda>") params body scope (cloFrom X.env.cells scope.names []) ((X.mg "__name__").getD .none) c' ctv)) J tP (fun b o hb e => Heap.get?_push_of_some _ (hx b o hb e)) (Heap.get?_push_of_some _ htb) hge ⟨oc, vs, t, Heap.get?_push_of_some _ hoc, hd, hv⟩
    have hE : ExtN H (upd (upd H P (.tbl (tbv ++ #[rawInt pos.line, rawInt pos.col, .ref c']))) c' (CodeO c' (X.env.qual ++ "<lambda>"))) := fun b o e n => by
      rw [upd_ne (ne_of_none e nC), upd_ne (fun z => n tbv (Option.some.inj (e.symm.trans (by rw [z]; exact tP))))]; exact e
    have eL : (tbv ++ #[rawInt pos.line, rawInt pos.col, .ref c']).toList = tbv.toList ++ [rawInt pos.line, rawInt pos.col, .ref c'] := by simp
    refine fin h'.objs.size c' ((X.mg "__name__").getD .none) ctv _ _ J1 hE (fun b e => NdefX.upd_none (NdefX.upd_none e)) (fun p hp => ?_) (Heap.get?_push_size _ rfl) ?_ (out _ hsz) upd_same (.inl nC) (fun b q hb e => by
      rw [upd_ne hb] at e
      by_cases hb2 : b = P
      · subst hb2
        rw [upd_same] at e
        exact absurd (Option.some.inj e).symm (codeO_ne _)
      · rw [upd_ne hb2] at e
        exact e)
    · by_cases hb : p.1 = P
      · rw [hu p hp hb, hb]
        refine ⟨_, by rw [upd_ne (ne_of_none tP nC), upd_same], by rw [eL]; exact PySem.TriplesOk_snoc _ _ _ _ tOk, fun p' cv hcv => ?_⟩
        rw [eL] at hcv
        rcases among_app _ tOk hcv with z | z
        · obtain ⟨c0, e1, e2⟩ := tA p' cv z; exact ⟨c0, e1, hE _ _ e2 codeO_ne⟩
        · exact ⟨c', z, upd_same⟩
      · obtain ⟨tv, a1, a2, a3⟩ := hT p hp
        refine ⟨tv, by rw [upd_ne (ne_of_none a1 nC), upd_ne hb]; exact a1, a2, fun p' cv hcv => ?_⟩
        obtain ⟨c0, e1, e2⟩ := a3 p' cv hcv; exact ⟨c0, e1, hE _ _ e2 codeO_ne⟩
    · have n2 : h'.objs.size ≠ P := Nat.ne_of_gt (Nat.lt_of_lt_of_le (Heap.lt_size tP') hsz)
      rw [upd_ne (Nat.ne_of_gt hlt), upd_ne n2]; exact J.hok.fresh hsz
end
/-- what a lambda expression is: its names, its maker's table -/
structure LamF (g : Gx) (X : Cx) (k : Nat) (params : Arguments) (body : Expr) (scope : Scope) (N ps fr : List Str) (js : List Nat) (Γ : List Sl) (cs : List D) (Mc : List D → M D) : Prop where
  tab : ∃ c P, X.env.code = .ref c ∧ TabB X.base X.mg c P ∧ (P, X.env.qual ++ "<lambda>") ∈ g.T ∧ ∀ p ∈ g.T, p.1 = P → p.2 = X.env.qual ++ "<lambda>"
  hdef : defaultsOf params X.env = ([], [])
  S : NdefX.NScope N ps fr scope
  free : ∀ y ∈ scope.names, y.2 = .free → X.env.scope.names.lookup y.1 = some .cell ∨ X.env.scope.names.lookup y.1 = some .free
  frs_ : ∀ y ∈ fr, (y, NameKind.free) ∈ scope.names
  hjs : js.map (fun j => X.N[j]?) = fr.map some
  caps : js.map (fun j => Γ[j]?) = cs.map (fun c => some (.d c))
  bind : ∀ (q : Str) (cl : List (Str × Addr)) (pm cv ctv : Value) (us : List Value), us.length = ps.length → bindArgs (PySem.W.kla_fn "<lambda>" q params body scope cl pm cv ctv) ⟨us, []⟩ = pure (ps.zip us)
  body : ∀ (A : Around) (outer : List Env) (s : Shared) (H : Hp) (E : XK) (f c' : Addr) (cl : List (Str × Addr)) (ds : List D), ds.length = ps.length →
    (∀ n, n ≤ k → Cg g (NdefX.ncx (L2.CX X.prog X.w) X.prog X.w X.K X.mg X.base N ⟨"<lambda>", X.env.qual ++ "<lambda>", params, [], scope, cl, c'⟩ f A outer s H E) (WK E) n) →
    Ev g (NdefX.ncx (L2.CX X.prog X.w) X.prog X.w X.K X.mg X.base N ⟨"<lambda>", X.env.qual ++ "<lambda>", params, [], scope, cl, c'⟩ f A outer s H E) (WK E) (lamSl ds cs (N.length - ps.length - fr.length)) body (Mc ds)
section
variable {g : Gx} {X : Cx} {W : WX} {Γ : List Sl} {k n : Nat} {params : Arguments} {body : Expr} {scope : Scope} {N ps fr : List Str} {js : List Nat} {cs : List D} {Mc : List D → M D} {F H : Hp} {σ : L2.St} {b : Bag} {pins : List (Addr × Obj)} {s : Shared} {pos : Pos}
/-- a lambda is made -/
theorem clo_make (L : LamF g X k params body scope N ps fr js Γ cs Mc) (S : SRel g X.K Γ F H σ b) (I : Inv X pins σ H s) {E Q : Value → Shared → Prop}
    (h : ∀ f H1 F1 s', Inv X pins σ H1 s' → Grow g F H F1 H1 → BagAt g.β b F1 H1 → Clb X.prog X.w X.K X.mg X.base g (frs X.stack) s' H1 F1 (k + 1) f ps.length Mc → Q (.ref f) s') : wpAny (model X.prog X.w) X.A (eval (.Lambda params body scope pos) X.env) Q E s := by
  obtain ⟨c, P, hcode, TB, hm, hu⟩ := L.tab
  have hfr : ∀ y ∈ scope.names, y.2 = .free → ∃ c, X.env.cells.lookup y.1 = some c := fun y hy e => (L.free y hy e).elim (fun z => I.ok.has _ (.inl z)) fun z => I.ok.has _ (.inr z)
  refine lamMk I TB hcode hm hu S.tab L.hdef hfr fun f c' pm ctv H1 s' I1 eN low T1 hf hfn hfrs hco hold back => ?_
  have hFc : ∀ u, F c' = some u → u = CodeO c' (X.env.qual ++ "<lambda>") := fun u e => by
    have := eN c' u (S.inn c' u e) (fun ps => S.sor c' u ps e)
    rw [hco] at this
    exact (Option.some.inj this).symm
  have nb : g.β ≠ c' := fun e => by
    have B := S.bag
    cases b with
    | none =>
      rcases hold with z | z
      · exact B.1 (by rw [e]; exact z)
      · exact B.2.2 _ (by rw [e]; exact z)
    | some t =>
      obtain ⟨x, y, z⟩ := t
      have B1 := B.1
      rw [e] at B1
      rcases hold with z | z
      · rw [z] at B1; cases B1
      · rw [z] at B1; unfold CodeO at B1; cases B1
  have hsub : ∀ a u, F a = some u → upd F c' (CodeO c' (X.env.qual ++ "<lambda>")) a = some u := fun a u e => by
    by_cases ha : a = c'
    · subst ha; rw [upd_same, hFc u e]
    · rw [upd_ne ha]; exact e
  have G : Grow g F H (upd F c' (CodeO c' (X.env.qual ++ "<lambda>"))) H1 := by
    refine ⟨hsub, fun a u e => ?_, fun a u e n1 _ => eN a u e n1, fun a u e => ?_, fun _ => T1, fun a u ps e => ?_, low⟩
    · by_cases ha : a = c'
      · subst ha; rw [upd_same] at e; cases e; exact hco
      · rw [upd_ne ha] at e; exact eN a u (S.inn a u e) (fun ps => S.sor a u ps e)
    · by_cases ha : a = c'
      · subst ha; rw [upd_same] at e; cases e; exact .inr (.inr ⟨_, rfl⟩)
      · rw [upd_ne ha] at e; exact .inl e
    · by_cases ha : a = c'
      · subst ha; rw [upd_same] at e; cases e; exact codeO_ne ps
      · rw [upd_ne ha] at e; exact S.sor a u ps e
  have B1 : BagAt g.β b (upd F c' (CodeO c' (X.env.qual ++ "<lambda>"))) H1 := by
    have B := S.bag
    cases b with
    | none =>
      refine ⟨fun z => B.1 (low _ z), by rw [upd_ne nb]; exact B.2.1, fun q z => ?_⟩
      exact B.2.2 q (back _ q nb z)
    | some t =>
      obtain ⟨x, y, z⟩ := t
      exact ⟨eN _ _ B.1 (fun ps z => by cases z), by rw [upd_ne nb]; exact B.2⟩
  refine h f H1 _ s' I1 G B1 fun s1 Hz un => ?_
  have fo := un.keep f _ hf hfn hfrs (fun z => nomatch (show f ∈ ([] : List Addr) from z))
  refine ⟨⟨_, _, _, _, fo⟩, fun A outer us vs Q' E' hr hgu e0 r hlv ⟨F2, ds, b2, o, b2', hd, hsu, S2, hm2, x2, q2⟩ => ?_⟩
  have caps : NdefX.Caps X (cloFrom X.env.cells scope.names []) fr js := NdefX.Caps.made I1.ok L.free L.frs_ L.hjs
  have C0 := NdefX.cells_of I1 caps
  have C1 : NdefX.CellsAt (cloFrom X.env.cells scope.names []) fr (js.map (NdefX.slotAt σ)) s1.heap Hz := by
    have cell : ∀ {c : Addr} {v : Option Value}, H1 c = none → s'.heap.IsCell c v → s1.heap.IsCell c v := fun {c v} n ⟨o, ho, hd⟩ => by
      obtain ⟨sl, q⟩ := un.any ho n (by simp)
      exact ⟨_, q, hd⟩
    refine ⟨C0.len, fun y c e => ?_, C0.inj, fun i y e => ?_⟩
    · obtain ⟨n0, v, z⟩ := C0.all y c e
      have z2 := z
      obtain ⟨o, ho, _⟩ := z
      exact ⟨un.free c o ho n0 (by simp), v, cell n0 z2⟩
    · obtain ⟨c, hc, hv⟩ := C0.has i y e
      refine ⟨c, hc, fun v ev => ?_⟩
      obtain ⟨u, ru, z⟩ := hv v ev
      exact ⟨u, ru, cell (C0.all y c hc).1 z⟩
  have hcz : Hz c' = some (CodeO c' (X.env.qual ++ "<lambda>")) := S2.inn c' _ (hsu c' _ upd_same)
  refine PySem.W.kla_callFunE hr.depth fo rfl L.S.co L.S.gen rfl (NdefX.codeO_at e0.hok hcz) ?_
  rw [L.bind _ _ _ _ _ us (by rw [← r.length]; exact hlv)]
  have lim : s1.heap.NoLimit := e0.mod.nolimit.keeps fun b o e => (e0.bs b o e).1
  refine wpAny_pure (wpAny_newFunctionEnv L.S.nocell (fun ⟨n, _⟩ hy => L.S.par n (List.of_mem_zip hy).1) (fun h₁ hns hsb => ⟨lim.fresh _ hsb, ?_⟩) L.S.kind)
  have kp : ∀ b o, s1.heap.get? b = some o → h₁.get? b = some o := fun b o e => hsb.extBut b o (Nat.ne_of_lt (Heap.lt_size e)) (Heap.get?_push_of_some _ e)
  have I2 : Inv (NdefX.ncx (L2.CX X.prog X.w) X.prog X.w X.K X.mg X.base N ⟨"<lambda>", X.env.qual ++ "<lambda>", params, [], scope, cloFrom X.env.cells scope.names [], c'⟩ f A outer s1 Hz E') [] (NdefX.startF N vs (js.map (NdefX.slotAt σ))) Hz { s1 with heap := h₁, toks := s1.toks + (ps.zip us).length } :=
    NdefX.inv_startN L.S hr.hd e0 hlv r C1 hns kp
  have hlen : ds.length = ps.length := by rw [← DpAll.length hd]; exact hlv
  have Cb : ∀ n, n ≤ k → Cg g (NdefX.ncx (L2.CX X.prog X.w) X.prog X.w X.K X.mg X.base N ⟨"<lambda>", X.env.qual ++ "<lambda>", params, [], scope, cloFrom X.env.cells scope.names [], c'⟩ f A outer s1 Hz E') (WK E') n := fun n hn =>
    ⟨rfl, L.S.nd, (hr.deeper _).mono hn, passes_of rfl, takes_of rfl rfl rfl rfl, hgu⟩
  have hB := L.body A outer s1 Hz E' f c' (cloFrom X.env.cells scope.names []) ds hlen Cb
  have hN : ps.length + fr.length ≤ N.length := by
    have q := congrArg List.length L.S.pre
    rw [List.length_take, List.length_append] at q
    omega
  have jl : js.length = fr.length := by
    have q := congrArg List.length L.hjs
    simpa using q
  have cl : cs.length = js.length := by
    have q := congrArg List.length L.caps
    simpa using q.symm
  have hS : SRel g X.K (lamSl ds cs (N.length - ps.length - fr.length)) F2 Hz (NdefX.startF N vs (js.map (NdefX.slotAt σ))) b2 := by
    have nown : ∀ (i : Nat) (xs : List D), (lamSl ds cs (N.length - ps.length - fr.length))[i]? ≠ some (.own xs) := fun i xs e => by
      rcases lamSl_get e with ⟨_, _, z⟩ | ⟨_, _, _, _, z⟩ | ⟨z, _⟩ <;> cases z
    refine ⟨S2.inn, S2.sor, fun i sl e => ?_, fun i j xs ys v e => absurd e (nown i xs), S2.bag, S2.tab⟩
    unfold NdefX.startF
    rcases lamSl_get e with ⟨d, h1, rfl⟩ | ⟨j, d, rfl, h1, rfl⟩ | ⟨rfl, j, rfl, hj⟩
    · obtain ⟨v, e1, e2⟩ := DpAll.get hd h1
      have hi : i < vs.length := (List.getElem?_eq_some_iff.mp e1).1
      exact ⟨some v, by rw [List.getElem?_append_left (by rw [List.length_map]; exact hi), List.getElem?_map, e1]; rfl, v, rfl, e2⟩
    · have hj : j < cs.length := (List.getElem?_eq_some_iff.mp h1).1
      rw [List.getElem?_append_right (by rw [List.length_map]; omega), show ds.length + j - (vs.map some).length = j by rw [List.length_map]; omega, List.getElem?_append_left (by rw [List.length_map]; omega), List.getElem?_map]
      have hq : (js.map (fun j => Γ[j]?))[j]? = some (some (.d d)) := by rw [L.caps, List.getElem?_map, h1]; rfl
      rw [List.getElem?_map] at hq
      cases ej : js[j]? with
      | none => rw [ej] at hq; cases hq
      | some m =>
        rw [ej] at hq
        have hq : Γ[m]? = some (.d d) := Option.some.inj hq
        obtain ⟨ov, e1, v, rfl, e3⟩ := S.slot m _ hq
        refine ⟨some v, by show some (NdefX.slotAt σ m) = _; unfold NdefX.slotAt; rw [e1], v, rfl, dp_grow (fun a u e => hsu a u (hsub a u e)) _ _ e3⟩
    · refine ⟨none, ?_, trivial⟩
      rw [List.getElem?_append_right (by rw [List.length_map]; omega), List.getElem?_append_right (by simp only [List.length_map]; omega), List.getElem?_replicate, if_pos (by simp only [List.length_map]; omega)]
  refine PySem.W.kla_codeExpr (wpAny_mono (hB.run [] _ _ Hz Q' I2 ⟨F2, b2, o, b2', hS, hm2, xok_sig (α := D) (β := D) x2, q2⟩) (fun v s'' hq => ?_) fun e s'' hq => hq)
  obtain ⟨w', H', J', rv, q⟩ := hq
  exact ⟨w', H', J'.os, J'.bare, J'.base, J'.hok, rv, q⟩
end
end GL
namespace GL
open PySem PySem.Spec PyProof.Rows L2 LamX

/-- the promise of a def whose last argument is a function -/
def spC (g : Gx) (P : Program) (w : World) (K : PySem.W.Frag) (mg : Str → Option Value) (base : Heap) (kc n : Nat) (Mf : (List D → M D) → List D → M D) (fs : List Addr) (s : Shared) : Sp := fun vs H Q E =>
  ∃ (β : Addr) (F : Hp) (vs0 : List V) (ds : List D) (b : Bag) (o : Res D) (b' : Bag) (f : Addr) (Fc : Hp) (Mc : List D → M D), vs = vs0 ++ [.ref f] ∧ DpAll K F vs0 ds ∧ Clb P w K mg base (g.at β) fs s H Fc kc f n Mc ∧ (∀ a u, Fc a = some u → F a = some u) ∧
    SRel (g.at β) K [] F H [] b ∧ Mf Mc ds b = some (o, b') ∧ XOk (g.at β) K (fun c d _ H => E c d H) [] F H o b' ∧ ∀ d, o = .ok d → ∀ v H' F', Grow (g.at β) F H F' H' → BagAt β b' F' H' → Dp K F' v d → Q v H'
structure FnC (P : Program) (w : World) (K : PySem.W.Frag) (mg : Str → Option Value) (base : Heap) (g : Gx) (k : Nat) (f : Addr) (fd : FuncData) (ps : List Str) (kc n : Nat) (Mf : (List D → M D) → List D → M D) : Prop where
  run : ∀ (A : Around) (outer : List Env) (s : Shared) (H : Hp) (args : Args) (us : List Value) (vs : List V) (Q : VK) (E : XK), Room k A → A.guards = some [] → Env0 P w K mg base A outer s H → BindsTo s fd args (ps.zip us) → Vals vs us → vs.length = ps.length →
    spC g P w K mg base kc n Mf (frs outer) s vs H Q E → codeAny (model P w) A (.call (.ref f) args) (CR (L2.CX P w) outer P w H s Q E) s
structure KnC (P : Program) (w : World) (K : PySem.W.Frag) (mg : Str → Option Value) (base : Heap) (g : Gx) (x : Str) (st : Stmt) (k : Nat) (ps : List Str) (kc n : Nat) (Mf : (List D → M D) → List D → M D) : Prop where
  ex : ∃ (f : Addr) (fd : FuncData) (nm qual : Str), mg x = some (.ref f) ∧ Fun K nm qual st f fd ∧ FnC P w K mg base g k f fd ps kc n Mf ∧ Binds K fd ps []
section
variable {P : Program} {w : World} {K : PySem.W.Frag} {mg : Str → Option Value} {base : Heap} {g : Gx}
theorem srel_startC {F H : Hp} {b : Bag} {vs : List V} {ds : List D} {N : List Str} {f : Addr} {Fc : Hp} {m : Nat} (S : SRel g K [] F H [] b) (a : DpAll K F vs ds) (hF : ∀ a u, Fc a = some u → F a = some u) (hN : vs.length + 1 + m = N.length) :
    SRel g K (ds.map .d ++ (.v (.ref f) Fc :: List.replicate m .un)) F H (L2.start N (vs ++ [.ref f])) b ∧ ∀ H0, OwnF (ds.map .d ++ (.v (.ref f) Fc :: List.replicate m .un)) (L2.start N (vs ++ [.ref f])) H0 := by
  have hl := DpAll.length a
  have key : ∀ (i : Nat) (s : Sl), (ds.map Sl.d ++ (Sl.v (.ref f) Fc :: List.replicate m Sl.un))[i]? = some s → (∃ v, (vs ++ [V.ref f])[i]? = some v ∧ SlOk g K F H (some v) s ∧ ∀ xs, s ≠ .own xs) ∨ (s = .un ∧ i < N.length) := fun i s e => by
    by_cases h : i < ds.length
    · rw [List.getElem?_append_left (by rw [List.length_map]; exact h), List.getElem?_map] at e
      cases q : ds[i]? with
      | none => rw [q] at e; cases e
      | some d =>
        rw [q] at e
        cases e
        have hi : i < vs.length := by omega
        have e1 : vs[i]? = some vs[i] := List.getElem?_eq_getElem hi
        obtain ⟨d', e2, e3⟩ := DpAll.getV a e1
        rw [q] at e2
        cases e2
        exact .inl ⟨_, by rw [List.getElem?_append_left hi]; exact e1, ⟨_, rfl, e3⟩, fun xs z => by cases z⟩
    · rw [List.getElem?_append_right (by rw [List.length_map]; omega), List.length_map] at e
      cases j : i - ds.length with
      | zero =>
        rw [j] at e
        cases e
        exact .inl ⟨.ref f, by rw [List.getElem?_append_right (by omega), show i - vs.length = 0 by omega]; rfl, ⟨rfl, hF⟩, fun xs z => by cases z⟩
      | succ j =>
        rw [j, List.getElem?_cons_succ, List.getElem?_replicate] at e
        split at e
        · cases e; exact .inr ⟨rfl, by omega⟩
        · cases e
  have nown : ∀ (i : Nat) (xs : List D), (ds.map Sl.d ++ (Sl.v (.ref f) Fc :: List.replicate m Sl.un))[i]? ≠ some (.own xs) := fun i xs e => by
    rcases key i _ e with ⟨v, _, _, h⟩ | ⟨h, _⟩
    · exact h xs rfl
    · cases h
  refine ⟨⟨S.inn, S.sor, fun i s e => ?_, fun i j xs ys v e => absurd e (nown i xs), S.bag, S.tab⟩, fun H0 i xs p e => absurd e (nown i xs)⟩
  rcases key i s e with ⟨v, h1, h2, _⟩ | ⟨h, hi⟩
  · exact ⟨_, start_get h1, h2⟩
  · subst h
    have hlen : (L2.start N (vs ++ [.ref f])).length = N.length := by
      unfold L2.start
      have h1 : (vs ++ [V.ref f]).length = vs.length + 1 := by simp
      rw [List.length_append, List.length_map, List.length_replicate, h1]
      omega
    exact ⟨_, List.getElem?_eq_getElem (by rw [hlen]; exact hi), trivial⟩
/-- such a def by its body -/
theorem fnC_of {nm qual : Str} {st : Stmt} {f : Addr} {fd : FuncData} {N ps : List Str} {nd k kc n : Nat} {Mf : (List D → M D) → List D → M D} (F : Fun K nm qual st f fd) (S : FnScope N ps (defScope st)) (hl : ps.length = nd + 1)
    (hbody : ∀ (β : Addr) (cdv : Value) (A : Around) (outer : List Env) (s : Shared) (H : Hp) (E : XK) (ds : List D) (fa : Addr) (Fc : Hp) (Mc : List D → M D), (∀ n, n ≤ k → Cg (g.at β) (cxOf (L2.CX P w) P w K mg base N qual (defScope st) f cdv A outer s H E) (WK E) n) → ds.length = nd →
      Clb P w K mg base (g.at β) (frs outer) s H Fc kc fa n Mc →
      ∃ (S : Type) (sh : S → List Sl) (m : M (Out S)), Mf Mc ds = fnM m ∧ Bj (g.at β) (cxOf (L2.CX P w) P w K mg base N qual (defScope st) f cdv A outer s H E) E (ds.map .d ++ (.v (.ref fa) Fc :: List.replicate (N.length - ps.length) .un)) (defBody st) sh m) :
    FnC P w K mg base g (k + 1) f fd ps kc n Mf := by
  obtain ⟨oc, od, kV, doc, pm, an, cdv, ct, osl, rfl, lk, hcd⟩ := F.ex
  refine ⟨fun A outer s H args us vs Q E hr hgu e0 hb r hlv ⟨β, F0, vs0, ds, b, o, b', fa, Fc, Mc, ev, ha, hc, hsu, hS, hm, x, q⟩ => ?_⟩
  have hN : ps.length ≤ N.length := by
    have q := congrArg List.length S.pre
    rw [List.length_take] at q
    omega
  subst ev
  have hl0 : vs0.length = nd := by
    rw [List.length_append] at hlv
    have : vs0.length + 1 = ps.length := hlv
    omega
  refine run_ofS lk hcd S hr e0 hb r hlv fun hr' => ?_
  have C : ∀ n, n ≤ k → Cg (g.at β) (cxOf (L2.CX P w) P w K mg base N qual (defScope st) f cdv A outer s H E) (WK E) n := fun n hn =>
    ⟨rfl, S.nd, hr'.mono hn, passes_of rfl, takes_of rfl rfl rfl rfl, hgu⟩
  obtain ⟨T, sh, m, e, hB⟩ := hbody β cdv A outer s H E ds fa Fc Mc C (by rw [← DpAll.length ha]; exact hl0) hc
  obtain ⟨S1, ow⟩ := srel_startC (N := N) (f := fa) (m := N.length - ps.length) hS ha hsu (by omega)
  rw [e] at hm
  exact ⟨_, hB, fin_body hB S1 (ow H) hm x q⟩
end
section
variable {g : Gx} {X : Cx} {W : WX} {Γ : List Sl} {k kc n m i : Nat} {e : Expr} {es : List Expr} {me : M D} {y : Str} {fa : Addr} {Fc : Hp} {Mc : List D → M D} {p pos lpos : Pos} {mk : (List D → M D) → M D}
theorem replicate_d {β : Addr} {K : PySem.W.Frag} {F : Hp} : ∀ {n : Nat} {vs : List V} {ds : List D}, ArgsRel β K F (List.replicate n .d) vs ds → DpAll K F vs ds
  | 0, _, _, .nil => .nil
  | n + 1, _, _, .d h t => .cons h (replicate_d (n := n) t)
/-- a call of a function that a name holds -/
theorem ev_callV (C : Cg g X W m) (hk : k ≤ m) (hN : X.N[i]? = some y) (hv : Vis X.env.scope y) (hΓ : Γ[i]? = some (.v (.ref fa) Fc)) (hc : Clb X.prog X.w X.K X.mg X.base g X.fs X.s_0 X.H_0 Fc k fa n Mc) (hex : X.ex = []) (ha : As g X W Γ (e :: es) (List.replicate n .d) mk)
    (hd : (y == ("__debug__" : Str)) = false := by decide) (hcd : (y == ("__classdict__" : Str)) = false := by decide) (he : starEach (e :: es) X.env = (false, eval e X.env) :: starEach es X.env := by rfl) (hpl : (backTo pos (starEach es X.env)).any (·.1) = false := by rfl) :
    Ev g X W Γ (.Call (.Name y p) (e :: es) [] pos) (mk Mc) := by
  refine ⟨fun pins s σ H Q I ⟨F0, b, o, b', S, hm0, xo, q⟩ => ?_⟩
  obtain ⟨ov, e1, e2, hsub⟩ := S.slot i _ hΓ
  subst e2
  refine wpAny_Call_Name_kw (thn ((pe_var (pos := p) (i := i) hN hv hd hcd).run pins s σ H (fun v H1 => v = .ref fa ∧ H1 = H) I ⟨.ref fa, e1, rfl, rfl⟩) fun u s1 ⟨v, H1, I1, r1, q1⟩ => ?_)
  obtain ⟨ev, eH⟩ := q1
  subst ev
  rw [eH] at I1
  obtain rfl : u = Value.ref fa := r1
  have un : ∀ {σ : L2.St} {H : Hp} {s : Shared}, Inv X pins σ H s → Un X.fs [] X.H_0 H X.s_0.heap s.heap := fun I => by
    have := I.base
    rw [hex] at this
    exact this
  refine PySem.W.callWith_F (first := []) (hc s1 H (un I1)).1 (thn (ha.run pos pins s1 σ H (fun vs H1 => vs.length = n ∧ ∃ F1 ds b1, DpAll X.K F1 vs ds ∧ (∀ a u, Fc a = some u → F1 a = some u) ∧ SRel g X.K [] F1 H1 [] b1 ∧ Mc ds b1 = some (o, b') ∧ XOk g X.K W σ F1 H1 o b' ∧
      ∀ d, o = .ok d → ∀ v H' F', Grow g F1 H1 F' H' → BagAt g.β b' F' H' → Dp X.K F' v d → Q v H') I1 ?_) fun us s2 ⟨vs, H2, I2, r, hlv, F1, ds, b1, hda, hF1, S1, h1, x1, q1⟩ => ⟨(hc s2 H2 (un I2)).1, ?_⟩) he hpl
  · refine ⟨Mc, F0, b, o, b', S, hm0, xo, fun ds b1 vs H1 F1 h1 S1 G1 x1 r1 => ⟨r1.len.trans (List.length_replicate ..), F1, ds, b1, replicate_d r1, fun a u h => G1.sub a u (hsub a u h), S1.nil, h1, x1, fun d e v H' F' G B hd => q d e v H' F' (G1.trans G) B hd⟩⟩
  · show wpAny _ _ (call (.ref fa) us) _ _ _
    refine wpAny_call (codeAny_mono ((hc s2 H2 (un I2)).2 X.A X.stack us vs Q (WE W σ) (C.room.mono hk) C.gd I2.env0 r hlv ⟨F1, ds, b1, o, b', hda, hF1, S1, h1, ?_, q1⟩) fun z s' hq => ?_)
    · cases o with
      | ok a => trivial
      | exc c y => exact x1
    · match z, hq with
      | .error e, hq => exact passAt C.tk σ pins H2 s2 e s' I2 hq
      | .ok (.ret u), hq => exact I2.after hq
      | .ok .next, hq => exact False.elim hq
      | .ok .brk, hq => exact False.elim hq
      | .ok .cont, hq => exact False.elim hq
/-- .. without arguments -/
theorem ev_callV0 (C : Cg g X W m) (hk : k ≤ m) (hN : X.N[i]? = some y) (hv : Vis X.env.scope y) (hΓ : Γ[i]? = some (.v (.ref fa) Fc)) (hc : Clb X.prog X.w X.K X.mg X.base g X.fs X.s_0 X.H_0 Fc k fa 0 Mc) (hex : X.ex = [])
    (hd : (y == ("__debug__" : Str)) = false := by decide) (hcd : (y == ("__classdict__" : Str)) = false := by decide) : Ev g X W Γ (.Call (.Name y p) [] [] pos) (Mc []) := by
  refine ⟨fun pins s σ H Q I ⟨F0, b, o, b', S, hm0, xo, q⟩ => ?_⟩
  obtain ⟨ov, e1, e2, hsub⟩ := S.slot i _ hΓ
  subst e2
  refine wpAny_Call_Name_kw (thn ((pe_var (pos := p) (i := i) hN hv hd hcd).run pins s σ H (fun v H1 => v = .ref fa ∧ H1 = H) I ⟨.ref fa, e1, rfl, rfl⟩) fun u s1 ⟨v, H1, I1, r1, q1⟩ => ?_)
  obtain ⟨ev, eH⟩ := q1
  subst ev
  rw [eH] at I1
  obtain rfl : u = Value.ref fa := r1
  have un : Un X.fs [] X.H_0 H X.s_0.heap s1.heap := by
    have := I1.base
    rw [hex] at this
    exact this
  refine PySem.W.callWith_F0 (first := []) (hc s1 H un).1 ?_
  show wpAny _ _ (call (.ref fa) []) _ _ _
  refine wpAny_call (codeAny_mono ((hc s1 H un).2 X.A X.stack [] [] Q (WE W σ) (C.room.mono hk) C.gd I1.env0 .nil rfl ⟨F0, [], b, o, b', .nil, hsub, S.nil, hm0, ?_, q⟩) fun z s' hq => ?_)
  · cases o with
    | ok a => trivial
    | exc c y => exact xo
  · match z, hq with
    | .error e, hq => exact passAt C.tk σ pins H s1 e s' I1 hq
    | .ok (.ret u), hq => exact I1.after hq
    | .ok .next, hq => exact False.elim hq
    | .ok .brk, hq => exact False.elim hq
    | .ok .cont, hq => exact False.elim hq
variable {x : Str} {st : Stmt} {ps psL fr N : List Str} {js : List Nat} {cs : List D} {params : Arguments} {body : Expr} {scope : Scope} {Mf : (List D → M D) → List D → M D}
theorem run_fnC {f : Addr} {fd : FuncData} {E : XK} {pins : List (Addr × Obj)} {σ : L2.St} {H : Hp} {s : Shared} {Q : VK} {us : List Value} {vs : List V} (G : FnC X.prog X.w X.K X.mg X.base g k f fd ps kc n Mf) (hr : Room k X.A) (hgu : X.A.guards = some [])
    (hb : BindsTo s fd ⟨us, []⟩ (ps.zip us)) (hx : PassesAt (L2.CX X.prog X.w) X σ E) (I : L2.Inv X pins σ H s) (r : Vals vs us) (hl : vs.length = ps.length) (h : spC g X.prog X.w X.K X.mg X.base kc n Mf (frs X.stack) s vs H Q E) :
    wpAny (model X.prog X.w) X.A (call (.ref f) us []) (EP X pins σ Q) X.xe s := by
  refine wpAny_call (codeAny_mono (G.run X.A X.stack s H ⟨us, []⟩ us vs Q E hr hgu I.env0 hb r hl h) fun z s' hq => ?_)
  match z, hq with
  | .error e, hq => exact hx pins H s e s' I hq
  | .ok (.ret u), hq => exact I.after hq
  | .ok .next, hq => exact False.elim hq
  | .ok .brk, hq => exact False.elim hq
  | .ok .cont, hq => exact False.elim hq
/-- f(e, lambda ..: ..) -/
theorem ev_callL1 (C : Cg g X W m) (kn : KnC X.prog X.w X.K X.mg X.base g x st k ps (kc + 1) psL.length Mf) (hk : k ≤ m) (hl : ps.length = 2) (hg : Gl X x) (he : Ev g X W Γ e me)
    (L : ∀ d : D, LamF g X kc params body scope N psL fr js Γ cs Mc) (hdb : (x == ("__debug__" : Str)) = false := by decide)
    (h1 : starEach [e, .Lambda params body scope lpos] X.env = (false, eval e X.env) :: starEach [.Lambda params body scope lpos] X.env := by rfl) (hpl : (backTo pos (starEach [.Lambda params body scope lpos] X.env)).any (·.1) = false := by rfl)
    (h2 : backTo pos ((false, eval e X.env) :: starEach [.Lambda params body scope lpos] X.env) = (false, eval e X.env) :: [(false, eval (.Lambda params body scope lpos) X.env)] := by rfl) :
    Ev g X W Γ (.Call (.Name x p) [e, .Lambda params body scope lpos] [] pos) (M.bind me fun d => Mf Mc [d]) := by
  obtain ⟨f, fd, nm, qual, hm, F, G, hb⟩ := kn
  refine ⟨fun pins s σ H Q I ⟨F0, b, o, b', S, hm0, xo, q⟩ => ?_⟩
  refine wpAny_Call_Name_kw (ld_glob I hg hm ?_ hdb)
  refine PySem.W.callWith_K (h₀ := X.base) I.ok.mod.kin F.kp ?_ h1 hpl
  rw [h1, h2]
  refine Calls.spliced_cons (thn (he.run pins s σ H (fun v H1 => ∃ d F1 b1, Mf Mc [d] b1 = some (o, b') ∧ SRel g X.K Γ F1 H1 σ b1 ∧ Grow g F0 H F1 H1 ∧ XOk g X.K W σ F1 H1 o b' ∧ Dp X.K F1 v d) I ?_) fun u s1 ⟨v, H1, I1, r1, d, F1, b1, hm1, S1, G1, x1, hd⟩ => ?_)
  · exact tEv_bind S hm0 xo fun a b1 v H1 F1 _ h1 S1 G1 x1 r1 => ⟨a, F1, b1, h1, S1, G1, x1, r1⟩
  · refine Calls.spliced_cons (clo_make (L d) S1 I1 fun fa H2 F2 s2 I2 G2 B2 hc => ?_)
    refine Calls.spliced_nil ⟨I2.kIn, ?_⟩
    have S2 := S1.grow G2 B2
    have hbb := hb s2 [u, .ref fa] I2.kIn (by rw [List.append_nil]; exact hl.symm)
    rw [List.append_nil] at hbb
    refine run_fnC G (C.room.mono hk) C.gd hbb (passAt C.tk σ) I2 (vs := [v, .ref fa]) (.cons r1 (.cons rfl .nil)) hl.symm ?_
    refine ⟨g.β, F2, [v], [d], b1, o, b', fa, F2, Mc, rfl, .cons (G2.dp hd) .nil, hc, fun _ _ h => h, S2.nil, hm1, xok_we (x1.grow G2), fun d e v H' F' G B hd => q d e v H' F' (G1.trans (G2.trans G)) B hd⟩
/-- f(lambda: ..) -/
theorem ev_callL0 (C : Cg g X W m) (kn : KnC X.prog X.w X.K X.mg X.base g x st k ps (kc + 1) psL.length Mf) (hk : k ≤ m) (hl : ps.length = 1) (hg : Gl X x)
    (L : LamF g X kc params body scope N psL fr js Γ cs Mc) (hdb : (x == ("__debug__" : Str)) = false := by decide)
    (h1 : starEach [.Lambda params body scope lpos] X.env = (false, eval (.Lambda params body scope lpos) X.env) :: starEach [] X.env := by rfl) (hpl : (backTo pos (starEach [] X.env)).any (·.1) = false := by rfl)
    (h2 : backTo pos ((false, eval (.Lambda params body scope lpos) X.env) :: starEach [] X.env) = [(false, eval (.Lambda params body scope lpos) X.env)] := by rfl) :
    Ev g X W Γ (.Call (.Name x p) [.Lambda params body scope lpos] [] pos) (Mf Mc []) := by
  obtain ⟨f, fd, nm, qual, hm, F, G, hb⟩ := kn
  refine ⟨fun pins s σ H Q I ⟨F0, b, o, b', S, hm0, xo, q⟩ => ?_⟩
  refine wpAny_Call_Name_kw (ld_glob I hg hm ?_ hdb)
  refine PySem.W.callWith_K (h₀ := X.base) I.ok.mod.kin F.kp ?_ h1 hpl
  rw [h1, h2]
  refine Calls.spliced_cons (clo_make L S I fun fa H2 F2 s2 I2 G2 B2 hc => ?_)
  refine Calls.spliced_nil ⟨I2.kIn, ?_⟩
  have S2 := S.grow G2 B2
  have hbb := hb s2 [.ref fa] I2.kIn (by rw [List.append_nil]; exact hl.symm)
  rw [List.append_nil] at hbb
  refine run_fnC G (C.room.mono hk) C.gd hbb (passAt C.tk σ) I2 (vs := [.ref fa]) (.cons rfl .nil) hl.symm ?_
  exact ⟨g.β, F2, [], [], b, o, b', fa, F2, Mc, rfl, .nil, hc, fun _ _ h => h, S2.nil, hm0, xok_we (xo.grow G2), fun d e v H' F' G B hd => q d e v H' F' (G2.trans G) B hd⟩
end
end GL
namespace GL
open PySem PySem.Spec PyProof.Rows L2 LamX
section
variable {g : Gx} {X : Cx} {W : WX} {Γ : List Sl} {n : Nat} {pos p2 : Pos} {a c : Expr} {ma mc : M D} {K : PySem.W.Frag}
/-! ### x[i] -/
def dGet : D → D → M D
  | .list xs, .int i => M.lift (atI xs i)
  | .tuple xs, .int i => M.lift (atI xs i)
  | _, _ => M.fail
theorem atI_dp {F : Hp} {vs : List V} {ds : List D} {i : Int} {d : D} (h : DpAll K F vs ds) (e : atI ds i = some d) : ∃ v, atI vs i = some v ∧ Dp K F v d := by
  unfold atI at e ⊢
  rw [DpAll.length h]
  cases q : ixN ds.length i with
  | none => rw [q] at e; cases e
  | some j => rw [q] at e; exact DpAll.get h e
theorem SqL.sub {F H : Hp} {p : Addr} {xs : List V} (S : ∀ a o, F a = some o → H a = some o) (h : SqL K F p xs) : SqL K H p xs := SqL.grow S h
theorem bin_get : Bin g K (fun x y H Q => rIxL K x y H Q ∨ rIxT K x y H Q) dGet := by
  intro F H b b' o x y a c Q S hx hy hm q
  cases a <;> cases c <;> first | (cases hm; done) | skip
  · rename_i ds i
    cases hy
    cases hx with
    | lst hs ha =>
    have hm : M.lift (atI ds i) b = some (o, b') := hm
    cases e : atI ds i with
    | none => rw [e] at hm; cases hm
    | some d =>
      rw [e] at hm
      cases hm
      obtain ⟨v, e1, e2⟩ := atI_dp ha e
      exact .inl ⟨_, _, i, v, rfl, rfl, SqL.grow S.inn hs, e1, q d rfl v H F S.refl S.bag e2⟩
  · rename_i ds i
    cases hy
    cases hx with
    | tup hs ha =>
    have hm : M.lift (atI ds i) b = some (o, b') := hm
    cases e : atI ds i with
    | none => rw [e] at hm; cases hm
    | some d =>
      rw [e] at hm
      cases hm
      obtain ⟨v, e1, e2⟩ := atI_dp ha e
      exact .inr ⟨_, _, i, v, rfl, rfl, SqT.grow S.inn hs, e1, q d rfl v H F S.refl S.bag e2⟩
theorem ev_get (ha : Ev g X W Γ a ma) (hc : Ev g X W Γ c mc) (hs : PlainIx c) : Ev g X W Γ (.Subscript a c pos) (M.bind ma fun x => M.bind mc fun y => dGet x y) :=
  ev_ix (r := fun x y H Q => rIxL X.K x y H Q ∨ rIxT X.K x y H Q) (fun value slice pins s σ H x y v u Q I rx ry h hs => h.elim (fun h => ix_list value slice pins s σ H x y v u Q I rx ry h hs) (fun h => ix_tup value slice pins s σ H x y v u Q I rx ry h hs)) bin_get ha hc hs

/-! ### x[lo:hi] -/
def tPo (g : Gx) (K : PySem.W.Frag) (W : WX) (Γ : List Sl) (m : M (Option Int)) : TO := fun σ H Q =>
  ∃ F b o b', SRel g K Γ F H σ b ∧ m b = some (o, b') ∧ XOk g K W σ F H o b' ∧ ∀ d, o = .ok d → ∀ H' F', Grow g F H F' H' → BagAt g.β b' F' H' → Q d H'
def Po (g : Gx) (X : Cx) (W : WX) (Γ : List Sl) (e : Option Expr) (m : M (Option Int)) : Prop := PO X e (tPo g X.K W Γ m)
theorem po_imp {e : Option Expr} {t t' : TO} (h : PO X e t) (k : ∀ σ H Q, t' σ H Q → t σ H Q) : PO X e t' := ⟨fun pins s σ H Q I q => h.run pins s σ H Q I (k σ H Q q)⟩
theorem tPo_bind {α : Type} {m : M (Option Int)} {f : Option Int → M α} {F H : Hp} {σ : L2.St} {b b' : Bag} {o : Res α} {R : Option Int → Hp → Prop} (S : SRel g K Γ F H σ b) (h : M.bind m f b = some (o, b')) (x : XOk g K W σ F H o b')
    (k : ∀ a b1 H1 F1, f a b1 = some (o, b') → SRel g K Γ F1 H1 σ b1 → Grow g F H F1 H1 → XOk g K W σ F1 H1 o b' → R a H1) : tPo g K W Γ m σ H R := by
  unfold M.bind at h
  cases q : m b with
  | none => rw [q] at h; cases h
  | some r =>
    obtain ⟨r, b1⟩ := r
    rw [q] at h
    cases r with
    | exc c y =>
      have h : (Res.exc c y, b1) = (o, b') := Option.some.inj h
      cases h
      exact ⟨F, b, _, _, S, q, x, fun d e => by cases e⟩
    | ok a =>
      refine ⟨F, b, _, _, S, q, trivial, fun d e H' F' G B => ?_⟩
      cases e
      exact k a b1 H' F' h (S.grow G B) G (x.grow G)
def dInt (x : D) : M (Option Int) := match x with
  | .int i => M.ret (some i)
  | _ => M.fail
theorem po_no : Po g X W Γ none (M.ret none) := po_imp po_none fun σ H Q ⟨F, b, o, b', S, hm, x, q⟩ => by
  cases hm
  exact q none rfl H F S.refl S.bag
theorem po_ev (ha : Ev g X W Γ a ma) : Po g X W Γ (some a) (M.bind ma dInt) := po_imp (po_some ha) fun σ H Q ⟨F, b, o, b', S, hm, x, q⟩ => by
  refine tEv_bind S hm x fun d b1 v H1 F1 _ h1 S1 G1 x1 r1 => ?_
  unfold dInt at h1
  cases d <;> first | (cases h1; done) | skip
  cases r1
  cases h1
  exact ⟨_, rfl, q _ rfl H1 F1 G1 S1.bag⟩
/-- what is cut out -/
def cut {α : Type} (xs : List α) (lo hi : Option Int) : List α := (xs.drop (HT.sIx xs.length 0 lo)).take (HT.sIx xs.length xs.length hi - HT.sIx xs.length 0 lo)
def dCut (lo hi : Option Int) : D → M D
  | .list xs => M.ret (.list (cut xs lo hi))
  | .tuple xs => M.ret (.tuple (cut xs lo hi))
  | _ => M.fail
theorem cut_all {α : Type} {xs : List α} {lo hi : Option Int} (h1 : HT.sIx xs.length 0 lo = 0) (h2 : HT.sIx xs.length xs.length hi = xs.length) : cut xs lo hi = xs := by
  unfold cut
  rw [h1, h2, List.drop_zero, Nat.sub_zero, List.take_length]
theorem cut_dp {F : Hp} {vs : List V} {ds : List D} {lo hi : Option Int} (h : DpAll K F vs ds) : DpAll K F (cutV vs lo hi) (cut ds lo hi) := by
  unfold cutV cut
  rw [DpAll.length h]
  exact DpAll.take _ (DpAll.drop _ h)
variable {lo hi : Option Expr} {ml mh : M (Option Int)}
theorem ev_cut (ha : Ev g X W Γ a ma) (hl : Po g X W Γ lo ml) (hh : Po g X W Γ hi mh) : Ev g X W Γ (.Subscript a (.Slice lo hi none p2) pos) (M.bind ma fun x => M.bind ml fun l => M.bind mh fun h => dCut l h x) :=
  Ev.of (pe_slice (SlR.or sl_list sl_tupA) ha hl hh) fun F H σ b o b' S hm x Q q => by
    refine tEv_bind S hm x fun d b1 v H1 F1 _ h1 S1 G1 x1 r1 => ?_
    refine tPo_bind S1 h1 x1 fun l b2 H2 F2 h2 S2 G2 x2 => ?_
    refine tPo_bind S2 h2 x2 fun h b3 H3 F3 h3 S3 G3 x3 => ?_
    have rd := G3.dp (G2.dp r1)
    cases d <;> first | (cases h3; done) | skip
    · rename_i ds
      cases rd with
      | lst hs hd =>
      cases h3
      refine .inl ⟨_, _, rfl, SqL.grow S3.inn hs, fun p hp => ?_⟩
      obtain ⟨G, B, dd⟩ := new_lst S3 hp (cut_dp (lo := l) (hi := h) hd)
      exact q _ rfl _ _ _ (G1.trans (G2.trans (G3.trans G))) B dd
    · rename_i ds
      cases rd with
      | tup hs hd =>
      have hd0 := hd
      cases h3
      have len := DpAll.length hd
      refine .inr ⟨_, _, rfl, SqT.grow S3.inn hs, fun ⟨e1, e2⟩ => ?_, fun _ p hp => ?_⟩
      · rw [len] at e1 e2
        rw [cut_all e1 e2] at q
        exact q _ rfl _ H3 F3 (G1.trans (G2.trans G3)) S3.bag (.tup hs hd)
      · obtain ⟨G, B, dd⟩ := new_tup S3 hp (cut_dp (lo := l) (hi := h) hd)
        exact q _ rfl _ _ _ (G1.trans (G2.trans (G3.trans G))) B dd

/-! ### + -/
theorem op_addLL : OpR X (binaryOp .Add) (fun x y H Q => ∃ l b xs zs, x = .ref l ∧ y = .ref b ∧ SqL X.K H l xs ∧ SqL X.K H b zs ∧ xs.length + zs.length ≤ sizeLine ∧ ∀ p, H p = none → Q (.ref p) (upd H p (.lst (xs ++ zs)))) := by
  intro pins s σ H x y v u Q I rx ry h
  obtain ⟨l, b, xs, zs, rfl, rfl, h1, h2, hz, q⟩ := h
  cases rx
  cases ry
  obtain ⟨its, r, e, hl⟩ := I.list h1
  obtain ⟨its2, r2, e2, hl2⟩ := I.list h2
  obtain ⟨⟨cls, dd, data, sl⟩, ho, hc, n, hd⟩ := e.isList
  obtain ⟨⟨cls2, dd2, data2, sl2⟩, ho2, hc2, n2, hd2⟩ := e2.isList
  simp only at hc hd hc2 hd2
  subst hc hd hc2 hd2
  have ea : its.toArray ++ its2.toArray = (its ++ its2).toArray := by simp
  have hl1 := r.length
  have hl2' := r2.length
  refine concat_meets ⟨_, ho, rfl⟩ ⟨_, ho2, rfl⟩ noFill_list_add seq_list_add PySem.F.slot_list_add PySem.F.entry_list_add (PySem.F.args_list_add_2 _ _) (list_addW l b its.toArray its2.toArray n n2 dd dd2 sl sl2 (by rw [List.size_toArray, List.size_toArray]; omega)) ⟨ho, ho2, ?_⟩
  rw [ea]
  exact ⟨.ref _, _, I.lnew (t' := s.toks) (r.append r2) (by rw [List.length_append]; omega), rfl, q _ I.fresh⟩
def rAdd (K : PySem.W.Frag) : R2 := fun x y H Q => rI0 (fun i j => .int (i + j)) x y H Q ∨ rCatA K x y H Q ∨ ∃ l b xs zs, x = .ref l ∧ y = .ref b ∧ SqL K H l xs ∧ SqL K H b zs ∧ xs.length + zs.length ≤ sizeLine ∧ ∀ p, H p = none → Q (.ref p) (upd H p (.lst (xs ++ zs)))
theorem op_addA : OpR X (binaryOp .Add) (rAdd X.K) := by
  intro pins s σ H x y v u Q I rx ry h
  rcases h with h | h | h
  · exact op_add pins s σ H x y v u Q I rx ry h
  · exact op_catA pins s σ H x y v u Q I rx ry h
  · exact op_addLL pins s σ H x y v u Q I rx ry h
def addD : D → D → M D
  | .int i, .int j => M.ret (.int (i + j))
  | .list xs, .list ys => match Nat.ble (xs.length + ys.length) sz with | true => M.ret (.list (xs ++ ys)) | false => M.fail
  | .tuple xs, .tuple ys => match Nat.ble (xs.length + ys.length) sz with | true => M.ret (.tuple (xs ++ ys)) | false => M.fail
  | _, _ => M.fail
theorem bin_add : Bin g K (rAdd K) addD := by
  intro F H b b' o x y a c Q S hx hy hm q
  cases a <;> cases c <;> first | (cases hm; done) | skip
  · cases hx; cases hy
    cases hm
    exact .inl ⟨_, _, rfl, rfl, q _ rfl _ H F S.refl S.bag (.int _)⟩
  · rename_i xs ys
    cases hx with
    | lst hs ha =>
    cases hy with
    | lst hs' ha' =>
    cases e : Nat.ble (xs.length + ys.length) sz with
    | false =>
      unfold addD at hm
      simp only [e] at hm
      cases hm
    | true =>
      unfold addD at hm
      simp only [e] at hm
      cases hm
      refine .inr (.inr ⟨_, _, _, _, rfl, rfl, SqL.grow S.inn hs, SqL.grow S.inn hs', ?_, fun p hp => ?_⟩)
      · rw [DpAll.length ha, DpAll.length ha', sz_eq]; exact Nat.le_of_ble_eq_true e
      · obtain ⟨G, B, dd⟩ := new_lst S hp (DpAll.app ha ha')
        exact q _ rfl _ _ _ G B dd
  · rename_i xs ys
    cases hx with
    | tup hs ha =>
    cases hy with
    | tup hs' ha' =>
    cases e : Nat.ble (xs.length + ys.length) sz with
    | false =>
      unfold addD at hm
      simp only [e] at hm
      cases hm
    | true =>
      unfold addD at hm
      simp only [e] at hm
      cases hm
      refine .inr (.inl ⟨_, _, _, _, rfl, rfl, SqT.grow S.inn hs, SqT.grow S.inn hs', ?_, fun e1 => ?_, fun e1 e2 => ?_, fun _ _ p hp => ?_⟩)
      · rw [DpAll.length ha, DpAll.length ha', sz_eq]; exact Nat.le_of_ble_eq_true e
      · subst e1
        cases ha
        exact q _ rfl _ H F S.refl S.bag (.tup hs' ha')
      · subst e2
        cases ha'
        rw [List.append_nil] at q
        exact q _ rfl _ H F S.refl S.bag (.tup hs ha)
      · obtain ⟨G, B, dd⟩ := new_tup S hp (DpAll.app ha ha')
        exact q _ rfl _ _ _ G B dd
theorem ev_add (ha : Ev g X W Γ a ma) (hc : Ev g X W Γ c mc) : Ev g X W Γ (.BinOp a .Add c pos) (M.bind ma fun x => M.bind mc fun y => addD x y) := ev_bin op_addA bin_add ha hc

/-! ### * % // of ints, tuples times ints -/
def rMul (K : PySem.W.Frag) : R2 := fun x y H Q => rI CMulX (fun i j => .int (i * j)) x y H Q ∨ rRepT K x y H Q
theorem op_mulA : OpR X (binaryOp .Mult) (rMul X.K) := by
  intro pins s σ H x y v u Q I rx ry h
  rcases h with h | h
  · exact op_mulX pins s σ H x y v u Q I rx ry h
  · exact op_repT pins s σ H x y v u Q I rx ry h
def repl (n : Nat) (xs : List D) : List D := (List.replicate n xs).flatten
instance (i j : Int) : Decidable (CMulX i j) := by unfold CMulX; infer_instance
def mulD : D → D → M D
  | .int i, .int j => match decide (CMulX i j) with | true => M.ret (.int (i * j)) | false => M.fail
  | .tuple xs, .int k => match decide (2 ≤ k ∧ k ≤ 1000) && !xs.isEmpty && Nat.ble xs.length 1000 with | true => M.ret (.tuple (repl k.toNat xs)) | false => M.fail
  | _, _ => M.fail
theorem rep_dp {F : Hp} {vs : List V} {ds : List D} (h : DpAll K F vs ds) : ∀ n, DpAll K F (List.replicate n vs).flatten (repl n ds)
  | 0 => .nil
  | n + 1 => by
    unfold repl
    rw [List.replicate_succ, List.replicate_succ, List.flatten_cons, List.flatten_cons]
    exact DpAll.app h (rep_dp h n)
theorem bin_mul : Bin g K (rMul K) mulD := by
  intro F H b b' o x y a c Q S hx hy hm q
  cases a <;> cases c <;> first | (cases hm; done) | skip
  · rename_i i j
    cases hx; cases hy
    cases e : decide (CMulX i j) with
    | false => unfold mulD at hm; simp only [e] at hm; cases hm
    | true =>
      unfold mulD at hm
      simp only [e] at hm
      cases hm
      exact .inl ⟨_, _, rfl, rfl, of_decide_eq_true e, q _ rfl _ H F S.refl S.bag (.int _)⟩
  · rename_i xs k
    cases hy
    cases hx with
    | tup hs ha =>
    cases e : decide (2 ≤ k ∧ k ≤ 1000) && !xs.isEmpty && Nat.ble xs.length 1000 with
    | false => unfold mulD at hm; simp only [e] at hm; cases hm
    | true =>
      unfold mulD at hm
      simp only [e] at hm
      cases hm
      simp only [Bool.and_eq_true, Bool.not_eq_true', decide_eq_true_eq] at e
      obtain ⟨⟨⟨e1, e2⟩, e3⟩, e4⟩ := e
      refine .inr ⟨_, _, _, rfl, rfl, SqT.grow S.inn hs, fun z => ?_, e1, e2, by rw [DpAll.length ha]; exact Nat.le_of_ble_eq_true e4, fun p hp => ?_⟩
      · subst z
        cases ha
        cases e3
      · obtain ⟨G, B, dd⟩ := new_tup S hp (rep_dp ha k.toNat)
        exact q _ rfl _ _ _ G B dd
theorem ev_mul (ha : Ev g X W Γ a ma) (hc : Ev g X W Γ c mc) : Ev g X W Γ (.BinOp a .Mult c pos) (M.bind ma fun x => M.bind mc fun y => mulD x y) := ev_bin op_mulA bin_mul ha hc
theorem bin_rI {C : Int → Int → Prop} [∀ i j, Decidable (C i j)] {f : Int → Int → Int} : Bin g K (rI C fun i j => .int (f i j)) (dI fun i j => match decide (C i j) with | true => M.ret (.int (f i j)) | false => M.fail) := by
  intro F H b b' o x y a c Q S hx hy hm q
  cases a <;> cases c <;> first | (cases hm; done) | skip
  rename_i i j
  cases hx; cases hy
  unfold dI at hm
  cases e : decide (C i j) with
  | false => simp only [e] at hm; cases hm
  | true =>
    simp only [e] at hm
    cases hm
    exact ⟨_, _, rfl, rfl, of_decide_eq_true e, q _ rfl _ H F S.refl S.bag (.int _)⟩
instance (i j : Int) : Decidable (CDiv i j) := by unfold CDiv; infer_instance
instance (i j : Int) : Decidable (CPow i j) := by unfold CPow; infer_instance
def modD : D → D → M D := dI fun i j => match decide (0 < j) with | true => M.ret (.int (i % j)) | false => M.fail
def fdvD : D → D → M D := dI fun i j => match decide (CDiv i j) with | true => M.ret (.int (i / j)) | false => M.fail
def powD : D → D → M D := dI fun i j => match decide (CPow i j) with | true => M.ret (.int (i ^ j.toNat)) | false => M.fail
theorem ev_mod (ha : Ev g X W Γ a ma) (hc : Ev g X W Γ c mc) : Ev g X W Γ (.BinOp a .Mod c pos) (M.bind ma fun x => M.bind mc fun y => modD x y) := ev_bin op_mod (bin_rI (C := fun _ j => 0 < j)) ha hc
theorem ev_fdv (ha : Ev g X W Γ a ma) (hc : Ev g X W Γ c mc) : Ev g X W Γ (.BinOp a .FloorDiv c pos) (M.bind ma fun x => M.bind mc fun y => fdvD x y) := ev_bin op_fdiv (bin_rI (C := CDiv)) ha hc
theorem ev_pow (ha : Ev g X W Γ a ma) (hc : Ev g X W Γ c mc) : Ev g X W Γ (.BinOp a .Pow c pos) (M.bind ma fun x => M.bind mc fun y => powD x y) := ev_bin op_pow (bin_rI (C := CPow)) ha hc
def negD : D → M D
  | .int i => M.ret (.int (-i))
  | _ => M.fail

/-! ### in, not in -/
def dIn (neg : Bool) : D → D → M D
  | x, .list ys => match SeqAt.shaped x && SeqAt.shaped (.list ys) with | true => M.ret (.bool (neg ^^ ys.any fun z => PyData.eqv z x)) | false => M.fail
  | x, .tuple ys => match SeqAt.shaped x && SeqAt.shaped (.tuple ys) with | true => M.ret (.bool (neg ^^ ys.any fun z => PyData.eqv z x)) | false => M.fail
  | _, _ => M.fail
def rInDT (K : PySem.W.Frag) (neg : Bool) : R2 := fun x y H Q => ∃ d ds, Dp K H x d ∧ (Dp K H y (.list ds) ∧ SeqAt.shaped (.list ds) = true ∨ Dp K H y (.tuple ds) ∧ SeqAt.shaped (.tuple ds) = true) ∧ SeqAt.shaped d = true ∧ Q (.bl (neg ^^ ds.any fun z => PyData.eqv z d)) H
theorem op_inDT (hu : X.A.units + 65 < cLine) : OpR X (compareOp .In) (rInDT X.K false) := by
  intro pins s σ H x y v u Q I rx ry ⟨d, ds, hd, he, sd, q⟩
  obtain ⟨as, r1⟩ := Dp.reads I d x v hd rx
  rw [Bool.false_xor] at q
  rcases he with ⟨he, se⟩ | ⟨he, se⟩
  · obtain ⟨bs, r2⟩ := Dp.reads I (.list ds) y u he ry
    exact SeqAt.in_list_reads r2 r1 (SeqAt.canLay_of_shaped se) (SeqAt.canLay_of_shaped sd) (room_in_shaped sd hu) ⟨.bl _, H, I, rfl, q⟩
  · obtain ⟨bs, r2⟩ := Dp.reads I (.tuple ds) y u he ry
    exact SeqAt.in_tuple_reads r2 r1 (SeqAt.canLay_of_shaped se) (SeqAt.canLay_of_shaped sd) (room_in_shaped sd hu) ⟨.bl _, H, I, rfl, q⟩
theorem op_notInDT (hu : X.A.units + 65 < cLine) : OpR X (compareOp .NotIn) (rInDT X.K true) := by
  intro pins s σ H x y v u Q I rx ry ⟨d, ds, hd, he, sd, q⟩
  obtain ⟨as, r1⟩ := Dp.reads I d x v hd rx
  rw [Bool.true_xor] at q
  rcases he with ⟨he, se⟩ | ⟨he, se⟩
  · obtain ⟨bs, r2⟩ := Dp.reads I (.list ds) y u he ry
    exact SeqAt.notIn_list_reads r2 r1 (SeqAt.canLay_of_shaped se) (SeqAt.canLay_of_shaped sd) (room_in_shaped sd hu) ⟨.bl _, H, I, rfl, q⟩
  · obtain ⟨bs, r2⟩ := Dp.reads I (.tuple ds) y u he ry
    exact SeqAt.notIn_tuple_reads r2 r1 (SeqAt.canLay_of_shaped se) (SeqAt.canLay_of_shaped sd) (room_in_shaped sd hu) ⟨.bl _, H, I, rfl, q⟩
theorem bin_in {neg : Bool} : Bin g K (rInDT K neg) (dIn neg) := by
  intro F H b b' o x y a c Q S hx hy hm q
  have key : ∀ (ys : List D) (b0 : Bool), (match b0 with | true => M.ret (.bool (neg ^^ ys.any fun z => PyData.eqv z a)) | false => M.fail : M D) b = some (o, b') → b0 = true ∧ o = .ok (.bool (neg ^^ ys.any fun z => PyData.eqv z a)) ∧ b' = b := fun ys b0 h => by
    cases b0 with
    | true => cases h; exact ⟨rfl, rfl, rfl⟩
    | false => cases h
  cases c <;> first | (cases hm; done) | skip
  · rename_i ys
    obtain ⟨e, rfl, rfl⟩ := key ys _ hm
    simp only [Bool.and_eq_true] at e
    exact ⟨a, ys, dp_sub S.inn hx, .inl ⟨dp_sub S.inn hy, e.2⟩, e.1, q _ rfl _ H F S.refl S.bag (.bl _)⟩
  · rename_i ys
    obtain ⟨e, rfl, rfl⟩ := key ys _ hm
    simp only [Bool.and_eq_true] at e
    exact ⟨a, ys, dp_sub S.inn hx, .inr ⟨dp_sub S.inn hy, e.2⟩, e.1, q _ rfl _ H F S.refl S.bag (.bl _)⟩
theorem c_in (C : Cg g X W n) : CmpS g X .In (dIn false) := ⟨_, op_inDT C.units, bin_in⟩
theorem c_notIn (C : Cg g X W n) : CmpS g X .NotIn (dIn true) := ⟨_, op_notInDT C.units, bin_in⟩
/-- is True, is False; two bools -/
def isB (neg : Bool) : D → D → M D
  | .bool x, .bool y => M.ret (.bool (neg ^^ decide (x = y)))
  | _, _ => M.fail
def rIsBA (neg : Bool) : R2 := fun x y H Q => ∃ a b : Bool, x = .bl a ∧ y = .bl b ∧ Q (.bl (neg ^^ decide (a = b))) H
theorem bin_isB {neg : Bool} : Bin g K (rIsBA neg) (isB neg) := by
  intro F H b b' o x y a c Q S hx hy hm q
  cases a <;> cases c <;> first | (cases hm; done) | skip
  cases hx; cases hy
  cases hm
  exact ⟨_, _, rfl, rfl, q _ rfl _ H F S.refl S.bag (.bl _)⟩
theorem c_is : CmpS g X .Is (isB false) := ⟨rIsBA false, fun pins s σ H x y v u Q I rx ry ⟨a, b, h1, h2, q⟩ => op_isBl pins s σ H x y v u Q I rx ry ⟨a, b, h1, h2, by rw [Bool.false_xor] at q; exact q⟩, bin_isB⟩
theorem c_isNot : CmpS g X .IsNot (isB true) := ⟨rIsBA true, fun pins s σ H x y v u Q I rx ry ⟨a, b, h1, h2, q⟩ => op_notBl pins s σ H x y v u Q I rx ry ⟨a, b, h1, h2, by rw [Bool.true_xor] at q; exact q⟩, bin_isB⟩
end
end GL
namespace GL
open PySem PySem.Spec PyProof.Rows L2 LamX
section
variable {g : Gx} {X : Cx} {W : WX} {E : XK} {Γ : List Sl} {n : Nat} {pos p tpos : Pos} {tg tg1 e e1 elt : Expr} {scope : Scope} {own : List (Str × Nat)} {ifs ifs1 : List Expr}
  {is is1 vs vs1 : List Nat} {un un1' : D → Option (List D)} {mi : M (List D)} {mt : List D → M Bool} {mi1 : List D → M (List D)} {mt1 : List D → List D → M Bool} {me : List D → List D → M D}
theorem pi_ex {α : Type} {t : α → TI} (h : ∀ a, PI X tg e (t a)) : PI X tg e (fun σ H Q => ∃ a, t a σ H Q) := ⟨fun pins s σ H Q I ⟨a, q⟩ => (h a).run pins s σ H Q I q⟩
/-- one item of the outer walk -/
def itemM2 (un : D → Option (List D)) (mt : List D → M Bool) (mi1 : List D → M (List D)) (un1 : D → Option (List D)) (mt1 : List D → List D → M Bool) (me : List D → List D → M D) (d : D) : M (List D) :=
  M.bind (M.lift (un d)) fun ds => M.bind (mt ds) fun c => M.ite c (M.bind (mi1 ds) fun ys => compM (itemM un1 (mt1 ds) (me ds)) ys) (M.ret [])
def lcM2 (mi : M (List D)) (un : D → Option (List D)) (mt : List D → M Bool) (mi1 : List D → M (List D)) (un1 : D → Option (List D)) (mt1 : List D → List D → M Bool) (me : List D → List D → M D) : M (List D) :=
  M.bind mi fun xs => M.bind (compM (itemM2 un mt mi1 un1 mt1 me) xs) chkL
theorem compM_noexc {f : D → M (List D)} : ∀ (xs : List D) (b b' : Bag) (c : String) (y : D), compM f xs b ≠ some (.exc c y, b')
  | [], b, b', c, y, z => by cases z
  | d :: ds, b, b', c, y, z => by
    unfold compM at z
    cases e3 : f d b with
    | none => simp only [e3] at z; cases z
    | some r =>
      obtain ⟨r, b3⟩ := r
      simp only [e3] at z
      cases r with
      | exc c y => cases z
      | ok ys =>
        cases e4 : compM f ds b3 with
        | none => simp only [e4] at z; cases z
        | some r =>
          obtain ⟨r, b4⟩ := r
          simp only [e4] at z
          cases r with
          | exc c y => cases z
          | ok zs => cases z
theorem compM_cons {f : D → M (List D)} {d : D} {ds : List D} {b b' : Bag} {zs : List D} (h : compM f (d :: ds) b = some (.ok zs, b')) : ∃ ys b1 zs', f d b = some (.ok ys, b1) ∧ compM f ds b1 = some (.ok zs', b') ∧ zs = ys ++ zs' := by
  unfold compM at h
  cases e3 : f d b with
  | none => simp only [e3] at h; cases h
  | some r =>
    obtain ⟨r, b3⟩ := r
    simp only [e3] at h
    cases r with
    | exc c y => cases h
    | ok ys =>
      cases e4 : compM f ds b3 with
      | none => simp only [e4] at h; cases h
      | some r =>
        obtain ⟨r, b4⟩ := r
        simp only [e4] at h
        cases r with
        | exc c y => cases h
        | ok zs' => cases h; exact ⟨ys, b3, zs', rfl, e4, rfl⟩
theorem bind_ok {α β : Type} {m : M α} {f : α → M β} {b b' : Bag} {o : β} (h : M.bind m f b = some (.ok o, b')) : ∃ a b1, m b = some (.ok a, b1) ∧ f a b1 = some (.ok o, b') := by
  rcases bind_cases h with ⟨c, y, _, z⟩ | h
  · cases z
  · exact h
theorem drop_hd {α : Type} {xs : List α} {i : Nat} {d : α} (hd : xs[i]? = some d) : xs.drop i = d :: xs.drop (i + 1) := by
  have hlt := (List.getElem?_eq_some_iff.mp hd).1
  rw [List.drop_eq_getElem_cons hlt]
  congr 1
  rw [List.getElem?_eq_getElem hlt] at hd
  exact Option.some.inj hd
theorem rd_lc2 {K : PySem.W.Frag} (his : ∀ i ∈ is, i ∈ vs) (hvs : ∀ i ∈ is, i < Γ.length) (his1 : ∀ i ∈ is1, i ∈ vs1) (hvs1 : ∀ i ∈ is1, i < Γ.length) (hlenG : ∀ ds, (setG (wipeG Γ vs) is ds).length = Γ.length) {σ : L2.St} {H : Hp} {Q : VK}
    (h : tEvN g K W Γ (lcM2 mi un mt mi1 un1' mt1 me) σ H Q) :
    tLc2 (tIt g K W Γ mi) (tTg g K is un) (fun σ H Q => ∃ ds, tEt g K W0 (setG (wipeG Γ vs) is ds) (mt ds) σ H Q) (fun σ H R => ∃ ds, tIt g K W0 (setG (wipeG Γ vs) is ds) (mi1 ds) σ H R) (tTg g K is1 un1')
      (fun σ H Q => ∃ p : List D × List D, tEt g K W0 (setG (wipeG (setG (wipeG Γ vs) is p.1) vs1) is1 p.2) (mt1 p.1 p.2) σ H Q) (fun σ H Q => ∃ p : List D × List D, tEv g K W0 (setG (wipeG (setG (wipeG Γ vs) is p.1) vs1) is1 p.2) (me p.1 p.2) σ H Q) vs vs1 σ H Q := by
  obtain ⟨F, b, o, b', S, hm, x, q⟩ := h
  rcases bind_cases hm with ⟨c, y, e1, rfl⟩ | ⟨xs, b1, e1, hm⟩
  · exact ⟨F, b, _, _, S, e1, x, fun ds z => by cases z⟩
  refine ⟨F, b, _, _, S, e1, trivial, fun ds z J H1 F1 G1 B1 WD => ?_⟩
  cases z
  rcases bind_cases hm with ⟨c, y, e2, rfl⟩ | ⟨total, b2, e2, hm⟩
  · exact absurd e2 (compM_noexc _ _ _ _ _)
  obtain ⟨hc, hm⟩ := ite_some hm
  cases hm
  have hsz := Nat.le_of_ble_eq_true hc
  have S1 := S.grow G1 B1
  have Rw := S1.wipe vs
  intro a ha
  have hβ : a ≠ g.β := fun z => S1.bag.some_.1 (z ▸ ha)
  have hFa : F1 a = none := by
    cases z : F1 a with
    | none => rfl
    | some u => rw [S1.inn a u z] at ha; cases ha
  have hown : ∀ (i : Nat) (ys : List D) (p : Addr), (wipeG Γ vs)[i]? = some (Sl.own ys) → (L2.wipe σ vs)[i]? = some (some (.ref p)) → p ≠ a := fun i ys p z1 z2 z => by
    obtain ⟨z3, z4⟩ := wipeG_own z1 z2
    obtain ⟨o', z5, p2, us, rfl, z6, _⟩ := S1.slot i _ z3
    rw [z4] at z5
    cases z5
    rw [z, ha] at z6
    cases z6
  refine ⟨fun i m H2 => m = xs.length - i ∧ i ≤ xs.length ∧ ∃ F2 b3 us acc zs, Grow g F1 H1 F2 H2 ∧ SRel g K (wipeG Γ vs) F2 H2 (L2.wipe σ vs) b3 ∧ H2 a = some (.lst us) ∧ F2 a = none ∧ DpAll K F2 us acc ∧ compM (itemM2 un mt mi1 un1' mt1 me) (xs.drop i) b3 = some (.ok zs, b') ∧ acc ++ zs = total,
    ⟨_, rfl, Nat.zero_le _, F1, b1, [], [], total, grow_D (vs := []) S1.refl ha (.inl ha) hFa, srel_D (vs := []) Rw (.inl ha) hFa hβ hown, upd_same, hFa, .nil, e2, rfl⟩, ?_⟩
  rintro i m H2 ⟨rfl, hi2, F2, b3, us, acc, zs, G2, R2, hD, hFD, hda, hcm, htot⟩
  by_cases hlt : i < xs.length
  rotate_left
  · have ei : i = xs.length := by omega
    subst ei
    rw [List.drop_length] at hcm
    cases hcm
    have ht : acc = total := by rw [← htot]; simp
    subst ht
    exact .inl ⟨WD.stop F2 H2 _ G2.sub R2.nil, q _ rfl a us H2 F2 (G1.trans G2) R2.bag hD hFD (G1.low a ha) hβ hda⟩
  refine .inr ⟨WD.go i F2 H2 b3 G2.sub R2.nil hlt, _, fun H' h => h, fun v H3 hy => ?_⟩
  obtain ⟨F3, d, hd1, G3, B3, rd⟩ := WD.yld i F2 H2 b3 v H3 G2.sub R2.nil hlt hy
  rw [drop_hd hd1] at hcm
  obtain ⟨ys, b4, zs', ei, er, rfl⟩ := compM_cons hcm
  cases eu : un d with
  | none => unfold itemM2 at ei; rw [eu] at ei; cases ei
  | some ds =>
  have ei : (M.bind (mt ds) fun c => M.ite c (M.bind (mi1 ds) fun ys => compM (itemM un1' (mt1 ds) (me ds)) ys) (M.ret [])) b3 = some (.ok ys, b4) := by
    unfold itemM2 at ei
    rw [eu] at ei
    exact ei
  refine ⟨F3, d, ds, G3.inn, rd, eu, fun ws hws => ⟨(wipe_setV his).trans wipe_wipe, ds, ?_⟩⟩
  have R3w := R2.grow G3 B3
  have R3 := R3w.setG (is := is) hws (fun j hj => by rw [wipeG_length]; exact hvs j hj)
  have hD3 : H3 a = some (.lst us) := G3.ext a _ hD (fun ps z => by cases z) hβ
  have hF3 : F3 a = none := G3.stay hD hβ hFD
  refine tEt_bind R3 ei trivial fun c b6 H6 F6 h6 R6 G6 x6 => ?_
  have hD6 : H6 a = some (.lst us) := G6.ext a _ hD3 (fun ps z => by cases z) hβ
  have hF6 : F6 a = none := G6.stay hD3 hβ hF3
  cases c with
  | false =>
    cases h6
    exact iteF ⟨xs.length - (i + 1), by omega, rfl, hlt, F6, _, us, acc, zs', G2.trans (G3.trans G6), R3w.grow G6 R6.bag, hD6, hF6, G6.dpAll (G3.dpAll hda), er, by rw [← htot]; simp⟩
  | true =>
  obtain ⟨items, b7, e7, h8⟩ := bind_ok (show M.bind (mi1 ds) (fun ys => compM (itemM un1' (mt1 ds) (me ds)) ys) b6 = some (.ok ys, b4) from h6)
  refine iteT ⟨ds, F6, b6, _, _, R6, e7, trivial, fun ds1 z J1 H7 F7 G7 B7 WD1 => ?_⟩
  cases z
  have hD7 : H7 a = some (.lst us) := G7.ext a _ hD6 (fun ps z => by cases z) hβ
  have hF7 : F7 a = none := G7.stay hD6 hβ hF6
  have R7w := (R3w.grow G6 R6.bag).grow G7 B7
  have s37 : ∀ a u, F3 a = some u → F7 a = some u := fun a u h => G7.sub a u (G6.sub a u h)
  refine ⟨fun j k H' => k = items.length - j ∧ j ≤ items.length ∧ ∃ F5 b8 us' acc' zs1, Grow g F1 H1 F5 H' ∧ (∀ a u, F7 a = some u → F5 a = some u) ∧ SRel g K (wipeG Γ vs) F5 H' (L2.wipe σ vs) b8 ∧ H' a = some (.lst us') ∧ F5 a = none ∧ DpAll K F5 us' acc' ∧
      compM (itemM un1' (mt1 ds) (me ds)) (items.drop j) b8 = some (.ok zs1, b4) ∧ acc' ++ zs1 = acc ++ ys,
    ⟨_, rfl, Nat.zero_le _, F7, b7, us, acc, ys, G2.trans (G3.trans (G6.trans G7)), fun _ _ h => h, R7w, hD7, hF7, G7.dpAll (G6.dpAll (G3.dpAll hda)), h8, rfl⟩, ?_⟩
  rintro j k H8 ⟨rfl, hj2, F8, b8, us8, acc8, zs8, G8, s78, R8, hD8, hF8, hda8, hcm8, htot8⟩
  by_cases hlt8 : j < items.length
  rotate_left
  · have ej : j = items.length := by omega
    subst ej
    rw [List.drop_length] at hcm8
    cases hcm8
    rw [List.append_nil] at htot8
    subst htot8
    exact .inl ⟨WD1.stop F8 H8 _ s78 R8.nil, xs.length - (i + 1), by omega, rfl, hlt, F8, _, us8, _, zs', G8, R8, hD8, hF8, hda8, er, by rw [← htot]; simp⟩
  refine .inr ⟨WD1.go j F8 H8 b8 s78 R8.nil hlt8, _, fun H' h => h, fun v9 H9 hy9 => ?_⟩
  obtain ⟨F9, d9, hd9, G9, B9, rd9⟩ := WD1.yld j F8 H8 b8 v9 H9 s78 R8.nil hlt8 hy9
  rw [drop_hd hd9] at hcm8
  obtain ⟨ys9, b10, zs9, ei9, er9, rfl⟩ := compM_cons hcm8
  cases eu9 : un1' d9 with
  | none => unfold itemM at ei9; rw [eu9] at ei9; cases ei9
  | some es =>
  have ei9 : (M.bind (mt1 ds es) fun c => M.ite c (M.bind (me ds es) fun y => M.ret [y]) (M.ret [])) b8 = some (.ok ys9, b10) := by
    unfold itemM at ei9
    rw [eu9] at ei9
    exact ei9
  refine ⟨F9, d9, es, G9.inn, rd9, eu9, fun ws9 hws9 => ⟨(wipe_setV his1).trans wipe_wipe, (ds, es), ?_⟩⟩
  have R9w := R8.grow G9 B9
  have hws3 : DpAll K F9 ws ds := dpAll_grow (fun a u h => G9.sub a u (s78 a u (s37 a u h))) _ _ hws
  have R9 := ((R9w.setG (is := is) hws3 (fun j hj => by rw [wipeG_length]; exact hvs j hj)).wipe vs1).setG (is := is1) hws9 (fun j hj => by rw [wipeG_length, hlenG]; exact hvs1 j hj)
  have hD9 : H9 a = some (.lst us8) := G9.ext a _ hD8 (fun ps z => by cases z) hβ
  have hF9 : F9 a = none := G9.stay hD8 hβ hF8
  refine tEt_bind R9 ei9 trivial fun c b11 H11 F11 h11 R11 G11 x11 => ?_
  have hD11 : H11 a = some (.lst us8) := G11.ext a _ hD9 (fun ps z => by cases z) hβ
  have hF11 : F11 a = none := G11.stay hD9 hβ hF9
  have s711 : ∀ a u, F7 a = some u → F11 a = some u := fun a u h => G11.sub a u (G9.sub a u (s78 a u h))
  cases c with
  | false =>
    cases h11
    exact iteF ⟨items.length - (j + 1), by omega, rfl, hlt8, F11, _, us8, acc8, zs9, G8.trans (G9.trans G11), s711, R9w.grow G11 R11.bag, hD11, hF11, G11.dpAll (G9.dpAll hda8), er9, by rw [← htot8]; simp⟩
  | true =>
    refine iteT ⟨(ds, es), tEv_bind R11 h11 trivial fun y b12 vy H12 F12 _ h12 R12 G12 x12 r12 => ?_⟩
    cases h12
    have hD12 : H12 a = some (.lst us8) := G12.ext a _ hD11 (fun ps z => by cases z) hβ
    have hF12 : F12 a = none := G12.stay hD11 hβ hF11
    have Gall : Grow g F1 H1 F12 H12 := G8.trans (G9.trans (G11.trans G12))
    have hlen : us8.length < sizeLine := by
      have h1 := DpAll.length hda8
      have h2 : total.length = acc8.length + (1 + zs9.length) + zs'.length := by
        rw [← htot, List.length_append, List.length_append, ← Nat.add_assoc]
        have := congrArg List.length htot8
        simp at this
        omega
      rw [sz_eq]
      omega
    refine ⟨us8, hD12, hlen, items.length - (j + 1), by omega, rfl, hlt8, F12, _, us8 ++ [vy], acc8 ++ [y], zs9, grow_D Gall ha (.inr hD12) hF12, fun a u h => G12.sub a u (s711 a u h), srel_D ((R9w.grow G11 R11.bag).grow G12 R12.bag) (.inr hD12) hF12 hβ hown, upd_same, hF12,
      DpAll.app (G12.dpAll (G11.dpAll (G9.dpAll hda8))) (DpAll.one r12), er9, by rw [← htot8]; simp⟩
theorem setG_length : ∀ {is : List Nat} {ds : List D} {Γ : List Sl}, (setG Γ is ds).length = Γ.length
  | [], ds, Γ => by cases ds <;> rfl
  | i :: is, [], Γ => rfl
  | i :: is, d :: ds, Γ => by
    unfold setG
    rw [setG_length (is := is)]
    simp
theorem evN_lc2 (C : Cg g X W n) (vs1 : List Nat) (hi : Itj g X W Γ tg e mi) (ok : blkC X.N X.env.scope scope own = true) (hw : within is (own.map fun y : Str × Nat => y.2) Γ.length = true) (hw1 : within is1 vs1 Γ.length = true) (hv1 : vs1.all (fun i => (own.map fun y : Str × Nat => y.2).contains i) = true)
    (ht : ∀ (s : Shared) (H : Hp) (Ca : Addr) (cl : List (Str × Addr)) (fp : List Addr), Tg g (X.blk s H scope (compEnvC scope cl Ca X.env) fp) tg is un)
    (ht1 : ∀ (s : Shared) (H : Hp) (Ca : Addr) (cl : List (Str × Addr)) (fp : List Addr), Tg g (X.blk s H scope (compEnvC scope cl Ca X.env) fp) tg1 is1 un1')
    (hf : ∀ (s : Shared) (H : Hp) (Ca : Addr) (cl : List (Str × Addr)) (fp : List Addr), Cg g (X.blk s H scope (compEnvC scope cl Ca X.env) fp) W0 n → ∀ ds, Ets g (X.blk s H scope (compEnvC scope cl Ca X.env) fp) W0 (setG (wipeG Γ (own.map fun y : Str × Nat => y.2)) is ds) ifs (mt ds))
    (hi1 : ∀ (s : Shared) (H : Hp) (Ca : Addr) (cl : List (Str × Addr)) (fp : List Addr), Cg g (X.blk s H scope (compEnvC scope cl Ca X.env) fp) W0 n → ∀ ds, Itj g (X.blk s H scope (compEnvC scope cl Ca X.env) fp) W0 (setG (wipeG Γ (own.map fun y : Str × Nat => y.2)) is ds) tg1 e1 (mi1 ds))
    (hf1 : ∀ (s : Shared) (H : Hp) (Ca : Addr) (cl : List (Str × Addr)) (fp : List Addr), Cg g (X.blk s H scope (compEnvC scope cl Ca X.env) fp) W0 n → ∀ ds es, Ets g (X.blk s H scope (compEnvC scope cl Ca X.env) fp) W0 (setG (wipeG (setG (wipeG Γ (own.map fun y : Str × Nat => y.2)) is ds) vs1) is1 es) ifs1 (mt1 ds es))
    (he : ∀ (s : Shared) (H : Hp) (Ca : Addr) (cl : List (Str × Addr)) (fp : List Addr), Cg g (X.blk s H scope (compEnvC scope cl Ca X.env) fp) W0 n → ∀ ds es, Ev g (X.blk s H scope (compEnvC scope cl Ca X.env) fp) W0 (setG (wipeG (setG (wipeG Γ (own.map fun y : Str × Nat => y.2)) is ds) vs1) is1 es) elt (me ds es))
    (hs : ∀ x, foldedSetIterable e X.env x = pure x := by intro _; rfl) (hs1 : ∀ env x, foldedSetIterable e1 env x = pure x := by intro _ _; rfl) : EvN g X W Γ (.ListComp elt [⟨tg, e, ifs, 0⟩, ⟨tg1, e1, ifs1, 0⟩] scope pos) (lcM2 mi un mt mi1 un1' mt1 me) := by
  have hv : ∀ i ∈ vs1, i ∈ own.map fun y : Str × Nat => y.2 := fun i hi => by
    have := List.all_eq_true.mp hv1 i hi
    simpa using this
  exact pe_imp (pe_lc2 (g := tTg g X.K is un) (g1 := tTg g X.K is1 un1') (wi1 := fun σ H R => ∃ ds, tIt g X.K W0 (setG (wipeG Γ (own.map fun y : Str × Nat => y.2)) is ds) (mi1 ds) σ H R)
      (tt := fun σ H Q => ∃ ds, tEt g X.K W0 (setG (wipeG Γ (own.map fun y : Str × Nat => y.2)) is ds) (mt ds) σ H Q)
      (tt1 := fun σ H Q => ∃ p : List D × List D, tEt g X.K W0 (setG (wipeG (setG (wipeG Γ (own.map fun y : Str × Nat => y.2)) is p.1) vs1) is1 p.2) (mt1 p.1 p.2) σ H Q)
      (te := fun σ H Q => ∃ p : List D × List D, tEv g X.K W0 (setG (wipeG (setG (wipeG Γ (own.map fun y : Str × Nat => y.2)) is p.1) vs1) is1 p.2) (me p.1 p.2) σ H Q)
      C.calm C.nd hi (blkOk_by ok) hv (fun s H Ca cl fp => ht s H Ca cl fp) (fun s H Ca cl fp => pts_ex fun ds => hf s H Ca cl fp (C.blk s H scope (compEnvC scope cl Ca X.env) fp) ds)
      (fun s H Ca cl fp => pi_ex fun ds => hi1 s H Ca cl fp (C.blk s H scope (compEnvC scope cl Ca X.env) fp) ds) (fun s H Ca cl fp => ht1 s H Ca cl fp)
      (fun s H Ca cl fp => pts_ex fun p => hf1 s H Ca cl fp (C.blk s H scope (compEnvC scope cl Ca X.env) fp) p.1 p.2)
      (fun s H Ca cl fp => pe_ex fun p => he s H Ca cl fp (C.blk s H scope (compEnvC scope cl Ca X.env) fp) p.1 p.2) hs hs1)
    fun σ H Q h => rd_lc2 (within_ok hw).1 (within_ok hw).2 (within_ok hw1).1 (within_ok hw1).2 (fun ds => by rw [setG_length, wipeG_length]) h
end
end GL
namespace GL
open PySem PySem.Spec PyProof.Rows L2 LamX

/-! ### len(set(t)), t a tuple of ints -/
def ddup (ns : List Int) : List Int := ns.foldr (fun x acc => if acc.contains x then acc else x :: acc) []
theorem ddup_ok : ∀ ns : List Int, (ddup ns).Nodup ∧ ∀ k, k ∈ ddup ns ↔ k ∈ ns
  | [] => ⟨List.nodup_nil, fun k => Iff.rfl⟩
  | n :: ns => by
    obtain ⟨h1, h2⟩ := ddup_ok ns
    have e : ddup (n :: ns) = if (ddup ns).contains n then ddup ns else n :: ddup ns := rfl
    rw [e]
    split
    · rename_i h
      have hn : n ∈ ddup ns := by simpa using h
      refine ⟨h1, fun k => ?_⟩
      rw [h2 k]
      constructor
      · exact fun z => List.mem_cons_of_mem _ z
      · intro z
        rcases List.mem_cons.mp z with z | z
        · subst z; exact (h2 _).mp hn
        · exact z
    · rename_i h
      have hn : n ∉ ddup ns := by simpa using h
      refine ⟨List.nodup_cons.mpr ⟨hn, h1⟩, fun k => ?_⟩
      rw [List.mem_cons, List.mem_cons, h2 k]
theorem nodup_le {α : Type} [BEq α] [LawfulBEq α] : ∀ {a b : List α}, a.Nodup → (∀ x ∈ a, x ∈ b) → a.length ≤ b.length
  | [], _, _, _ => Nat.zero_le _
  | x :: a, b, nd, h => by
    obtain ⟨n1, n2⟩ := List.nodup_cons.mp nd
    have hx := h x (List.mem_cons_self ..)
    have := nodup_le (a := a) (b := b.erase x) n2 fun y hy => (List.mem_erase_of_ne (fun (e : y = x) => n1 (by rw [← e]; exact hy))).mpr (h y (List.mem_cons_of_mem _ hy))
    rw [List.length_erase_of_mem hx] at this
    have hp : 0 < b.length := List.length_pos_of_mem hx
    rw [List.length_cons]
    omega
theorem nodup_eq {α : Type} [BEq α] [LawfulBEq α] {a b : List α} (na : a.Nodup) (nb : b.Nodup) (h : ∀ x, x ∈ a ↔ x ∈ b) : a.length = b.length :=
  Nat.le_antisymm (nodup_le na fun x => (h x).mp) (nodup_le nb fun x => (h x).mpr)
def lenSetD : D → M D
  | .tuple xs => match intsOf xs with
    | some ns => match Nat.ble ns.length 1000 with | true => M.ret (.int ((ddup ns).length : Nat)) | false => M.fail
    | none => M.fail
  | _ => M.fail
section
variable {g : Gx} {X : Cx} {W : WX} {Γ : List Sl} {n : Nat} {pos p p2 q : Pos} {a : Expr} {ma : M D}
theorem ev_lenSet (C : Cg g X W n) (hg : Gl X "len") (hm : X.mg "len" = none) (hg2 : Gl X "set") (hm2 : X.mg "set" = none) (ha : Ev g X W Γ a ma)
    (na : starEach [a] X.env = (false, eval a X.env) :: starEach [] X.env := by rfl) : Ev g X W Γ (.Call (.Name "len" p) [.Call (.Name "set" p2) [a] [] q] [] pos) (M.bind ma lenSetD) := by
  refine ⟨fun pins s σ H Q I ⟨F, b, o, b', S, hm0, x, qk⟩ => ?_⟩
  refine Call_ (ld_blt I hg hm boot_len ?_)
  refine PyProof.Rows.callWith_builtin1 (PyProof.Rows.args_cons ?_ rfl) rfl rfl
  refine Call_ (ld_blt I hg2 hm2 boot_set ?_)
  refine PyProof.Rows.callWith_type1 (PyProof.Rows.args_cons (thn (ha.run pins s σ H (fun v H1 => ∃ (l : Addr) (ns : List Int), v = .ref l ∧ SqT X.K H1 l (ns.map V.int) ∧ ns.length ≤ 1000 ∧ Q (.int ((ddup ns).length : Nat)) H1) I ?_) fun v s1 ⟨x, H1, I1, r1, q1⟩ => PyProof.Rows.args_nil ?_) na) na rfl
  · refine tEv_bind S hm0 x fun d b1 v H1 F1 _ h1 S1 G1 x1 r1 => ?_
    cases d <;> first | (cases h1; done) | skip
    rename_i ds _
    cases r1 with
    | tup hs hd =>
    unfold lenSetD at h1
    cases e : intsOf ds with
    | none => simp only [e] at h1; cases h1
    | some ns =>
      simp only [e] at h1
      cases e2 : Nat.ble ns.length 1000 with
      | false => simp only [e2] at h1; cases h1
      | true =>
        simp only [e2] at h1
        cases h1
        rw [intsOf_dp hd e] at hs
        exact ⟨_, ns, rfl, SqT.grow S1.inn hs, Nat.le_of_ble_eq_true e2, qk _ rfl _ H1 F1 G1 S1.bag (.int _)⟩
  · obtain ⟨l, ns, rfl, hq, hl, q1⟩ := q1
    cases r1
    obtain ⟨its, r, pl, hz⟩ := I1.tuple hq
    have hi : IntsAre its.toArray.toList ns := ints_of_vals r
    refine call_set_tupI ns (I1.ok.hd C.calm) (show s1.heap.IsTuple l its.toArray from pl) hi (by unfold scanBound; omega) fun h' tk c R1 hcn k => ?_
    refine PyProof.Rows.args_nil ?_
    obtain ⟨o, es, ep, t, ho, hex, hdt, gd, nd, hm2, hb, hf, hn, hr, hl2⟩ := R1
    have I2 : Inv X pins σ H1 { s1 with heap := h', toks := tk } := I1.kept k
    have ec : es.size = (ddup ns).length := by
      have z := nodup_eq nd (ddup_ok ns).1 fun j => by rw [← hm2 j, decide_eq_true_eq, (ddup_ok ns).2 j]
      rw [List.length_map, Array.length_toList] at z
      exact z
    refine call_len_set ho hex hdt hf (by have h9 := hb; unfold scanBound at h9; omega) ⟨.int ((ddup ns).length : Nat), H1, I2.tok _, ⟨_, by rw [ec]⟩, q1⟩
end
end GL
namespace GL
open PySem PySem.Spec PyProof.Rows L2 LamX

/-! ### min(xs, key=f): the loop with a ghost -/
structure KeyG {α : Type} (P : Program) (w : World) (A : Around) (q : Value) (S I : Addr) (n : Nat) (Pv : Nat → Value → Prop) (St : Nat → Shared → Prop) (J : Nat → Shared → α → Prop) (Vk : Nat → Value → α → Prop) (bt : Nat → Nat → Bool) : Prop where
  keep : ∀ i s s' x a, (a = S ∨ a = I) → J i s x → Moved [a] (fun a b => b = a) s s' → J i s' x
  turn : ∀ i v (s : Shared) (o : Obj) x (Q E : Value → Shared → Prop), i < n → Pv i v → J i s x → St (i + 1) s → s.heap.get? S = some o →
    (∀ k s' x', J (i + 1) s' x' → St (i + 1) s' → s'.heap.get? S = some o → Vk i k x' → (∀ j k', Vk j k' x → Vk j k' x') → Q k s') → wpAny (model P w) A (call q [v]) Q E s
  cmp : ∀ i j ki kj (s : Shared) m x (Q E : Value → Shared → Prop), J m s x → Vk i ki x → Vk j kj x → Q (.bool (bt i j)) s → wpAny (model P w) A (richCompare .Lt ki kj) Q E s
section
variable {α : Type} {P : Program} {w : World} {A : Around} {R : Result → Shared → Prop} {I q S : Addr} {fp : List Addr} {n : Nat} {Pv : Nat → Value → Prop} {St : Nat → Shared → Prop} {J : Nat → Shared → α → Prop} {Vk : Nat → Value → α → Prop} {bt : Nat → Nat → Bool}
theorem argBest_lt {bt : Nat → Nat → Bool} : ∀ k, argBest bt k ≤ k
  | 0 => Nat.le_refl _
  | k + 1 => by
    unfold argBest
    split
    · exact Nat.le_refl _
    · exact Nat.le_succ_of_le (argBest_lt k)
theorem minG_loop (W : WalksS P w A.in1 I fp [I] (fun a b => b = a) n Pv St) (hSf : S ∉ fp) (Kg : KeyG P w A.in1 (.ref q) S I n Pv St J Vk bt) (kw : List (Str × Value)) :
    ∀ (k j : Nat) (s : Shared) (x : α) (vb kb : Value) (c : Nat), n - (j + 1) = k → j + 1 ≤ n → J (j + 1) s x → St (j + 1) s → Pv (argBest bt j) vb → Vk (argBest bt j) kb x → s.heap.get? S = some { cls := .type "list", dict := none, data := .seq #[vb, kb] c, slots := #[] } →
      (∀ v s' x, Pv (argBest bt (n - 1)) v → J n s' x → R (.ok (.ret v)) s') → codeAny (model P w) A (.builtin "min.loop" ⟨[.ref I, (.ref q), .ref S], kw⟩) R s := by
  have hSI : S ≠ I := fun e => hSf (W.sub _ (by rw [e]; exact List.mem_singleton.mpr rfl))
  have hSw : S ∉ [I] := fun h => hSI (List.mem_singleton.mp h)
  have hname : (toString "min" ++ toString ".loop" : String) = "min.loop" := by decide
  have mvS : ∀ {s : Shared} {f : Obj → Obj}, Moved [S] (fun a b => b = a) s { s with heap := s.heap.update S f, toks := s.toks } := fun {s f} => ⟨fun b o hb e => (Heap.get?_update_other _ _ (fun h : S = b => hb (by rw [h]; exact List.mem_singleton.mpr rfl))).trans e, rfl, rfl, rfl, Nat.le_refl _⟩
  intro k
  induction k with
  | zero =>
    intro j s x vb kb c hk hj hJ hst hPb hVb hS hR
    have hin : j + 1 = n := by omega
    refine codeAny_builtin F.entry_min_loop ?_; rw [Around.under_plainId F.plain_min_loop _]; show wpAny _ A.in1 (seqItems? (.ref S) >>= _) _ _ s
    refine wpAny_bind (wpAny_seqItems hS rfl ?_); show wpAny _ A.in1 (tryCatch (pyNext (.ref I)) _ >>= _) _ _ s
    refine wpAny_bind (wpAny_tryCatch (W.done s _ _ (hin ▸ hst) fun s' hm => ?_))
    have hS' := hm.heap S _ hSw hS
    show wpAny _ A.in1 (updateSeq S (fun _ => #[]) >>= _) _ _ _; refine wpAny_bind ?_
    refine wpAny_updateSeq hS' rfl (wpAny_bind (wpAny_letGo (wpAny_pure ?_)))
    exact hR vb _ x (by rw [← hin]; exact hPb) (by rw [← hin]; exact Kg.keep _ _ _ _ S (.inl rfl) (Kg.keep _ _ _ _ I (.inr rfl) hJ hm) mvS)
  | succ k ih =>
    intro j s x vb kb c hk hj hJ hst hPb hVb hS hR
    have hlt : j + 1 < n := by omega
    refine codeAny_builtin F.entry_min_loop ?_; rw [Around.under_plainId F.plain_min_loop _]; show wpAny _ A.in1 (seqItems? (.ref S) >>= _) _ _ s
    refine wpAny_bind (wpAny_seqItems hS rfl ?_); show wpAny _ A.in1 (tryCatch (pyNext (.ref I)) _ >>= _) _ _ s
    refine wpAny_bind (wpAny_tryCatch (W.item (j + 1) s _ _ hlt hst fun v s' hP hst' hm => ?_))
    have hS' := hm.heap S _ hSw hS
    have hJ' := Kg.keep _ _ _ _ I (.inr rfl) hJ hm
    show wpAny _ A.in1 (tryCatch (holding [v] (call (.ref q) [v])) _ >>= _) _ _ _; refine wpAny_bind (wpAny_tryCatch (wpAny_holding (Kg.turn (j + 1) v s' _ x _ _ hlt hP hJ' hst' hS' fun kx s'' x'' hJ2 hst2 hS2 hVx hVk => ?_)))
    show wpAny _ A.in1 (tryCatch (holding [v, kx] (richCompare .Lt kx kb >>= _)) _ >>= _) _ _ _; refine wpAny_bind (wpAny_tryCatch (wpAny_holding (wpAny_bind (Kg.cmp (j + 1) (argBest bt j) kx kb s'' _ x'' _ _ hJ2 hVx (hVk _ _ hVb) ?_))))
    refine wpAny_bind (wpAny_holding (wpAny_truthy_bool ?_)); refine wpAny_bind (wpAny_letGo (wpAny_pure ?_))
    cases hb : bt (j + 1) (argBest bt j) with
    | true =>
      simp only [if_true]
      refine wpAny_bind ?_; refine wpAny_updateSeq hS2 rfl (wpAny_bind (wpAny_letGo ?_)); rw [hname]
      refine wpAny_pure ⟨plainId_quiet F.plain_min_loop _, ih (j + 1) _ x'' v kx _ (by omega) hlt (Kg.keep _ _ _ _ S (.inl rfl) hJ2 mvS) (W.frame _ s'' _ s''.toks hst2 (Nat.le_refl _) fun b hbf o e => ?_) (by simp only [argBest, hb, if_true]; exact hP) (by simp only [argBest, hb, if_true]; exact hVx) (Heap.get?_update_self _ hS2 rfl) hR⟩
      exact (Heap.get?_update_other _ _ fun h : S = b => hSf (by rw [h]; exact hbf)).trans e
    | false =>
      simp only [Bool.false_eq_true, if_false]
      refine wpAny_bind (wpAny_letGo ?_); rw [hname]
      exact wpAny_pure ⟨plainId_quiet F.plain_min_loop _, ih (j + 1) _ x'' vb kb c (by omega) hlt hJ2 hst2 (by simp only [argBest, hb, Bool.false_eq_true, if_false]; exact hPb) (by simp only [argBest, hb, Bool.false_eq_true, if_false]; exact hVk _ _ hVb) hS2 hR⟩
theorem minG_first (W : WalksS P w A.in1 I fp [I] (fun a b => b = a) n Pv St) (hSf : S ∉ fp) (Kg : KeyG P w A.in1 (.ref q) S I n Pv St J Vk bt) (kw : List (Str × Value)) (hn : 0 < n) {s : Shared} {c : Nat} {x : α} (hJ : J 0 s x) (hst : St 0 s)
    (hS : s.heap.get? S = some { cls := .type "list", dict := none, data := .seq #[] c, slots := #[] }) (hR : ∀ v s' x, Pv (argBest bt (n - 1)) v → J n s' x → R (.ok (.ret v)) s') : codeAny (model P w) A (.builtin "min.loop" ⟨[.ref I, (.ref q), .ref S], kw⟩) R s := by
  have hSI : S ≠ I := fun e => hSf (W.sub _ (by rw [e]; exact List.mem_singleton.mpr rfl))
  have hSw : S ∉ [I] := fun h => hSI (List.mem_singleton.mp h)
  have hname : (toString "min" ++ toString ".loop" : String) = "min.loop" := by decide
  have mvS : ∀ {s : Shared} {f : Obj → Obj}, Moved [S] (fun a b => b = a) s { s with heap := s.heap.update S f, toks := s.toks } := fun {s f} => ⟨fun b o hb e => (Heap.get?_update_other _ _ (fun h : S = b => hb (by rw [h]; exact List.mem_singleton.mpr rfl))).trans e, rfl, rfl, rfl, Nat.le_refl _⟩
  refine codeAny_builtin F.entry_min_loop ?_; rw [Around.under_plainId F.plain_min_loop _]; show wpAny _ A.in1 (seqItems? (.ref S) >>= _) _ _ s
  refine wpAny_bind (wpAny_seqItems hS rfl ?_); show wpAny _ A.in1 (tryCatch (pyNext (.ref I)) _ >>= _) _ _ s
  refine wpAny_bind (wpAny_tryCatch (W.item 0 s _ _ hn hst fun v s' hP hst' hm => ?_))
  have hS' := hm.heap S _ hSw hS
  have hJ' := Kg.keep _ _ _ _ I (.inr rfl) hJ hm
  show wpAny _ A.in1 (tryCatch (holding [v] (call (.ref q) [v])) _ >>= _) _ _ _; refine wpAny_bind (wpAny_tryCatch (wpAny_holding (Kg.turn 0 v s' _ x _ _ hn hP hJ' hst' hS' fun kx s'' x'' hJ2 hst2 hS2 hVx _ => ?_)))
  show wpAny _ A.in1 (updateSeq S (fun _ => #[v, kx]) >>= _) _ _ _; refine wpAny_bind ?_
  refine wpAny_updateSeq hS2 rfl ?_; rw [hname]
  refine wpAny_pure ⟨plainId_quiet F.plain_min_loop _, minG_loop W hSf Kg kw _ 0 _ x'' v kx _ rfl hn (Kg.keep _ _ _ _ S (.inl rfl) hJ2 mvS) (W.frame _ s'' _ s''.toks hst2 (Nat.le_refl _) fun b hbf o e => ?_) hP hVx (Heap.get?_update_self _ hS2 rfl) hR⟩
  exact (Heap.get?_update_other _ _ fun h : S = b => hSf (by rw [h]; exact hbf)).trans e
/-- min(xs, key=q) -/
theorem call_minG {s : Shared} {E : Value → Shared → Prop} {x : Value} {Q : Value → Shared → Prop}
    (h : wpAny (model P w) A.in1 (pyIter x) (fun it s2 => ∃ (I : Addr) (fp : List Addr) (n : Nat) (Pv : Nat → Value → Prop) (St : Nat → Shared → Prop) (J : Nat → Shared → α → Prop) (Vk : Nat → Value → α → Prop) (bt : Nat → Nat → Bool) (y : α), it = .ref I ∧ WalksS P w A.in1 I fp [I] (fun a b => b = a) n Pv St ∧ St 0 s2 ∧ (∀ b ∈ fp, b < s2.heap.objs.size) ∧ 0 < n ∧
      KeyG P w A.in1 (.ref q) s2.heap.objs.size I n Pv St J Vk bt ∧ J 0 { s2 with heap := s2.heap.push { cls := .type "list", data := .seq #[] 0 }, toks := s2.toks } y ∧ ∀ v s' z, Pv (argBest bt (n - 1)) v → J n s' z → Q v s') E s) :
    wpAny (model P w) A (call (.builtin "min") [x] [(Str.ofString "key", .ref q)]) Q E s := by
  have hname : (toString "min" ++ toString ".loop" : String) = "min.loop" := by decide
  refine PyProof.Rows.kmk_tree F.kind_min F.plain_min F.entry_min (PyProof.Rows.kmk_min_key _ _) ?_; show wpAny _ A.in1 (Builtin.Builtins.bindParams "min" ["key", "default"] 0 ⟨[], [(Str.ofString "key", .ref q)]⟩ >>= _) _ _ s
  refine wpAny_bind (wpAny_of_eq (show Builtin.Builtins.bindParams "min" ["key", "default"] 0 ⟨[], [(Str.ofString "key", .ref q)]⟩ = pure [some (.ref q), none] from rfl) ?_); refine wpAny_bind (wpAny_pure ?_)
  refine wpAny_bind (wpAny_mono h (fun it s2 h2 => ?_) fun _ _ e => e)
  obtain ⟨I, fp, n, Pv, St, J, Vk, bt, y, rfl, W, hst, hfp, hn, Kg, hJ, hQ⟩ := h2
  refine wpAny_bind (wpAny_newObj_type ?_)
  have hSf : s2.heap.objs.size ∉ fp := fun hm => Nat.lt_irrefl _ (hfp _ hm)
  rw [hname]
  have hst' := W.frame 0 s2 (s2.heap.push { cls := .type "list", data := .seq #[] 0 }) s2.toks hst (Nat.le_refl _) fun b _ o e => Heap.get?_push_of_some _ e
  exact wpAny_pure ⟨plainId_quiet F.plain_min_loop _, minG_first W hSf Kg _ hn hJ hst' (Heap.get?_push_size _ rfl) hQ⟩
end
end GL
namespace GL
open PySem PySem.Spec PyProof.Rows L2 LamX

def ltK (ks : List D) (i j : Nat) : Bool := PySem.W.dataLt (ks.getD i .none) (ks.getD j .none)
/-- min(xs, key=f) -/
def keyM (Mc : List D → M D) (d : D) : M (List D) := M.bind (Mc [d]) fun k => M.ret [k]
def minKeyM (Mc : List D → M D) : D → M D
  | .list ds => M.bind (compM (keyM Mc) ds) fun ks => M.ite (alikeB ks) (M.lift (ds[argBest (ltK ks) (ds.length - 1)]?)) M.fail
  | _ => M.fail
theorem compM_len {Mc : List D → M D} : ∀ {ds : List D} {b b' : Bag} {ks : List D}, compM (keyM Mc) ds b = some (.ok ks, b') → ks.length = ds.length
  | [], _, _, _, h => by cases h; rfl
  | d :: ds, b, b', ks, h => by
    obtain ⟨ys, b1, zs, h1, h2, rfl⟩ := compM_cons h
    obtain ⟨k, b2, h3, h4⟩ := bind_ok h1
    cases h4
    have := compM_len h2
    simp [this]
theorem cx_no {P : Program} {w : World} {outer : List Env} {H : Hp} {s : Shared} {e : Value} {s' : Shared} (h : L2.CX P w outer H s (fun _ _ _ => False) e s') : False := by
  obtain ⟨_, _, _, _, _, _, _, _, _, _, _, _, z⟩ := h
  exact z
theorem un_moved {fs : List Addr} {H0 H : Hp} {h0 h h' : Heap} {a : Addr} (u : Un fs [] H0 H h0 h) (k : ∀ b o, b ≠ a → h.get? b = some o → h'.get? b = some o) (ha : h0.objs.size ≤ a) : Un fs [] H0 H h0 h' := by
  have ne : ∀ b o, h0.get? b = some o → b ≠ a := fun b o e z => Nat.lt_irrefl _ (Nat.lt_of_lt_of_le (Heap.lt_size e) (z ▸ ha))
  refine ⟨fun b o e n hb hx => k b o (ne b o e) (u.keep b o e n hb hx), fun b o e n hb hx => ?_, u.free, fun b o e hx => ?_, u.tups, u.frzs, u.tbls⟩
  · obtain ⟨sl, z⟩ := u.slot b o e n hb hx
    exact ⟨sl, k b _ (ne b o e) z⟩
  · obtain ⟨o', z⟩ := u.there b o e hx
    exact ⟨o', k b _ (ne b o e) z⟩
section
variable {g : Gx} {X : Cx} {W : WX} {Γ : List Sl} {n kc : Nat} {pos p kpos lpos : Pos} {e : Expr} {me : M D} {params : Arguments} {body : Expr} {scope : Scope} {N psL fr : List Str} {js : List Nat} {cs : List D} {Mc : List D → M D}
theorem walksV {P : Program} {w : World} {A : Around} (hh : A.handled = none) (I l : Addr) (hne : l ≠ I) (ys : List V) :
    WalksS P w A I [I, l] [I] (fun a b => b = a) ys.length (fun i v => ∃ y, ys[i]? = some y ∧ RelV y v) (fun i s => s.heap.IsListIter I l i ∧ ∃ its : List Value, s.heap.IsList l its.toArray ∧ Vals ys its) where
  sub := fun b hb => by simp at hb; simp [hb]
  grefl := fun _ => rfl
  gtrans := fun _ _ _ h1 h2 => h2.trans h1
  frame := fun i s h' tk ⟨h1, its, h2, r⟩ _ k => ⟨h1.at fun o e => k I (by simp) o e, its, h2.at fun o e => k l (by simp) o e, r⟩
  item := fun i s Q E hi ⟨h1, its, h2, r⟩ hQ => (Walks.list (prog := P) (w := w) hh I l hne its.toArray).toS.item i s Q E (by rw [List.size_toArray, ← r.length]; exact hi) ⟨h1, h2⟩ fun v s' hP st hm => by
    obtain ⟨y, hy⟩ : ∃ y, ys[i]? = some y := ⟨_, List.getElem?_eq_getElem hi⟩
    obtain ⟨u, hu, ru⟩ := r.get hy
    have e : v = u := by
      have hP : its.toArray[i]? = some v := hP
      rw [List.getElem?_toArray, hu] at hP
      exact (Option.some.inj hP).symm
    subst e
    exact hQ v s' ⟨y, hy, ru⟩ ⟨st.1, its, st.2, r⟩ hm
  done := fun s Q E ⟨h1, its, h2, r⟩ hQ => (Walks.list (prog := P) (w := w) hh I l hne its.toArray).toS.done s Q E (by rw [List.size_toArray, ← r.length]; exact ⟨h1, h2⟩) hQ
  self := fun i s Q E ⟨h1, its, h2, r⟩ hQ => (Walks.list (prog := P) (w := w) hh I l hne its.toArray).toS.self i s Q E ⟨h1, h2⟩ hQ
/-- the call itself -/
theorem min_key {l : Addr} {ys : List V} {ds ks : List D} {F H : Hp} {σ : L2.St} {b b' : Bag} {pins : List (Addr × Obj)} {s : Shared} {f : Addr} {Q : VK} {k : Nat} (C : Cg g X W (k + 1)) (I : L2.Inv X pins σ H s) (S : SRel g X.K Γ F H σ b) (hs : SqL X.K F l ys) (hd : DpAll X.K F ys ds)
    (hc : Clb X.prog X.w X.K X.mg X.base g (frs X.stack) s H F k f 1 Mc) (hk : compM (keyM Mc) ds b = some (.ok ks, b')) (hal : alikeB ks = true) {d : D} (hdd : ds[argBest (ltK ks) (ds.length - 1)]? = some d)
    (q : ∀ v H' F', Grow g F H F' H' → BagAt g.β b' F' H' → Dp X.K F' v d → Q v H') : wpAny (model X.prog X.w) X.A (call (.builtin "min") [.ref l] [(Str.ofString "key", .ref f)]) (EP X pins σ Q) X.xe s := by
  obtain ⟨its, r, pl, hz⟩ := I.list (SqL.grow S.inn hs)
  have hh := I.ok.hd C.calm
  have hn : 0 < ds.length := by
    have := (List.getElem?_eq_some_iff.mp hdd).1
    omega
  have hyl := DpAll.length hd
  have hkl := compM_len hk
  obtain ⟨al, dp⟩ := alikeB_some hal
  have hlt : l < s.heap.objs.size := by
    obtain ⟨o, ho, _⟩ := pl.isList
    exact Heap.lt_size ho
  have hne : l ≠ s.heap.objs.size := Nat.ne_of_lt hlt
  have sz2 : ∀ o : Obj, (s.heap.push o).objs.size = s.heap.objs.size + 1 := fun o => Heap.size_push ..
  refine call_minG (α := Hp × Hp × Bag) (wpAny_pyIter_list pl.isList ⟨s.heap.objs.size, [s.heap.objs.size, l], ys.length, _, _,
    fun i s1 x => L2.Inv X pins σ x.1 s1 ∧ FpOk X pins x.1 s.heap.objs.size ∧ FpOk X pins x.1 (s.heap.objs.size + 1) ∧ Grow g F H x.2.1 x.1 ∧ SRel g X.K Γ x.2.1 x.1 σ x.2.2 ∧ Un (frs X.stack) [] H x.1 s.heap s1.heap ∧ compM (keyM Mc) (ds.drop i) x.2.2 = some (.ok (ks.drop i), b'),
    fun j kv x => ∃ v d, RelV v kv ∧ Dp X.K x.2.1 v d ∧ ks[j]? = some d, ltK ks, (H, F, b), rfl, walksV (Room.in1 C.room).hd _ l hne ys, ⟨⟨_, Heap.get?_push_size _ rfl, rfl, rfl⟩, its, pl.isList.push _, r⟩, ?_, by omega, ?_, ?_, ?_⟩)
  · intro c hc
    show c < (s.heap.push _).objs.size
    rw [sz2]
    simp only [List.mem_cons, List.not_mem_nil, or_false] at hc
    rcases hc with rfl | rfl
    · exact Nat.lt_succ_self _
    · exact Nat.lt_succ_of_lt hlt
  · show KeyG X.prog X.w X.A.in1 (.ref f) (s.heap.push _).objs.size _ _ _ _ _ _ _
    rw [sz2]
    refine ⟨?_, ?_, ?_⟩
    · rintro i s1 s1' x a ha ⟨I1, f1, f2, G1, S1, un1, hr⟩ mv
      have fa : FpOk X pins x.1 a := by rcases ha with rfl | rfl <;> assumption
      have hsa : s.heap.objs.size ≤ a := by rcases ha with rfl | rfl <;> omega
      have kp : ∀ b o, b ∉ [a] → s1.heap.get? b = some o → s1'.heap.get? b = some o := fun b o hb e => mv.heap b o hb e
      obtain ⟨h', g2, d', tk', os'⟩ := s1'
      have eg : g2 = s1.gens := mv.gens
      have ed : d' = s1.drawn := mv.drawn
      have eo : os' = s1.os := mv.os
      subst eg; subst ed; subst eo
      exact ⟨I1.turnedL kp (fun b hb => by rw [List.mem_singleton.mp hb]; exact fa), f1, f2, G1, S1, un_moved un1 (fun b o hb e => kp b o (fun z => hb (List.mem_singleton.mp z)) e) hsa, hr⟩
    · rintro i v s1 o x Q1 E1 hi ⟨y, hy, ry⟩ ⟨I1, f1, f2, G1, S1, un1, hr⟩ ⟨hit, its1, hls, r1⟩ hS h1
      obtain ⟨dy, hdy, rdy⟩ := DpAll.getV hd hy
      rw [drop_hd hdy] at hr
      obtain ⟨zs, b1, zs', e1, e2, e3⟩ := compM_cons hr
      obtain ⟨k1, b2, e4, e5⟩ := bind_ok e1
      cases e5
      have hki : ks[i]? = some k1 := by
        have : (ks.drop i)[0]? = some k1 := by rw [e3]; rfl
        rw [List.getElem?_drop] at this
        simpa using this
      have hkr : zs' = ks.drop (i + 1) := by
        have := drop_hd hki
        rw [e3] at this
        exact (List.cons.inj this).2
      subst hkr
      have un := hc s1 x.1 un1
      refine wpAny_call (codeAny_mono (un.2 X.A.in1 X.stack [v] [y] (fun v' H' => ∃ F', Grow g x.2.1 x.1 F' H' ∧ BagAt g.β b1 F' H' ∧ Dp X.K F' v' k1) (fun _ _ _ => False) (Room.in1 C.room) C.gd ⟨I1.env0.frames, I1.env0.mod, I1.env0.bs, I1.env0.bsz, I1.env0.funs, I1.env0.frf, I1.env0.hok, I1.env0.bare⟩ (.cons ry .nil) rfl
        ⟨x.2.1, [dy], x.2.2, .ok k1, b1, .cons (G1.dp rdy) .nil, G1.sub, S1.nil, e4, trivial, fun d ed v' H' F' G B hd' => by cases ed; exact ⟨F', G, B, hd'⟩⟩) fun z s2 hq => ?_)
      match z, hq with
      | .error e, hq => exact (cx_no hq).elim
      | .ok .next, hq => exact False.elim hq
      | .ok .brk, hq => exact False.elim hq
      | .ok .cont, hq => exact False.elim hq
      | .ok (.ret u), hq =>
        obtain ⟨v', H', os, bare, un', hok', rv, F', G, B, hd'⟩ := hq
        have I2 : L2.Inv X pins σ H' s2 := I1.call' (ch := []) os un' hok' bare (fun _ z => nomatch z)
        obtain ⟨oI, hoI, hcI, hdI⟩ := id hit
        have nfr : ∀ {a : Addr}, FpOk X pins x.1 a → a ∉ frs X.stack := fun {a} fa z => (List.mem_cons.mp (I1.stkSub _ z)).elim fa.2.1 fa.2.2.1
        have fpk : ∀ {a : Addr} {oo : Obj}, s1.heap.get? a = some oo → FpOk X pins x.1 a → FpOk X pins H' a := fun {a oo} h fa => ⟨un'.free a oo h fa.1 (by simp), fa.2⟩
        have S2 := S1.grow G B
        obtain ⟨its2, r2, pl2, _⟩ := I2.list (SqL.grow (fun a o h => S2.inn a o (G.sub a o (G1.sub a o h))) hs)
        refine h1 u s2 (H', F', b1) ⟨I2, fpk hoI f1, fpk hS f2, G1.trans G, S2, un1.trans un', e2⟩ ⟨⟨oI, un'.keep _ _ hoI f1.1 (nfr f1) (by simp), hcI, hdI⟩, its2, pl2.isList, r2⟩ (un'.keep _ _ hS f2.1 (nfr f2) (by simp)) ⟨v', k1, rv, hd', hki⟩ ?_
        rintro j k' ⟨v0, d0, a1, a2, a3⟩
        exact ⟨v0, d0, a1, G.dp a2, a3⟩
    · rintro i j ki kj s1 m x Q1 E1 ⟨I1, _, _, _, S1, _, _⟩ ⟨vi, di, a1, a2, a3⟩ ⟨vj, dj, b1, b2, b3⟩ hq
      obtain ⟨as, ra⟩ := Dp.reads I1 di vi ki (dp_sub S1.inn a2) a1
      obtain ⟨bs, rb⟩ := Dp.reads I1 dj vj kj (dp_sub S1.inn b2) b1
      have mi : di ∈ ks := List.mem_of_getElem? a3
      have mj : dj ∈ ks := List.mem_of_getElem? b3
      have hu : X.A.in1.units + min di.depth dj.depth < cLine := by
        have h1 := PyData.depth_le_depthAll ks di mi
        have h2 := C.units
        show X.A.units + 1 + _ < _
        omega
      have e : ltK ks i j = PySem.W.dataLt di dj := by
        unfold ltK
        rw [List.getD_eq_getElem?_getD, List.getD_eq_getElem?_getD, a3, b3]
        rfl
      rw [e] at hq
      exact PySem.W.rcLt_alike di dj X.A.in1 s1 ki kj as bs ra rb (al.1 di mi dj mj) (al.2 di mi) hu _ _ _ _ hq
  · have e : (s.heap.push ({ cls := .type "list_iterator", data := .fields #[.ref l, .int 0 0] } : Obj)).objs.size = s.heap.objs.size + 1 := sz2 _
    have I2 : L2.Inv X pins σ H { s with heap := (s.heap.push { cls := .type "list_iterator", data := .fields #[.ref l, .int 0 0] }).push { cls := .type "list", data := .seq #[] 0 }, toks := s.toks } := I.kept fun b o e => Heap.get?_push_of_some _ (Heap.get?_push_of_some _ e)
    exact ⟨I2, I.fpOk (Nat.le_refl _) (I.hok.fresh (Nat.le_refl _)), I.fpOk (Nat.le_succ _) (I.hok.fresh (Nat.le_succ _)), S.refl, S, Un.kept fun b o e => Heap.get?_push_of_some _ (Heap.get?_push_of_some _ e), hk⟩
  · rintro v s' x ⟨y, hy, ry⟩ ⟨I1, _, _, G1, S1, _, hr⟩
    have eb : x.2.2 = b' := by
      rw [hyl, List.drop_length, ← hkl, List.drop_length] at hr
      have : (some (Res.ok ([] : List D), x.2.2)) = some (.ok [], b') := hr
      exact (Prod.mk.inj (Option.some.inj this)).2
    rw [hyl] at hy
    obtain ⟨dy, h1, h2⟩ := DpAll.getV hd hy
    rw [hdd] at h1
    cases h1
    exact ⟨y, x.1, I1, ry, q y x.1 x.2.1 G1 (eb ▸ S1.bag) (G1.dp h2)⟩
/-- min(e, key=lambda x: ..) -/
theorem ev_minKey (C : Cg g X W n) (hk : kc + 2 ≤ n) (hg : Gl X "min") (hm : X.mg "min" = none) (he : Ev g X W Γ e me) (hl : psL.length = 1)
    (L : LamF g X kc params body scope N psL fr js Γ cs Mc)
    (h1 : backTo pos (starEach [e] X.env) = (false, eval e X.env) :: backTo pos (starEach [] X.env) := by rfl) (hpl : (backTo pos (starEach [e] X.env)).any (·.1) = false := by rfl)
    (hall : (backToKw pos (keywordEach [⟨some "key", .Lambda params body scope lpos, kpos⟩] X.env)).all (·.1.isSome) = true := by rfl) (hnone : (backToKw pos (keywordEach [⟨some "key", .Lambda params body scope lpos, kpos⟩] X.env)).any (·.1.isNone) = false := by rfl)
    (hks : (backToKw pos (keywordEach [⟨some "key", .Lambda params body scope lpos, kpos⟩] X.env)).filterMap (·.1) = [Str.ofString "key"] := by rfl) :
    Ev g X W Γ (.Call (.Name "min" p) [e] [⟨some "key", .Lambda params body scope lpos, kpos⟩] pos) (M.bind me (minKeyM Mc)) := by
  refine ⟨fun pins s σ H Q I ⟨F0, b, o, b', S, hm0, xo, q⟩ => ?_⟩
  refine wpAny_Call_Name_kw (ld_blt I hg hm PyProof.Rows.boot_min ?_)
  refine PyProof.Rows.callWith_kw ?_ h1 hpl hall hnone
  rw [h1]
  refine Calls.spliced_cons (thn (he.run pins s σ H (fun v H1 => ∃ d F1 b1, minKeyM Mc d b1 = some (o, b') ∧ SRel g X.K Γ F1 H1 σ b1 ∧ Grow g F0 H F1 H1 ∧ Dp X.K F1 v d) I ?_) fun u s1 ⟨v, H1, I1, r1, d, F1, b1, hm1, S1, G1, hd⟩ => ?_)
  · exact tEv_bind S hm0 xo fun a b1 v H1 F1 _ h1 S1 G1 x1 r1 => ⟨a, F1, b1, h1, S1, G1, r1⟩
  · refine Calls.spliced_nil ?_
    show wpAny _ _ (evalAll [(do let v ← eval (.Lambda params body scope lpos) X.env; standAt pos; pure v)]) _ _ s1
    refine wpAny_evalAll_cons (wpAny_bind (clo_make L S1 I1 fun fa H2 F2 s2 I2 G2 B2 hc => wpAny_bind (wpAny_standAt (wpAny_pure (wpAny_evalAll_nil ?_)))))
    rw [hks]
    show wpAny _ _ (call (.builtin "min") [u] [(Str.ofString "key", .ref fa)]) _ _ _
    have S2 := S1.grow G2 B2
    cases d <;> first | (cases hm1; done) | skip
    rename_i ds
    cases hd with
    | lst hs ha =>
    cases r1
    obtain ⟨ks, b2, e1, e2⟩ : ∃ ks b2, compM (keyM Mc) ds b1 = some (.ok ks, b2) ∧ (M.ite (alikeB ks) (M.lift (ds[argBest (ltK ks) (ds.length - 1)]?)) M.fail) b2 = some (o, b') := by
      rcases bind_cases hm1 with ⟨c, y, z, _⟩ | h
      · exact absurd z (compM_noexc _ _ _ _ _)
      · exact h
    obtain ⟨hal, e2⟩ := ite_some e2
    cases e3 : ds[argBest (ltK ks) (ds.length - 1)]? with
    | none => rw [e3] at e2; cases e2
    | some d =>
      rw [e3] at e2
      cases e2
      rw [hl] at hc
      exact min_key (k := kc + 1) { C with room := C.room.mono hk } I2 S2 (SqL.grow G2.sub hs) (G2.dpAll ha) hc e1 hal e3 fun v' H' F' G B hd' => q _ rfl v' H' F' (G1.trans (G2.trans G)) B hd'
end
end GL
namespace GL
open PySem PySem.Spec PyProof.Rows L2 LamX
/-! ### repr -/
def reprOk (d : D) : Bool := d.showable && !d.hasDict && Nat.ble d.depth 60 && Nat.ble d.shown.length sz
def rReprD (K : PySem.W.Frag) : List V → Hp → VK → Prop := fun xs H Q => ∃ a d, xs = [.ref a] ∧ Dp K H (.ref a) d ∧ reprOk d = true ∧ Q (.str d.shown) H
section
variable {g : Gx} {X : Cx} {W : WX} {n : Nat}
theorem call_reprD (C : Cg g X W n) : CallR X (.builtin "repr") (rReprD X.K) := by
  intro pins s σ H xs us Q I r h
  obtain ⟨a, d, rfl, hd, ok, q⟩ := h
  obtain ⟨u, rfl, r1⟩ := vals1 r
  obtain ⟨as, rd⟩ := Dp.reads I d (.ref a) u hd r1
  cases r1
  unfold reprOk at ok
  simp only [Bool.and_eq_true, Bool.not_eq_true'] at ok
  obtain ⟨⟨⟨o1, o2⟩, o3⟩, o4⟩ := ok
  have hu := C.units
  have h3 := Nat.le_of_ble_eq_true o3
  exact repr_of_reads' rd o1 (PyData.noDict_hsm o2) C.gd (by omega) (fun _ _ e => e) (fun h' u tk hk => ⟨.str d.shown, H, I.kept (t' := tk) hk, ⟨u, rfl⟩, q⟩) (by rw [sz_eq]; exact Nat.le_of_ble_eq_true o4)
def fRepr : List D → M D
  | [.list xs] => M.ite (reprOk (.list xs)) (M.ret (.str (PyData.shown (.list xs)))) M.fail
  | [.tuple xs] => M.ite (reprOk (.tuple xs)) (M.ret (.str (PyData.shown (.tuple xs)))) M.fail
  | _ => M.fail
theorem b_repr (C : Cg g X W n) : BltS g X "repr" fRepr := by
  refine ⟨_, .inl ⟨_, call_reprD C, by decide +kernel⟩, ?_, by decide, by decide⟩
  intro F H b b' o vs ds Q S hd hm q
  unfold fRepr at hm
  split at hm
  · rename_i xs
    cases hd with | cons h1 h2 =>
    cases h2
    cases h1 with | lst hs ha =>
    obtain ⟨hc, hm⟩ := ite_some hm
    exact ⟨_, _, rfl, dp_sub S.inn (.lst hs ha), hc, Cal.scal S hm (fun _ => .str _) q⟩
  · rename_i xs
    cases hd with | cons h1 h2 =>
    cases h2
    cases h1 with | tup hs ha =>
    obtain ⟨hc, hm⟩ := ite_some hm
    exact ⟨_, _, rfl, dp_sub S.inn (.tup hs ha), hc, Cal.scal S hm (fun _ => .str _) q⟩
  · cases hm
end
end GL
namespace GL
open PySem PySem.Spec PyProof.Rows L2 LamX

/-! ### taking items apart -/
def on0 {α : Type} (f : M α) : List D → M α
  | [] => f
  | _ => M.fail
def on1 {α : Type} (f : D → M α) : List D → M α
  | [x] => f x
  | _ => M.fail
def on2 {α : Type} (f : D → D → M α) : List D → M α
  | [x, y] => f x y
  | _ => M.fail
def on3 {α : Type} (f : D → D → D → M α) : List D → M α
  | [x, y, z] => f x y z
  | _ => M.fail
def on4 {α : Type} (f : D → D → D → D → M α) : List D → M α
  | [x, y, z, u] => f x y z u
  | _ => M.fail
def on5 {α : Type} (f : D → D → D → D → D → M α) : List D → M α
  | [x, y, z, u, v] => f x y z u v
  | _ => M.fail
def on6 {α : Type} (f : D → D → D → D → D → D → M α) : List D → M α
  | [x, y, z, u, v, w] => f x y z u v w
  | _ => M.fail
def on7 {α : Type} (f : D → D → D → D → D → D → D → M α) : List D → M α
  | [x, y, z, u, v, w, t] => f x y z u v w t
  | _ => M.fail
@[simp] theorem on0_eq {α : Type} (f : M α) : on0 f [] = f := rfl
@[simp] theorem on1_eq {α : Type} (f : D → M α) (x : D) : on1 f [x] = f x := rfl
@[simp] theorem on2_eq {α : Type} (f : D → D → M α) (x y : D) : on2 f [x, y] = f x y := rfl
@[simp] theorem on3_eq {α : Type} (f : D → D → D → M α) (x y z : D) : on3 f [x, y, z] = f x y z := rfl
@[simp] theorem on4_eq {α : Type} (f : D → D → D → D → M α) (x y z u : D) : on4 f [x, y, z, u] = f x y z u := rfl
section
variable {g : Gx} {X : Cx} {W : WX} {E : XK} {Γ : List Sl} {Γf : List D → List Sl} {e tg : Expr} {ss : List Stmt} {ifs : List Expr} {S : Type} {sh : S → List Sl}
theorem ev_fail : Ev g X W Γ e M.fail := ⟨fun pins s σ H Q I ⟨F, b, o, b', S, hm, x, q⟩ => by cases hm⟩
theorem ets_fail : Ets g X W Γ ifs M.fail := ⟨fun pins s σ H Q I ⟨F, b, o, b', S, hm, x, q⟩ => by cases hm⟩
theorem itj_fail : Itj g X W Γ tg e M.fail := ⟨fun pins s σ H Q I ⟨F, b, o, b', S, hm, x, q⟩ => by cases hm⟩
theorem ev_on1 {f : D → M D} (h : ∀ x, Ev g X W (Γf [x]) e (f x)) : ∀ ds, Ev g X W (Γf ds) e (on1 f ds)
  | [] => ev_fail
  | [x] => h x
  | _ :: _ :: _ => ev_fail
theorem ev_on2 {f : D → D → M D} (h : ∀ x y, Ev g X W (Γf [x, y]) e (f x y)) : ∀ ds, Ev g X W (Γf ds) e (on2 f ds)
  | [] => ev_fail
  | [_] => ev_fail
  | [x, y] => h x y
  | _ :: _ :: _ :: _ => ev_fail
theorem ev_on3 {f : D → D → D → M D} (h : ∀ x y z, Ev g X W (Γf [x, y, z]) e (f x y z)) : ∀ ds, Ev g X W (Γf ds) e (on3 f ds)
  | [] => ev_fail
  | [_] => ev_fail
  | [_, _] => ev_fail
  | [x, y, z] => h x y z
  | _ :: _ :: _ :: _ :: _ => ev_fail
theorem ets_on1 {f : D → M Bool} (h : ∀ x, Ets g X W (Γf [x]) ifs (f x)) : ∀ ds, Ets g X W (Γf ds) ifs (on1 f ds)
  | [] => ets_fail
  | [x] => h x
  | _ :: _ :: _ => ets_fail
theorem ets_on2 {f : D → D → M Bool} (h : ∀ x y, Ets g X W (Γf [x, y]) ifs (f x y)) : ∀ ds, Ets g X W (Γf ds) ifs (on2 f ds)
  | [] => ets_fail
  | [_] => ets_fail
  | [x, y] => h x y
  | _ :: _ :: _ :: _ => ets_fail
theorem ets_on3 {f : D → D → D → M Bool} (h : ∀ x y z, Ets g X W (Γf [x, y, z]) ifs (f x y z)) : ∀ ds, Ets g X W (Γf ds) ifs (on3 f ds)
  | [] => ets_fail
  | [_] => ets_fail
  | [_, _] => ets_fail
  | [x, y, z] => h x y z
  | _ :: _ :: _ :: _ :: _ => ets_fail
theorem itj_on1 {f : D → M (List D)} (h : ∀ x, Itj g X W (Γf [x]) tg e (f x)) : ∀ ds, Itj g X W (Γf ds) tg e (on1 f ds)
  | [] => itj_fail
  | [x] => h x
  | _ :: _ :: _ => itj_fail
theorem itj_on2 {f : D → D → M (List D)} (h : ∀ x y, Itj g X W (Γf [x, y]) tg e (f x y)) : ∀ ds, Itj g X W (Γf ds) tg e (on2 f ds)
  | [] => itj_fail
  | [_] => itj_fail
  | [x, y] => h x y
  | _ :: _ :: _ :: _ => itj_fail
theorem bj_on1 {f : D → M (Out S)} (h : ∀ x, Bj g X E (Γf [x]) ss sh (f x)) : ∀ ds, Bj g X E (Γf ds) ss sh (on1 f ds)
  | [] => bj_never
  | [x] => h x
  | _ :: _ :: _ => bj_never
theorem bj_on2 {f : D → D → M (Out S)} (h : ∀ x y, Bj g X E (Γf [x, y]) ss sh (f x y)) : ∀ ds, Bj g X E (Γf ds) ss sh (on2 f ds)
  | [] => bj_never
  | [_] => bj_never
  | [x, y] => h x y
  | _ :: _ :: _ :: _ => bj_never
theorem bj_on3 {f : D → D → D → M (Out S)} (h : ∀ x y z, Bj g X E (Γf [x, y, z]) ss sh (f x y z)) : ∀ ds, Bj g X E (Γf ds) ss sh (on3 f ds)
  | [] => bj_never
  | [_] => bj_never
  | [_, _] => bj_never
  | [x, y, z] => h x y z
  | _ :: _ :: _ :: _ :: _ => bj_never
theorem Bj.cast {m m' : M (Out S)} (h : Bj g X E Γ ss sh m) (e' : m = m') : Bj g X E Γ ss sh m' := e' ▸ h
end
/-! ### arguments of a def, by their number -/
section
variable {P : Program} {w : World} {K : PySem.W.Frag} {mg : Str → Option Value} {base : Heap} {g : Gx}
theorem Kn.at {x : Str} {st : Stmt} {k : Nat} {ps : List Str} {ks : List AK} {Mf : List D → M D} (kn : Kn P w K mg base g x st k ps ks Mf) (β : Addr) : Kn P w K mg base (g.at β) x st k ps ks Mf := by
  obtain ⟨f, fd, nm, qual, h1, h2, h3, h4⟩ := kn
  exact ⟨f, fd, nm, qual, h1, h2, h3, h4⟩
theorem KnC.at {x : Str} {st : Stmt} {k : Nat} {ps : List Str} {kc n : Nat} {Mf : (List D → M D) → List D → M D} (kn : KnC P w K mg base g x st k ps kc n Mf) (β : Addr) : KnC P w K mg base (g.at β) x st k ps kc n Mf := by
  obtain ⟨f, fd, nm, qual, h1, h2, h3, h4⟩ := kn
  exact ⟨f, fd, nm, qual, h1, h2, ⟨fun A outer s H args us vs Q E => h3.run A outer s H args us vs Q E⟩, h4⟩
/-- a def of the text: where it stands, its code object -/
structure Df (K : PySem.W.Frag) (mg : Str → Option Value) (x : Str) (st : Stmt) (cc : Value → Prop) : Prop where
  ex : ∃ (f : Addr) (fd : FuncData), mg x = some (.ref f) ∧ Fun K x x st f fd ∧ cc fd.code
/-- its body -/
abbrev CxD (P : Program) (w : World) (K : PySem.W.Frag) (mg : Str → Option Value) (base : Heap) (N : List Str) (qual : Str) (scope : Scope) (f : Addr) (cdv : Value) (A : Around) (outer : List Env) (s : Shared) (H : Hp) (E : XK) : Cx := cxOf (L2.CX P w) P w K mg base N qual scope f cdv A outer s H E
theorem kn_of {x : Str} {st : Stmt} {N ps : List Str} {ks : List AK} {k : Nat} {Mf : List D → M D} {cc : Value → Prop} (d : Df K mg x st cc) (S : FnScope N ps (defScope st)) (hl : ks.length = ps.length)
    (hb : ∀ (kV doc pm : Value) (an : Option Addr) (cdv ct : Value) (us : List Value), us.length = ps.length → bindArgs (PySem.W.fnOf x x (defArgs st) (defBody st) (defScope st) .none kV doc pm an cdv ct) ⟨us, []⟩ = pure (ps.zip us))
    (hbody : ∀ (β : Addr) (f : Addr) (cdv : Value) (A : Around) (outer : List Env) (s : Shared) (H : Hp) (E : XK) (ds : List D), cc cdv → Cg (g.at β) (CxD P w K mg base N x (defScope st) f cdv A outer s H E) (WK E) k → ds.length = nD ks →
      ∃ (S : Type) (sh : S → List Sl) (m : M (Out S)), Mf ds = fnM m ∧ Bj (g.at β) (CxD P w K mg base N x (defScope st) f cdv A outer s H E) E (slots ks ds ++ List.replicate (N.length - ks.length) .un) (defBody st) sh m) :
    Kn P w K mg base g x st (k + 1) ps ks Mf := by
  obtain ⟨f, fd, h1, h2, h3⟩ := d
  exact ⟨f, fd, x, x, h1, h2, fnG_of h2 S hl (cc := cc) (fun cdv e => e ▸ h3) (fun β cdv A outer s H E ds c C hd => hbody β f cdv A outer s H E ds c (C k (Nat.le_refl _)) hd), h2.binds hb⟩
theorem knC_of {x : Str} {st : Stmt} {N ps : List Str} {nd k kc n : Nat} {Mf : (List D → M D) → List D → M D} {cc : Value → Prop} (d : Df K mg x st cc) (S : FnScope N ps (defScope st)) (hl : ps.length = nd + 1)
    (hb : ∀ (kV doc pm : Value) (an : Option Addr) (cdv ct : Value) (us : List Value), us.length = ps.length → bindArgs (PySem.W.fnOf x x (defArgs st) (defBody st) (defScope st) .none kV doc pm an cdv ct) ⟨us, []⟩ = pure (ps.zip us))
    (hbody : ∀ (β : Addr) (f : Addr) (cdv : Value) (A : Around) (outer : List Env) (s : Shared) (H : Hp) (E : XK) (ds : List D) (fa : Addr) (Fc : Hp) (Mc : List D → M D), Cg (g.at β) (CxD P w K mg base N x (defScope st) f cdv A outer s H E) (WK E) k → ds.length = nd →
      Clb P w K mg base (g.at β) (frs outer) s H Fc kc fa n Mc →
      ∃ (S : Type) (sh : S → List Sl) (m : M (Out S)), Mf Mc ds = fnM m ∧ Bj (g.at β) (CxD P w K mg base N x (defScope st) f cdv A outer s H E) E (ds.map .d ++ (.v (.ref fa) Fc :: List.replicate (N.length - ps.length) .un)) (defBody st) sh m) :
    KnC P w K mg base g x st (k + 1) ps kc n Mf := by
  obtain ⟨f, fd, h1, h2, h3⟩ := d
  exact ⟨f, fd, x, x, h1, h2, fnC_of h2 S hl (fun β cdv A outer s H E ds fa Fc Mc C hd hc => hbody β f cdv A outer s H E ds fa Fc Mc (C k (Nat.le_refl _)) hd hc), h2.binds hb⟩
theorem len0 {ds : List D} (h : ds.length = 0) : ds = [] := List.eq_nil_of_length_eq_zero h
theorem len1 {ds : List D} (h : ds.length = 1) : ∃ a, ds = [a] := by
  match ds, h with
  | [a], _ => exact ⟨a, rfl⟩
theorem len2 {ds : List D} (h : ds.length = 2) : ∃ a b, ds = [a, b] := by
  match ds, h with
  | [a, b], _ => exact ⟨a, b, rfl⟩
theorem len3 {ds : List D} (h : ds.length = 3) : ∃ a b c, ds = [a, b, c] := by
  match ds, h with
  | [a, b, c], _ => exact ⟨a, b, c, rfl⟩
theorem len4 {ds : List D} (h : ds.length = 4) : ∃ a b c d, ds = [a, b, c, d] := by
  match ds, h with
  | [a, b, c, d], _ => exact ⟨a, b, c, d, rfl⟩
theorem len5 {ds : List D} (h : ds.length = 5) : ∃ a b c d e, ds = [a, b, c, d, e] := by
  match ds, h with
  | [a, b, c, d, e], _ => exact ⟨a, b, c, d, e, rfl⟩
theorem len6 {ds : List D} (h : ds.length = 6) : ∃ a b c d e f, ds = [a, b, c, d, e, f] := by
  match ds, h with
  | [a, b, c, d, e, f], _ => exact ⟨a, b, c, d, e, f, rfl⟩
theorem len7 {ds : List D} (h : ds.length = 7) : ∃ a b c d e f t, ds = [a, b, c, d, e, f, t] := by
  match ds, h with
  | [a, b, c, d, e, f, t], _ => exact ⟨a, b, c, d, e, f, t, rfl⟩
end
end GL
namespace GL
open PySem PySem.Spec PyProof.Rows L2 LamX
theorem hl_of {is : List Nat} {n : Nat} (h : is.all (fun i => Nat.blt i n) = true) : ∀ i ∈ is, i < n := fun i hi => by
  have := List.all_eq_true.mp h i hi
  exact Nat.le_of_ble_eq_true this
/-- the code object of a def that makes lambdas, and its table -/
def CcL (mg : Str → Option Value) (base : Heap) (g : Gx) (x : Str) (cdv : Value) : Prop := ∃ c P, cdv = .ref c ∧ TabB base mg c P ∧ (P, x ++ ".<locals>." ++ "<lambda>") ∈ g.T ∧ ∀ p ∈ g.T, p.1 = P → p.2 = x ++ ".<locals>." ++ "<lambda>"
def perm {α : Type} (is : List Nat) (l : List α) : List α := is.filterMap fun i => l[i]?
section
variable {g : Gx} {X : Cx} {W : WX} {Γ : List Sl} {n k m : Nat} {pos p : Pos} {x : Str} {st : Stmt} {ps : List Str} {Mf : List D → M D} {is : List Nat}
theorem ev_v (i : Nat) (d : D) (hN : X.N[i]? = some x := by rfl) (hv : Vis X.env.scope x := by first | exact Or.inl rfl | exact Or.inr (Or.inl rfl) | exact Or.inr (Or.inr rfl)) (hs : Γ[i]? = some (.d d) := by rfl) (hd : (x == ("__debug__" : Str)) = false := by decide) (hcd : (x == ("__classdict__" : Str)) = false := by decide) :
    Ev g X W Γ (.Name x pos) (M.ret d) := ev_var hN hv hs hd hcd
theorem tg_n (hN : X.N.Nodup) (i : Nat) (hi : X.N[i]? = some x := by rfl) (hx : Loc X.env.scope x := by first | exact Or.inl rfl | exact Or.inr rfl) (hf : X.fn x = true ∨ X.env.scope.names.lookup x = some .local := by first | exact .inl rfl | exact .inr rfl) : Tg g X (.Name x pos) [i] un1 := tg_name hN hi hx hf
theorem tgs_n {es : List Expr} {is : List Nat} (hN : X.N.Nodup) (i : Nat) (hr : PGs X es (tTgs X.K is)) (hi : X.N[i]? = some x := by rfl) (hx : Loc X.env.scope x := by first | exact Or.inl rfl | exact Or.inr rfl) (hf : X.fn x = true ∨ X.env.scope.names.lookup x = some .local := by first | exact .inl rfl | exact .inr rfl)
    (hs : (assignEach (.Name x pos :: es) X.env).map (·.2) = assign (.Name x pos) X.env :: (assignEach es X.env).map (·.2) := by rfl) : PGs X (.Name x pos :: es) (tTgs X.K (i :: is)) := tgs_cons hN hi hx hr hf hs
theorem ev_globE {i : Int} (hg : Gl X x) (hm : ∃ t, X.mg x = some (.int i t)) (hd : (x == ("__debug__" : Str)) = false := by decide) : Ev g X W Γ (.Name x pos) (M.ret (.int i)) := by
  obtain ⟨t, hm⟩ := hm
  exact ev_globI hg hm hd
theorem perm_vals : ∀ {is : List Nat} {vs : List V} {us : List Value}, Vals vs us → (∀ i ∈ is, i < vs.length) → Vals (perm is vs) (perm is us) ∧ (perm is vs).length = is.length
  | [], _, _, _, _ => ⟨.nil, rfl⟩
  | i :: is, vs, us, r, h => by
    obtain ⟨r1, l1⟩ := perm_vals (is := is) r fun j hj => h j (List.mem_cons_of_mem _ hj)
    have hi := h i List.mem_cons_self
    obtain ⟨u, hu, ru⟩ := r.get (List.getElem?_eq_getElem hi)
    have e1 : perm (i :: is) vs = vs[i] :: perm is vs := by unfold perm; rw [List.filterMap_cons, List.getElem?_eq_getElem hi]
    have e2 : perm (i :: is) us = u :: perm is us := by unfold perm; rw [List.filterMap_cons, hu]
    rw [e1, e2]
    exact ⟨.cons ru r1, by rw [List.length_cons, List.length_cons, l1]⟩
theorem perm_dp {K : PySem.W.Frag} {F : Hp} {β : Addr} : ∀ {is : List Nat} {vs : List V} {ds : List D}, DpAll K F vs ds → (∀ i ∈ is, i < vs.length) → ArgsRel β K F (List.replicate is.length .d) (perm is vs) (perm is ds)
  | [], _, _, _, _ => .nil
  | i :: is, vs, ds, r, h => by
    have r1 := perm_dp (β := β) (is := is) r fun j hj => h j (List.mem_cons_of_mem _ hj)
    have hi := h i List.mem_cons_self
    have hi2 : i < ds.length := by rw [← DpAll.length r]; exact hi
    obtain ⟨d, hd, rd⟩ := DpAll.getV r (List.getElem?_eq_getElem hi)
    have e1 : perm (i :: is) vs = vs[i] :: perm is vs := by unfold perm; rw [List.filterMap_cons, List.getElem?_eq_getElem hi]
    have e2 : perm (i :: is) ds = d :: perm is ds := by unfold perm; rw [List.filterMap_cons, hd]
    rw [e1, e2, List.length_cons, List.replicate_succ]
    exact .d rd r1
/-- a def called with keywords alone -/
theorem ev_callKD {mk : (List D → M D) → M D} {kws : List Keyword} {kn' : List Str} (C : Cg g X W n) (kn : Kn X.prog X.w X.K X.mg X.base g x st k ps (List.replicate is.length .d) Mf) (hk : k ≤ n)
    (hg : Gl X x) (ha : PK X kws (tAs g X.K W Γ (List.replicate m .d) mk)) (his : is.all (fun i => decide (i < m)) = true) (hil : is.length = ps.length)
    (hbd : ∀ (nm qual : Str) (kV doc pm' : Value) (an : Option Addr) (cdv ct : Value) (us : List Value), us.length = m → bindArgs (PySem.W.fnOf nm qual (defArgs st) (defBody st) (defScope st) .none kV doc pm' an cdv ct) ⟨[], kn'.zip us⟩ = pure (ps.zip (perm is us)))
    (hdb : (x == ("__debug__" : Str)) = false := by decide)
    (hall : (backToKw pos (keywordEach kws X.env)).all (·.1.isSome) = true := by rfl) (hks : (backToKw pos (keywordEach kws X.env)).filterMap (·.1) = kn' := by rfl)
    (hpl : ((backTo pos (starEach [] X.env)).any (·.1) || (backToKw pos (keywordEach kws X.env)).any (·.1.isNone)) = false := by rfl) :
    Ev g X W Γ (.Call (.Name x p) [] kws pos) (mk fun ds => Mf (perm is ds)) := by
  have his' : ∀ i ∈ is, i < m := fun i hi => by
    have := List.all_eq_true.mp his i hi
    simpa using this
  refine ev_callK C kn hk hg ha hdb hall hks hpl (pm := fun l => perm is l) (fun nm qual kV doc pm' an cdv ct us hu => hbd nm qual kV doc pm' an cdv ct us (by rw [hu, List.length_replicate])) (fun {vs us} r hl => ?_) (fun {β K F vs ds} r => ?_)
  · obtain ⟨r1, l1⟩ := perm_vals (is := is) r fun i hi => by rw [hl, List.length_replicate]; exact his' i hi
    exact ⟨r1, l1.trans hil⟩
  · have hl := r.len
    rw [List.length_replicate] at hl
    exact ⟨perm is ds, perm_dp (replicate_d r) (fun i hi => by rw [hl]; exact his' i hi), rfl⟩
end
section
variable {g : Gx} {X : Cx} {W : WX} {Γf : List D → List D → List Sl} {e : Expr} {ifs : List Expr}
theorem ev2_11 {f : D → D → M D} (h : ∀ x y, Ev g X W (Γf [x] [y]) e (f x y)) : ∀ ds es, Ev g X W (Γf ds es) e (on1 (fun x => on1 (fun y => f x y) es) ds)
  | [], _ => ev_fail
  | _ :: _ :: _, _ => ev_fail
  | [x], [] => ev_fail
  | [x], [y] => h x y
  | [x], _ :: _ :: _ => ev_fail
theorem ets2_11 {f : D → D → M Bool} (h : ∀ x y, Ets g X W (Γf [x] [y]) ifs (f x y)) : ∀ ds es, Ets g X W (Γf ds es) ifs (on1 (fun x => on1 (fun y => f x y) es) ds)
  | [], _ => ets_fail
  | _ :: _ :: _, _ => ets_fail
  | [x], [] => ets_fail
  | [x], [y] => h x y
  | [x], _ :: _ :: _ => ets_fail
end
end GL
namespace GL
open PySem PySem.Spec PyProof.Rows L2 LamX

/-! ### the bag -/
def bagI (k : Nat) (t : Int × Int × Int) : Int := match k with
  | 0 => t.1
  | 1 => t.2.1
  | _ => t.2.2
def bagW (k : Nat) (t : Int × Int × Int) (v : Int) : Int × Int × Int := match k with
  | 0 => (v, t.2.1, t.2.2)
  | 1 => (t.1, v, t.2.2)
  | _ => (t.1, t.2.1, v)
def bagG (k : Nat) : M D := fun b => match b with
  | some t => some (.ok (.int (bagI k t)), some t)
  | none => none
def bagP (k : Nat) (d : D) : M Unit := fun b => match b, d with
  | some t, .int v => some (.ok (), some (bagW k t v))
  | _, _ => none
def bagL (t : Int × Int × Int) : List V := [.int t.1, .int t.2.1, .int t.2.2]
theorem bagL_get {k : Nat} (hk : k < 3) (t : Int × Int × Int) : atI (bagL t) (k : Int) = some (.int (bagI k t)) := by
  match k, hk with
  | 0, _ => rfl
  | 1, _ => rfl
  | 2, _ => rfl
theorem bagL_ix {k : Nat} (hk : k < 3) (t : Int × Int × Int) : ixN (bagL t).length (k : Int) = some k := by
  match k, hk with
  | 0, _ => rfl
  | 1, _ => rfl
  | 2, _ => rfl
theorem bagL_set {k : Nat} (hk : k < 3) (t : Int × Int × Int) (v : Int) : (bagL t).set k (.int v) = bagL (bagW k t v) := by
  match k, hk with
  | 0, _ => rfl
  | 1, _ => rfl
  | 2, _ => rfl
section
variable {g : Gx} {X : Cx} {W : WX} {E : XK} {Γ : List Sl} {n : Nat} {pos p p2 p3 tp : Pos} {y x : Str} {e : Expr} {me : M D} {K : PySem.W.Frag} {S : Type} {sh : S → List Sl} {rest : List Stmt}
theorem bag_upd {F0 H0 Fl F H : Hp} {σ : L2.St} {t t' : Int × Int × Int} (G : GrowL g F0 H0 Fl F H) (R : SRel g K Γ F H σ (some t)) (ow : OwnF Γ σ H0) : GrowL g F0 H0 Fl F (upd H g.β (.lst (bagL t'))) ∧ SRel g K Γ F (upd H g.β (.lst (bagL t'))) σ (some t') := by
  have hH : H g.β = some (.lst (bagL t)) := R.bag.1
  have hF : F g.β = none := R.bag.2
  have tabs : Tabs g.T H → Tabs g.T (upd H g.β (.lst (bagL t'))) := fun h q hq => by
    obtain ⟨ps, t1, t2, t3⟩ := h q hq
    have n1 : q.1 ≠ g.β := fun z => by rw [z, hH] at t1; cases t1
    refine ⟨ps, by rw [upd_ne n1]; exact t1, t2, fun pos cv hc => ?_⟩
    obtain ⟨c, z1, z2⟩ := t3 pos cv hc
    exact ⟨c, z1, by rw [upd_ne (fun z => by rw [z, hH] at z2; cases z2)]; exact z2⟩
  have inn : ∀ a o, F a = some o → upd H g.β (.lst (bagL t')) a = some o := fun a o e => by rw [upd_ne (ne_of_none e hF)]; exact R.inn a o e
  refine ⟨⟨⟨G.gr.sub, inn, fun a o e n1 n2 => by rw [upd_ne n2]; exact G.gr.ext a o e n1 n2, G.gr.new, fun h => tabs (G.gr.tab h), G.gr.sor, fun a e => ?_⟩, G.fl⟩, ⟨inn, R.sor, fun i s e => ?_, R.dist, ⟨upd_same, hF⟩, tabs R.tab⟩⟩
  · by_cases h : a = g.β
    · subst h; rw [upd_same] at e; cases e
    · rw [upd_ne h] at e; exact G.gr.low a e
  · obtain ⟨o, h1, h2⟩ := R.slot i s e
    refine ⟨o, h1, ?_⟩
    cases s with
    | un => trivial
    | d x => exact h2
    | own xs =>
      obtain ⟨q, vs, rfl, h3, h4, h5, h6⟩ := h2
      exact ⟨q, vs, rfl, by rw [upd_ne h5]; exact h3, h4, h5, h6⟩
    | v x Fc => exact h2
    | bag => exact h2
/-- bag[k] -/
theorem ev_bag {j : Nat} (i k : Nat) (hk : k < 3) (hΓ : Γ[i]? = some .bag) (hN : X.N[i]? = some y) (hv : Vis X.env.scope y := by first | exact Or.inl rfl | exact Or.inr (Or.inl rfl) | exact Or.inr (Or.inr rfl)) (hd : (y == ("__debug__" : Str)) = false := by decide) (hcd : (y == ("__classdict__" : Str)) = false := by decide) :
    Ev g X W Γ (.Subscript (.Name y p) (.Constant (.int (k : Int)) j p2) pos) (bagG k) :=
  Ev.of (pe_ix ix_list (pe_var hN hv hd hcd) pe_int (fun _ _ => rfl)) fun F H σ b o b' S hm x Q q => by
    obtain ⟨ov, e1, e2⟩ := S.slot i _ hΓ
    have e2 : ov = some (.ref g.β) := e2
    subst e2
    cases b with
    | none => cases hm
    | some t =>
      cases hm
      exact ⟨.ref g.β, e1, g.β, bagL t, k, .int (bagI k t), rfl, rfl, SqL.of S.bag.1, bagL_get hk t, q _ rfl _ H F S.refl S.bag (.int _)⟩
/-- bag[k] = e -/
theorem bj_bagSet {j : Nat} {m : M (Out S)} (i k : Nat) (hk : k < 3) (hΓ : Γ[i]? = some .bag) (hN : X.N[i]? = some y) (he : Ev g X (WK E) Γ e me) (hr : Bj g X E Γ rest sh m) (hv : Vis X.env.scope y := by first | exact Or.inl rfl | exact Or.inr (Or.inl rfl) | exact Or.inr (Or.inr rfl))
    (hd : (y == ("__debug__" : Str)) = false := by decide) (hcd : (y == ("__classdict__" : Str)) = false := by decide) (hs : swapsWithSole [.Subscript (.Name y p) (.Constant (.int (k : Int)) j p2) p3] e pos.line X.env = pure false := by rfl)
    (hw : swappedStores [.Subscript (.Name y p) (.Constant (.int (k : Int)) j p2) p3] e X.env = pure none := by rfl) (h1 : (assignEach [.Subscript (.Name y p) (.Constant (.int (k : Int)) j p2) p3] X.env).map (·.2) = [assign (.Subscript (.Name y p) (.Constant (.int (k : Int)) j p2) p3) X.env] := by rfl) :
    Bj g X E Γ (.Assign [.Subscript (.Name y p) (.Constant (.int (k : Int)) j p2) p3] e pos :: rest) sh (M.bind me fun d => M.bind (bagP k d) fun _ => m) :=
  pss_imp (pss_cons (ps_asg he (pg_sub (pe_var hN hv hd hcd) pe_int set_list) hs hw h1) hr) fun D σ H ⟨F0, H0, Fl, F, b, o, b', G, R, ow, hm, x, q⟩ => by
    refine bj_bind G R ow hm x fun d b1 v H1 F1 h1 R1 G1 G2 r1 => ?_
    obtain ⟨ov, e1, e2⟩ := R1.slot i _ hΓ
    have e2 : ov = some (.ref g.β) := e2
    subst e2
    cases b1 with
    | none => cases h1
    | some t =>
      cases d <;> first | (cases h1; done) | skip
      rename_i w
      cases r1
      have hB : H1 g.β = some (.lst (bagL t)) := R1.bag.1
      obtain ⟨G3, R3⟩ := bag_upd (t' := bagW k t w) G1 R1 ow
      refine ⟨.ref g.β, e1, g.β, bagL t, k, k, rfl, rfl, hB, bagL_ix hk t, ?_⟩
      rw [bagL_set hk]
      exact ⟨F0, H0, Fl, F1, _, o, b', G3, R3, ow, h1, x, q⟩
/-! ### divmod -/
def fDivmod : List D → M D
  | [.int i, .int j] => match decide (CDiv i j) with | true => M.ret (.tuple [.int (i / j), .int (i % j)]) | false => M.fail
  | _ => M.fail
theorem b_divmod : BltS g X "divmod" fDivmod := by
  refine ⟨_, .inl ⟨_, call_divmod, by decide +kernel⟩, ?_, by decide, by decide⟩
  intro F H b b' o vs ds Q S hd hm q
  unfold fDivmod at hm
  split at hm
  · rename_i i j
    cases hd with | cons h1 h2 =>
    cases h2 with | cons h2 h3 =>
    cases h3
    cases h1; cases h2
    cases e : decide (CDiv i j) with
    | false => simp only [e] at hm; cases hm
    | true =>
      simp only [e] at hm
      cases hm
      refine ⟨i, j, rfl, of_decide_eq_true e, fun p hp => ?_⟩
      obtain ⟨G, B, r⟩ := new_tup S hp (.cons (.int (i / j)) (.cons (.int (i % j)) .nil))
      exact q _ rfl _ _ _ G B r
  · cases hm
/-- a pair of ints -/
def two : D → M (Int × Int)
  | .tuple [.int a, .int b] => M.ret (a, b)
  | _ => M.fail
/-- bag[k], x = e -/
theorem bj_bagTwo {j kk : Nat} {px : Pos} {m : D → M (Out S)} (C : Cg g X (WK E) n) (i k l : Nat) (hk : k < 3) (hΓ : Γ[i]? = some .bag) (hN : X.N[i]? = some y) (hNl : X.N[l]? = some x) (hx : Loc X.env.scope x) (hl : l < Γ.length) (he : Ev g X (WK E) Γ e me) (hr : ∀ r, Bj g X E (Γ.set l (.d r)) rest sh (m r))
    (hv : Vis X.env.scope y := by first | exact Or.inl rfl | exact Or.inr (Or.inl rfl) | exact Or.inr (Or.inr rfl)) (hd : (y == ("__debug__" : Str)) = false := by decide) (hcd : (y == ("__classdict__" : Str)) = false := by decide)
    (hf : X.fn x = true ∨ X.env.scope.names.lookup x = some .local := by first | exact .inl rfl | exact .inr rfl)
    (hs : swapsWithSole [.Tuple [.Subscript (.Name y p) (.Constant (.int (k : Int)) j p2) p3, .Name x px] kk tp] e pos.line X.env = pure false := by rfl)
    (hw : swappedStores [.Tuple [.Subscript (.Name y p) (.Constant (.int (k : Int)) j p2) p3, .Name x px] kk tp] e X.env = pure none := by rfl) :
    Bj g X E Γ (.Assign [.Tuple [.Subscript (.Name y p) (.Constant (.int (k : Int)) j p2) p3, .Name x px] kk tp] e pos :: rest) sh (M.bind me fun d => M.bind (two d) fun t => M.bind (bagP k (.int t.1)) fun _ => m (.int t.2)) :=
  pss_imp (pss_cons (ps_asg he (pg_tup C.calm (pgs_cons (pg_sub (pe_var hN hv hd hcd) pe_int set_list) (pgs_cons (pg_name C.nd hNl hx hf) pgs_nil))) hs hw) (pss_ex hr)) fun D' σ H ⟨F0, H0, Fl, F, b, o, b', G, R, ow, hm, x, q⟩ => by
    refine bj_bind G R ow hm x fun d b1 v H1 F1 h1 R1 G1 G2 r1 => ?_
    obtain ⟨a, c, rfl, h1⟩ : ∃ a c, d = .tuple [.int a, .int c] ∧ (M.bind (bagP k (.int a)) fun _ => m (.int c)) b1 = some (o, b') := by
      unfold two at h1
      split at h1
      · exact ⟨_, _, rfl, h1⟩
      · cases h1
    obtain ⟨ov, e1, e2⟩ := R1.slot i _ hΓ
    have e2 : ov = some (.ref g.β) := e2
    subst e2
    cases b1 with
    | none => cases h1
    | some t =>
      have hB : H1 g.β = some (.lst (bagL t)) := R1.bag.1
      obtain ⟨G3, R3⟩ := bag_upd (t' := bagW k t a) G1 R1 ow
      cases r1 with
      | tup hs2 ha =>
      cases ha with | cons ha1 ha2 =>
      cases ha2 with | cons ha2 ha3 =>
      cases ha3
      cases ha1; cases ha2
      refine ⟨_, [.int a, .int c], rfl, SqT.grow R1.inn hs2, rfl, .int a, [.int c], rfl, .ref g.β, e1, g.β, bagL t, k, k, rfl, rfl, hB, bagL_ix hk t, .int c, [], rfl, rfl, ?_⟩
      rw [bagL_set hk]
      exact ⟨.int c, F0, H0, Fl, F1, _, o, b', G3, R3.set hl ⟨_, rfl, .int c⟩ (fun xs e => by cases e), ow.set (fun xs p e => by cases e), h1, x, q⟩
end
end GL
namespace GL
open PySem PySem.Spec PyProof.Rows L2 LamX
/-! ### two blocks, one behind the other -/
def thenK (b : List Stmt) (env : Env) (f : Flow) : Sem Flow := match f with
  | .next => execs b env
  | f => pure f
theorem execs_app (env : Env) (b : List Stmt) : ∀ a : List Stmt, execs (a ++ b) env = (execs a env >>= thenK b env)
  | [] => by
    rw [List.nil_append, execs_nil, pure_bind]
    rfl
  | st :: a => by
    rw [List.cons_append, execs_cons, execs_cons, bind_assoc]
    congr 1
    funext f
    cases f with
    | next => exact execs_app env b a
    | ret v => rw [pure_bind]; rfl
    | brk => rw [pure_bind]; rfl
    | cont => rw [pure_bind]; rfl
theorem pss_app {X : Cx} {a b : List Stmt} {t u : TS} (h1 : PSs X a t) (h2 : PSs X b u) : PSs X (a ++ b) (tSeq t u) := by
  refine ⟨fun pins s σ H D I h => ?_⟩
  rw [execs_app]
  refine wpAny_bind (thn (h1.run pins s σ H { D with nx := u D } I h) fun f s1 q => ?_)
  cases f with
  | next =>
    obtain ⟨σ', H', I', q⟩ := q
    exact h2.run pins s1 σ' H' D I' q
  | ret v => exact wpAny_pure q
  | brk => exact wpAny_pure q
  | cont => exact wpAny_pure q
/-! ### a def that hands back a new list -/
def spN (g : Gx) (K : PySem.W.Frag) (ks : List AK) (Mf : List D → M (List D)) : Sp := fun vs H Q E =>
  ∃ (β : Addr) (F : Hp) (ds : List D) (b : Bag) (o : Res (List D)) (b' : Bag), ArgsRel β K F ks vs ds ∧ SRel (g.at β) K [] F H [] b ∧ Mf ds b = some (o, b') ∧ XOk (g.at β) K (fun c d _ H => E c d H) [] F H o b' ∧
    ∀ xs, o = .ok xs → ∀ p ws H' F', Grow (g.at β) F H F' H' → BagAt β b' F' H' → H' p = some (.lst ws) → F' p = none → H p = none → p ≠ β → DpAll K F' ws xs → Q (.ref p) H'
structure KnN (P : Program) (w : World) (K : PySem.W.Frag) (mg : Str → Option Value) (base : Heap) (g : Gx) (x : Str) (st : Stmt) (k : Nat) (ps : List Str) (ks : List AK) (Mf : List D → M (List D)) : Prop where
  ex : ∃ (f : Addr) (fd : FuncData) (nm qual : Str), mg x = some (.ref f) ∧ Fun K nm qual st f fd ∧ FnG P w K mg base k f fd ps (spN g K ks Mf) ∧ Binds K fd ps []
/-- its meaning: the block, then the list -/
def newM {S : Type} (m : M (Out S)) (me : S → M (List D)) : M (List D) := M.bind m fun r => match r with
  | .nx s => me s
  | .rt _ => M.fail
section
variable {P : Program} {w : World} {K : PySem.W.Frag} {mg : Str → Option Value} {base : Heap} {g : Gx}
theorem knN_of {x : Str} {st : Stmt} {N ps : List Str} {ks : List AK} {k : Nat} {Mf : List D → M (List D)} {cc : Value → Prop} {pre : List Stmt} {e : Expr} {pos : Pos} (d : Df K mg x st cc) (S : FnScope N ps (defScope st)) (hl : ks.length = ps.length)
    (hb : ∀ (kV doc pm : Value) (an : Option Addr) (cdv ct : Value) (us : List Value), us.length = ps.length → bindArgs (PySem.W.fnOf x x (defArgs st) (defBody st) (defScope st) .none kV doc pm an cdv ct) ⟨us, []⟩ = pure (ps.zip us)) (hbd : defBody st = pre ++ [.Return (some e) pos])
    (hbody : ∀ (β : Addr) (f : Addr) (cdv : Value) (A : Around) (outer : List Env) (s : Shared) (H : Hp) (E : XK) (ds : List D), Cg (g.at β) (CxD P w K mg base N x (defScope st) f cdv A outer s H E) (WK E) k → ds.length = nD ks →
      ∃ (S : Type) (sh : S → List Sl) (m : M (Out S)) (me : S → M (List D)), Mf ds = newM m me ∧ Bj (g.at β) (CxD P w K mg base N x (defScope st) f cdv A outer s H E) E (slots ks ds ++ List.replicate (N.length - ks.length) .un) pre sh m ∧
        ∀ s', EvN (g.at β) (CxD P w K mg base N x (defScope st) f cdv A outer s H E) (WK E) (sh s') e (me s')) :
    KnN P w K mg base g x st (k + 1) ps ks Mf := by
  obtain ⟨f, fd, h1, h2, h3⟩ := d
  refine ⟨f, fd, x, x, h1, h2, ?_, h2.binds hb⟩
  obtain ⟨oc, od, kV, doc, pm, an, cdv, ct, osl, rfl, lk, hcd⟩ := h2.ex
  refine ⟨fun A outer s H args us vs Q E hr hgu e0 hb r hlv ⟨β, F0, ds, b, o, b', ha, hS, hm, xo, q⟩ => ?_⟩
  have hN : ps.length ≤ N.length := by
    have q := congrArg List.length S.pre
    rw [List.length_take] at q
    omega
  refine run_ofS lk hcd S hr e0 hb r hlv fun hr' => ?_
  have C : Cg (g.at β) (cxOf (L2.CX P w) P w K mg base N x (defScope st) f cdv A outer s H E) (WK E) k := ⟨rfl, S.nd, hr', passes_of rfl, takes_of rfl rfl rfl rfl, hgu⟩
  obtain ⟨T, sh, m, me, e1, hB, hE⟩ := hbody β f cdv A outer s H E ds C ha.nD.1
  obtain ⟨S1, ow⟩ := srel_start (N := N) hS ha (by rw [hlv]; exact hN)
  rw [hbd]
  refine ⟨_, pss_app hB (pss_ex fun s' => pss_one (ps_ret (hE s'))), ?_⟩
  rw [e1] at hm
  unfold newM at hm
  rcases bind_cases hm with ⟨c, y, h4, rfl⟩ | ⟨r1, b1, h4, h5⟩
  · exact ⟨F0, H, F0, F0, b, _, _, ⟨hS.refl, fun a o h => h⟩, S1, ow H, h4, xo, fun r z => by cases z⟩
  · refine ⟨F0, H, F0, F0, b, _, _, ⟨hS.refl, fun a o h => h⟩, S1, ow H, h4, trivial, fun r z => ?_⟩
    cases z
    cases r1 with
    | rt d => cases h5
    | nx s' =>
      refine fun σ' F' H' G R _ => ⟨s', F', b1, o, b', R, h5, ?_, fun xs ex p ws H2 F2 G2 B2 hp hF hn hβ hd => q xs ex p ws H2 F2 (G.gr.trans G2) B2 hp hF (G.gr.low p hn) hβ hd⟩
      cases o with
      | ok a => trivial
      | exc c y => exact (show XOk (g.at β) K (WK E) [] F0 H (Res.exc c y : Res (List D)) b' from xo).grow G.gr
theorem KnN.at {x : Str} {st : Stmt} {k : Nat} {ps : List Str} {ks : List AK} {Mf : List D → M (List D)} (kn : KnN P w K mg base g x st k ps ks Mf) (β : Addr) : KnN P w K mg base (g.at β) x st k ps ks Mf := by
  obtain ⟨f, fd, nm, qual, h1, h2, h3, h4⟩ := kn
  exact ⟨f, fd, nm, qual, h1, h2, h3, h4⟩
end
section
variable {g : Gx} {X : Cx} {W : WX} {Γ : List Sl} {n k : Nat} {pos p : Pos} {x : Str} {e : Expr} {es : List Expr} {st : Stmt} {ps : List Str} {ks : List AK} {Mf : List D → M (List D)}
/-- arguments, for any answer -/
def tAsA (α : Type) (g : Gx) (K : PySem.W.Frag) (W : WX) (Γ : List Sl) (ks : List AK) (mk : (List D → M α) → M α) : TA := fun σ H Q =>
  ∃ (k : List D → M α) (F : Hp) (b : Bag) (o : Res α) (b' : Bag), SRel g K Γ F H σ b ∧ mk k b = some (o, b') ∧ XOk g K W σ F H o b' ∧
    ∀ ds b1 vs H1 F1, k ds b1 = some (o, b') → SRel g K Γ F1 H1 σ b1 → Grow g F H F1 H1 → XOk g K W σ F1 H1 o b' → ArgsRel g.β K F1 ks vs ds → Q vs H1
theorem asA_nil {α : Type} : PA X [] (tAsA α g X.K W Γ [] (fun k => k [])) := pa_imp pa_nil fun σ H Q ⟨k, F, b, o, b', S, hm, x, q⟩ => q [] b [] H F hm S S.refl x .nil
theorem asA_d {α : Type} {mk : (List D → M α) → M α} {ma : M D} (ha : Ev g X W Γ e ma) (hr : PA X es (tAsA α g X.K W Γ ks mk)) (hs : starEach (e :: es) X.env = (false, eval e X.env) :: starEach es X.env := by rfl) :
    PA X (e :: es) (tAsA α g X.K W Γ (.d :: ks) (fun k => M.bind ma fun d => mk fun ds => k (d :: ds))) :=
  pa_imp (pa_cons ha hr hs) fun σ H Q ⟨k, F, b, o, b', S, hm, x, q⟩ => by
    refine tEv_bind S hm x fun d b1 v H1 F1 _ h1 S1 G1 x1 r1 => ?_
    refine ⟨fun ds => k (d :: ds), F1, b1, o, b', S1, h1, x1, fun ds b2 vs H2 F2 h2 S2 G2 x2 r2 => ?_⟩
    exact q (d :: ds) b2 (v :: vs) H2 F2 h2 S2 (G1.trans G2) x2 (.d (G2.dp r1) r2)
/-- such a def, called -/
theorem evN_call {mk : (List D → M (List D)) → M (List D)} (C : Cg g X W n) (kn : KnN X.prog X.w X.K X.mg X.base g x st k ps ks Mf) (hk : k ≤ n) (hl : ks.length = ps.length) (hg : Gl X x) (ha : PA X (e :: es) (tAsA (List D) g X.K W Γ ks mk))
    (hdb : (x == ("__debug__" : Str)) = false := by decide) (he : starEach (e :: es) X.env = (false, eval e X.env) :: starEach es X.env := by rfl) (hpl : (backTo pos (starEach es X.env)).any (·.1) = false := by rfl) :
    EvN g X W Γ (.Call (.Name x p) (e :: es) [] pos) (mk Mf) := by
  obtain ⟨f, fd, nm, qual, hm, F, G, hb⟩ := kn
  refine ⟨fun pins s σ H Q I ⟨F0, b, o, b', S, hm0, xo, q⟩ => ?_⟩
  refine wpAny_Call_Name_kw (ld_glob I hg hm ?_ hdb)
  refine PySem.W.callWith_K (h₀ := X.base) I.ok.mod.kin F.kp (thn (ha.run pos pins s σ H (fun vs H1 => vs.length = ps.length ∧ spN g X.K ks Mf vs H1 Q (WE W σ)) I ?_) fun us s1 ⟨vs, H1, I1, r, hlv, hsp⟩ => ⟨I1.kIn, ?_⟩) he hpl
  · refine ⟨Mf, F0, b, o, b', S, hm0, xo, fun ds b1 vs H1 F1 h1 S1 G1 x1 r1 => ⟨r1.len.trans hl, ?_⟩⟩
    refine ⟨g.β, F1, ds, b1, o, b', r1, S1.nil, h1, ?_, fun xs e p ws H' F' G B h1 h2 h3 h4 hd => q xs e p ws H' F' (G1.trans G) B h1 h2 (G1.low p h3) h4 hd⟩
    cases o with
    | ok a => trivial
    | exc c y => exact x1
  · have hbb := hb s1 us I1.kIn (by rw [List.append_nil, ← r.length]; exact hlv)
    rw [List.append_nil] at hbb
    exact run_fnG G (C.room.mono hk) C.gd hbb (passAt C.tk σ) I1 r hlv hsp
end
end GL
namespace GL
open PySem PySem.Spec PyProof.Rows L2 LamX
/-- no own list, no bag among the slots -/
def plainSl : Sl → Bool
  | .un => true
  | .d _ => true
  | _ => false
theorem srel_other {g : Gx} {K : PySem.W.Frag} {Γ Γ' : List Sl} {F H : Hp} {σ : L2.St} {b b' : Bag} {β : Addr} (S : SRel g K Γ F H σ b) (hw : Wk Γ' Γ) (hp : Γ'.all plainSl = true) (B : BagAt β b' F H) : SRel (g.at β) K Γ' F H σ b' := by
  have key : ∀ (i : Nat) (s : Sl), Γ'[i]? = some s → plainSl s = true := fun i s e => List.all_eq_true.mp hp s (List.mem_of_getElem? e)
  refine ⟨S.inn, S.sor, fun i s e => ?_, fun i j xs ys v e => ?_, B, S.tab⟩
  · have hs := key i s e
    rcases hw.at i s e with z | z
    · subst z
      have hl : i < Γ.length := by rw [← hw.len]; exact (List.getElem?_eq_some_iff.mp e).1
      obtain ⟨o, h1, _⟩ := S.slot i _ (List.getElem?_eq_getElem hl)
      exact ⟨o, h1, trivial⟩
    · obtain ⟨o, h1, h2⟩ := S.slot i s z
      refine ⟨o, h1, ?_⟩
      cases s with
      | un => trivial
      | d x => exact h2
      | own xs => cases hs
      | v x Fc => cases hs
      | bag => cases hs
  · have := key i _ e
    cases this
theorem bagAt_tab {g : Gx} {K : PySem.W.Frag} {Γ : List Sl} {F H : Hp} {σ : L2.St} {b : Bag} {β : Addr} {q : Str} (S : SRel g K Γ F H σ b) (hq : (β, q) ∈ g.T) : BagAt β none F H := by
  obtain ⟨ps, h1, _, _⟩ := S.tab _ hq
  have h1 : H β = some (.tbl ps) := h1
  refine ⟨fun z => (by rw [h1] at z; cases z), ?_, fun c z => (by rw [h1] at z; exact codeO_ne ps (Option.some.inj z).symm)⟩
  cases e : F β with
  | none => rfl
  | some o =>
    have := S.inn β o e
    rw [h1] at this
    exact absurd (Option.some.inj this).symm (S.sor β o ps e)
theorem ownF_plain {Γ : List Sl} {σ : L2.St} {H0 : Hp} (hp : ∀ (i : Nat) (xs : List D), Γ[i]? ≠ some (Sl.own xs)) : OwnF Γ σ H0 := fun i xs p e => absurd e (hp i xs)
section
variable {g : Gx} {X : Cx} {E : XK} {n : Nat} {pos pos1 py : Pos} {tg e ec : Expr} {y : Str} {rest : List Stmt} {Γ0 : List Sl} {l i : Nat} {mi : M (List D)} {mN : D → M (List D)} {mb : D → M (Out Unit)} {β0 : Addr} {q0 : Str} {laps : List D}
/-- for lap in ..: bag = f(script, lap); .. -/
theorem ps_law (C : ∀ β, Cg (g.at β) X (WK E) n) (hq : (β0, q0) ∈ g.T) (hi : Itj (g.at β0) X (WK E) Γ0 tg e mi) (ht : Tg (g.at β0) X tg [l] un1) (hl : l < Γ0.length) (hil : i < Γ0.length) (hne : l ≠ i) (hpl : Γ0.all plainSl = true) (hun : Γ0[l]? = some .un) (hui : Γ0[i]? = some .un)
    (hiy : X.N[i]? = some y) (hx : Loc X.env.scope y) (hN : ∀ d, EvN (g.at β0) X (WK E) (Γ0.set l (.d d)) ec (mN d)) (hb : ∀ β d, Bj (g.at β) X E ((Γ0.set l (.d d)).set i .bag) rest (fun _ : Unit => Γ0) (mb d))
    (hs : swapsWith ec (some (.Name y py)) pos1.line X.env = pure false) (hf : X.fn y = true ∨ X.env.scope.names.lookup y = some .local) (hs2 : ∀ x, foldedSetIterable e X.env x = pure x)
    (hm : mi none = some (.ok laps, none)) (hall : ∀ d ∈ laps, ∃ x y z b', mN d none = some (.ok [.int x, .int y, .int z], none) ∧ mb d (some (x, y, z)) = some (.ok (.nx ()), b')) :
    PS X (.For tg e (.Assign [.Name y py] ec pos1 :: rest) [] pos) (fun En σ H => ∃ F, SRel (g.at β0) X.K Γ0 F H σ none ∧ ∀ σ' F' H', SRel (g.at β0) X.K Γ0 F' H' σ' none → En.nx σ' H') := by
  refine ps_imp (ps_for (C β0).pas (C β0).calm hi ht (pss_ex fun d => pss_cons (ps_set (C β0).nd hiy hx (hN d) hs hf) (pss_ex fun β => hb β d)) hs2) fun En σ H ⟨F, R, q⟩ => ?_
  refine ⟨F, none, _, _, R, hm, trivial, fun ds z J H1 F1 G1 B1 WD => ?_⟩
  cases z
  have R1 := R.grow G1 B1
  refine ⟨fun j m σ H => m = laps.length - j ∧ j ≤ laps.length ∧ ∃ F2, (∀ a u, F1 a = some u → F2 a = some u) ∧ SRel (g.at β0) X.K Γ0 F2 H σ none, ⟨_, rfl, Nat.zero_le _, F1, fun _ _ h => h, R1⟩, ?_⟩
  rintro j m σ2 H2 ⟨rfl, hj, F2, s2, R2⟩
  by_cases hlt : j < laps.length
  · refine .inr ⟨WD.go j F2 H2 none s2 R2.nil hlt, _, fun σ' H' h => h, fun v H3 hy => ?_⟩
    obtain ⟨F3, d, hd1, G3, B3, rd⟩ := WD.yld j F2 H2 none v H3 s2 R2.nil hlt hy
    refine ⟨F3, d, [d], G3.inn, rd, rfl, fun ws hws => ?_⟩
    have R3 := (R2.grow G3 B3).setG (is := [l]) hws (fun k hk => by rw [List.mem_singleton.mp hk]; exact hl)
    obtain ⟨x, y', z, b', e1, e2⟩ := hall d (List.mem_of_getElem? hd1)
    refine ⟨d, F3, none, _, _, R3, e1, trivial, fun ds ez p vs H4 F4 G4 B4 h1 h2 h3 h4 hda => ?_⟩
    cases ez
    have hvs : vs = bagL (x, y', z) := by
      cases hda with | cons a1 r1 =>
      cases r1 with | cons a2 r2 =>
      cases r2 with | cons a3 r3 =>
      cases r3
      cases a1; cases a2; cases a3
      rfl
    subst hvs
    have R4 := R3.grow G4 B4
    have eΓ : setG Γ0 [l] [d] = Γ0.set l (.d d) := rfl
    rw [eΓ] at R4
    have hset : ∀ (k : Nat) (s : Sl), ((Γ0.set l (.d d)).set i .bag)[k]? = some s → (k = i ∧ s = .bag) ∨ (k ≠ i ∧ (Γ0.set l (.d d))[k]? = some s) := fun k s e => by
      by_cases hk : i = k
      · subst hk
        rw [List.getElem?_set_self (by rw [List.length_set]; exact hil)] at e
        exact .inl ⟨rfl, (Option.some.inj e).symm⟩
      · rw [List.getElem?_set_ne hk] at e
        exact .inr ⟨Ne.symm hk, e⟩
    have hset0 : ∀ (k : Nat) (s : Sl), (Γ0.set l (.d d))[k]? = some s → s = .d d ∨ plainSl s = true := fun k s e => by
      by_cases hk : l = k
      · subst hk
        rw [List.getElem?_set_self hl] at e
        exact .inl (Option.some.inj e).symm
      · rw [List.getElem?_set_ne hk] at e
        exact .inr (List.all_eq_true.mp hpl s (List.mem_of_getElem? e))
    have nown : ∀ (k : Nat) (xs : List D), ((Γ0.set l (.d d)).set i .bag)[k]? ≠ some (.own xs) := fun k xs e => by
      rcases hset k _ e with ⟨_, z⟩ | ⟨_, z⟩
      · cases z
      · rcases hset0 k _ z with z | z <;> cases z
    have hiσ : i < (setV σ2 [l] ws).length := by
      have hl2 : i < (Γ0.set l (.d d)).length := by rw [List.length_set]; exact hil
      obtain ⟨o, h5, _⟩ := R4.slot i _ (List.getElem?_eq_getElem hl2)
      exact (List.getElem?_eq_some_iff.mp h5).1
    have R5 : SRel (g.at p) X.K ((Γ0.set l (.d d)).set i .bag) F4 H4 ((setV σ2 [l] ws).set i (some (.ref p))) (some (x, y', z)) := by
      refine ⟨R4.inn, R4.sor, fun k s e => ?_, fun k k' xs ys v e => absurd e (nown k xs), ⟨h1, h2⟩, R4.tab⟩
      rcases hset k s e with ⟨rfl, rfl⟩ | ⟨hk, e'⟩
      · exact ⟨_, List.getElem?_set_self hiσ, rfl⟩
      · obtain ⟨o, h5, h6⟩ := R4.slot k s e'
        refine ⟨o, by rw [List.getElem?_set_ne (Ne.symm hk)]; exact h5, ?_⟩
        rcases hset0 k s e' with z | z
        · subst z; exact h6
        · cases s with
          | un => trivial
          | d x => exact h6
          | own xs => cases z
          | v x Fc => cases z
          | bag => cases z
    refine ⟨p, F4, H4, F4, F4, some (x, y', z), _, b', ⟨R5.refl, fun _ _ h => h⟩, R5, ownF_plain nown, e2, trivial, fun r ez => ?_⟩
    cases ez
    intro σ' F' H' G' R' _
    refine ⟨laps.length - (j + 1), by omega, rfl, hlt, F', fun a u h => G'.gr.sub a u (G4.sub a u (G3.sub a u (s2 a u h))), ?_⟩
    exact srel_other (g := g.at p) (β := β0) R' (Wk.refl _) hpl (bagAt_tab (g := g.at p) R' hq)
  · have ej : j = laps.length := by omega
    exact .inl ⟨by rw [ej]; exact WD.stop F2 H2 none s2 R2.nil, q σ2 F2 H2 R2⟩
end
end GL
namespace GL
open PySem PySem.Spec PyProof.Rows L2 LamX
theorem caller_guards : callerA.guards = some [] := by first | rfl | decide
/-- what the law's def is asked -/
def AbsAt (P : Program) (w : World) (K : PySem.W.Frag) (cs : List (Addr × Addr)) (a : Addr) (h : Heap) (xs : List V) (H : Hp) : Prop :=
  (∀ p ∈ cs, H p.2 = some (.tbl #[])) ∧ SqL K H a xs ∧ HOk P w H h ∧ (∀ b, H b ≠ none → b = a ∨ b ∈ cs.map (·.2)) ∧ (H a = none ∨ ∃ o, H a = some (.frz o (.lst xs))) ∧ (H a ≠ none → K.lookup a = none)
section
variable {P : Program} {w : World} {K : PySem.W.Frag} {cs : List (Addr × Addr)} {a : Addr} {h : Heap} {ns : List Int} {vs : List Value}
/-- the abstract heap at the start: the tables, the script where the text does not hold it -/
def startH (K : PySem.W.Frag) (cs : List (Addr × Addr)) (a : Addr) (o : Obj) (xs : List V) : Hp := fun b =>
  if b = a ∧ K.lookup a = none then some (.frz o (.lst xs)) else if b ∈ cs.map (·.2) then some (.tbl #[]) else none
theorem absAt {o : Obj} (hT : ∀ p ∈ cs, h.get? p.2 = some { cls := .none, data := .fields #[] }) (ho : o = { cls := .type "list", data := .seq vs.toArray }) (ha : h.get? a = some o) (hi : IntsAre vs ns) (hl : ns.length ≤ sizeLine) (KX : K.In h) :
    AbsAt P w K cs a h (ns.map V.int) (startH K cs a o (ns.map V.int)) := by
  have isT : ∀ b ∈ cs.map (·.2), h.get? b = some { cls := .none, data := .fields #[] } := fun b hb => by
    obtain ⟨p, hp, e⟩ := List.mem_map.mp hb; rw [← e]; exact hT p hp
  have aT : a ∉ cs.map (·.2) := fun z => by
    have q := isT a z; rw [ha, ho] at q
    have z' : Data.seq vs.toArray _ = Data.fields #[] := congrArg Obj.data (Option.some.inj q); cases z'
  have vv := vals_ints hi
  have lv := hi.length
  refine ⟨fun p hp => ?_, ?_, fun b u z => ?_, fun b z => ?_, ?_, fun z => ?_⟩
  · unfold startH
    rw [if_neg (fun z => aT (by rw [← z.1]; exact List.mem_map.mpr ⟨p, hp, rfl⟩)), if_pos (List.mem_map.mpr ⟨p, hp, rfl⟩)]
  · cases hk : K.lookup a with
    | none => exact .inl (.inr ⟨o, by unfold startH; rw [if_pos ⟨rfl, hk⟩]⟩)
    | some o' =>
      have e := KX a o' hk
      rw [ha] at e
      cases e
      subst ho
      exact .inr ⟨_, vs.toArray, _, hk, rfl, rfl, rfl, by rw [List.size_toArray, lv]; exact hl, by simpa using vv⟩
  · unfold startH at z
    by_cases hb : b = a ∧ K.lookup a = none
    · rw [if_pos hb] at z
      cases z
      obtain ⟨rfl, _⟩ := hb
      exact ⟨ha, by rw [List.length_map]; exact hl, vs, 0, vv, by rw [ha, ho]⟩
    · rw [if_neg hb] at z
      by_cases hb2 : b ∈ cs.map (·.2)
      · rw [if_pos hb2] at z
        cases z
        exact isT b hb2
      · rw [if_neg hb2] at z; cases z
  · unfold startH at z
    by_cases hb : b = a ∧ K.lookup a = none
    · exact .inl hb.1
    · rw [if_neg hb] at z
      by_cases hb2 : b ∈ cs.map (·.2)
      · exact .inr hb2
      · rw [if_neg hb2] at z; exact absurd rfl z
  · unfold startH
    by_cases hk : K.lookup a = none
    · exact .inr ⟨o, by rw [if_pos ⟨rfl, hk⟩]⟩
    · exact .inl (by rw [if_neg (fun z => hk z.2), if_neg aT])
  · by_cases hk : K.lookup a = none
    · exact hk
    · exact absurd (show startH K cs a o (ns.map V.int) a = none by unfold startH; rw [if_neg (fun z => hk z.2), if_neg aT]) z
end
/-- the law's def is called by the claim -/
theorem law_callG {P : Program} {w : World} {K : PySem.W.Frag} {mg mb : Str → Option Value} {k : Nat} {fa a : Addr} {cs : List (Addr × Addr)} {fd : FuncData} {x : Str} {sp : Sp} {t : Shared} {vs : List Value} {ns : List Int} (KX : K.In t.heap) (hns : t.heap.Ns mainGlobals mg) (hb : t.heap.Ns builtinsNs mb) (hbb : ∀ x : Str, x ≠ "__name__" → mb x = bootBuiltins x)
    (hlim : t.heap.NoLimit) (hg : t.gens = #[]) (hT : ∀ p ∈ cs, t.heap.get? p.2 = some { cls := .none, data := .fields #[] }) (nT : ∀ p ∈ cs, K.lookup p.2 = none) (C : ∀ p ∈ cs, PySem.W.CodeHd t.heap p.1 p.2)
    (hbm : ∃ (bm : Addr) (ob : Obj), mg "__builtins__" = some (.ref bm) ∧ bm ≠ builtinsNs ∧ t.heap.get? bm = some ob ∧ ob.cls = .type "module" ∧ ob.dict = some builtinsNs ∧ ob.data = .plain) (ha : t.heap.get? a = some { cls := .type "list", data := .seq vs.toArray }) (hi : IntsAre vs ns) (hl : ns.length ≤ sizeLine) (hr : Room k callerA)
    (Fn : ∀ base : Heap, K.In base → base.Ns mainGlobals mg → (∀ p ∈ cs, TabB base mg p.1 p.2) → FnG P w K mg base k fa fd [x] sp) (hbind : ∀ (s : Shared) (u : Value), BindsTo s fd ⟨[u], []⟩ [(x, u)]) (hsp : ∀ H : Hp, AbsAt P w K cs a t.heap (ns.map V.int) H → sp [.ref a] H (fun v _ => v = .bl true) fun _ _ _ => False) :
    codeAny (model P w) callerA (.call (.ref fa) ⟨[.ref a], []⟩) (fun r s' => r = .ok (.ret (.bool true)) ∧ OldK t.heap s'.heap ∧ s'.os = t.os ∧ AllBare s'.gens) t := by
  obtain ⟨H, AA⟩ : ∃ H, AbsAt P w K cs a t.heap (ns.map V.int) H := ⟨_, absAt hT rfl ha hi hl KX⟩
  have AA0 := AA
  obtain ⟨hH, hS, hok, hA, hO, hK⟩ := AA0
  have isT : ∀ b ∈ cs.map (·.2), t.heap.get? b = some { cls := .none, data := .fields #[] } := fun b hb => by
    obtain ⟨p, hp, e⟩ := List.mem_map.mp hb; rw [← e]; exact hT p hp
  -- what is neither the script nor a table is not tracked
  have noD : ∀ {b : Addr} {o : Obj}, t.heap.get? b = some o → (∀ xs n, o.data ≠ .seq xs n) → o.data ≠ .fields #[] → H b = none := fun {b o} e h1 h2 => by
    cases q : H b with
    | none => rfl
    | some u =>
      rcases hA b (by rw [q]; simp) with rfl | z
      · rw [ha] at e; cases e; exact absurd rfl (h1 _ _)
      · rw [isT b z] at e; cases e; exact absurd rfl h2
  have toB : ∀ {b : Addr} {o : Obj}, t.heap.get? b = some o → H b = none → (hidT t.heap H).get? b = some o := fun e n => hidT_get e n
  have dictN : ∀ {b : Addr} {o : Obj} {es : Array DictEntry} {ep : Nat}, t.heap.get? b = some o → o.data = .dict es ep → H b = none := fun {b o es ep} e d => noD e (fun xs n z => by rw [d] at z; cases z) fun z => by rw [d] at z; cases z
  have nsB : ∀ {b : Addr} {m : Str → Option Value}, t.heap.Ns b m → (hidT t.heap H).Ns b m := fun {b m} ⟨o, es, ep, e, d, r⟩ => ⟨o, es, ep, toB e (dictN e d), d, r⟩
  have inB : K.In (hidT t.heap H) := fun b o e => toB (KX b o e) (by
    cases q : H b with
    | none => rfl
    | some u =>
      rcases hA b (by rw [q]; simp) with rfl | z
      · rw [hK (by rw [q]; simp)] at e; cases e
      · obtain ⟨p, hp, ep⟩ := List.mem_map.mp z; rw [← ep, nT p hp] at e; cases e)
  have md : L2.Mod K mg (hidT t.heap H) := ⟨inB, nsB hns, ⟨mb, nsB hb, hbb⟩, let ⟨mc, h1, h2⟩ := hlim; ⟨mc, nsB h1, h2⟩⟩
  have tb : ∀ p ∈ cs, TabB (hidT t.heap H) mg p.1 p.2 := fun p hp => by
    have tp := hT p hp
    refine ⟨?_, ?_, fun z => ?_⟩
    · obtain ⟨o, us, file, tf, flags, tg, inF, text, tt, e1, r1, r2, r3, r4, r5, r6, r7, r8, hne⟩ := C p hp
      refine ⟨o, us, file, tf, flags, tg, inF, text, tt, toB e1 (noD e1 (fun xs n z => ?_) fun z => ?_), r1, r2, r3, r4, r5, r6, r7, r8, hne⟩
      · rw [r2] at z; cases z
      · rw [r2] at z; cases z; simp at r3
    · obtain ⟨bm, ob, b1, b2, b3, b4, b5, b6⟩ := hbm
      have g1 : bm ≠ mainGlobals := fun q => by
        obtain ⟨o, es, ep, e, hd, _⟩ := hns; rw [q, e] at b3; cases b3; rw [hd] at b6; cases b6
      have g2 : bm ≠ p.2 := fun q => by
        rw [q, tp] at b3; cases b3; cases b6
      refine ⟨bm, ob, b1, b2, g1, g2, toB b3 (noD b3 (fun xs n z => ?_) fun z => ?_), b4, b5, b6⟩
      · rw [b6] at z; cases z
      · rw [b6] at z; cases z
    · obtain ⟨o, es, ep, e, hd, _⟩ := hns; rw [z, tp] at e; cases e; cases hd
  have e0 : Env0 P w K mg (hidT t.heap H) callerA [] t H := ⟨rfl, md, fun b o e => of_hidT e, Nat.le_of_eq (hidT_size _ _), trivial, fun b hb => absurd (show b ∈ ([] : List Addr) from hb) (by simp), hok, .of_eq hg⟩
  refine codeAny_mono ((Fn _ inB (nsB hns) tb).run callerA [] t H ⟨[.ref a], []⟩ [.ref a] [.ref a] _ _ hr caller_guards e0 (hbind t (.ref a)) (.cons rfl .nil) rfl (hsp H AA)) fun r s' h => ?_
  match r, h with
  | .error e, h => exact (cx_no h).elim
  | .ok .next, h => exact False.elim h
  | .ok .brk, h => exact False.elim h
  | .ok .cont, h => exact False.elim h
  | .ok (.ret u), h =>
    obtain ⟨v, H', os, bare, un, hok', r', q⟩ := h
    have q' : v = .bl true := q
    subst q'
    obtain rfl : u = Value.bool true := r'
    have nf : ∀ b : Addr, b ∉ frs ([] : List Env) := fun b z => absurd (show b ∈ ([] : List Addr) from z) (by simp)
    have key : ∀ b o, b ∉ cs.map (·.2) → t.heap.get? b = some o → s'.heap.get? b = some o := fun b o nb e => by
      cases q : H b with
      | none => exact un.keep b o e q (nf b) (by simp)
      | some u =>
        rcases hA b (by rw [q]; simp) with rfl | z
        · rcases hO with z | ⟨ob, z⟩
          · rw [q] at z; cases z
          · obtain ⟨e1, _⟩ := hok _ _ z
            obtain ⟨e2, _⟩ := hok' _ _ (un.frzs _ _ _ z)
            rw [e] at e1; cases e1; exact e2
        · exact absurd z nb
    have grown : ∀ p ∈ cs, ∃ more : Array Value, s'.heap.get? p.2 = some { cls := .none, data := .fields more } := fun p hp => by
      obtain ⟨more, z⟩ := un.tbls p.2 #[] (hH p hp); exact ⟨_, hok' p.2 _ z⟩
    refine ⟨rfl, ⟨fun b o e => ?_, fun b o e => ?_⟩, os, bare⟩
    · by_cases hb : b ∈ cs.map (·.2)
      · obtain ⟨p, hp, ep⟩ := List.mem_map.mp hb
        obtain ⟨more, hm⟩ := grown p hp
        rw [← ep] at e ⊢
        rw [hT p hp] at e
        cases e
        exact .inr (.inl ⟨((C p hp).tab (hT p hp)).isCodeTable, rfl, #[], more, rfl, by rw [Array.empty_append]; exact hm⟩)
      · exact .inl (key b o hb e)
    · by_cases hb : b ∈ cs.map (·.2)
      · obtain ⟨p, hp, ep⟩ := List.mem_map.mp hb
        obtain ⟨more, hm⟩ := grown p hp; rw [← ep]; exact ⟨_, hm⟩
      · exact ⟨o, key b o hb e⟩
/-- what is known of the law's def at the head's heap h -/
def LawG (l : PySem.W.OpenLaw) (w : World) (K : PySem.W.Frag) (k n : Nat) (x : Str) (mg : Str → Option Value) (fa : Addr) (h : Heap) : Prop :=
  ∃ (fd : FuncData) (cs : List (Addr × Addr)) (sp : Sp), (∀ p ∈ cs, h.get? p.2 = some { cls := .none, data := .fields #[] }) ∧ (∀ p ∈ cs, K.lookup p.2 = none) ∧ (∀ p ∈ cs, PySem.W.CodeHd h p.1 p.2) ∧ (∀ (s : Shared) (u : Value), BindsTo s fd ⟨[u], []⟩ [(x, u)]) ∧
    (∀ (H : Hp) (a : Addr) (t : Heap) (ns : List Int), ns.length ≤ n → (∀ z ∈ ns, Builtin.Int.intBits z ≤ 1048576) → AbsAt l.prog w K cs a t (ns.map V.int) H → sp [.ref a] H (fun v _ => v = .bl true) fun _ _ _ => False) ∧
    ∀ base : Heap, K.In base → base.Ns mainGlobals mg → (∀ p ∈ cs, TabB base mg p.1 p.2) → FnG l.prog w K mg base k fa fd [x] sp
theorem walk_ofG {l : PySem.W.OpenLaw} {n k : Nat} {q : Program} {loose : List Str} {XP : (Str → Option Value) → Heap → Prop} {YP : World → Heap → Prop} {d : DefRec} {K : Params → PySem.W.Frag} {x : Str} (hn : l.most = some n) (hn2 : n ≤ sizeLine) (hdf : d.params.defaults = []) (hr : Room k callerA)
    (hY : ∀ (w : World) (h : Heap), YP w h → (K w.params).In h) (Fn : ∀ (w : World) (mg : Str → Option Value) (fa : Addr) (h : Heap), YP w h → (K w.params).In h → h.Ns mainGlobals mg → mg d.name = some (.ref fa) → LawG l w (K w.params) k n x mg fa h) :
    PySem.W.WalkO q loose XP YP l.row.toRowW d [] (fun f vs => PySem.call f vs) := by
  refine Att.attach_callB hn hdf fun w s₀ s₁ mg mb fa o pm cd doc a vs ns G Y ho hd hcd hmg hobj hints hlen hbits hg => ?_
  have KX := hY w _ Y
  obtain ⟨fd, cs, sp, hT, nT, C, hb, hsp, hF⟩ := Fn w mg fa _ Y KX G.T.g hmg
  exact law_callG KX G.T.g G.T.b G.T.builtins G.T.nolimit hg hT nT C G.T.bmain hobj hints (Nat.le_trans hlen hn2) hr hF hb fun H hA => hsp H a _ ns hlen hbits hA
end GL
namespace GL
open PySem PySem.Spec PyProof.Rows L2 LamX
theorem EvN.cast {g : Gx} {X : Cx} {W : WX} {Γ : List Sl} {e : Expr} {m m' : M (List D)} (h : EvN g X W Γ e m) (e' : m = m') : EvN g X W Γ e m' := e' ▸ h
theorem Itj.cast {g : Gx} {X : Cx} {W : WX} {Γ : List Sl} {tg e : Expr} {m m' : M (List D)} (h : Itj g X W Γ tg e m) (e' : m = m') : Itj g X W Γ tg e m' := e' ▸ h
def scriptD (ns : List Int) : D := .list (ns.map .int)
def spL (P : Program) (w : World) (K : PySem.W.Frag) (cs : List (Addr × Addr)) (ok : List Int → Prop) : Sp := fun vs H Q _ =>
  ∃ (a : Addr) (ns : List Int) (t : Heap), vs = [.ref a] ∧ AbsAt P w K cs a t (ns.map V.int) H ∧ ok ns ∧ ∀ H', Q (.bl true) H'
section
variable {P : Program} {w : World} {K : PySem.W.Frag} {mg : Str → Option Value} {base : Heap} {g : Gx}
theorem dpInts {F : Hp} : ∀ ns : List Int, DpAll K F (ns.map V.int) (ns.map PyData.int)
  | [] => .nil
  | n :: ns => .cons (.int n) (dpInts ns)
theorem fnG_law {f : Addr} {fd : FuncData} {st st1 : Stmt} {N : List Str} {k j : Nat} {β0 : Addr} {q0 : Str} {cs : List (Addr × Addr)} {ok : List Int → Prop} {p2 p3 : Pos} (F : Fun K "law" "law" st f fd) (S : FnScope N ["script"] (defScope st)) (hq : (β0, q0) ∈ g.T) (hgT : ∀ p ∈ g.T, p.1 ∈ cs.map (·.2))
    (hbd : defBody st = [st1, .Return (some (.Constant (.bool true) j p2)) p3])
    (hbody : ∀ (cdv : Value) (A : Around) (outer : List Env) (s : Shared) (H : Hp) (E : XK) (ns : List Int), ok ns → (∀ β, Cg (g.at β) (CxD P w K mg base N "law" (defScope st) f cdv A outer s H E) (WK E) k) →
      PS (CxD P w K mg base N "law" (defScope st) f cdv A outer s H E) st1 (fun En σ H => ∃ F, SRel (g.at β0) K (.d (scriptD ns) :: List.replicate (N.length - 1) .un) F H σ none ∧ ∀ σ' F' H', SRel (g.at β0) K (.d (scriptD ns) :: List.replicate (N.length - 1) .un) F' H' σ' none → En.nx σ' H')) :
    FnG P w K mg base (k + 1) f fd ["script"] (spL P w K cs ok) := by
  obtain ⟨oc, od, kV, doc, pm, an, cdv, ct, osl, rfl, lk, hcd⟩ := F.ex
  refine ⟨fun A outer s H args us vs Q E hr hgu e0 hb r hlv ⟨a, ns, t, ev, AA, hok, q⟩ => ?_⟩
  subst ev
  have hN : 1 ≤ N.length := by
    have q := congrArg List.length S.pre
    rw [List.length_take] at q
    have : (["script"] : List Str).length = 1 := rfl
    omega
  obtain ⟨hT, hS, hH, hA, hO, hK⟩ := AA
  have tbl : ∀ p ∈ g.T, H p.1 = some (.tbl #[]) := fun p hp => by
    obtain ⟨c, hc, e⟩ := List.mem_map.mp (hgT p hp)
    rw [← e]
    exact hT c hc
  have htb : Tabs g.T H := fun p hp => TabS.nil (tbl p hp)
  obtain ⟨F0, i1, i2, i3⟩ : ∃ F0 : Hp, (∀ b u, F0 b = some u → H b = some u) ∧ (∀ b u ps, F0 b = some u → u ≠ .tbl ps) ∧ SqL K F0 a (ns.map V.int) := by
    rcases hO with z | ⟨o, z⟩
    · refine ⟨fun _ => none, fun b u e => (by cases e), fun b u ps e => (by cases e), ?_⟩
      rcases hS with (h | ⟨o, h⟩) | h
      · rw [z] at h; cases h
      · rw [z] at h; cases h
      · exact .inr h
    · refine ⟨fun b => if b = a then some (.frz o (.lst (ns.map V.int))) else none, fun b u e => ?_, fun b u ps e => ?_, .inl (.inr ⟨o, if_pos rfl⟩)⟩
      · by_cases hb : b = a
        · subst hb; rw [← e]; simpa using z
        · simp [hb] at e
      · by_cases hb : b = a
        · subst hb; simp at e; subst e; intro z; cases z
        · simp [hb] at e
  have B0 : BagAt β0 none F0 H := by
    have h1 := tbl _ hq
    have h1 : H β0 = some (.tbl #[]) := h1
    refine ⟨fun z => (by rw [h1] at z; cases z), ?_, fun c z => (by rw [h1] at z; exact codeO_ne _ (Option.some.inj z).symm)⟩
    cases e : F0 β0 with
    | none => rfl
    | some u => exact absurd (Option.some.inj ((i1 _ _ e).symm.trans h1)) (i2 _ _ _ e)
  have SS : SRel (g.at β0) K [] F0 H [] none := ⟨i1, i2, fun i s e => (by simp at e), fun i j xs ys v e => (by simp at e), B0, htb⟩
  refine run_ofS lk hcd S hr e0 hb r hlv fun hr' => ?_
  have C : ∀ β, Cg (g.at β) (cxOf (L2.CX P w) P w K mg base N "law" (defScope st) f cdv A outer s H E) (WK E) k := fun β => ⟨rfl, S.nd, hr', passes_of rfl, takes_of rfl rfl rfl rfl, hgu⟩
  obtain ⟨S1, _⟩ := srel_start (N := N) (ks := [.d]) (vs := [.ref a]) (ds := [scriptD ns]) SS (.d (.lst i3 (dpInts ns)) .nil) hN
  rw [hbd]
  refine ⟨_, pss_cons (hbody cdv A outer s H E ns hok C) (pss_one (ps_ret pe_bl)), F0, S1, fun σ' F' H' _ => ?_⟩
  exact q H'
end
end GL
namespace GL
open PySem PySem.Spec PyProof.Rows L2 LamX
def retE (ss : List Stmt) : Expr := match ss.getLast? with
  | some (.Return (some e) _) => e
  | _ => .Constant .none 0 ⟨0, 0, 0, 0⟩
def retP (ss : List Stmt) : Pos := match ss.getLast? with
  | some (.Return (some _) p) => p
  | _ => ⟨0, 0, 0, 0⟩
def stAt (ss : List Stmt) (i : Nat) : Stmt := ss.getD i (.Pass ⟨0, 0, 0, 0⟩)
end GL
namespace GL
open PySem PySem.Spec PyProof.Rows L2 LamX

/-! ### reckoning with meanings -/
@[simp] theorem tru_bool (c : Bool) : tru (.bool c) = M.ret c := rfl
@[simp] theorem notB_bool (c : Bool) : notB (.bool c) = M.ret (.bool (!c)) := rfl
@[simp] theorem andB_t (k : M D) : andB (.bool true) k = k := rfl
@[simp] theorem andB_f (k : M D) : andB (.bool false) k = M.ret (.bool false) := rfl
@[simp] theorem orB_t (k : M D) : orB (.bool true) k = M.ret (.bool true) := rfl
@[simp] theorem orB_f (k : M D) : orB (.bool false) k = k := rfl
theorem andB_ret (a c : Bool) : andB (.bool a) (M.ret (.bool c)) = M.ret (.bool (a && c)) := by cases a <;> rfl
theorem orB_ret (a c : Bool) : orB (.bool a) (M.ret (.bool c)) = M.ret (.bool (a || c)) := by cases a <;> rfl
@[simp] theorem mite_t {α : Type} (a c : M α) : M.ite true a c = a := rfl
@[simp] theorem mite_f {α : Type} (a c : M α) : M.ite false a c = c := rfl
@[simp] theorem mand_ret (c : Bool) (k : M Bool) : M.and (M.ret c) k = M.ite c k (M.ret false) := by cases c <;> rfl
@[simp] theorem mor_ret (c : Bool) (k : M Bool) : M.or (M.ret c) k = M.ite c (M.ret true) k := by cases c <;> rfl
@[simp] theorem mnot_ret (c : Bool) : M.not (M.ret c) = M.ret (!c) := rfl
@[simp] theorem seqO_nx {S S' : Type} (s : S') (k : S' → M (Out S)) : seqO (M.ret (.nx s)) k = k s := rfl
@[simp] theorem seqO_rt {S S' : Type} (d : D) (k : S' → M (Out S)) : seqO (M.ret (.rt d)) k = M.ret (.rt d) := rfl
@[simp] theorem fnM_nx {S : Type} (s : S) : fnM (M.ret (.nx s)) = M.ret .none := rfl
@[simp] theorem fnM_rt {S : Type} (d : D) : fnM (M.ret (.rt d) : M (Out S)) = M.ret d := rfl
@[simp] theorem fLen_list (xs : List D) : fLen [.list xs] = M.ret (.int xs.length) := rfl
@[simp] theorem fLen_tuple (xs : List D) : fLen [.tuple xs] = M.ret (.int xs.length) := rfl
@[simp] theorem fTuple_list (xs : List D) : fTuple [.list xs] = M.ret (.tuple xs) := rfl
@[simp] theorem fInt_int (i : Int) : fInt [.int i] = M.ret (.int i) := rfl
@[simp] theorem seqOf_list (xs : List D) : seqOf (.list xs) = M.ret xs := rfl
@[simp] theorem seqOf_tuple (xs : List D) : seqOf (.tuple xs) = M.ret xs := rfl
@[simp] theorem dInt_int (i : Int) : dInt (.int i) = M.ret (some i) := rfl
@[simp] theorem dSub_int (i j : Int) : dSub (.int i) (.int j) = M.ret (.int (i - j)) := rfl
@[simp] theorem addD_int (i j : Int) : addD (.int i) (.int j) = M.ret (.int (i + j)) := rfl
@[simp] theorem dLt_int (i j : Int) : dLt (.int i) (.int j) = M.ret (.bool (decide (i < j))) := rfl
@[simp] theorem dLe_int (i j : Int) : dLe (.int i) (.int j) = M.ret (.bool (decide (i ≤ j))) := rfl
@[simp] theorem dGt_int (i j : Int) : dGt (.int i) (.int j) = M.ret (.bool (decide (j < i))) := rfl
@[simp] theorem dGe_int (i j : Int) : dGe (.int i) (.int j) = M.ret (.bool (decide (j ≤ i))) := rfl
@[simp] theorem un1_eq (d : D) : un1 d = some [d] := rfl
@[simp] theorem isN_none : isN .none = true := rfl
@[simp] theorem isN_int (i : Int) : isN (.int i) = false := rfl
@[simp] theorem isN_tuple (xs : List D) : isN (.tuple xs) = false := rfl
theorem unT2 (a c : D) : unT 2 (.tuple [a, c]) = some [a, c] := rfl
theorem sz_val : sz = 16777216 := rfl
theorem mkT_ok {xs : List D} (h : xs.length ≤ 16777216) : mkT xs = M.ret (.tuple xs) := by
  unfold mkT
  rw [Nat.ble_eq_true_of_le (show xs.length ≤ sz from h)]
theorem mkL_ok {xs : List D} (h : xs.length ≤ 16777216) : mkL xs = M.ret (.list xs) := by
  unfold mkL
  rw [Nat.ble_eq_true_of_le (show xs.length ≤ sz from h)]
theorem chkL_ok {xs : List D} (h : xs.length ≤ 16777216) : chkL xs = M.ret xs := by
  unfold chkL
  rw [Nat.ble_eq_true_of_le (show xs.length ≤ sz from h)]
  rfl
theorem blt_ok {n : Nat} (h : n < 16777216) : Nat.blt n sz = true := Nat.ble_eq_true_of_le (show n + 1 ≤ sz from h)
/-! ### loops and comprehensions without the bag -/
theorem forO_steps {S : Type} {f : D → S → M (Out S)} : ∀ (xs : List D) (st : Nat → S), (∀ i (hi : i < xs.length), f xs[i] (st i) = M.ret (.nx (st (i + 1)))) → forO f xs (st 0) = M.ret (.nx (st xs.length))
  | [], st, _ => rfl
  | x :: xs, st, h => by
    have h0 := h 0 (Nat.zero_lt_succ _)
    have h0 : f x (st 0) = M.ret (.nx (st 1)) := h0
    unfold forO
    rw [h0]
    show forO f xs (st 1) = _
    exact forO_steps xs (fun i => st (i + 1)) fun i hi => h (i + 1) (Nat.succ_lt_succ hi)
theorem forO_map {α S : Type} {f : D → S → M (Out S)} (enc : α → D) (zs : List α) (st : Nat → S) (h : ∀ i (hi : i < zs.length), f (enc zs[i]) (st i) = M.ret (.nx (st (i + 1)))) : forO f (zs.map enc) (st 0) = M.ret (.nx (st zs.length)) := by
  have := forO_steps (f := f) (zs.map enc) st fun i hi => by
    rw [List.getElem_map]
    exact h i (by simpa using hi)
  rw [this, List.length_map]
theorem compM_pure {f : D → M (List D)} {g : D → List D} : ∀ {xs : List D}, (∀ d ∈ xs, f d = M.ret (g d)) → compM f xs = M.ret (xs.flatMap g)
  | [], _ => rfl
  | x :: xs, h => by
    funext b
    unfold compM
    rw [h x List.mem_cons_self, compM_pure (xs := xs) fun d hd => h d (List.mem_cons_of_mem _ hd)]
    rfl
theorem compM_enc {α : Type} {f : D → M (List D)} (enc : α → D) {g : α → List D} {zs : List α} (h : ∀ z ∈ zs, f (enc z) = M.ret (g z)) : compM f (zs.map enc) = M.ret (zs.flatMap g) := by
  induction zs with
  | nil => rfl
  | cons z zs ih =>
    funext b
    rw [List.map_cons]
    unfold compM
    rw [h z List.mem_cons_self, ih fun d hd => h d (List.mem_cons_of_mem _ hd)]
    rfl
theorem itemM_eq {un : D → Option (List D)} {mt : List D → M Bool} {me : List D → M D} {d : D} {ds : List D} {c : Bool} {y : D} (hu : un d = some ds) (ht : mt ds = M.ret c) (he : c = true → me ds = M.ret y) : itemM un mt me d = M.ret (if c then [y] else []) := by
  unfold itemM
  rw [hu]
  show (M.bind (mt ds) fun c => M.ite c (M.bind (me ds) fun y => M.ret [y]) (M.ret [])) = _
  rw [ht, M.ret_bind]
  cases c with
  | true => rw [mite_t, he rfl]; rfl
  | false => rfl
theorem flat_filter {α β : Type} (c : α → Bool) (e : α → β) : ∀ zs : List α, (zs.flatMap fun z => if c z then [e z] else []) = (zs.filter c).map e
  | [] => rfl
  | z :: zs => by
    rw [List.flatMap_cons, flat_filter c e zs, List.filter_cons]
    cases c z <;> rfl
/-- [e(z) for z in zs if c(z)] -/
theorem lcM_enc {α : Type} {un : D → Option (List D)} {mt : List D → M Bool} {me : List D → M D} (enc : α → D) (c : α → Bool) (e : α → D) {zs : List α} (h : ∀ z ∈ zs, itemM un mt me (enc z) = M.ret (if c z then [e z] else [])) (hl : zs.length ≤ 16777216) :
    lcM (M.ret (zs.map enc)) un mt me = M.ret ((zs.filter c).map e) := by
  unfold lcM
  rw [M.ret_bind, compM_enc enc h, M.ret_bind, flat_filter, chkL_ok]
  rw [List.length_map]
  exact Nat.le_trans (List.length_filter_le _ _) hl
/-- .. without a test -/
theorem lcM_map {α : Type} {un : D → Option (List D)} {mt : List D → M Bool} {me : List D → M D} (enc : α → D) (e : α → D) {zs : List α} (h : ∀ z ∈ zs, itemM un mt me (enc z) = M.ret [e z]) (hl : zs.length ≤ 16777216) : lcM (M.ret (zs.map enc)) un mt me = M.ret (zs.map e) := by
  have := lcM_enc enc (fun _ => true) e (zs := zs) (fun z hz => h z hz) hl
  rw [this, List.filter_eq_self.mpr (fun _ _ => rfl)]
theorem fAll_map {α : Type} (f : α → Bool) (zs : List α) : fAll [.list (zs.map fun z => PyData.bool (f z))] = M.ret (.bool (zs.all f)) := by
  have : (zs.map fun z => PyData.bool (f z)) = (zs.map f).map PyData.bool := by rw [List.map_map]; rfl
  rw [this]
  show (M.bind (M.lift (boolsOf _)) fun bs => M.ret (PyData.bool (bs.all id))) = _
  rw [boolsOf_map]
  show M.ret _ = _
  rw [List.all_map]
  rfl
theorem fAny_map {α : Type} (f : α → Bool) (zs : List α) : fAny [.list (zs.map fun z => PyData.bool (f z))] = M.ret (.bool (zs.any f)) := by
  have : (zs.map fun z => PyData.bool (f z)) = (zs.map f).map PyData.bool := by rw [List.map_map]; rfl
  rw [this]
  show (M.bind (M.lift (boolsOf _)) fun bs => M.ret (PyData.bool (bs.any id))) = _
  rw [boolsOf_map]
  show M.ret _ = _
  rw [List.any_map]
  rfl
theorem rng1_nat {n : Nat} (h : n ≤ 1000000) : rng1 (.int (n : Int)) = M.ret ((List.range n).map fun i => PyData.int ((i : Nat) : Int)) := by
  show M.ite (Nat.ble ((n : Int)).natAbs big) (M.ret (rangeD 0 ((n : Int)).toNat)) M.fail = _
  rw [Nat.ble_eq_true_of_le (show ((n : Int)).natAbs ≤ big by rw [Int.natAbs_natCast]; exact Nat.le_trans h (by decide))]
  show M.ret (rangeD 0 ((n : Int)).toNat) = _
  unfold rangeD
  simp
theorem getI {α : Type} {xs : List α} {i : Nat} {x : α} (h : xs[i]? = some x) : atI xs ((i : Nat) : Int) = some x := by
  have hi := (List.getElem?_eq_some_iff.mp h).1
  unfold atI ixN
  rw [if_pos (by omega), if_pos (by omega)]
  simpa using h
theorem dGet_t {xs : List D} {i : Nat} {x : D} (h : xs[i]? = some x) : dGet (.tuple xs) (.int ((i : Nat) : Int)) = M.ret x := by
  show M.lift (atI xs _) = _
  rw [getI h]
  rfl
theorem dGet_l {xs : List D} {i : Nat} {x : D} (h : xs[i]? = some x) : dGet (.list xs) (.int ((i : Nat) : Int)) = M.ret x := by
  show M.lift (atI xs _) = _
  rw [getI h]
  rfl
theorem cut_to {α : Type} (xs : List α) (n : Nat) : cut xs none (some ((n : Nat) : Int)) = xs.take n := by
  unfold cut
  rw [HT.sIx_none, HT.sIx_nat, List.drop_zero, Nat.sub_zero]
  rcases Nat.le_total n xs.length with h | h
  · rw [Nat.min_eq_left h]
  · rw [Nat.min_eq_right h, List.take_length, List.take_of_length_le h]
theorem cut_from {α : Type} (xs : List α) (n : Nat) : cut xs (some ((n : Nat) : Int)) none = xs.drop n := by
  unfold cut
  rw [HT.sIx_none, HT.sIx_nat]
  rcases Nat.le_total n xs.length with h | h
  · rw [Nat.min_eq_left h, List.take_of_length_le (by rw [List.length_drop]; omega)]
  · rw [Nat.min_eq_right h, List.drop_length, List.drop_of_length_le h]
    simp
/-! ### plain data compared -/
theorem dEq_int (i j : Int) : dEq (.int i) (.int j) = M.ret (.bool (decide (i = j))) := by
  have h : (SeqAt.shaped (.int i) && SeqAt.shaped (.int j)) = true := rfl
  show dEqS _ _ = _
  unfold dEqS
  rw [if_pos h]
  rfl
theorem dNe_int (i j : Int) : dNe (.int i) (.int j) = M.ret (.bool (!decide (i = j))) := by
  have h : (SeqAt.shaped (.int i) && SeqAt.shaped (.int j)) = true := rfl
  show dNeS _ _ = _
  unfold dNeS
  rw [if_pos h]
  rfl
@[simp] theorem dNe_bool (a c : Bool) : dNe (.bool a) (.bool c) = M.ret (.bool (a != c)) := rfl
theorem dNe_same {x : D} (hs : SeqAt.shaped x = true) (hn : ∀ s, x ≠ .str s) : dNe x x = M.ret (.bool false) := by
  have e : dNe x x = dNeS x x := by
    unfold dNe
    split
    · exact absurd rfl (hn _)
    · rfl
  rw [e]
  unfold dNeS
  rw [if_pos (by rw [hs]; rfl), SeqAt.eqv_refl x (SeqAt.canLay_of_shaped hs)]
  rfl
theorem fDivmod_int {i j : Int} (h1 : 0 < j) (h2 : j < 1073741824) : fDivmod [.int i, .int j] = M.ret (.tuple [.int (i / j), .int (i % j)]) := by
  show (match decide (CDiv i j) with | true => M.ret (.tuple [.int (i / j), .int (i % j)]) | false => M.fail : M D) = _
  rw [decide_eq_true (show CDiv i j from ⟨h1, h2⟩)]
theorem modD_int {i j : Int} (h1 : 0 < j) : modD (.int i) (.int j) = M.ret (.int (i % j)) := by
  show (match decide (0 < j) with | true => M.ret (.int (i % j)) | false => M.fail : M D) = _
  rw [decide_eq_true h1]
theorem fdvD_int {i j : Int} (h1 : 0 < j) (h2 : j < 1073741824) : fdvD (.int i) (.int j) = M.ret (.int (i / j)) := by
  show (match decide (CDiv i j) with | true => M.ret (.int (i / j)) | false => M.fail : M D) = _
  rw [decide_eq_true (show CDiv i j from ⟨h1, h2⟩)]
theorem bits_small {i : Int} {n : Nat} (h : i.natAbs < 2 ^ n) : Builtin.Int.intBits i ≤ n := PyProof.Rows.intBits_le h
theorem mulD_int {i j : Int} {n m : Nat} (h1 : i.natAbs < 2 ^ n) (h2 : j.natAbs < 2 ^ m) (h : n + m ≤ 134217728) : mulD (.int i) (.int j) = M.ret (.int (i * j)) := by
  have a := bits_small h1
  have c := bits_small h2
  show (match decide (CMulX i j) with | true => M.ret (.int (i * j)) | false => M.fail : M D) = _
  rw [decide_eq_true (show CMulX i j by unfold CMulX; omega)]
/-! ### the bag -/
/-- the bag as it is kept, after at most n draws -/
def Ib (n : Nat) (t : Int × Int × Int) : Prop := 0 ≤ t.1 ∧ 0 ≤ t.2.1 ∧ t.2.1 < 2147483647 ∧ 0 ≤ t.2.2 ∧ t.2.2 ≤ n
theorem Ib.mono {n m : Nat} {t : Int × Int × Int} (h : Ib n t) (k : n ≤ m) : Ib m t := ⟨h.1, h.2.1, h.2.2.1, h.2.2.2.1, by have := h.2.2.2.2; omega⟩
/-- a meaning that draws at most c times, its answer as P says -/
def Draws {α : Type} (m : M α) (c : Nat) (P : α → Prop) : Prop := ∀ (n : Nat) (t : Int × Int × Int), n + c ≤ 1000000 → Ib n t → ∃ a t', m (some t) = some (.ok a, some t') ∧ Ib (n + c) t' ∧ P a
theorem Draws.ret {α : Type} {a : α} {P : α → Prop} (h : P a) : Draws (M.ret a) 0 P := fun n t _ I => ⟨a, t, rfl, I, h⟩
theorem Draws.bind {α β : Type} {m : M α} {f : α → M β} {c d : Nat} {P : α → Prop} {Q : β → Prop} (h : Draws m c P) (k : ∀ a, P a → Draws (f a) d Q) : Draws (M.bind m f) (c + d) Q := fun n t hn I => by
  obtain ⟨a, t1, e1, I1, p1⟩ := h n t (by omega) I
  obtain ⟨r, t2, e2, I2, p2⟩ := k a p1 (n + c) t1 (by omega) I1
  refine ⟨r, t2, ?_, by rw [Nat.add_assoc] at I2; exact I2, p2⟩
  unfold M.bind
  rw [e1]
  exact e2
theorem Draws.mono {α : Type} {m : M α} {c d : Nat} {P Q : α → Prop} (h : Draws m c P) (hd : c ≤ d) (hp : ∀ a, P a → Q a) : Draws m d Q := fun n t hn I => by
  obtain ⟨a, t', e, I', p⟩ := h n t (by omega) I
  exact ⟨a, t', e, I'.mono (by omega), hp a p⟩
theorem Draws.of {α : Type} {m : M α} {a : α} {P : α → Prop} (e : m = M.ret a) (h : P a) : Draws m 0 P := by rw [e]; exact .ret h
theorem Draws.comp {f : D → M (List D)} {c : Nat} {P : D → Prop} : ∀ (xs : List D), (∀ d ∈ xs, Draws (f d) c fun ys => ∃ y, ys = [y] ∧ P y) → Draws (compM f xs) (c * xs.length) fun ys => ys.length = xs.length ∧ ∀ y ∈ ys, P y
  | [], _ => fun n t hn I => ⟨[], t, rfl, by simpa using I, rfl, by simp⟩
  | x :: xs, h => fun n t hn I => by
    have ec : c * (x :: xs).length = c + c * xs.length := by rw [List.length_cons, Nat.mul_succ, Nat.add_comm]
    rw [ec] at hn ⊢
    obtain ⟨ys, t1, e1, I1, y, rfl, p1⟩ := h x List.mem_cons_self n t (by omega) I
    obtain ⟨zs, t2, e2, I2, l2, p2⟩ := Draws.comp xs (fun d hd => h d (List.mem_cons_of_mem _ hd)) (n + c) t1 (by omega) I1
    refine ⟨y :: zs, t2, ?_, by rw [Nat.add_assoc] at I2; exact I2, by rw [List.length_cons, l2, List.length_cons], fun z hz => ?_⟩
    · unfold compM
      rw [e1]
      simp only
      rw [e2]
      rfl
    · rcases List.mem_cons.mp hz with rfl | hz
      · exact p1
      · exact p2 z hz
theorem Draws.lc {mi : M (List D)} {un : D → Option (List D)} {mt : List D → M Bool} {me : List D → M D} {c d k : Nat} {L : Nat → Prop} {P : D → Prop} (hi : Draws mi c fun xs => L xs.length ∧ xs.length ≤ k ∧ ∀ x ∈ xs, Draws (itemM un mt me x) d fun ys => ∃ y, ys = [y] ∧ P y) (hk : k ≤ 1000) :
    Draws (lcM mi un mt me) (c + d * k) fun ys => L ys.length ∧ ys.length ≤ k ∧ ∀ y ∈ ys, P y := by
  unfold lcM
  refine Draws.bind hi fun xs ⟨h0, h1, h2⟩ => ?_
  have := Draws.bind (d := 0) (Draws.comp xs h2) (f := chkL) (Q := fun ys => L ys.length ∧ ys.length ≤ k ∧ ∀ y ∈ ys, P y) fun ys ⟨l, p⟩ => by
    rw [chkL_ok (by omega)]
    exact .ret ⟨by rw [l]; exact h0, by omega, p⟩
  exact this.mono (by rw [Nat.add_zero]; exact Nat.mul_le_mul_left _ h1) fun _ h => h
/-- an item without a test -/
theorem itemM_one {un : D → Option (List D)} {me : List D → M D} {x : D} {ds : List D} (h : un x = some ds) : itemM un (fun _ => M.ret true) me x = M.bind (me ds) fun y => M.ret [y] := by
  unfold itemM
  rw [h]
  rfl
theorem Draws.item {un : D → Option (List D)} {me : List D → M D} {x : D} {ds : List D} {c : Nat} {P : D → Prop} (h : un x = some ds) (hm : Draws (me ds) c P) : Draws (itemM un (fun _ => M.ret true) me x) c fun ys => ∃ y, ys = [y] ∧ P y := by
  rw [itemM_one h]
  exact (Draws.bind (d := 0) hm fun a p => .ret ⟨a, rfl, p⟩)
/-- data told one by one -/
theorem all_enc {α : Type} {enc : α → D} {P : α → Prop} : ∀ {ys : List D}, (∀ y ∈ ys, ∃ a, y = enc a ∧ P a) → ∃ as : List α, ys = as.map enc ∧ ∀ a ∈ as, P a
  | [], _ => ⟨[], rfl, by simp⟩
  | y :: ys, h => by
    obtain ⟨a, e, p⟩ := h y List.mem_cons_self
    obtain ⟨as, e2, p2⟩ := all_enc (ys := ys) fun z hz => h z (List.mem_cons_of_mem _ hz)
    refine ⟨a :: as, by rw [e, e2]; rfl, fun z hz => ?_⟩
    rcases List.mem_cons.mp hz with rfl | hz
    · exact p
    · exact p2 z hz
/-- two lists, item by item -/
inductive All2 {α β : Type} (R : α → β → Prop) : List α → List β → Prop
  | nil : All2 R [] []
  | cons {x y xs ys} : R x y → All2 R xs ys → All2 R (x :: xs) (y :: ys)
theorem Draws.comp2 {f : D → M (List D)} {c : Nat} {R : D → D → Prop} : ∀ (xs : List D), (∀ d ∈ xs, Draws (f d) c fun ys => ∃ y, ys = [y] ∧ R d y) → Draws (compM f xs) (c * xs.length) fun ys => All2 R xs ys
  | [], _ => fun n t hn I => ⟨[], t, rfl, by simpa using I, .nil⟩
  | x :: xs, h => fun n t hn I => by
    have ec : c * (x :: xs).length = c + c * xs.length := by rw [List.length_cons, Nat.mul_succ, Nat.add_comm]
    rw [ec] at hn ⊢
    obtain ⟨ys, t1, e1, I1, y, rfl, p1⟩ := h x List.mem_cons_self n t (by omega) I
    obtain ⟨zs, t2, e2, I2, p2⟩ := Draws.comp2 xs (fun d hd => h d (List.mem_cons_of_mem _ hd)) (n + c) t1 (by omega) I1
    refine ⟨y :: zs, t2, ?_, by rw [Nat.add_assoc] at I2; exact I2, .cons p1 p2⟩
    unfold compM
    rw [e1]
    simp only
    rw [e2]
    rfl
theorem All2.len {α β : Type} {R : α → β → Prop} {xs : List α} {ys : List β} (h : All2 R xs ys) : xs.length = ys.length := by
  induction h with
  | nil => rfl
  | cons _ _ ih => simp [ih]
theorem Draws.lc2 {xs : List D} {un : D → Option (List D)} {mt : List D → M Bool} {me : List D → M D} {d k : Nat} {R : D → D → Prop} (h : ∀ x ∈ xs, Draws (itemM un mt me x) d fun ys => ∃ y, ys = [y] ∧ R x y) (hx : xs.length ≤ k) (hk : k ≤ 1000) :
    Draws (lcM (M.ret xs) un mt me) (d * k) fun ys => All2 R xs ys := by
  unfold lcM
  rw [M.ret_bind]
  have := Draws.bind (d := 0) (Draws.comp2 xs h) (f := chkL) (Q := fun ys => All2 R xs ys) fun ys p => by
    rw [chkL_ok (by have := p.len; omega)]
    exact .ret p
  exact this.mono (by rw [Nat.add_zero]; exact Nat.mul_le_mul_left _ hx) fun _ h => h
end GL
namespace GL
open PySem PySem.Spec PyProof.Rows L2 LamX

def m_is_whole : List D → M D := on1 fun a0 => fnM (S := Unit) (M.bind (M.bind (M.bind (M.ret a0) fun d1 => M.ret (.bool (PyData.isInt d1))) fun d3 => andB d3 (M.bind (M.bind (M.ret a0) fun d2 => M.ret (.bool (PyData.isBool d2))) notB)) fun d4 => M.ret (.rt d4))

def m_is_between : List D → M D := on3 fun a0 a1 a2 => fnM (S := Unit) (M.bind (M.bind (M.bind (M.ret a0) fun d1 => (m_is_whole [d1])) fun d2 => andB d2 (dChain dLe dLe (M.ret a1) (M.ret a0) (M.ret a2))) fun d3 => M.ret (.rt d3))

def m_is_tuple_of : List D → M D := on2 fun a0 a1 => fnM (S := Unit) (M.bind (M.bind (M.bind (M.ret a0) fun d1 => M.ret (.bool (PyData.isTuple d1))) fun d5 => andB d5 (M.bind (M.bind (M.ret a0) fun d2 => (fLen (d2 :: []))) fun d3 => M.bind (M.ret a1) fun d4 => dEq d3 d4)) fun d6 => M.ret (.rt d6))

def m_is_row : List D → M D := on3 fun a0 a1 a2 => fnM (S := Unit) (M.bind (M.bind (M.bind (M.ret a0) fun d1 => M.ret (.bool (PyData.isTuple d1))) fun d3 => andB d3 (dChain dLe dLe (M.ret a1) (M.bind (M.ret a0) fun d2 => (fLen (d2 :: []))) (M.ret a2))) fun d4 => M.ret (.rt d4))

def m_first_wrong (Mc : List D → M D) : List D → M D := on1 fun a0 => fnM (S := Unit) (seqO (M.bind (M.bind (M.ret a0) fun d1 => M.bind (seqOf d1) fun l2 => M.ret (enumD l2)) fun xs => forO (fun d s => M.bind (M.lift ((unT 2) d)) fun ds => (fun ds s3 => on2 (fun t4 t5 => (M.bind (M.not (M.bind (M.bind (M.ret t5) fun d6 => (M.bind (M.bind (M.ret a0) fun d7 => M.bind (M.ret none) fun d8 => M.bind (M.bind (M.ret t4) dInt) fun d9 => dCut d8 d9 d7) fun d10 => (Mc [d6, d10]))) tru)) fun z12 => M.ite z12 (M.bind (M.ret t4) fun d11 => M.ret (.rt d11)) (M.ret (.nx ())))) ds) ds s) xs ()) fun s13 => (M.bind (M.ret .none) fun d14 => M.ret (.rt d14)))

def m_wrong_number : List D → M D := on1 fun a0 => fnM (S := Unit) (M.bind (M.bind (M.ret a0) fun d6 => m_first_wrong (on2 fun p1 p2 => (M.bind (M.ret p1) fun d3 => (M.bind (M.ret (.int 2)) fun d4 => (M.bind (M.ret (.int 4)) fun d5 => (m_is_between [d3, d4, d5]))))) [d6]) fun d7 => M.ret (.rt d7))

def m_check_values : List D → M D := on1 fun a0 => fnM (S := Unit) (seqO (M.bind (M.not (M.bind (M.bind (M.ret a0) fun d1 => (M.bind (M.ret (.int 2)) fun d2 => (M.bind (M.ret (.int 6)) fun d3 => (m_is_row [d1, d2, d3])))) tru)) fun z4 => M.ite z4 M.fail (M.ret (.nx ()))) fun s5 => (M.bind (M.bind (M.ret a0) fun d6 => (m_wrong_number [d6])) fun v7 => (M.bind (M.bind (M.ret v7) fun d8 => M.ret (!isN d8)) fun z9 => M.ite z9 M.fail (M.ret (.nx ())))))

def m_is_open : List D → M D := on2 fun a0 a1 => fnM (S := Unit) (seqO (M.bind (M.not (M.bind (M.bind (M.ret a1) fun d1 => (M.bind (M.bind (M.ret a0) fun d2 => (fLen (d2 :: []))) fun d3 => (m_is_tuple_of [d1, d3]))) tru)) fun z5 => M.ite z5 (M.bind (M.ret (.bool false)) fun d4 => M.ret (.rt d4)) (M.ret (.nx ()))) fun s6 => (M.bind (M.bind (M.bind (lcM (M.bind (M.ret a1) fun d7 => M.bind (M.ret a0) fun d8 => zip2 d7 d8) (unT 2) (fun _ => M.ret true) (on2 fun t9 t10 => (M.bind (M.bind (M.ret t9) fun d11 => M.ret (.bool (isN d11))) fun d17 => orB d17 (M.bind (M.ret t9) fun d12 => (M.bind (M.ret (.int 0)) fun d13 => (M.bind (M.bind (M.ret t10) fun d14 => M.bind (M.ret (.int 1)) fun d15 => dSub d14 d15) fun d16 => (m_is_between [d12, d13, d16]))))))) fun l18 => M.ret (.list l18)) fun d19 => (fAll (d19 :: []))) fun d20 => M.ret (.rt d20)))

def m_wrong_open : List D → M D := on2 fun a0 a1 => fnM (S := Unit) (M.bind (M.bind (M.ret a1) fun d5 => m_first_wrong (on2 fun p1 p2 => (M.bind (M.ret a0) fun d3 => (M.bind (M.ret p1) fun d4 => (m_is_open [d3, d4])))) [d5]) fun d6 => M.ret (.rt d6))

def m_check_opens : List D → M D := on2 fun a0 a1 => fnM (S := Unit) (seqO (M.bind (M.not (M.bind (M.bind (M.ret a1) fun d1 => (M.bind (M.ret (.int 0)) fun d2 => (M.bind (M.ret (.int 6)) fun d3 => (m_is_row [d1, d2, d3])))) tru)) fun z4 => M.ite z4 M.fail (M.ret (.nx ()))) fun s5 => (M.bind (M.bind (M.ret a0) fun d6 => (M.bind (M.ret a1) fun d7 => (m_wrong_open [d6, d7]))) fun v8 => (M.bind (M.bind (M.ret v8) fun d9 => M.ret (!isN d9)) fun z10 => M.ite z10 M.fail (M.ret (.nx ())))))

def m_go_two : List D → M D := on2 fun a0 a1 => fnM (S := Unit) (M.bind (M.bind (M.bind (lcM (M.bind (M.ret a0) fun d1 => M.bind (M.ret a1) fun d2 => zip2 d1 d2) (unT 2) (fun _ => M.ret true) (on2 fun t3 t4 => (M.bind (M.bind (M.ret t3) fun d5 => M.ret (.bool (isN d5))) fun d10 => orB d10 (M.bind (M.bind (M.ret t4) fun d6 => M.ret (.bool (isN d6))) fun d9 => orB d9 (M.bind (M.ret t3) fun d7 => M.bind (M.ret t4) fun d8 => dEq d7 d8))))) fun l11 => M.ret (.list l11)) fun d12 => (fAll (d12 :: []))) fun d13 => M.ret (.rt d13))

def m_go_all : List D → M D := on1 fun a0 => fnM (S := Unit) (M.bind (M.bind (M.bind (lcM2 (M.bind (M.ret a0) seqOf) un1 (fun _ => M.ret true) (on1 fun t1 => (M.bind (M.ret a0) seqOf)) un1 (fun _ _ => M.ret true) (fun ds es => on1 (fun t1 => on1 (fun t2 => (M.bind (M.ret t1) fun d3 => (M.bind (M.ret t2) fun d4 => (m_go_two [d3, d4])))) es) ds)) fun l5 => M.ret (.list l5)) fun d6 => (fAll (d6 :: []))) fun d7 => M.ret (.rt d7))

def m_union_by : List D → M D := on2 fun a0 a1 => fnM (S := Unit) (M.bind (M.bind (M.ret []) chkL) fun o1 => (seqO (M.bind (M.bind (M.bind (M.ret a0) fun d2 => (fLen (d2 :: []))) rng1) fun xs => forO (fun d s => M.bind (M.lift (un1 d)) fun ds => (fun ds s3 => on1 (fun t4 => (M.bind (lcM (M.bind (M.ret a1) seqOf) un1 (on1 fun t5 => (M.bind (M.bind (M.ret t5) fun d6 => M.bind (M.ret t4) fun d7 => dGet d6 d7) fun d8 => M.ret (!isN d8))) (on1 fun t5 => (M.bind (M.ret t5) fun d9 => M.bind (M.ret t4) fun d10 => dGet d9 d10))) fun o11 => (M.bind (M.bind (M.bind (M.bind (M.ret (.list o11)) fun d12 => M.bind (mkL []) fun d13 => dNe d12 d13) tru) fun z16 => M.ite z16 (M.bind (M.ret (.list o11)) fun d14 => M.bind (M.ret (.int 0)) fun d15 => dGet d14 d15) (M.ret .none)) fun v17 => M.ite (Nat.blt (List.length s3) sz) (M.ret (.nx (s3 ++ [v17]))) M.fail))) ds) ds s) xs o1) fun s18 => (M.bind (M.bind (M.ret (.list s18)) fun d19 => (fTuple (d19 :: []))) fun d20 => M.ret (.rt d20))))

def m_groupings : List D → M D := on1 fun a0 => fnM (S := Unit) (M.bind (M.bind (mkT []) fun d1 => (mkL (d1 :: []))) fun v2 => (seqO (M.bind (M.bind (M.ret a0) seqOf) fun xs => forO (fun d s => M.bind (M.lift (un1 d)) fun ds => (fun ds s3 => on1 (fun t4 => (M.bind (M.bind (M.ret []) chkL) fun o5 => (seqO (M.bind (M.bind (M.ret s3) seqOf) fun xs => forO (fun d s => M.bind (M.lift (un1 d)) fun ds => (fun ds s6 => on1 (fun t7 => (seqO (M.bind (M.bind (M.bind (M.bind (M.ret t7) lenSetD) fun d8 => M.bind (M.ret (.int 1)) fun d9 => addD d8 d9) rng1) fun xs => forO (fun d s => M.bind (M.lift (un1 d)) fun ds => (fun ds s10 => on1 (fun t11 => (M.bind (M.bind (M.bind (M.bind (M.ret t4) fun d12 => (M.bind (M.bind (lcM (M.bind (M.ret a0) fun d13 => M.bind (M.ret t7) fun d14 => zip2 d13 d14) (unT 2) (on2 fun t15 t16 => (M.bind (M.bind (M.ret t16) fun d17 => M.bind (M.ret t11) fun d18 => dEq d17 d18) tru)) (on2 fun t15 t16 => (M.ret t15))) fun l19 => M.ret (.list l19)) fun d20 => M.bind (seqOf d20) fun l21 => (mkL (d12 :: (l21 ++ []))))) fun d22 => (m_go_all [d22])) tru) fun z27 => M.ite z27 (M.bind (M.bind (M.ret t7) fun d23 => M.bind (seqOf d23) fun l24 => (M.bind (M.ret t11) fun d25 => (mkT (l24 ++ (d25 :: []))))) fun v26 => M.ite (Nat.blt (List.length s10) sz) (M.ret (.nx (s10 ++ [v26]))) M.fail) (M.ret (.nx s10)))) ds) ds s) xs s6) fun s28 => (M.ret (.nx s28)))) ds) ds s) xs o5) fun s29 => (M.bind (M.ret (.list s29)) fun v30 => (M.ret (.nx v30)))))) ds) ds s) xs v2) fun s31 => (M.bind (M.ret s31) fun d32 => M.ret (.rt d32))))

def m_first_by : List D → M D := on1 fun a0 => fnM (S := Unit) (M.bind (M.bind (M.bind (M.ret a0) fun d1 => (m_groupings [d1])) (minKeyM (on1 fun p2 => (M.bind (M.bind (M.ret p2) lenSetD) fun d3 => (M.bind (M.ret p2) fun d4 => (mkT (d3 :: (d4 :: [])))))))) fun d5 => M.ret (.rt d5))

def m_fewest_by : List D → M D := on1 fun a0 => fnM (S := Unit) (M.bind (M.bind (M.bind (M.ret a0) fun d1 => (m_first_by [d1])) lenSetD) fun d2 => M.ret (.rt d2))

def m_check_opened : List D → M D := on2 fun a0 a1 => fnM (S := Unit) (M.bind (M.bind (M.ret a0) fun d1 => (m_check_values [d1])) fun _ => (M.bind (M.bind (M.ret a0) fun d2 => (M.bind (M.ret a1) fun d3 => (m_check_opens [d2, d3]))) fun _ => (M.ret (.nx ()))))

def m_do_go_together : List D → M D := on2 fun a0 a1 => fnM (S := Unit) (M.bind (M.bind (M.ret a0) fun d1 => (M.bind (M.ret a1) fun d2 => (m_check_opened [d1, d2]))) fun _ => (M.bind (M.bind (M.ret a1) fun d3 => (m_go_all [d3])) fun d4 => M.ret (.rt d4)))

def m_union : List D → M D := on2 fun a0 a1 => fnM (S := Unit) (M.bind (M.bind (M.ret a0) fun d1 => (M.bind (M.ret a1) fun d2 => (m_check_opened [d1, d2]))) fun _ => (M.bind (M.bind (M.bind (M.bind (M.ret a1) fun d3 => (m_go_all [d3])) tru) fun z6 => M.ite z6 (M.bind (M.ret a0) fun d4 => (M.bind (M.ret a1) fun d5 => (m_union_by [d4, d5]))) (M.ret .none)) fun d7 => M.ret (.rt d7)))

def m_fewest_unions : List D → M D := on2 fun a0 a1 => fnM (S := Unit) (M.bind (M.bind (M.ret a0) fun d1 => (M.bind (M.ret a1) fun d2 => (m_check_opened [d1, d2]))) fun _ => (M.bind (M.bind (M.ret a1) fun d3 => (m_fewest_by [d3])) fun d4 => M.ret (.rt d4)))

def m_first_grouping : List D → M D := on2 fun a0 a1 => fnM (S := Unit) (M.bind (M.bind (M.ret a0) fun d1 => (M.bind (M.ret a1) fun d2 => (m_check_opened [d1, d2]))) fun _ => (M.bind (M.bind (M.ret a1) fun d3 => (m_first_by [d3])) fun d4 => M.ret (.rt d4)))

def m__law_bag : List D → M (List D) := on2 fun a0 a1 => newM (S := D × D) (M.bind (M.bind (M.ret (.int 52027)) fun d3 => M.bind (M.bind (M.ret (.int 8009)) fun d1 => M.bind (M.ret a1) fun d2 => mulD d1 d2) fun d4 => addD d3 d4) fun v5 => (seqO (M.bind (M.bind (M.bind (M.ret a0) fun d6 => M.bind (M.ret none) fun d7 => M.bind (M.bind (M.ret (.int 16)) dInt) fun d8 => dCut d7 d8 d6) seqOf) fun xs => forO (fun d s => M.bind (M.lift (un1 d)) fun ds => (fun ds s9 => on1 (fun t10 => (M.bind (M.bind (M.bind (M.bind (M.bind (M.bind (M.ret s9) fun d11 => M.bind (M.ret (.int 48271)) fun d12 => mulD d11 d12) fun d16 => M.bind (M.bind (M.bind (M.ret t10) fun d13 => (fInt (d13 :: []))) fun d14 => M.bind (M.ret (.int 2147483629)) fun d15 => modD d14 d15) fun d17 => addD d16 d17) fun d18 => M.bind (M.ret (.int 23)) fun d19 => addD d18 d19) fun d20 => (fInt (d20 :: []))) fun d21 => M.bind (M.ret (.int 2147483647)) fun d22 => modD d21 d22) fun v23 => (M.ret (.nx v23)))) ds) ds s) xs v5) fun s24 => (M.bind (M.bind (M.bind (M.bind (M.ret a1) fun d26 => M.bind (M.bind (M.ret a0) fun d25 => (fLen (d25 :: []))) fun d27 => dLt d26 d27) tru) fun z31 => M.ite z31 (M.bind (M.bind (M.ret a0) fun d28 => M.bind (M.ret a1) fun d29 => dGet d28 d29) fun d30 => (fInt (d30 :: []))) (M.ret (.int 0))) fun v32 => (M.bind (M.bind (M.bind (M.bind (M.bind (M.bind (M.ret s24) fun d33 => M.bind (M.ret (.int 31)) fun d34 => mulD d33 d34) fun d40 => M.bind (M.bind (M.bind (M.bind (M.ret v32) fun d35 => (fInt (d35 :: []))) fun d36 => M.bind (M.ret (.int 2147483629)) fun d37 => modD d36 d37) fun d38 => M.bind (M.ret (.int 17)) fun d39 => mulD d38 d39) fun d41 => addD d40 d41) fun d42 => M.bind (M.ret (.int 3)) fun d43 => addD d42 d43) fun d44 => (fInt (d44 :: []))) fun d45 => M.bind (M.ret (.int 2147483647)) fun d46 => modD d45 d46) fun v47 => (M.ret (.nx (v47, v32))))))) (fun s => M.bind (M.bind (M.bind (M.or (M.bind (M.bind (M.ret s.2) fun d48 => M.bind (M.ret (.int 0)) fun d49 => dLt d48 d49) tru) (M.bind (M.bind (M.ret s.2) fun d52 => M.bind (M.bind (M.ret (.int 10)) fun d50 => M.bind (M.ret (.int 15)) fun d51 => powD d50 d51) fun d53 => dGe d52 d53) tru)) fun z55 => M.ite z55 (M.bind (M.ret s.2) fun d54 => (fAbs (d54 :: []))) (M.ret (.int 0))) fun d56 => M.bind (M.bind (M.ret s.1) fun d58 => M.bind (M.bind (M.ret (.int 0)) fun d60 => M.bind (M.ret []) fun l61 => M.ret (d60 :: l61)) fun l59 => M.ret (d58 :: l59)) fun l57 => M.ret (d56 :: l57)) chkL)

def m__law_take : List D → M D := on1 fun a1 => fnM (S := Unit) (seqO (M.bind (M.bind (M.bind (bagG 0) fun d1 => M.bind (M.ret (.int 0)) fun d2 => dGt d1 d2) tru) fun z9 => M.ite z9 (M.bind (M.bind (bagG 0) fun d3 => (M.bind (M.ret a1) fun d4 => (fDivmod (d3 :: (d4 :: []))))) fun v5 => M.bind (two v5) fun w6 => M.bind (bagP 0 (.int w6.1)) fun _ => (fun v7 => (M.bind (M.ret v7) fun d8 => M.ret (.rt d8))) (.int w6.2)) (M.ret (.nx ()))) fun s10 => (M.bind (M.bind (bagG 2) fun d11 => M.bind (M.ret (.int 1)) fun d12 => addD d11 d12) fun v13 => M.bind (bagP 2 v13) fun _ => (M.bind (M.bind (M.bind (M.bind (M.bind (M.bind (bagG 1) fun d14 => M.bind (M.ret (.int 16807)) fun d15 => mulD d14 d15) fun d18 => M.bind (M.bind (M.ret (.int 4099)) fun d16 => M.bind (bagG 2) fun d17 => mulD d16 d17) fun d19 => addD d18 d19) fun d20 => M.bind (M.ret (.int 1)) fun d21 => addD d20 d21) fun d22 => (fInt (d22 :: []))) fun d23 => M.bind (M.ret (.int 2147483647)) fun d24 => modD d23 d24) fun v25 => M.bind (bagP 1 v25) fun _ => (M.bind (M.bind (M.bind (M.bind (bagG 1) fun d26 => M.bind (M.ret (.int 911)) fun d27 => fdvD d26 d27) fun d28 => (fInt (d28 :: []))) fun d29 => M.bind (M.ret a1) fun d30 => modD d29 d30) fun d31 => M.ret (.rt d31)))))

def m__law_pull : List D → M D := on1 fun a1 => fnM (S := Unit) (M.bind (M.bind (M.ret a1) fun d3 => M.bind (M.bind (M.bind (M.ret a1) fun d1 => (fLen (d1 :: []))) fun d2 => (m__law_take [d2])) fun d4 => dGet d3 d4) fun d5 => M.ret (.rt d5))

def m__law_values : List D → M D := on2 fun a1 a2 => fnM (S := Unit) (M.bind (M.bind (M.bind (lcM (M.bind (M.bind (M.ret (.int 2)) fun d4 => M.bind (M.bind (M.bind (M.ret a1) fun d1 => M.bind (M.ret (.int 1)) fun d2 => dSub d1 d2) fun d3 => (m__law_take [d3])) fun d5 => addD d4 d5) rng1) un1 (fun _ => M.ret true) (on1 fun t6 => (M.bind (M.ret (.int 2)) fun d18 => M.bind (M.bind (M.bind (M.bind (M.ret (.int 0)) fun d7 => (M.bind (M.ret (.int 0)) fun d8 => (M.bind (M.ret (.int 0)) fun d9 => (M.bind (M.ret (.int 1)) fun d10 => (M.bind (M.ret (.int 2)) fun d11 => (mkL (d7 :: (d8 :: (d9 :: (d10 :: (d11 :: []))))))))))) fun d14 => M.bind (M.ret none) fun d15 => M.bind (M.bind (M.bind (M.ret a2) fun d12 => M.bind (M.ret (.int 2)) fun d13 => addD d12 d13) dInt) fun d16 => dCut d15 d16 d14) fun d17 => (m__law_pull [d17])) fun d19 => addD d18 d19))) fun l20 => M.ret (.list l20)) fun d21 => (fTuple (d21 :: []))) fun d22 => M.ret (.rt d22))

def m__law_open : List D → M D := on1 fun a1 => fnM (S := Unit) (M.bind (M.bind (M.bind (lcM (M.bind (M.ret a1) seqOf) un1 (fun _ => M.ret true) (on1 fun t1 => (M.bind (M.bind (M.bind (M.bind (M.ret (.int 2)) fun d2 => (m__law_take [d2])) fun d3 => M.bind (M.ret (.int 0)) fun d4 => dEq d3 d4) tru) fun z6 => M.ite z6 (M.ret .none) (M.bind (M.ret t1) fun d5 => (m__law_take [d5]))))) fun l7 => M.ret (.list l7)) fun d8 => (fTuple (d8 :: []))) fun d9 => M.ret (.rt d9))

def m__law_agree : List D → M D := on2 fun a0 a1 => fnM (S := Unit) (M.bind (M.bind (M.bind (M.bind (lcM (M.bind (M.ret a0) fun d1 => M.bind (M.ret a1) fun d2 => zip2 d1 d2) (unT 2) (fun _ => M.ret true) (on2 fun t3 t4 => (M.bind (M.bind (M.ret t3) fun d5 => M.ret (.bool (!isN d5))) fun d10 => andB d10 (M.bind (M.bind (M.ret t4) fun d6 => M.ret (.bool (!isN d6))) fun d9 => andB d9 (M.bind (M.ret t3) fun d7 => M.bind (M.ret t4) fun d8 => dNe d7 d8))))) fun l11 => M.ret (.list l11)) fun d12 => (fAny (d12 :: []))) notB) fun d13 => M.ret (.rt d13))

def m__law_union : List D → M D := on2 fun a0 a1 => fnM (S := Unit) (M.bind (M.bind (M.ret []) chkL) fun o1 => (seqO (M.bind (M.bind (M.bind (M.ret a0) fun d2 => (fLen (d2 :: []))) rng1) fun xs => forO (fun d s => M.bind (M.lift (un1 d)) fun ds => (fun ds s3 => on1 (fun t4 => (M.bind (lcM (M.bind (M.ret a1) seqOf) un1 (on1 fun t5 => (M.bind (M.bind (M.ret t5) fun d6 => M.bind (M.ret t4) fun d7 => dGet d6 d7) fun d8 => M.ret (!isN d8))) (on1 fun t5 => (M.bind (M.ret t5) fun d9 => M.bind (M.ret t4) fun d10 => dGet d9 d10))) fun o11 => (M.bind (M.bind (M.bind (M.bind (M.ret (.list o11)) fun d12 => M.bind (mkL []) fun d13 => dNe d12 d13) tru) fun z16 => M.ite z16 (M.bind (M.ret (.list o11)) fun d14 => M.bind (M.ret (.int 0)) fun d15 => dGet d14 d15) (M.ret .none)) fun v17 => M.ite (Nat.blt (List.length s3) sz) (M.ret (.nx (s3 ++ [v17]))) M.fail))) ds) ds s) xs o1) fun s18 => (M.bind (M.bind (M.ret (.list s18)) fun d19 => (fTuple (d19 :: []))) fun d20 => M.ret (.rt d20))))

def m__law_groupings : List D → M D := on1 fun a0 => fnM (S := Unit) (M.bind (M.bind (mkT []) fun d1 => (mkL (d1 :: []))) fun v2 => (seqO (M.bind (M.bind (M.bind (M.ret a0) fun d3 => (fLen (d3 :: []))) rng1) fun xs => forO (fun d s => M.bind (M.lift (un1 d)) fun ds => (fun ds s4 => on1 (fun t5 => (M.bind (M.bind (M.ret []) chkL) fun o6 => (seqO (M.bind (M.bind (M.ret s4) seqOf) fun xs => forO (fun d s => M.bind (M.lift (un1 d)) fun ds => (fun ds s7 => on1 (fun t8 => (seqO (M.bind (M.bind (M.bind (M.bind (M.bind (M.ret t8) fun d12 => M.bind (M.bind (M.bind (M.ret (.int 0)) fun d9 => M.bind (M.ret (.int 1)) fun d10 => dSub d9 d10) fun d11 => (mkT (d11 :: []))) fun d13 => addD d12 d13) fun d14 => (fMax (d14 :: []))) fun d15 => M.bind (M.ret (.int 2)) fun d16 => addD d15 d16) rng1) fun xs => forO (fun d s => M.bind (M.lift (un1 d)) fun ds => (fun ds s17 => on1 (fun t18 => (M.bind (M.bind (M.bind (M.bind (lcM (M.bind (M.ret t5) rng1) un1 (on1 fun t19 => (M.bind (M.bind (M.bind (M.ret t8) fun d20 => M.bind (M.ret t19) fun d21 => dGet d20 d21) fun d22 => M.bind (M.ret t18) fun d23 => dEq d22 d23) tru)) (on1 fun t19 => (M.bind (M.bind (M.ret a0) fun d24 => M.bind (M.ret t5) fun d25 => dGet d24 d25) fun d26 => (M.bind (M.bind (M.ret a0) fun d27 => M.bind (M.ret t19) fun d28 => dGet d27 d28) fun d29 => (m__law_agree [d26, d29]))))) fun l30 => M.ret (.list l30)) fun d31 => (fAll (d31 :: []))) tru) fun z36 => M.ite z36 (M.bind (M.bind (M.ret t8) fun d33 => M.bind (M.bind (M.ret t18) fun d32 => (mkT (d32 :: []))) fun d34 => addD d33 d34) fun v35 => M.ite (Nat.blt (List.length s17) sz) (M.ret (.nx (s17 ++ [v35]))) M.fail) (M.ret (.nx s17)))) ds) ds s) xs s7) fun s37 => (M.ret (.nx s37)))) ds) ds s) xs o6) fun s38 => (M.bind (M.ret (.list s38)) fun v39 => (M.ret (.nx v39)))))) ds) ds s) xs v2) fun s40 => (M.bind (M.ret s40) fun d41 => M.ret (.rt d41))))

def m__law_right : List D → M D := on0 (fnM (S := Unit) (M.bind (M.bind (M.ret (.int 4)) fun d1 => (M.bind (M.ret (.int 3)) fun d2 => (m__law_values [d1, d2]))) fun v3 => (M.bind (M.bind (M.bind (lcM (M.bind (M.bind (M.bind (M.ret (.int 0)) fun d4 => (M.bind (M.ret (.int 1)) fun d5 => (M.bind (M.ret (.int 2)) fun d6 => (M.bind (M.ret (.int 3)) fun d7 => (M.bind (M.ret (.int 4)) fun d8 => (M.bind (M.ret (.int 5)) fun d9 => (M.bind (M.ret (.int 6)) fun d10 => (mkL (d4 :: (d5 :: (d6 :: (d7 :: (d8 :: (d9 :: (d10 :: []))))))))))))))) fun d11 => (m__law_pull [d11])) rng1) un1 (fun _ => M.ret true) (on1 fun t12 => (M.bind (M.ret v3) fun d13 => (m__law_open [d13])))) fun l14 => M.ret (.list l14)) fun d15 => (fTuple (d15 :: []))) fun v16 => (M.bind (M.bind (M.ret v16) fun d17 => (m__law_groupings [d17])) fun v18 => (M.bind (M.bind (M.bind (lcM (M.bind (M.ret v18) seqOf) un1 (fun _ => M.ret true) (on1 fun t19 => (M.bind (M.ret t19) lenSetD))) fun l20 => M.ret (.list l20)) fun d21 => (fMin (d21 :: []))) fun v22 => (M.bind (M.bind (M.bind (lcM (M.bind (M.ret v18) seqOf) un1 (on1 fun t23 => (M.bind (M.bind (M.bind (M.ret t23) lenSetD) fun d24 => M.bind (M.ret v22) fun d25 => dEq d24 d25) tru)) (on1 fun t23 => (M.ret t23))) fun l26 => M.ret (.list l26)) fun d27 => (fMin (d27 :: []))) fun v28 => (seqO (M.bind (M.bind (M.bind (M.bind (M.bind (M.bind (M.ret v3) fun d29 => (M.bind (M.ret v16) fun d30 => (m_fewest_unions [d29, d30]))) fun d31 => (M.bind (M.bind (M.ret v16) fun d32 => (M.bind (M.ret v3) fun d33 => (m_fewest_unions [d33, d32]))) fun d34 => (mkL (d31 :: (d34 :: []))))) fun d35 => (fRepr (d35 :: []))) fun d39 => M.bind (M.bind (M.bind (M.ret v22) fun d36 => (M.bind (M.ret v22) fun d37 => (mkL (d36 :: (d37 :: []))))) fun d38 => (fRepr (d38 :: []))) fun d40 => dNe d39 d40) tru) fun z42 => M.ite z42 (M.bind (M.ret (.bool false)) fun d41 => M.ret (.rt d41)) (M.ret (.nx ()))) fun s43 => (seqO (M.bind (M.bind (M.bind (M.bind (M.bind (M.bind (M.ret v3) fun d44 => (M.bind (M.ret v16) fun d45 => (m_first_grouping [d44, d45]))) fun d46 => (M.bind (M.bind (M.ret v16) fun d47 => (M.bind (M.ret v3) fun d48 => (m_first_grouping [d48, d47]))) fun d49 => (mkL (d46 :: (d49 :: []))))) fun d50 => (fRepr (d50 :: []))) fun d54 => M.bind (M.bind (M.bind (M.ret v28) fun d51 => (M.bind (M.ret v28) fun d52 => (mkL (d51 :: (d52 :: []))))) fun d53 => (fRepr (d53 :: []))) fun d55 => dNe d54 d55) tru) fun z57 => M.ite z57 (M.bind (M.ret (.bool false)) fun d56 => M.ret (.rt d56)) (M.ret (.nx ()))) fun s58 => (seqO (M.bind (M.bind (M.ret v22) rng1) fun xs => forO (fun d s => M.bind (M.lift (un1 d)) fun ds => (fun ds s59 => on1 (fun t60 => (M.bind (M.bind (M.bind (lcM (M.bind (M.bind (M.ret v16) fun d61 => (fLen (d61 :: []))) rng1) un1 (on1 fun t62 => (M.bind (M.bind (M.bind (M.ret v28) fun d63 => M.bind (M.ret t62) fun d64 => dGet d63 d64) fun d65 => M.bind (M.ret t60) fun d66 => dEq d65 d66) tru)) (on1 fun t62 => (M.bind (M.ret v16) fun d67 => M.bind (M.ret t62) fun d68 => dGet d67 d68))) fun l69 => M.ret (.list l69)) fun d70 => (fTuple (d70 :: []))) fun v71 => (M.bind (M.or (M.bind (M.bind (M.bind (M.ret v3) fun d72 => (M.bind (M.ret v71) fun d73 => (m_union [d72, d73]))) fun d76 => M.bind (M.bind (M.ret v3) fun d74 => (M.bind (M.ret v71) fun d75 => (m__law_union [d74, d75]))) fun d77 => dNe d76 d77) tru) (M.bind (M.bind (M.bind (M.ret v3) fun d78 => (M.bind (M.ret v71) fun d79 => (m_do_go_together [d78, d79]))) fun d80 => M.bind (M.ret (.bool true)) fun d81 => isB true d80 d81) tru)) fun z83 => M.ite z83 (M.bind (M.ret (.bool false)) fun d82 => M.ret (.rt d82)) (M.ret (.nx ()))))) ds) ds s) xs ()) fun s84 => (seqO (M.bind (M.and (M.bind (M.bind (M.ret v16) fun d85 => M.bind (mkT []) fun d86 => dNe d85 d86) tru) (M.bind (M.bind (M.bind (M.ret v22) fun d87 => M.bind (M.ret (.int 1)) fun d88 => dEq d87 d88) fun d91 => M.bind (M.bind (M.ret v3) fun d89 => (M.bind (M.ret v16) fun d90 => (m_do_go_together [d89, d90]))) fun d92 => dNe d91 d92) tru)) fun z94 => M.ite z94 (M.bind (M.ret (.bool false)) fun d93 => M.ret (.rt d93)) (M.ret (.nx ()))) fun s95 => (M.bind (M.bind (M.bind (M.ret v3) fun d96 => (M.bind (M.bind (M.ret v16) fun d97 => M.bind (M.bind (M.ret (.int 1)) dInt) fun d98 => M.bind (M.ret none) fun d99 => dCut d98 d99 d97) fun d100 => (m_fewest_unions [d96, d100]))) fun d101 => M.bind (M.ret v22) fun d102 => dLe d101 d102) fun d103 => M.ret (.rt d103))))))))))))

def m_law_laps (a0 : D) : M (List D) := (M.bind (M.bind (M.ret (.int 2)) fun d1 => (M.bind (M.bind (M.bind (M.ret a0) fun d2 => (fLen (d2 :: []))) fun d3 => (M.bind (M.ret (.int 3)) fun d4 => (fMin (d3 :: (d4 :: []))))) fun d5 => (fMax (d1 :: (d5 :: []))))) rng1)
def m_law_body (a0 d : D) : M (Out Unit) := (M.bind (M.not (M.bind (M.bind (M.bind (lcM (M.bind (M.ret (.int 10)) rng1) un1 (fun _ => M.ret true) (on1 fun t6 => (m__law_right []))) fun l7 => M.ret (.list l7)) fun d8 => (fAll (d8 :: []))) tru)) fun z10 => M.ite z10 (M.bind (M.ret (.bool false)) fun d9 => M.ret (.rt d9)) (M.ret (.nx ())))

end GL
namespace GL
open PySem PySem.Spec PyProof.Rows L2 LamX
/-! ### the draws -/
theorem bind_bagG {α : Type} (k : Nat) (f : D → M α) (t : Int × Int × Int) : M.bind (bagG k) f (some t) = f (.int (bagI k t)) (some t) := rfl
theorem bind_bagP {α : Type} (k : Nat) (v : Int) (f : Unit → M α) (t : Int × Int × Int) : M.bind (bagP k (.int v)) f (some t) = f () (some (bagW k t v)) := rfl
theorem take_a {m x y z : Int} (h1 : 0 < m) (h2 : m < 1073741824) (hx : 0 < x) : m__law_take [.int m] (some (x, y, z)) = some (.ok (.int (x % m)), some (x / m, y, z)) := by
  have h3 : decide ((0 : Int) < x) = true := decide_eq_true hx
  simp -implicitDefEqProofs only [m__law_take, on1_eq, fnM, seqO, M.bind_assoc, M.ret_bind, bind_bagG, dGt_int, tru_bool, bagI, h3, mite_t, fDivmod_int h1 h2, two, bind_bagP, bagW]
  rfl
theorem take_b {m x y z : Int} (h1 : 0 < m) (h2 : m < 1073741824) (hx : ¬ 0 < x) (hy : 0 ≤ y ∧ y < 2147483647) (hz : 0 ≤ z ∧ z < 1000000) :
    ∃ y', 0 ≤ y' ∧ y' < 2147483647 ∧ m__law_take [.int m] (some (x, y, z)) = some (.ok (.int (y' / 911 % m)), some (x, y', z + 1)) := by
  have h3 : decide ((0 : Int) < x) = false := decide_eq_false hx
  have e1 : mulD (.int y) (.int 16807) = M.ret (.int (y * 16807)) := mulD_int (n := 31) (m := 31) (by omega) (by omega) (by omega)
  have q1 : (0 : Int) < 2147483647 := by omega
  have q2 : (0 : Int) < 911 := by omega
  have q3 : (911 : Int) < 1073741824 := by omega
  have e2 : mulD (.int 4099) (.int (z + 1)) = M.ret (.int (4099 * (z + 1))) := mulD_int (n := 31) (m := 31) (by omega) (by omega) (by omega)
  refine ⟨(y * 16807 + 4099 * (z + 1) + 1) % 2147483647, by omega, by omega, ?_⟩
  simp -implicitDefEqProofs only [m__law_take, on1_eq, fnM, seqO, M.bind_assoc, M.ret_bind, bind_bagG, dGt_int, tru_bool, bagI, h3, mite_f, addD_int, bind_bagP, bagW, e1, e2, fInt_int, modD_int q1, fdvD_int q2 q3, modD_int h1]
  rfl
theorem take_dr {m : Nat} (h1 : 0 < m) (h2 : m < 1073741824) : Draws (m__law_take [.int (m : Int)]) 1 fun d => ∃ r : Nat, r < m ∧ d = .int (r : Int) := by
  rintro n ⟨x, y, z⟩ hn ⟨i1, i2, i3, i4, i5⟩
  simp only at i1 i2 i3 i4 i5
  have hm : (0 : Int) < m := by omega
  have rr : ∀ i : Int, ∃ r : Nat, r < m ∧ PyData.int (i % (m : Int)) = .int (r : Int) := fun i => by
    have a := Int.emod_nonneg i (show (m : Int) ≠ 0 by omega)
    have c := Int.emod_lt_of_pos i hm
    exact ⟨(i % (m : Int)).toNat, by omega, by rw [Int.toNat_of_nonneg a]⟩
  by_cases hx : 0 < x
  · refine ⟨_, _, take_a hm (by omega) hx, ⟨Int.ediv_nonneg i1 (by omega), i2, i3, i4, by simp only; omega⟩, rr x⟩
  · obtain ⟨y', a1, a2, e⟩ := take_b hm (by omega) hx ⟨i2, i3⟩ ⟨i4, by omega⟩
    exact ⟨_, _, e, ⟨i1, a1, a2, by simp only; omega, by simp only; omega⟩, rr _⟩
theorem pull_dr {xs : List D} (h1 : xs ≠ []) (h2 : xs.length < 1073741824) : Draws (m__law_pull [.list xs]) 1 fun d => d ∈ xs := by
  have hl : 0 < xs.length := List.length_pos_iff.mpr h1
  have e : m__law_pull [.list xs] = M.bind (m__law_take [.int (xs.length : Int)]) fun d4 => dGet (.list xs) d4 := by
    simp -implicitDefEqProofs only [m__law_pull, on1_eq, M.ret_bind, fLen_list, fnM, M.bind_assoc]
    exact M.bind_congr fun a => M.bind_ret _
  rw [e]
  refine (Draws.bind (d := 0) (take_dr hl h2) fun d ⟨r, hr, hd⟩ => ?_)
  subst hd
  exact .of (dGet_l (List.getElem?_eq_getElem hr)) (List.getElem_mem hr)
/-- [2 + pull(..) for ..] -/
def valsD (vs : List Nat) : D := .tuple (vs.map fun v : Nat => PyData.int (v : Int))
theorem values_dr : Draws (m__law_values [.int 4, .int 3]) 20 fun d => ∃ vs : List Nat, d = valsD vs ∧ 2 ≤ vs.length ∧ vs.length ≤ 4 ∧ ∀ v ∈ vs, 2 ≤ v ∧ v ≤ 4 := by
  have e : m__law_values [.int 4, .int 3] = M.bind (lcM (M.bind (m__law_take [.int ((3 : Nat) : Int)]) fun d5 => M.bind (addD (.int 2) d5) rng1) un1 (fun _ => M.ret true) (on1 fun t6 => M.bind (m__law_pull [.list [.int 0, .int 0, .int 0, .int 1, .int 2]]) fun d19 => addD (.int 2) d19)) fun l => M.ret (.tuple l) := by
    have k : mkL [.int 0, .int 0, .int 0, .int 1, .int 2] = M.ret (.list [.int 0, .int 0, .int 0, .int 1, .int 2]) := mkL_ok (by decide)
    have c : dCut none (some (3 + 2)) (.list [.int 0, .int 0, .int 0, .int 1, .int 2]) = M.ret (.list [.int 0, .int 0, .int 0, .int 1, .int 2]) := rfl
    simp -implicitDefEqProofs only [m__law_values, on2_eq, fnM, M.ret_bind, M.bind_assoc, dSub_int, addD_int, dInt_int, k, c, fTuple_list]
    rfl
  rw [e]
  have p1 : Draws (M.bind (m__law_take [.int ((3 : Nat) : Int)]) fun d5 => M.bind (addD (.int 2) d5) rng1) 1 fun xs => (∃ n : Nat, xs = (List.range n).map (fun i => PyData.int ((i : Nat) : Int)) ∧ 2 ≤ n ∧ n ≤ 4) :=
    Draws.bind (d := 0) (take_dr (by decide) (by decide)) fun d ⟨r, hr, hd⟩ => by
      subst hd
      rw [addD_int, M.ret_bind, show (2 : Int) + (r : Int) = ((2 + r : Nat) : Int) by omega, rng1_nat (by omega)]
      exact .ret ⟨2 + r, rfl, by omega, by omega⟩
  have p2 := Draws.lc (L := fun n => 2 ≤ n) (P := fun y => ∃ v : Nat, y = PyData.int (v : Int) ∧ 2 ≤ v ∧ v ≤ 4) (k := 4) (d := 1) (un := un1) (mt := fun _ => M.ret true) (me := on1 fun t6 => M.bind (m__law_pull [.list [.int 0, .int 0, .int 0, .int 1, .int 2]]) fun d19 => addD (.int 2) d19) (p1.mono (Nat.le_refl _) fun xs ⟨n, e, h1, h2⟩ => ⟨by rw [e]; simpa using h1, by rw [e]; simpa using h2, fun x hx => Draws.item (un1_eq x) (by
    refine (Draws.bind (d := 0) (pull_dr (by simp) (by simp)) fun d hd => ?_)
    simp only [List.mem_cons, List.not_mem_nil, or_false] at hd
    rcases hd with rfl | rfl | rfl | rfl | rfl
    · exact .ret ⟨2, rfl, by omega, by omega⟩
    · exact .ret ⟨2, rfl, by omega, by omega⟩
    · exact .ret ⟨2, rfl, by omega, by omega⟩
    · exact .ret ⟨3, rfl, by omega, by omega⟩
    · exact .ret ⟨4, rfl, by omega, by omega⟩)⟩) (by omega)
  refine (Draws.bind (d := 0) p2 fun ys ⟨h1, h2, h3⟩ => ?_).mono (by omega) fun _ h => h
  obtain ⟨vs, e3, h4⟩ := all_enc h3
  subst e3
  rw [List.length_map] at h1 h2
  exact .ret ⟨vs, rfl, h1, h2, h4⟩
/-- open trials -/
def optD : Option Nat → D
  | none => .none
  | some i => .int (i : Int)
def tupO (t : List (Option Nat)) : D := .tuple (t.map optD)
/-- t sets what it sets within vs -/
def Fits : List Nat → List (Option Nat) → Prop
  | [], [] => True
  | v :: vs, o :: t => (∀ i, o = some i → i < v) ∧ Fits vs t
  | _, _ => False
theorem open_dr {vs : List Nat} (hv : ∀ v ∈ vs, 2 ≤ v ∧ v ≤ 4) (hl : vs.length ≤ 4) : Draws (m__law_open [valsD vs]) 8 fun d => ∃ t, d = tupO t ∧ Fits vs t := by
  have e : m__law_open [valsD vs] = M.bind (lcM (M.ret (vs.map fun v : Nat => PyData.int (v : Int))) un1 (fun _ => M.ret true) (on1 fun t1 => M.bind (m__law_take [.int ((2 : Nat) : Int)]) fun d3 => M.bind (dEq d3 (.int 0)) fun a => M.bind (tru a) fun z6 => M.ite z6 (M.ret .none) (m__law_take [t1]))) fun l => M.ret (.tuple l) := by
    simp -implicitDefEqProofs only [m__law_open, on1_eq, fnM, M.ret_bind, M.bind_assoc, fTuple_list, valsD, seqOf_tuple]
    rfl
  rw [e]
  have step : ∀ x ∈ (vs.map fun v : Nat => PyData.int (v : Int)), Draws (itemM un1 (fun _ => M.ret true) (on1 fun t1 => M.bind (m__law_take [.int ((2 : Nat) : Int)]) fun d3 => M.bind (dEq d3 (.int 0)) fun a => M.bind (tru a) fun z6 => M.ite z6 (M.ret .none) (m__law_take [t1])) x) 2
      fun ys => ∃ y, ys = [y] ∧ ∀ v : Nat, x = .int (v : Int) → ∃ o, y = optD o ∧ ∀ i, o = some i → i < v := fun x hx => by
    obtain ⟨v, hv1, rfl⟩ := List.mem_map.mp hx
    refine Draws.item (un1_eq _) ?_
    rw [on1_eq]
    refine (Draws.bind (d := 1) (take_dr (by omega) (by omega)) fun d ⟨r, hr, hd⟩ => ?_)
    subst hd
    rw [dEq_int, M.ret_bind, tru_bool, M.ret_bind]
    by_cases h0 : (r : Int) = 0
    · rw [decide_eq_true h0, mite_t]
      exact Draws.mono (P := fun y => y = PyData.none) (.ret rfl) (Nat.zero_le _) fun y e w _ => ⟨none, e, fun i ei => by cases ei⟩
    · rw [decide_eq_false h0, mite_f]
      refine (take_dr (by have := hv v hv1; omega) (by have := hv v hv1; omega)).mono (Nat.le_refl _) fun d ⟨q, hq, e⟩ w ew => ?_
      have : v = w := by
        have := PyData.int.inj ew
        omega
      subst this
      exact ⟨some q, e, fun i ei => by cases ei; exact hq⟩
  refine (Draws.bind (d := 0) (Draws.lc2 (k := 4) step (by rw [List.length_map]; exact hl) (by omega)) fun ys h => ?_).mono (by omega) fun _ h => h
  have key : ∀ (vs : List Nat) (ys : List D), All2 (fun x y => ∀ v : Nat, x = PyData.int (v : Int) → ∃ o, y = optD o ∧ ∀ i, o = some i → i < v) (vs.map fun v : Nat => PyData.int (v : Int)) ys → ∃ t : List (Option Nat), ys = t.map optD ∧ Fits vs t := by
    intro vs
    induction vs with
    | nil => intro ys h; cases h; exact ⟨[], rfl, trivial⟩
    | cons v vs ih =>
      intro ys h
      cases h with
      | cons h1 h2 =>
        obtain ⟨o, e1, p1⟩ := h1 v rfl
        obtain ⟨t, e2, p2⟩ := ih _ h2
        exact ⟨o :: t, by rw [e1, e2]; rfl, p1, p2⟩
  obtain ⟨t, e2, p2⟩ := key vs ys h
  subst e2
  exact .ret ⟨t, rfl, p2⟩
end GL
namespace GL
open PySem PySem.Spec PyProof.Rows L2 LamX
abbrev Tr := List (Option Nat)
def ag1 (p : Option Nat × Option Nat) : Bool := p.1.isNone || p.2.isNone || p.1 == p.2
def ag (a c : Tr) : Bool := (a.zip c).all ag1
def seqD (ts : List Tr) : List D := ts.map tupO
def trD (ts : List Tr) : D := .tuple (seqD ts)
theorem zipD_opt (a c : Tr) : zipD (a.map optD) (c.map optD) = (a.zip c).map fun p => PyData.tuple [optD p.1, optD p.2] := by
  unfold zipD
  rw [List.zip_map, List.map_map]
  rfl
theorem isN_opt (o : Option Nat) : isN (optD o) = o.isNone := by cases o <;> rfl
theorem fits_len : ∀ {vs : List Nat} {t : Tr}, Fits vs t → t.length = vs.length
  | [], [], _ => rfl
  | v :: vs, o :: t, h => by rw [List.length_cons, List.length_cons, fits_len h.2]
  | [], _ :: _, h => h.elim
  | _ :: _, [], h => h.elim
theorem go_two_eq {a c : Tr} (h : a.length ≤ 1000) : m_go_two [tupO a, tupO c] = M.ret (.bool (ag a c)) := by
  have z : zip2 (tupO a) (tupO c) = M.ret ((a.zip c).map fun p => PyData.tuple [optD p.1, optD p.2]) := by
    show M.ret (zipD _ _) = _
    rw [zipD_opt]
  have l : lcM (M.ret ((a.zip c).map fun p => PyData.tuple [optD p.1, optD p.2])) (unT 2) (fun _ => M.ret true) (on2 fun t3 t4 => orB (.bool (isN t3)) (orB (.bool (isN t4)) (dEq t3 t4))) = M.ret ((a.zip c).map fun p => PyData.bool (ag1 p)) := by
    refine lcM_map _ _ (fun p _ => ?_) (by rw [List.length_zip]; omega)
    rw [itemM_one (unT2 _ _), on2_eq]
    simp -implicitDefEqProofs only [M.ret_bind, isN_opt]
    obtain ⟨x, y⟩ := p
    cases x with
    | none => rfl
    | some i =>
      cases y with
      | none => rfl
      | some j =>
        show M.bind (dEq (.int i) (.int j)) _ = _
        rw [dEq_int, M.ret_bind]
        congr 3
        unfold ag1
        show decide ((i : Int) = (j : Int)) = (false || false || (some i == some j))
        by_cases h : i = j
        · subst h; simp
        · rw [decide_eq_false (by omega)]; simp [h]
  simp -implicitDefEqProofs only [m_go_two, on2_eq, fnM, M.bind_assoc, M.ret_bind, z, l, fAll_map]
  rfl
theorem agree_eq {a c : Tr} (h : a.length ≤ 1000) : m__law_agree [tupO a, tupO c] = M.ret (.bool (ag a c)) := by
  have z : zip2 (tupO a) (tupO c) = M.ret ((a.zip c).map fun p => PyData.tuple [optD p.1, optD p.2]) := by
    show M.ret (zipD _ _) = _
    rw [zipD_opt]
  have l : lcM (M.ret ((a.zip c).map fun p => PyData.tuple [optD p.1, optD p.2])) (unT 2) (fun _ => M.ret true) (on2 fun t3 t4 => andB (.bool (!isN t3)) (andB (.bool (!isN t4)) (dNe t3 t4))) = M.ret ((a.zip c).map fun p => PyData.bool (!ag1 p)) := by
    refine lcM_map _ _ (fun p _ => ?_) (by rw [List.length_zip]; omega)
    rw [itemM_one (unT2 _ _), on2_eq]
    simp -implicitDefEqProofs only [M.ret_bind, isN_opt]
    obtain ⟨x, y⟩ := p
    cases x with
    | none => rfl
    | some i =>
      cases y with
      | none => rfl
      | some j =>
        show M.bind (dNe (.int i) (.int j)) _ = _
        rw [dNe_int, M.ret_bind]
        congr 3
        unfold ag1
        show (!decide ((i : Int) = (j : Int))) = !(false || false || (some i == some j))
        by_cases h : i = j
        · subst h; simp
        · rw [decide_eq_false (by omega)]; simp [h]
  simp -implicitDefEqProofs only [m__law_agree, on2_eq, fnM, M.bind_assoc, M.ret_bind, z, l, fAny_map, notB_bool]
  have : (!(a.zip c).any fun p => !ag1 p) = ag a c := by
    unfold ag
    rw [List.any_eq_not_all_not]
    simp
  rw [this]
theorem fm_one {α β : Type} (f : α → β) : ∀ l : List α, (l.flatMap fun w => [f w]) = l.map f
  | [] => rfl
  | w :: l => by rw [List.flatMap_cons, fm_one f l]; rfl
theorem sum_same {α : Type} (n : Nat) : ∀ l : List α, (l.map fun _ => n).sum = l.length * n
  | [] => by simp
  | w :: l => by rw [List.map_cons, List.sum_cons, sum_same n l, List.length_cons, Nat.succ_mul, Nat.add_comm]
/-! ### [f(a, c) for a in xs for c in ys] -/
theorem lcM2_map {α β : Type} {un un1 : D → Option (List D)} {mi1 : List D → M (List D)} {me : List D → List D → M D} (enc : α → D) (enc2 : β → D) (e : α → β → D) {zs : List α} {ws : List β} {fu : α → List D} {gu : β → List D} (h1 : ∀ z ∈ zs, un (enc z) = some (fu z)) (h2 : ∀ z ∈ zs, mi1 (fu z) = M.ret (ws.map enc2))
    (h3 : ∀ w ∈ ws, un1 (enc2 w) = some (gu w)) (h4 : ∀ z ∈ zs, ∀ w ∈ ws, me (fu z) (gu w) = M.ret (e z w)) (hl : zs.length * ws.length ≤ 16777216) :
    lcM2 (M.ret (zs.map enc)) un (fun _ => M.ret true) mi1 un1 (fun _ _ => M.ret true) me = M.ret (zs.flatMap fun z => ws.map (e z)) := by
  unfold lcM2
  have k : ∀ z ∈ zs, itemM2 un (fun _ => M.ret true) mi1 un1 (fun _ _ => M.ret true) me (enc z) = M.ret (ws.map (e z)) := fun z hz => by
    unfold itemM2
    rw [h1 z hz, M.lift_some, M.ret_bind, M.ret_bind, mite_t, h2 z hz, M.ret_bind, compM_enc enc2 (g := fun w => [e z w]) fun w hw => ?_]
    · rw [fm_one]
    · rw [itemM_one (h3 w hw), h4 z hz w hw]
      rfl
  rw [M.ret_bind, compM_enc enc k, M.ret_bind, chkL_ok]
  have : (zs.flatMap fun z => ws.map (e z)).length = zs.length * ws.length := by
    rw [List.length_flatMap]
    simp only [List.length_map]
    exact sum_same _ _
  omega
def goAll (ts : List Tr) : Bool := ts.all fun a => ts.all fun c => ag a c
theorem go_all_eq {d : D} {ts : List Tr} (hd : seqOf d = M.ret (seqD ts)) (hl : ts.length ≤ 1000) (hn : ∀ t ∈ ts, t.length ≤ 1000) : m_go_all [d] = M.ret (.bool (goAll ts)) := by
  have l : lcM2 (M.ret (ts.map tupO)) un1 (fun _ => M.ret true) (on1 fun t1 => M.bind (M.ret d) seqOf) un1 (fun _ _ => M.ret true) (fun ds es => on1 (fun t1 => on1 (fun t2 => (M.bind (M.ret t1) fun d3 => (M.bind (M.ret t2) fun d4 => (m_go_two [d3, d4])))) es) ds) = M.ret (ts.flatMap fun a => ts.map fun c => PyData.bool (ag a c)) :=
    lcM2_map tupO tupO (fun a c => PyData.bool (ag a c)) (fun _ _ => rfl) (fun _ _ => by rw [on1_eq, M.ret_bind]; exact hd) (fun _ _ => rfl) (fun a ha c hc => go_two_eq (hn a ha)) (Nat.le_trans (Nat.mul_le_mul hl hl) (by omega))
  have e : (ts.flatMap fun a => ts.map fun c => PyData.bool (ag a c)) = ((ts.flatMap fun a => ts.map fun c => ag a c).map fun z => PyData.bool (id z)) := by
    rw [List.map_flatMap]
    congr 1
    funext a
    rw [List.map_map]
    rfl
  simp -implicitDefEqProofs only [m_go_all, on1_eq, fnM, M.bind_assoc, M.ret_bind, hd, seqD] at l ⊢
  rw [l, M.ret_bind, e, fAll_map]
  simp only [M.ret_bind]
  congr 2
  unfold goAll
  rw [List.all_flatMap]
  congr 1
  funext a
  rw [List.all_map]
  rfl
end GL
namespace GL
open PySem PySem.Spec PyProof.Rows L2 LamX
theorem enumD_map (xs : List D) : ∀ i (hi : i < (enumD xs).length), ∃ x, xs[i]? = some x ∧ (enumD xs)[i] = .tuple [.int (i : Int), x] := fun i hi => by
  have hl : i < xs.length := by rw [enumD_len] at hi; exact hi
  refine ⟨xs[i], List.getElem?_eq_getElem hl, ?_⟩
  have := enumD_at (List.getElem?_eq_getElem hl)
  rw [List.getElem?_eq_getElem hi] at this
  exact Option.some.inj this
theorem fw_ok {Mc : List D → M D} {xs : List D} (h : ∀ (i : Nat) (x : D), xs[i]? = some x → Mc [x, .tuple (xs.take i)] = M.ret (.bool true)) : m_first_wrong Mc [.tuple xs] = M.ret .none := by
  have l : ∀ f : D → Unit → M (Out Unit), (∀ i (hi : i < (enumD xs).length), f (enumD xs)[i] () = M.ret (.nx ())) → forO f (enumD xs) () = M.ret (.nx ()) := fun f hf => forO_steps (f := f) (enumD xs) (fun _ => ()) hf
  simp -implicitDefEqProofs only [m_first_wrong, on1_eq, M.ret_bind, seqOf_tuple, M.bind_assoc]
  rw [l]
  · rfl
  · intro i hi
    obtain ⟨x, e1, e2⟩ := enumD_map xs i hi
    rw [e2, unT2, M.lift_some, M.ret_bind, on2_eq]
    have c : dCut none (some (i : Int)) (.tuple xs) = M.ret (.tuple (xs.take i)) := by
      show M.ret (PyData.tuple (cut xs none (some (i : Int)))) = _
      rw [cut_to]
    simp -implicitDefEqProofs only [M.ret_bind, dInt_int, c, h i x e1, tru_bool, mnot_ret]
    rfl
theorem dChain_int (i j k : Int) : dChain dLe dLe (M.ret (.int i)) (M.ret (.int j)) (M.ret (.int k)) = M.ret (.bool (decide (i ≤ j) && decide (j ≤ k))) := by
  unfold dChain
  simp -implicitDefEqProofs only [M.ret_bind, dLe_int]
  cases decide (i ≤ j) <;> rfl
theorem is_between_ok {i a c : Int} (h1 : a ≤ i) (h2 : i ≤ c) : m_is_between [.int i, .int a, .int c] = M.ret (.bool true) := by
  have w : m_is_whole [.int i] = M.ret (.bool true) := rfl
  simp -implicitDefEqProofs only [m_is_between, on3_eq, fnM, M.ret_bind, w, dChain_int, andB_t, decide_eq_true h1, decide_eq_true h2]
  rfl
theorem is_row_ok {xs : List D} {a c : Int} (h1 : a ≤ xs.length) (h2 : (xs.length : Int) ≤ c) : m_is_row [.tuple xs, .int a, .int c] = M.ret (.bool true) := by
  have w : PyData.isTuple (.tuple xs) = true := rfl
  simp -implicitDefEqProofs only [m_is_row, on3_eq, fnM, M.ret_bind, w, fLen_tuple, dChain_int, andB_t, decide_eq_true h1, decide_eq_true h2]
  rfl
theorem check_values_ok {vs : List Nat} (hl : 2 ≤ vs.length) (hu : vs.length ≤ 6) (hv : ∀ v ∈ vs, 2 ≤ v ∧ v ≤ 4) : m_check_values [valsD vs] = M.ret .none := by
  have r : m_is_row [valsD vs, .int 2, .int 6] = M.ret (.bool true) := is_row_ok (by rw [List.length_map]; omega) (by rw [List.length_map]; omega)
  have wn : m_wrong_number [valsD vs] = M.ret .none := by
    have : ∀ Mc : List D → M D, (∀ (i : Nat) (x : D), (vs.map fun v : Nat => PyData.int (v : Int))[i]? = some x → Mc [x, .tuple ((vs.map fun v : Nat => PyData.int (v : Int)).take i)] = M.ret (.bool true)) → m_first_wrong Mc [valsD vs] = M.ret .none := fun Mc h => fw_ok h
    simp -implicitDefEqProofs only [m_wrong_number, on1_eq, M.ret_bind]
    rw [this]
    · first | done | rfl
    · intro i x hx
      rw [on2_eq]
      rw [List.getElem?_map] at hx
      cases e : vs[i]? with
      | none => rw [e] at hx; cases hx
      | some v =>
        rw [e] at hx
        cases hx
        have := hv v (List.mem_of_getElem? e)
        exact is_between_ok (by omega) (by omega)
  simp -implicitDefEqProofs only [m_check_values, on1_eq, fnM, M.ret_bind, r, tru_bool, mnot_ret, Bool.not_true, mite_f, seqO_nx, wn, isN_none]
theorem is_open_ok {vs : List Nat} {t : Tr} (hl : vs.length ≤ 6) (h : Fits vs t) : m_is_open [valsD vs, tupO t] = M.ret (.bool true) := by
  have ht := fits_len h
  have r : m_is_tuple_of [tupO t, .int (vs.length : Int)] = M.ret (.bool true) := by
    have w : PyData.isTuple (tupO t) = true := rfl
    have k : fLen [tupO t] = M.ret (.int (t.length : Int)) := by
      show M.ret (PyData.int ((t.map optD).length : Nat)) = _
      rw [List.length_map]
    simp -implicitDefEqProofs only [m_is_tuple_of, on2_eq, fnM, M.ret_bind, w, k, andB_t, dEq_int, ht, decide_true]
  have z : zip2 (tupO t) (valsD vs) = M.ret ((t.zip vs).map fun p => PyData.tuple [optD p.1, .int (p.2 : Int)]) := by
    show M.ret (zipD _ _) = _
    unfold zipD
    rw [List.zip_map, List.map_map]
    rfl
  have key : ∀ (vs : List Nat) (t : Tr), Fits vs t → ∀ p ∈ t.zip vs, ∀ i, p.1 = some i → i < p.2 := by
    intro vs
    induction vs with
    | nil => intro t _ p hp; simp at hp
    | cons v vs ih =>
      intro t h p hp
      cases t with
      | nil => simp at hp
      | cons o t =>
        rw [List.zip_cons_cons] at hp
        rcases List.mem_cons.mp hp with rfl | hp
        · exact h.1
        · exact ih t h.2 p hp
  have l : lcM (M.ret ((t.zip vs).map fun p => PyData.tuple [optD p.1, .int (p.2 : Int)])) (unT 2) (fun _ => M.ret true) (on2 fun t9 t10 => orB (.bool (isN t9)) (M.bind (dSub t10 (.int 1)) fun d16 => m_is_between [t9, .int 0, d16])) = M.ret ((t.zip vs).map fun _ => PyData.bool true) := by
    refine lcM_map _ _ (fun p hp => ?_) (by rw [List.length_zip]; omega)
    rw [itemM_one (unT2 _ _), on2_eq, dSub_int, M.ret_bind]
    obtain ⟨o, v⟩ := p
    cases o with
    | none => rfl
    | some i =>
      have := key vs t h _ hp i rfl
      have k : m_is_between [optD (some i), .int 0, .int ((v : Int) - 1)] = M.ret (.bool true) := is_between_ok (by omega) (by have : i < v := this; omega)
      simp only [k]
      rfl
  have a : fAll [.list ((t.zip vs).map fun _ => PyData.bool true)] = M.ret (.bool true) := by
    rw [fAll_map (fun _ => true)]
    congr 2
    exact List.all_eq_true.mpr fun _ _ => rfl
  have k : fLen [valsD vs] = M.ret (.int (vs.length : Int)) := by
    show M.ret (PyData.int ((vs.map fun v : Nat => PyData.int (v : Int)).length : Nat)) = _
    rw [List.length_map]
  simp -implicitDefEqProofs only [m_is_open, on2_eq, fnM, M.ret_bind, k, r, tru_bool, mnot_ret, Bool.not_true, mite_f, seqO_nx, z, l, a]
theorem check_opens_ok {vs : List Nat} {ts : List Tr} (hl : vs.length ≤ 6) (hn : ts.length ≤ 6) (h : ∀ t ∈ ts, Fits vs t) : m_check_opens [valsD vs, trD ts] = M.ret .none := by
  have r : m_is_row [trD ts, .int 0, .int 6] = M.ret (.bool true) := is_row_ok (by omega) (by unfold seqD; rw [List.length_map]; omega)
  have wn : m_wrong_open [valsD vs, trD ts] = M.ret .none := by
    have : ∀ Mc : List D → M D, (∀ (i : Nat) (x : D), (seqD ts)[i]? = some x → Mc [x, .tuple ((seqD ts).take i)] = M.ret (.bool true)) → m_first_wrong Mc [trD ts] = M.ret .none := fun Mc h => fw_ok h
    simp -implicitDefEqProofs only [m_wrong_open, on2_eq, M.ret_bind]
    rw [this]
    · rfl
    · intro i x hx
      unfold seqD at hx
      rw [List.getElem?_map] at hx
      cases e : ts[i]? with
      | none => rw [e] at hx; cases hx
      | some t =>
        rw [e] at hx
        cases hx
        exact is_open_ok hl (h t (List.mem_of_getElem? e))
  simp -implicitDefEqProofs only [m_check_opens, on2_eq, fnM, M.ret_bind, r, tru_bool, mnot_ret, Bool.not_true, mite_f, seqO_nx, wn, isN_none]
/-- the machine and the open trials -/
structure Ok (vs : List Nat) (ts : List Tr) : Prop where
  lo : 2 ≤ vs.length
  up : vs.length ≤ 6
  vals : ∀ v ∈ vs, 2 ≤ v ∧ v ≤ 4
  few : ts.length ≤ 6
  fits : ∀ t ∈ ts, Fits vs t
theorem check_ok {vs : List Nat} {ts : List Tr} (o : Ok vs ts) : m_check_opened [valsD vs, trD ts] = M.ret .none := by
  simp -implicitDefEqProofs only [m_check_opened, on2_eq, fnM, M.ret_bind, check_values_ok o.lo o.up o.vals, check_opens_ok o.up o.few o.fits]
theorem Ok.len {vs : List Nat} {ts : List Tr} (o : Ok vs ts) : ∀ t ∈ ts, t.length ≤ 1000 := fun t ht => by
  rw [fits_len (o.fits t ht)]
  exact Nat.le_trans o.up (by omega)
theorem together_eq {vs : List Nat} {ts : List Tr} (o : Ok vs ts) : m_do_go_together [valsD vs, trD ts] = M.ret (.bool (goAll ts)) := by
  have g : m_go_all [trD ts] = M.ret (.bool (goAll ts)) := go_all_eq rfl (Nat.le_trans o.few (by omega)) o.len
  simp -implicitDefEqProofs only [m_do_go_together, on2_eq, fnM, M.ret_bind, check_ok o, g]
theorem union_same : m_union_by = m__law_union := rfl
theorem union_eq {vs : List Nat} {ts : List Tr} (o : Ok vs ts) (h : goAll ts = true) : m_union [valsD vs, trD ts] = M.bind (m__law_union [valsD vs, trD ts]) M.ret := by
  have g : m_go_all [trD ts] = M.ret (.bool true) := by rw [← h]; exact go_all_eq rfl (Nat.le_trans o.few (by omega)) o.len
  simp -implicitDefEqProofs only [m_union, on2_eq, fnM, M.ret_bind, check_ok o, g, tru_bool, mite_t, M.bind_assoc, union_same]
end GL
namespace GL
open PySem PySem.Spec PyProof.Rows L2 LamX
/-- a strict total order -/
structure Sto {α : Type} (lt : α → α → Bool) : Prop where
  irr : ∀ a, lt a a = false
  tr : ∀ a b c, lt a b = true → lt b c = true → lt a c = true
  tri : ∀ a b, lt a b = false → lt b a = false → a = b
/-- what is not less than a least one .. -/
theorem Sto.min_tr {α : Type} {lt : α → α → Bool} (S : Sto lt) {a b c : α} (h1 : lt b a = false) (h2 : lt c b = false) : lt c a = false := by
  cases h : lt c a with
  | false => rfl
  | true =>
    cases h3 : lt a b with
    | true => rw [S.tr c a b h h3] at h2; cases h2
    | false =>
      have := S.tri a b h3 h1
      subst this
      rw [h] at h2
      cases h2
theorem sto_int : Sto (PySem.W.DatumOrd.lt : Int → Int → Bool) where
  irr a := decide_eq_false (by omega)
  tr a b c h1 h2 := by
    have h1 := of_decide_eq_true h1
    have h2 := of_decide_eq_true h2
    exact decide_eq_true (by omega)
  tri a b h1 h2 := by
    have h1 := of_decide_eq_false h1
    have h2 := of_decide_eq_false h2
    omega
theorem sto_list {α : Type} [DecidableEq α] [PySem.W.DatumOrd α] (S : Sto (PySem.W.DatumOrd.lt : α → α → Bool)) : Sto (PySem.W.listLt : List α → List α → Bool) where
  irr a := by
    induction a with
    | nil => rfl
    | cons x xs ih => rw [PySem.W.listLt, if_pos rfl]; exact ih
  tr a := by
    induction a with
    | nil =>
      intro b c h1 h2
      cases b with
      | nil => cases h1
      | cons y ys =>
        cases c with
        | nil => cases h2
        | cons z zs => rfl
    | cons x xs ih =>
      intro b c h1 h2
      cases b with
      | nil => cases h1
      | cons y ys =>
        cases c with
        | nil => cases h2
        | cons z zs =>
          rw [PySem.W.listLt] at h1 h2 ⊢
          by_cases e1 : x = y
          · subst e1
            rw [if_pos rfl] at h1
            by_cases e2 : x = z
            · rw [if_pos e2] at h2 ⊢
              exact ih ys zs h1 h2
            · rw [if_neg e2] at h2 ⊢
              exact h2
          · rw [if_neg e1] at h1
            by_cases e2 : y = z
            · subst e2
              rw [if_neg e1]
              exact h1
            · rw [if_neg e2] at h2
              have h3 := S.tr x y z h1 h2
              by_cases e3 : x = z
              · subst e3
                rw [S.irr] at h3
                cases h3
              · rw [if_neg e3]
                exact h3
  tri a := by
    induction a with
    | nil =>
      intro b h1 h2
      cases b with
      | nil => rfl
      | cons y ys => cases h1
    | cons x xs ih =>
      intro b h1 h2
      cases b with
      | nil => cases h2
      | cons y ys =>
        rw [PySem.W.listLt] at h1 h2
        by_cases e : x = y
        · subst e
          rw [if_pos rfl] at h1 h2
          rw [ih ys h1 h2]
        · rw [if_neg e] at h1
          rw [if_neg (Ne.symm e)] at h2
          exact absurd (S.tri x y h1 h2) e
theorem sto_row : Sto (PySem.W.DatumOrd.lt : PySem.W.Tup Int → PySem.W.Tup Int → Bool) where
  irr a := (sto_list sto_int).irr a.items
  tr a b c := (sto_list sto_int).tr a.items b.items c.items
  tri a b h1 h2 := by
    have := (sto_list sto_int).tri a.items b.items h1 h2
    cases a; cases b
    simpa using this
theorem sto_pair {α β : Type} [DecidableEq α] [PySem.W.DatumOrd α] [DecidableEq β] [PySem.W.DatumOrd β] (S : Sto (PySem.W.DatumOrd.lt : α → α → Bool)) (T : Sto (PySem.W.DatumOrd.lt : β → β → Bool)) : Sto (PySem.W.DatumOrd.lt : α × β → α × β → Bool) where
  irr a := by
    show (if a.1 = a.1 then _ else _) = false
    rw [if_pos rfl]
    exact T.irr a.2
  tr a b c h1 h2 := by
    have h1 : (if a.1 = b.1 then PySem.W.DatumOrd.lt a.2 b.2 else PySem.W.DatumOrd.lt a.1 b.1) = true := h1
    have h2 : (if b.1 = c.1 then PySem.W.DatumOrd.lt b.2 c.2 else PySem.W.DatumOrd.lt b.1 c.1) = true := h2
    show (if a.1 = c.1 then PySem.W.DatumOrd.lt a.2 c.2 else PySem.W.DatumOrd.lt a.1 c.1) = true
    by_cases e1 : a.1 = b.1
    · rw [if_pos e1] at h1
      by_cases e2 : b.1 = c.1
      · rw [if_pos e2] at h2
        rw [if_pos (e1.trans e2)]
        exact T.tr _ _ _ h1 h2
      · rw [if_neg e2] at h2
        rw [if_neg (by rw [e1]; exact e2), e1]
        exact h2
    · rw [if_neg e1] at h1
      by_cases e2 : b.1 = c.1
      · rw [if_neg (by rw [← e2]; exact e1), ← e2]
        exact h1
      · rw [if_neg e2] at h2
        have h3 := S.tr _ _ _ h1 h2
        by_cases e3 : a.1 = c.1
        · rw [e3, S.irr] at h3; cases h3
        · rw [if_neg e3]; exact h3
  tri a b h1 h2 := by
    have h1 : (if a.1 = b.1 then PySem.W.DatumOrd.lt a.2 b.2 else PySem.W.DatumOrd.lt a.1 b.1) = false := h1
    have h2 : (if b.1 = a.1 then PySem.W.DatumOrd.lt b.2 a.2 else PySem.W.DatumOrd.lt b.1 a.1) = false := h2
    by_cases e : a.1 = b.1
    · rw [if_pos e] at h1
      rw [if_pos e.symm] at h2
      exact Prod.ext e (T.tri _ _ h1 h2)
    · rw [if_neg e] at h1
      rw [if_neg (Ne.symm e)] at h2
      exact absurd (S.tri _ _ h1 h2) e
/-! ### the least -/
theorem fold_min {α : Type} {lt : α → α → Bool} (S : Sto lt) : ∀ (xs : List α) (x : α), (xs.foldl (fun a y => if lt y a = true then y else a) x) ∈ x :: xs ∧ ∀ y ∈ x :: xs, lt y (xs.foldl (fun a y => if lt y a = true then y else a) x) = false
  | [], x => ⟨List.mem_cons_self, fun y hy => by rw [List.mem_singleton.mp hy]; exact S.irr x⟩
  | z :: xs, x => by
    rw [List.foldl_cons]
    obtain ⟨h1, h2⟩ := fold_min S xs (if lt z x = true then z else x)
    by_cases h : lt z x = true
    · rw [if_pos h] at h1 h2 ⊢
      refine ⟨List.mem_cons_of_mem _ h1, fun y hy => ?_⟩
      rcases List.mem_cons.mp hy with rfl | hy
      · have h3 := h2 z List.mem_cons_self
        refine S.min_tr h3 ?_
        cases h4 : lt y z with
        | false => rfl
        | true =>
          have := S.tr _ _ _ h h4
          rw [S.irr] at this
          cases this
      · exact h2 y hy
    · rw [if_neg h] at h1 h2 ⊢
      refine ⟨?_, fun y hy => ?_⟩
      · rcases List.mem_cons.mp h1 with e | e
        · rw [e]; exact List.mem_cons_self
        · exact List.mem_cons_of_mem _ (List.mem_cons_of_mem _ e)
      · rcases List.mem_cons.mp hy with rfl | hy
        · exact h2 _ List.mem_cons_self
        · rcases List.mem_cons.mp hy with rfl | hy
          · refine S.min_tr (h2 x List.mem_cons_self) ?_
            cases e : lt y x with
            | false => rfl
            | true => exact absurd e h
          · exact h2 y (List.mem_cons_of_mem _ hy)
theorem minOf_min {α : Type} [DecidableEq α] [PySem.W.DatumOrd α] (S : Sto (PySem.W.DatumOrd.lt : α → α → Bool)) (x : α) (xs : List α) : PySem.W.minOf x xs ∈ x :: xs ∧ ∀ y ∈ x :: xs, PySem.W.DatumOrd.lt y (PySem.W.minOf x xs) = false := fold_min S xs x
theorem arg_min {α : Type} {lt : α → α → Bool} (S : Sto lt) (key : Nat → α) : ∀ k j, j ≤ k → lt (key j) (key (argBest (fun i j => lt (key i) (key j)) k)) = false
  | 0, j, h => by
    have : j = 0 := by omega
    subst this
    exact S.irr _
  | k + 1, j, h => by
    unfold argBest
    by_cases hb : lt (key (k + 1)) (key (argBest (fun i j => lt (key i) (key j)) k)) = true
    · rw [if_pos hb]
      by_cases hj : j = k + 1
      · subst hj; exact S.irr _
      · refine S.min_tr (b := key (argBest (fun i j => lt (key i) (key j)) k)) ?_ (arg_min S key k j (by omega))
        cases e : lt (key (argBest (fun i j => lt (key i) (key j)) k)) (key (k + 1)) with
        | false => rfl
        | true =>
          have := S.tr _ _ _ hb e
          rw [S.irr] at this
          cases this
    · rw [if_neg hb]
      by_cases hj : j = k + 1
      · subst hj
        cases e : lt (key (k + 1)) (key (argBest (fun i j => lt (key i) (key j)) k)) with
        | false => rfl
        | true => exact absurd e hb
      · exact arg_min S key k j (by omega)
end GL
namespace GL
open PySem PySem.Spec PyProof.Rows L2 LamX
abbrev Row := List Nat
def rowD (r : Row) : D := .tuple (r.map fun n : Nat => PyData.int (n : Int))
def top : Row → Nat
  | [] => 0
  | n :: r => max (n + 1) (top r)
theorem top_app : ∀ (r : Row) (g : Nat), top (r ++ [g]) = max (top r) (g + 1)
  | [], g => by simp [top]
  | n :: r, g => by
    show max (n + 1) (top (r ++ [g])) = max (max (n + 1) (top r)) (g + 1)
    rw [top_app r g]
    omega
theorem lt_top : ∀ {r : Row} {n : Nat}, n ∈ r → n < top r
  | m :: r, n, h => by
    show n < max (m + 1) (top r)
    rcases List.mem_cons.mp h with rfl | h
    · omega
    · have := lt_top h; omega
theorem top_le : ∀ {r : Row} {k : Nat}, (∀ n ∈ r, n < k) → top r ≤ k
  | [], k, _ => Nat.zero_le _
  | n :: r, k, h => by
    show max (n + 1) (top r) ≤ k
    have h1 := h n List.mem_cons_self
    have h2 := top_le (r := r) fun m hm => h m (List.mem_cons_of_mem _ hm)
    omega
/-- every number under the greatest stands there -/
def RG (r : Row) : Prop := ∀ j, j < top r → j ∈ r
theorem cnt_eq {r : Row} (h : RG r) : (ddup (r.map fun n : Nat => (n : Int))).length = top r := by
  obtain ⟨nd, mem⟩ := ddup_ok (r.map fun n : Nat => (n : Int))
  have e : ((List.range (top r)).map fun n : Nat => (n : Int)).length = top r := by simp
  rw [← e]
  refine nodup_eq nd ?_ fun z => ?_
  · exact List.pairwise_map.mpr (List.Pairwise.imp (fun hne e => hne (by omega)) (List.nodup_range (n := top r)))
  · rw [mem, List.mem_map, List.mem_map]
    constructor
    · rintro ⟨n, hn, rfl⟩
      exact ⟨n, List.mem_range.mpr (lt_top hn), rfl⟩
    · rintro ⟨n, hn, rfl⟩
      exact ⟨n, h n (List.mem_range.mp hn), rfl⟩
theorem lenSet_row {r : Row} (h : RG r) (hl : r.length ≤ 1000) : lenSetD (rowD r) = M.ret (.int (top r : Int)) := by
  have e : (r.map fun n : Nat => PyData.int (n : Int)) = (r.map fun n : Nat => (n : Int)).map PyData.int := by rw [List.map_map]; rfl
  have i : intsOf (r.map fun n : Nat => PyData.int (n : Int)) = some (r.map fun n : Nat => (n : Int)) := by rw [e, intsOf_map]
  show (match intsOf (r.map fun n : Nat => PyData.int (n : Int)) with
    | some ns => match Nat.ble ns.length 1000 with | true => M.ret (.int ((ddup ns).length : Nat)) | false => M.fail
    | none => M.fail : M D) = _
  rw [i]
  show (match Nat.ble (r.map fun n : Nat => (n : Int)).length 1000 with | true => M.ret (.int ((ddup (r.map fun n : Nat => (n : Int))).length : Nat)) | false => M.fail : M D) = _
  rw [Nat.ble_eq_true_of_le (by rw [List.length_map]; exact hl), cnt_eq h]
/-! ### the groupings -/
def trAt (ts : List Tr) (k : Nat) : Tr := ts.getD k []
def okg (ts : List Tr) (k : Nat) (r : Row) (g : Nat) : Bool := (List.range k).all fun i => !(r[i]? == some g) || ag (trAt ts k) (trAt ts i)
def ext (ts : List Tr) (k : Nat) (r : Row) : List Row := ((List.range (top r + 1)).filter (okg ts k r)).map fun g => r ++ [g]
def rowsOf (ts : List Tr) : Nat → List Row
  | 0 => [[]]
  | k + 1 => (rowsOf ts k).flatMap (ext ts k)
/-- what each row is -/
structure RowOk (ts : List Tr) (k : Nat) (r : Row) : Prop where
  len : r.length = k
  rg : RG r
  cons : ∀ i j g, r[i]? = some g → r[j]? = some g → ag (trAt ts i) (trAt ts j) = true
theorem ag1_self (o : Option Nat) : ag1 (o, o) = true := by cases o <;> simp [ag1]
theorem ag_self : ∀ a : Tr, ag a a = true
  | [] => rfl
  | o :: a => by
    show (ag1 (o, o) && ag a a) = true
    rw [ag1_self, ag_self a]
    rfl
theorem ag1_comm (o p : Option Nat) : ag1 (o, p) = ag1 (p, o) := by
  cases o with
  | none => cases p <;> rfl
  | some i =>
    cases p with
    | none => rfl
    | some j =>
      show (false || false || (some i == some j)) = (false || false || (some j == some i))
      rw [Bool.beq_comm]
theorem ag_comm : ∀ a c : Tr, ag a c = ag c a
  | [], [] => rfl
  | [], _ :: _ => rfl
  | _ :: _, [] => rfl
  | o :: a, p :: c => by
    show (ag1 (o, p) && ag a c) = (ag1 (p, o) && ag c a)
    rw [ag1_comm, ag_comm a c]
theorem rowsOf_ok (ts : List Tr) : ∀ k, ∀ r ∈ rowsOf ts k, RowOk ts k r
  | 0, r, h => by
    rw [List.mem_singleton.mp h]
    exact ⟨rfl, fun j hj => absurd hj (by simp [top]), fun i j g h => by simp at h⟩
  | k + 1, r, h => by
    obtain ⟨s, hs, hr⟩ := List.mem_flatMap.mp h
    obtain ⟨g, hg, rfl⟩ := List.mem_map.mp hr
    obtain ⟨hg1, hg2⟩ := List.mem_filter.mp hg
    have o := rowsOf_ok ts k s hs
    have hg1 := List.mem_range.mp hg1
    have hall : ∀ i, i < k → s[i]? = some g → ag (trAt ts k) (trAt ts i) = true := fun i hi e => by
      have := List.all_eq_true.mp hg2 i (List.mem_range.mpr hi)
      rw [e] at this
      simpa using this
    refine ⟨by rw [List.length_append, o.len]; rfl, fun j hj => ?_, fun i j g' e1 e2 => ?_⟩
    · rw [top_app] at hj
      by_cases h1 : j < top s
      · exact List.mem_append_left _ (o.rg j h1)
      · have : j = g := by omega
        subst this
        exact List.mem_append_right _ (List.mem_singleton.mpr rfl)
    · have at_ : ∀ i g', (s ++ [g])[i]? = some g' → (i < k ∧ s[i]? = some g') ∨ (i = k ∧ g' = g) := fun i g' e => by
        by_cases h1 : i < s.length
        · rw [List.getElem?_append_left h1] at e
          exact .inl ⟨by rw [← o.len]; exact h1, e⟩
        · rw [List.getElem?_append_right (by omega)] at e
          have : i - s.length = 0 := by
            have := (List.getElem?_eq_some_iff.mp e).1
            simp at this
            omega
          rw [this] at e
          have hl := o.len
          exact .inr ⟨by omega, by simpa using e.symm⟩
      rcases at_ i g' e1 with ⟨a1, a2⟩ | ⟨a1, a2⟩
      · rcases at_ j g' e2 with ⟨b1, b2⟩ | ⟨b1, b2⟩
        · exact o.cons i j g' a2 b2
        · subst b1; subst b2
          rw [ag_comm]
          exact hall i a1 a2
      · rcases at_ j g' e2 with ⟨b1, b2⟩ | ⟨b1, b2⟩
        · subst a1; subst a2
          exact hall j b1 b2
        · subst a1; subst b1
          exact ag_self _
theorem rowsOf_len (ts : List Tr) : ∀ k, k ≤ 6 → (rowsOf ts k).length ≤ 7 ^ k
  | 0, _ => by simp [rowsOf]
  | k + 1, h => by
    show ((rowsOf ts k).flatMap (ext ts k)).length ≤ _
    have ih := rowsOf_len ts k (by omega)
    have h1 : ∀ r ∈ rowsOf ts k, (ext ts k r).length ≤ 7 := fun r hr => by
      have o := rowsOf_ok ts k r hr
      unfold ext
      rw [List.length_map]
      refine Nat.le_trans (List.length_filter_le _ _) ?_
      rw [List.length_range]
      have : top r ≤ r.length := by
        have hc := cnt_eq o.rg
        have : (ddup (r.map fun n : Nat => (n : Int))).length ≤ (r.map fun n : Nat => (n : Int)).length := nodup_le (ddup_ok _).1 fun x => ((ddup_ok _).2 x).mp
        rw [List.length_map] at this
        omega
      have := o.len
      omega
    have h2 : ∀ l : List Row, (∀ r ∈ l, (ext ts k r).length ≤ 7) → (l.flatMap (ext ts k)).length ≤ 7 * l.length := by
      intro l
      induction l with
      | nil => intro _; simp
      | cons r l ih =>
        intro hl
        rw [List.flatMap_cons, List.length_append, List.length_cons]
        have a := hl r List.mem_cons_self
        have c := ih fun z hz => hl z (List.mem_cons_of_mem _ hz)
        omega
    have h3 := h2 _ h1
    rw [Nat.pow_succ]
    omega
/-! ### the package's walk -/
def grp (ts : List Tr) (r : Row) (g : Nat) : List Tr := ((ts.zip r).filter fun p => p.2 == g).map (·.1)
theorem grp_mem {ts : List Tr} {r : Row} {g : Nat} {t : Tr} : t ∈ grp ts r g ↔ ∃ i : Nat, ts[i]? = some t ∧ r[i]? = some g := by
  unfold grp
  rw [List.mem_map]
  constructor
  · rintro ⟨⟨t', g'⟩, h1, rfl⟩
    obtain ⟨h2, h3⟩ := List.mem_filter.mp h1
    obtain ⟨i, hi⟩ := List.mem_iff_getElem?.mp h2
    obtain ⟨a, c⟩ := List.getElem?_zip_eq_some.mp hi
    have : g' = g := by simpa using h3
    subst this
    exact ⟨i, a, c⟩
  · rintro ⟨i, h1, h2⟩
    refine ⟨(t, g), List.mem_filter.mpr ⟨List.mem_iff_getElem?.mpr ⟨i, List.getElem?_zip_eq_some.mpr ⟨h1, h2⟩⟩, by simp⟩, rfl⟩
theorem trAt_of {ts : List Tr} {i : Nat} {t : Tr} (h : ts[i]? = some t) : trAt ts i = t := by
  unfold trAt
  rw [List.getD_eq_getElem?_getD, h]
  rfl
theorem go_grp {ts : List Tr} {k : Nat} {r : Row} {g : Nat} (o : RowOk ts k r) (hk : k < ts.length) : goAll (trAt ts k :: grp ts r g) = okg ts k r g := by
  have hl := o.len
  have lt_k : ∀ i : Nat, r[i]? = some g → i < k := fun i h => by
    have := (List.getElem?_eq_some_iff.mp h).1
    omega
  cases h : okg ts k r g with
  | true =>
    have hall : ∀ i : Nat, r[i]? = some g → ag (trAt ts k) (trAt ts i) = true := fun i e => by
      have := List.all_eq_true.mp h i (List.mem_range.mpr (lt_k i e))
      rw [e] at this
      simpa using this
    unfold goAll
    refine List.all_eq_true.mpr fun a ha => List.all_eq_true.mpr fun c hc => ?_
    rcases List.mem_cons.mp ha with rfl | ha
    · rcases List.mem_cons.mp hc with rfl | hc
      · exact ag_self _
      · obtain ⟨j, h1, h2⟩ := grp_mem.mp hc
        have := hall j h2
        rwa [trAt_of h1] at this
    · obtain ⟨i, h1, h2⟩ := grp_mem.mp ha
      rcases List.mem_cons.mp hc with rfl | hc
      · have := hall i h2
        rw [trAt_of h1] at this
        rwa [ag_comm]
      · obtain ⟨j, h3, h4⟩ := grp_mem.mp hc
        have := o.cons i j g h2 h4
        rwa [trAt_of h1, trAt_of h3] at this
  | false =>
    cases hg : goAll (trAt ts k :: grp ts r g) with
    | false => rfl
    | true =>
      have : okg ts k r g = true := by
        refine List.all_eq_true.mpr fun i hi => ?_
        have hi := List.mem_range.mp hi
        cases e : r[i]? == some g with
        | false => rfl
        | true =>
          have e : r[i]? = some g := by simpa using e
          have hti : ts[i]? = some (trAt ts i) := by
            unfold trAt
            rw [List.getD_eq_getElem?_getD, List.getElem?_eq_getElem (by omega)]
            rfl
          have := List.all_eq_true.mp (List.all_eq_true.mp hg _ List.mem_cons_self) (trAt ts i) (List.mem_cons_of_mem _ (grp_mem.mpr ⟨i, hti, e⟩))
          rw [this]
          rfl
      rw [h] at this
      cases this
theorem row_app (r : Row) (g : Nat) : rowD (r ++ [g]) = .tuple ((r.map fun n : Nat => PyData.int (n : Int)) ++ [.int (g : Int)]) := by
  unfold rowD
  rw [List.map_append]
  rfl
/-- the group's list, in the program -/
theorem grp_lc (ts : List Tr) (r : Row) (g : Nat) (hn : ts.length ≤ 1000) : lcM (M.ret (zipD (seqD ts) (r.map fun n : Nat => PyData.int (n : Int)))) (unT 2) (on2 fun t15 t16 => M.bind (dEq t16 (.int (g : Int))) tru) (on2 fun t15 t16 => M.ret t15) = M.ret ((grp ts r g).map tupO) := by
  have z : zipD (seqD ts) (r.map fun n : Nat => PyData.int (n : Int)) = (ts.zip r).map fun p => PyData.tuple [tupO p.1, .int (p.2 : Int)] := by
    unfold zipD seqD
    rw [List.zip_map, List.map_map]
    rfl
  rw [z, lcM_enc _ (fun p : Tr × Nat => p.2 == g) (fun p => tupO p.1) (fun p _ => ?_) (by rw [List.length_zip]; omega)]
  · unfold grp
    rw [List.map_map]
    rfl
  · refine itemM_eq (c := p.2 == g) (unT2 _ _) ?_ fun _ => ?_
    · rw [on2_eq, dEq_int, M.ret_bind, tru_bool]
      congr 1
      by_cases h : p.2 = g
      · rw [decide_eq_true (by rw [h])]; simp [h]
      · rw [decide_eq_false (by omega)]; simp [h]
    · rw [on2_eq]
/-- one row's longer ones -/
def step1 (ts : List Tr) (k : Nat) (r : Row) (acc : List D) (n : Nat) : List D := acc ++ (((List.range n).filter (okg ts k r)).map fun g => rowD (r ++ [g]))
theorem step1_succ (ts : List Tr) (k : Nat) (r : Row) (acc : List D) (n : Nat) : step1 ts k r acc (n + 1) = step1 ts k r acc n ++ (if okg ts k r n then [rowD (r ++ [n])] else []) := by
  unfold step1
  rw [List.range_succ, List.filter_append, List.map_append, List.append_assoc]
  congr 2
  rw [List.filter_cons]
  cases okg ts k r n <;> rfl
theorem step1_len (ts : List Tr) (k : Nat) (r : Row) (acc : List D) (n : Nat) : (step1 ts k r acc n).length ≤ acc.length + n := by
  unfold step1
  rw [List.length_append, List.length_map]
  have := List.length_filter_le (okg ts k r) (List.range n)
  rw [List.length_range] at this
  omega
end GL
namespace GL
open PySem PySem.Spec PyProof.Rows L2 LamX
theorem ext_map (ts : List Tr) (k : Nat) (r : Row) (acc : List D) : step1 ts k r acc (top r + 1) = acc ++ (ext ts k r).map rowD := by
  unfold step1 ext
  rw [List.map_map]
  rfl
/-- the rows that were lengthened so far -/
def done (ts : List Tr) (k j : Nat) : List D := (((rowsOf ts k).take j).flatMap (ext ts k)).map rowD
theorem done_succ {ts : List Tr} {k j : Nat} {r : Row} (h : (rowsOf ts k)[j]? = some r) : done ts k (j + 1) = done ts k j ++ (ext ts k r).map rowD := by
  unfold done
  rw [List.take_add_one, h, List.flatMap_append, List.map_append]
  congr 2
  show (ext ts k r ++ []) = _
  rw [List.append_nil]
theorem done_all (ts : List Tr) (k : Nat) : done ts k (rowsOf ts k).length = (rowsOf ts (k + 1)).map rowD := by
  unfold done
  rw [List.take_length]
  rfl
theorem done_len {ts : List Tr} {k j : Nat} (hk : k < 6) : (done ts k j).length ≤ 200000 := by
  have h := rowsOf_len ts (k + 1) (by omega)
  have h2 : (done ts k j).length ≤ (rowsOf ts (k + 1)).length := by
    rw [← List.length_map (f := rowD), ← done_all]
    unfold done
    rw [List.length_map, List.length_map]
    rw [List.take_length]
    have : ((rowsOf ts k).flatMap (ext ts k)) = ((rowsOf ts k).take j).flatMap (ext ts k) ++ ((rowsOf ts k).drop j).flatMap (ext ts k) := by
      rw [← List.flatMap_append, List.take_append_drop]
    rw [this, List.length_append]
    omega
  have h3 : 7 ^ (k + 1) ≤ 7 ^ 6 := Nat.pow_le_pow_right (by omega) (by omega)
  have h4 : 7 ^ 6 = 117649 := by decide
  omega
theorem rows_at {ts : List Tr} {k j : Nat} (h : j < (rowsOf ts k).length) : ∃ r, (rowsOf ts k)[j]? = some r ∧ (rowsOf ts k)[j] = r ∧ RowOk ts k r :=
  ⟨_, List.getElem?_eq_getElem h, rfl, rowsOf_ok ts k _ (List.getElem_mem h)⟩
theorem top_len {ts : List Tr} {k : Nat} {r : Row} (o : RowOk ts k r) : top r ≤ k := by
  have hc := cnt_eq o.rg
  have : (ddup (r.map fun n : Nat => (n : Int))).length ≤ (r.map fun n : Nat => (n : Int)).length := nodup_le (ddup_ok _).1 fun x => ((ddup_ok _).2 x).mp
  rw [List.length_map, o.len] at this
  omega
theorem trAt_get {ts : List Tr} {k : Nat} (h : k < ts.length) : ts[k] = trAt ts k := (trAt_of (List.getElem?_eq_getElem h)).symm
theorem groupings_eq {ts : List Tr} (hl : ts.length ≤ 6) (hn : ∀ t ∈ ts, t.length ≤ 1000) : m_groupings [trD ts] = M.ret (.list ((rowsOf ts ts.length).map rowD)) := by
  have key : ∀ f : D → D → M (Out D), (∀ k (hk : k < ts.length), f (tupO ts[k]) (.list ((rowsOf ts k).map rowD)) = M.ret (.nx (.list ((rowsOf ts (k + 1)).map rowD)))) → forO f (seqD ts) (.list [.tuple []]) = M.ret (.nx (.list ((rowsOf ts ts.length).map rowD))) :=
    fun f h => forO_map tupO ts (fun k => PyData.list ((rowsOf ts k).map rowD)) h
  have e0 : mkT [] = M.ret (.tuple []) := mkT_ok (by simp)
  have e1 : mkL [.tuple []] = M.ret (.list [.tuple []]) := mkL_ok (by simp)
  have e2 : chkL [] = M.ret [] := chkL_ok (by simp)
  have e3 : seqOf (trD ts) = M.ret (seqD ts) := rfl
  simp -implicitDefEqProofs only [m_groupings, on1_eq, M.ret_bind, e0, e1, e3, M.bind_assoc]
  rw [key]
  · rfl
  · intro k hk
    have key2 : ∀ f : D → List D → M (Out (List D)), (∀ j (hj : j < (rowsOf ts k).length), f (rowD (rowsOf ts k)[j]) (done ts k j) = M.ret (.nx (done ts k (j + 1)))) → forO f ((rowsOf ts k).map rowD) [] = M.ret (.nx ((rowsOf ts (k + 1)).map rowD)) := fun f h => by
      have := forO_map rowD (rowsOf ts k) (done ts k) h
      rw [done_all] at this
      exact this
    simp -implicitDefEqProofs only [un1_eq, M.lift_some, M.ret_bind, on1_eq, e2, seqOf_list]
    rw [key2]
    · rfl
    · intro j hj
      obtain ⟨r, r1, r2, o⟩ := rows_at hj
      rw [r2, done_succ r1, ← ext_map]
      have tl := top_len o
      have ht : top r ≤ 6 := by omega
      have ls : lenSetD (rowD r) = M.ret (.int (top r : Int)) := lenSet_row o.rg (by rw [o.len]; omega)
      have rg : rng1 (.int ((top r : Int) + 1)) = M.ret ((List.range (top r + 1)).map fun i : Nat => PyData.int (i : Int)) := by
        rw [show (top r : Int) + 1 = ((top r + 1 : Nat) : Int) by omega, rng1_nat (by omega)]
      have key3 : ∀ f : D → List D → M (Out (List D)), (∀ g (hg : g < top r + 1), f (.int (g : Int)) (step1 ts k r (done ts k j) g) = M.ret (.nx (step1 ts k r (done ts k j) (g + 1)))) → forO f ((List.range (top r + 1)).map fun i : Nat => PyData.int (i : Int)) (done ts k j) = M.ret (.nx (step1 ts k r (done ts k j) (top r + 1))) := fun f h => by
        have h0 : step1 ts k r (done ts k j) 0 = done ts k j := by simp [step1]
        have := forO_map (f := f) (fun i : Nat => PyData.int (i : Int)) (List.range (top r + 1)) (step1 ts k r (done ts k j)) (fun i hi => by
          rw [List.getElem_range]
          exact h i (by simpa using hi))
        rw [h0, List.length_range] at this
        exact this
      simp -implicitDefEqProofs only [un1_eq, M.lift_some, M.ret_bind, on1_eq, ls, addD_int, rg, M.bind_assoc]
      rw [key3]
      · rfl
      · intro g hg
        have z : zip2 (trD ts) (rowD r) = M.ret (zipD (seqD ts) (r.map fun n : Nat => PyData.int (n : Int))) := rfl
        have gl : (grp ts r g).length ≤ 6 := by
          unfold grp
          rw [List.length_map]
          refine Nat.le_trans (List.length_filter_le _ _) ?_
          rw [List.length_zip]
          omega
        have lc := grp_lc ts r g (by omega)
        have tk : tupO ts[k] = tupO (trAt ts k) := by rw [trAt_get hk]
        have mk : mkL (tupO ts[k] :: ((grp ts r g).map tupO ++ [])) = M.ret (.list (seqD (trAt ts k :: grp ts r g))) := by
          rw [tk, List.append_nil]
          exact mkL_ok (by rw [List.length_cons, List.length_map]; omega)
        have ga : m_go_all [.list (seqD (trAt ts k :: grp ts r g))] = M.ret (.bool (okg ts k r g)) := by
          rw [go_all_eq rfl (by rw [List.length_cons]; omega) (fun t ht => ?_), go_grp o hk]
          rcases List.mem_cons.mp ht with rfl | ht
          · rw [← trAt_get hk]; exact hn _ (List.getElem_mem hk)
          · obtain ⟨i, h1, _⟩ := grp_mem.mp ht
            exact hn _ (List.mem_of_getElem? h1)
        have sq : seqOf (rowD r) = M.ret (r.map fun n : Nat => PyData.int (n : Int)) := rfl
        have mt : mkT ((r.map fun n : Nat => PyData.int (n : Int)) ++ [.int (g : Int)]) = M.ret (rowD (r ++ [g])) := by
          rw [row_app]
          exact mkT_ok (by rw [List.length_append, List.length_map, o.len]; simp; omega)
        have bl : Nat.blt (step1 ts k r (done ts k j) g).length sz = true := blt_ok (by
          have a := step1_len ts k r (done ts k j) g
          have c := done_len (ts := ts) (j := j) (show k < 6 by omega)
          omega)
        simp -implicitDefEqProofs only [un1_eq, M.lift_some, M.ret_bind, on1_eq, z, lc, seqOf_list, mk, ga, tru_bool, sq, mt, bl, mite_t, M.bind_assoc]
        rw [step1_succ]
        cases okg ts k r g with
        | true => rfl
        | false =>
          rw [mite_f, if_neg Bool.false_ne_true, List.append_nil]
end GL
namespace GL
open PySem PySem.Spec PyProof.Rows L2 LamX
/-! ### lists of alike data -/
theorem alikeB_map {α : Type} [DecidableEq α] [PySem.W.DatumOrd α] (hd : PySem.W.Datum.depth α ≤ 60) (xs : List α) : alikeB (xs.map PySem.W.Datum.toD) = true := by
  unfold alikeB
  simp only [Bool.and_eq_true, List.all_eq_true]
  refine ⟨⟨fun x hx y hy => ?_, fun x hx => ?_⟩, ?_⟩
  · obtain ⟨a, _, rfl⟩ := List.mem_map.mp hx
    obtain ⟨c, _, rfl⟩ := List.mem_map.mp hy
    exact PySem.W.DatumOrd.alike a c
  · obtain ⟨a, _, rfl⟩ := List.mem_map.mp hx
    have := PySem.W.DatumOrd.notNone a
    cases h : PySem.W.Datum.toD a with
    | none => exact absurd h this
    | _ => rfl
  · exact Nat.ble_eq_true_of_le (Nat.le_trans (PySem.W.depthAll_map xs) hd)
theorem fMin_map {α : Type} [DecidableEq α] [PySem.W.DatumOrd α] (hd : PySem.W.Datum.depth α ≤ 60) (x : α) (xs : List α) : fMin [.list ((x :: xs).map PySem.W.Datum.toD)] = M.ret (PySem.W.Datum.toD (PySem.W.minOf x xs)) := by
  have a := alikeB_map hd (x :: xs)
  rw [List.map_cons] at a ⊢
  show M.ite (alikeB _) (M.ret (PySem.W.minD _ _)) M.fail = _
  rw [a, PySem.W.minD_map]
  rfl
theorem fMax_tup {α : Type} [DecidableEq α] [PySem.W.DatumOrd α] (hd : PySem.W.Datum.depth α ≤ 60) (x : α) (xs : List α) : fMax [.tuple ((x :: xs).map PySem.W.Datum.toD)] = M.ret (PySem.W.Datum.toD (PySem.W.maxOf x xs)) := by
  have a := alikeB_map hd (x :: xs)
  rw [List.map_cons] at a ⊢
  show M.ite (alikeB _) (M.ret (PySem.W.maxD _ _)) M.fail = _
  rw [a, PySem.W.maxD_map]
  rfl
theorem maxI : ∀ (xs : List Int) (x : Int), x ≤ PySem.W.maxOf x xs ∧ (∀ y ∈ xs, y ≤ PySem.W.maxOf x xs) ∧ PySem.W.maxOf x xs ∈ x :: xs
  | [], x => ⟨Int.le_refl _, fun _ h => (by cases h), List.mem_cons_self⟩
  | y :: xs, x => by
    have e : PySem.W.maxOf x (y :: xs) = PySem.W.maxOf (if x < y then y else x) xs := by
      unfold PySem.W.maxOf
      rw [List.foldl_cons]
      congr 1
      show (if decide (x < y) = true then y else x) = _
      by_cases h : x < y <;> simp [h]
    rw [e]
    obtain ⟨h1, h2, h3⟩ := maxI xs (if x < y then y else x)
    by_cases h : x < y
    · rw [if_pos h] at h1 h2 h3 ⊢
      refine ⟨by omega, fun z hz => ?_, List.mem_cons_of_mem _ h3⟩
      rcases List.mem_cons.mp hz with rfl | hz
      · exact h1
      · exact h2 z hz
    · rw [if_neg h] at h1 h2 h3 ⊢
      refine ⟨h1, fun z hz => ?_, ?_⟩
      · rcases List.mem_cons.mp hz with rfl | hz
        · omega
        · exact h2 z hz
      · rcases List.mem_cons.mp h3 with e | e
        · rw [e]; exact List.mem_cons_self
        · exact List.mem_cons_of_mem _ (List.mem_cons_of_mem _ e)
theorem top_mem : ∀ {r : Row}, r ≠ [] → ∃ n ∈ r, n + 1 = top r
  | [n], _ => ⟨n, List.mem_singleton.mpr rfl, by simp [top]⟩
  | n :: m :: r, _ => by
    obtain ⟨p, hp, e⟩ := top_mem (r := m :: r) (by simp)
    have et : top (n :: m :: r) = max (n + 1) (top (m :: r)) := rfl
    rw [et, ← e]
    rcases Nat.le_total (n + 1) (p + 1) with h | h
    · exact ⟨p, List.mem_cons_of_mem _ hp, by omega⟩
    · exact ⟨n, List.mem_cons_self, by omega⟩
theorem max_row (r : Row) : fMax [.tuple ((r.map fun n : Nat => PyData.int (n : Int)) ++ [.int (-1)])] = M.ret (.int ((top r : Int) - 1)) := by
  have e : ((r.map fun n : Nat => PyData.int (n : Int)) ++ [.int (-1)]) = ((r.map fun n : Nat => (n : Int)) ++ [-1]).map PySem.W.Datum.toD := by
    rw [List.map_append, List.map_map]
    rfl
  rw [e]
  cases h : (r.map fun n : Nat => (n : Int)) ++ [-1] with
  | nil => simp at h
  | cons x xs =>
    rw [fMax_tup (by decide)]
    obtain ⟨h1, h2, h3⟩ := maxI xs x
    have all : ∀ y ∈ (r.map fun n : Nat => (n : Int)) ++ [-1], y ≤ PySem.W.maxOf x xs := fun y hy => by
      rw [h] at hy
      rcases List.mem_cons.mp hy with rfl | hy
      · exact h1
      · exact h2 y hy
    rw [← h] at h3
    have v : PySem.W.maxOf x xs = (top r : Int) - 1 := by
      rcases List.mem_append.mp h3 with h4 | h4
      · obtain ⟨n, hn, en⟩ := List.mem_map.mp h4
        obtain ⟨m, hm, em⟩ := top_mem (List.ne_nil_of_mem hn)
        have a := all (m : Int) (List.mem_append_left _ (List.mem_map.mpr ⟨m, hm, rfl⟩))
        have c := lt_top hn
        omega
      · have h4 := List.mem_singleton.mp h4
        cases r with
        | nil => rw [h4]; rfl
        | cons n r =>
          have a := all (n : Int) (List.mem_append_left _ (List.mem_map.mpr ⟨n, List.mem_cons_self, rfl⟩))
          omega
    rw [v]
    rfl
theorem law_groupings_eq {ts : List Tr} (hl : ts.length ≤ 6) (hn : ∀ t ∈ ts, t.length ≤ 1000) : m__law_groupings [trD ts] = M.ret (.list ((rowsOf ts ts.length).map rowD)) := by
  have key : ∀ f : D → D → M (Out D), (∀ k (hk : k < ts.length), f (.int (k : Int)) (.list ((rowsOf ts k).map rowD)) = M.ret (.nx (.list ((rowsOf ts (k + 1)).map rowD)))) → forO f ((List.range ts.length).map fun i : Nat => PyData.int (i : Int)) (.list [.tuple []]) = M.ret (.nx (.list ((rowsOf ts ts.length).map rowD))) := fun f h => by
    have := forO_map (f := f) (fun i : Nat => PyData.int (i : Int)) (List.range ts.length) (fun k => PyData.list ((rowsOf ts k).map rowD)) (fun i hi => by
      rw [List.getElem_range]
      exact h i (by simpa using hi))
    rw [List.length_range] at this
    exact this
  have e0 : mkT [] = M.ret (.tuple []) := mkT_ok (by simp)
  have e1 : mkL [.tuple []] = M.ret (.list [.tuple []]) := mkL_ok (by simp)
  have e2 : chkL [] = M.ret [] := chkL_ok (by simp)
  have e3 : fLen [trD ts] = M.ret (.int (ts.length : Int)) := by
    show M.ret (PyData.int ((seqD ts).length : Nat)) = _
    unfold seqD
    rw [List.length_map]
  simp -implicitDefEqProofs only [m__law_groupings, on1_eq, M.ret_bind, e0, e1, e3, rng1_nat (show ts.length ≤ 1000000 by omega), M.bind_assoc]
  rw [key]
  · rfl
  · intro k hk
    have key2 : ∀ f : D → List D → M (Out (List D)), (∀ j (hj : j < (rowsOf ts k).length), f (rowD (rowsOf ts k)[j]) (done ts k j) = M.ret (.nx (done ts k (j + 1)))) → forO f ((rowsOf ts k).map rowD) [] = M.ret (.nx ((rowsOf ts (k + 1)).map rowD)) := fun f h => by
      have := forO_map rowD (rowsOf ts k) (done ts k) h
      rw [done_all] at this
      exact this
    simp -implicitDefEqProofs only [un1_eq, M.lift_some, M.ret_bind, on1_eq, e2, seqOf_list]
    rw [key2]
    · rfl
    · intro j hj
      obtain ⟨r, r1, r2, o⟩ := rows_at hj
      rw [r2, done_succ r1, ← ext_map]
      have tl := top_len o
      have ht : top r ≤ 6 := by omega
      have m1 : mkT [.int (0 - 1)] = M.ret (.tuple [.int (-1)]) := mkT_ok (by simp)
      have ad : addD (rowD r) (.tuple [.int (-1)]) = M.ret (.tuple ((r.map fun n : Nat => PyData.int (n : Int)) ++ [.int (-1)])) := by
        show (match Nat.ble ((r.map fun n : Nat => PyData.int (n : Int)).length + 1) sz with | true => M.ret (.tuple ((r.map fun n : Nat => PyData.int (n : Int)) ++ [.int (-1)])) | false => M.fail : M D) = _
        rw [Nat.ble_eq_true_of_le (by rw [List.length_map, o.len, sz_val]; omega)]
      have rg : rng1 (.int ((top r : Int) - 1 + 2)) = M.ret ((List.range (top r + 1)).map fun i : Nat => PyData.int (i : Int)) := by
        rw [show (top r : Int) - 1 + 2 = ((top r + 1 : Nat) : Int) by omega, rng1_nat (by omega)]
      have key3 : ∀ f : D → List D → M (Out (List D)), (∀ g (hg : g < top r + 1), f (.int (g : Int)) (step1 ts k r (done ts k j) g) = M.ret (.nx (step1 ts k r (done ts k j) (g + 1)))) → forO f ((List.range (top r + 1)).map fun i : Nat => PyData.int (i : Int)) (done ts k j) = M.ret (.nx (step1 ts k r (done ts k j) (top r + 1))) := fun f h => by
        have h0 : step1 ts k r (done ts k j) 0 = done ts k j := by simp [step1]
        have := forO_map (f := f) (fun i : Nat => PyData.int (i : Int)) (List.range (top r + 1)) (step1 ts k r (done ts k j)) (fun i hi => by
          rw [List.getElem_range]
          exact h i (by simpa using hi))
        rw [h0, List.length_range] at this
        exact this
      simp -implicitDefEqProofs only [un1_eq, M.lift_some, M.ret_bind, on1_eq, dSub_int, m1, ad, max_row, addD_int, rg, M.bind_assoc]
      rw [key3]
      · rfl
      · intro g hg
        have rk : rng1 (.int (k : Int)) = M.ret ((List.range k).map fun i : Nat => PyData.int (i : Int)) := rng1_nat (by omega)
        have gt : ∀ i : Nat, i < ts.length → dGet (trD ts) (.int (i : Int)) = M.ret (tupO (trAt ts i)) := fun i hi => dGet_t (by
          show (ts.map tupO)[i]? = _
          rw [List.getElem?_map, List.getElem?_eq_getElem hi, trAt_get hi]
          rfl)
        have gr : ∀ (i n : Nat), r[i]? = some n → dGet (rowD r) (.int (i : Int)) = M.ret (.int (n : Int)) := fun i n h => dGet_t (by
          rw [List.getElem?_map, h]
          rfl)
        have lc : lcM (M.ret ((List.range k).map fun i : Nat => PyData.int (i : Int))) un1 (on1 fun t19 => M.bind (dGet (rowD r) t19) fun d22 => M.bind (dEq d22 (.int (g : Int))) tru) (on1 fun t19 => M.bind (dGet (trD ts) (.int (k : Int))) fun d26 => M.bind (dGet (trD ts) t19) fun d29 => m__law_agree [d26, d29]) =
            M.ret (((List.range k).filter fun i => r[i]? == some g).map fun i => PyData.bool (ag (trAt ts k) (trAt ts i))) := by
          refine lcM_enc _ _ _ (fun i hi => ?_) (by rw [List.length_range]; omega)
          have hi := List.mem_range.mp hi
          have hir : i < r.length := by rw [o.len]; exact hi
          obtain ⟨n, hn2⟩ : ∃ n, r[i]? = some n := ⟨_, List.getElem?_eq_getElem hir⟩
          refine itemM_eq (c := r[i]? == some g) rfl ?_ fun _ => ?_
          · rw [on1_eq, gr i n hn2, M.ret_bind, dEq_int, M.ret_bind, tru_bool, hn2]
            congr 1
            by_cases h : n = g
            · rw [decide_eq_true (by rw [h])]; simp [h]
            · rw [decide_eq_false (by omega)]; simp [h]
          · rw [on1_eq, gt k hk, M.ret_bind, gt i (by omega), M.ret_bind, agree_eq]
            rw [← trAt_get hk]
            exact hn _ (List.getElem_mem hk)
        have fa : fAll [.list (((List.range k).filter fun i => r[i]? == some g).map fun i => PyData.bool (ag (trAt ts k) (trAt ts i)))] = M.ret (.bool (okg ts k r g)) := by
          rw [fAll_map]
          congr 2
          unfold okg
          rw [List.all_filter]
        have mt : mkT [.int (g : Int)] = M.ret (.tuple [.int (g : Int)]) := mkT_ok (by simp)
        have ad2 : addD (rowD r) (.tuple [.int (g : Int)]) = M.ret (rowD (r ++ [g])) := by
          rw [row_app]
          show (match Nat.ble ((r.map fun n : Nat => PyData.int (n : Int)).length + 1) sz with | true => M.ret (.tuple ((r.map fun n : Nat => PyData.int (n : Int)) ++ [.int (g : Int)])) | false => M.fail : M D) = _
          rw [Nat.ble_eq_true_of_le (by rw [List.length_map, o.len, sz_val]; omega)]
        have bl : Nat.blt (step1 ts k r (done ts k j) g).length sz = true := blt_ok (by
          have a := step1_len ts k r (done ts k j) g
          have c := done_len (ts := ts) (j := j) (show k < 6 by omega)
          omega)
        simp -implicitDefEqProofs only [un1_eq, M.lift_some, M.ret_bind, on1_eq, rk, lc, fa, tru_bool, mt, ad2, bl, mite_t, M.bind_assoc]
        rw [step1_succ]
        cases okg ts k r g with
        | true => rfl
        | false =>
          rw [mite_f, if_neg Bool.false_ne_true, List.append_nil]
end GL
namespace GL
open PySem PySem.Spec PyProof.Rows L2 LamX
/-! ### rows from labels -/
theorem okg_iff {ts : List Tr} {k : Nat} {r : Row} {g : Nat} (h : ∀ i, i < k → r[i]? = some g → ag (trAt ts k) (trAt ts i) = true) : okg ts k r g = true :=
  List.all_eq_true.mpr fun i hi => by
    have hi := List.mem_range.mp hi
    cases e : r[i]? == some g with
    | false => rfl
    | true =>
      have e : r[i]? = some g := by simpa using e
      rw [h i hi e]
      rfl
theorem label_row (ts : List Tr) (f : Nat → Nat) : ∀ k, (∀ i j, i < k → j < k → f i = f j → ag (trAt ts i) (trAt ts j) = true) → ∃ r ∈ rowsOf ts k, ∀ i j a c, r[i]? = some a → r[j]? = some c → (a = c ↔ f i = f j)
  | 0, _ => ⟨[], List.mem_singleton.mpr rfl, fun i j a c h => by simp at h⟩
  | k + 1, h => by
    obtain ⟨r, hr, hf⟩ := label_row ts f k fun i j hi hj => h i j (by omega) (by omega)
    have o := rowsOf_ok ts k r hr
    have hl := o.len
    obtain ⟨g, hg1, hg2⟩ : ∃ g, g ≤ top r ∧ ∀ i a, r[i]? = some a → (a = g ↔ f i = f k) := by
      by_cases hex : ∃ i, i < k ∧ f i = f k
      · obtain ⟨i, hi, e⟩ := hex
        have hir : i < r.length := by omega
        refine ⟨r[i], Nat.le_of_lt (lt_top (List.getElem_mem hir)), fun j a ha => ?_⟩
        rw [hf j i a r[i] ha (List.getElem?_eq_getElem hir), e]
      · refine ⟨top r, Nat.le_refl _, fun j a ha => ?_⟩
        have hj := (List.getElem?_eq_some_iff.mp ha).1
        constructor
        · intro e
          have := lt_top (List.mem_of_getElem? ha)
          omega
        · intro e
          exact absurd ⟨j, by omega, e⟩ hex
    refine ⟨r ++ [g], List.mem_flatMap.mpr ⟨r, hr, List.mem_map.mpr ⟨g, List.mem_filter.mpr ⟨List.mem_range.mpr (by omega), okg_iff fun i hi e => ?_⟩, rfl⟩⟩, fun i j a c h1 h2 => ?_⟩
    · rw [ag_comm]
      exact h i k (by omega) (by omega) ((hg2 i g e).mp rfl)
    · have at_ : ∀ (i a : Nat), (r ++ [g])[i]? = some a → (i < k ∧ r[i]? = some a) ∨ (i = k ∧ a = g) := fun i a e => by
        by_cases h1 : i < r.length
        · rw [List.getElem?_append_left h1] at e
          exact .inl ⟨by omega, e⟩
        · rw [List.getElem?_append_right (by omega)] at e
          have : i - r.length = 0 := by
            have := (List.getElem?_eq_some_iff.mp e).1
            simp at this
            omega
          rw [this] at e
          exact .inr ⟨by omega, by simpa using e.symm⟩
      rcases at_ i a h1 with ⟨a1, a2⟩ | ⟨a1, a2⟩
      · rcases at_ j c h2 with ⟨b1, b2⟩ | ⟨b1, b2⟩
        · exact hf i j a c a2 b2
        · subst b1; subst b2
          exact hg2 i a a2
      · rcases at_ j c h2 with ⟨b1, b2⟩ | ⟨b1, b2⟩
        · subst a1; subst a2
          have := hg2 j c b2
          constructor
          · intro e; exact (this.mp e.symm).symm
          · intro e; exact (this.mpr e.symm).symm
        · subst a1; subst a2; subst b1; subst b2
          exact ⟨fun _ => rfl, fun _ => rfl⟩
/-- at most as many groups as labels -/
theorem top_labels {ts : List Tr} {k : Nat} {r : Row} {f : Nat → Nat} {L : List Nat} (o : RowOk ts k r) (hf : ∀ i j a c, r[i]? = some a → r[j]? = some c → (a = c ↔ f i = f j)) (hL : ∀ i, i < k → f i ∈ L) : top r ≤ L.length := by
  have pick : ∀ j, ∃ i, j < top r → r[i]? = some j := fun j => by
    by_cases h : j < top r
    · obtain ⟨i, hi⟩ := List.mem_iff_getElem?.mp (o.rg j h)
      exact ⟨i, fun _ => hi⟩
    · exact ⟨0, fun z => absurd z h⟩
  have p : ∀ j, j < top r → r[Classical.choose (pick j)]? = some j := fun j => Classical.choose_spec (pick j)
  have e : ((List.range (top r)).map fun j => f (Classical.choose (pick j))).length = top r := by simp
  rw [← e]
  refine nodup_le (List.pairwise_map.mpr ?_) fun x hx => ?_
  · refine List.Pairwise.imp_of_mem (fun {a c} ha hc hne h2 => ?_) (List.nodup_range (n := top r))
    exact hne ((hf _ _ a c (p a (List.mem_range.mp ha)) (p c (List.mem_range.mp hc))).mpr h2)
  · obtain ⟨j, hj, rfl⟩ := List.mem_map.mp hx
    have := p j (List.mem_range.mp hj)
    refine hL _ ?_
    rw [← o.len]
    exact (List.getElem?_eq_some_iff.mp this).1
theorem rows_ne (ts : List Tr) (k : Nat) : rowsOf ts k ≠ [] := by
  obtain ⟨r, hr, _⟩ := label_row ts id k fun i j _ _ e => by
    have e : i = j := e
    subst e
    exact ag_self _
  exact List.ne_nil_of_mem hr
/-! ### the best row -/
abbrev RT := PySem.W.Tup Int
def rowT (r : Row) : RT := ⟨r.map fun n : Nat => (n : Int)⟩
theorem rowT_d (r : Row) : PySem.W.Datum.toD (rowT r) = rowD r := by
  show PyData.tuple ((r.map fun n : Nat => (n : Int)).map _) = _
  rw [List.map_map]
  rfl
theorem rowT_inj {r s : Row} (h : rowT r = rowT s) : r = s := by
  have h := congrArg PySem.W.Tup.items h
  have h : (r.map fun n : Nat => (n : Int)) = (s.map fun n : Nat => (n : Int)) := h
  have e := congrArg (List.map Int.toNat) h
  rw [List.map_map, List.map_map] at e
  have i : (Int.toNat ∘ fun n : Nat => (n : Int)) = id := by funext n; simp
  rw [i, List.map_id, List.map_id] at e
  exact e
abbrev ltR (r s : Row) : Bool := PySem.W.DatumOrd.lt (rowT r) (rowT s)
structure Best (ts : List Tr) (r : Row) : Prop where
  mem : r ∈ rowsOf ts ts.length
  few : ∀ s ∈ rowsOf ts ts.length, top r ≤ top s
  fst : ∀ s ∈ rowsOf ts ts.length, top s = top r → ltR s r = false
theorem Best.uniq {ts : List Tr} {r s : Row} (a : Best ts r) (b : Best ts s) : r = s := by
  have e : top r = top s := Nat.le_antisymm (a.few s b.mem) (b.few r a.mem)
  exact rowT_inj (sto_row.tri _ _ (b.fst r a.mem e) (a.fst s b.mem e.symm))
def kP (r : Row) : Int × RT := ((top r : Int), rowT r)
def keyD (r : Row) : D := .tuple [.int (top r : Int), rowD r]
theorem kP_d (r : Row) : PySem.W.Datum.toD (kP r) = keyD r := by
  show PyData.tuple [_, PySem.W.Datum.toD (rowT r)] = _
  rw [rowT_d]
  rfl
theorem best_key {ts : List Tr} {r : Row} (hm : r ∈ rowsOf ts ts.length) (h : ∀ s ∈ rowsOf ts ts.length, PySem.W.DatumOrd.lt (kP s) (kP r) = false) : Best ts r := by
  have h' : ∀ s ∈ rowsOf ts ts.length, (if (top s : Int) = (top r : Int) then ltR s r else decide ((top s : Int) < (top r : Int))) = false := h
  refine ⟨hm, fun s hs => ?_, fun s hs e => ?_⟩
  · have := h' s hs
    by_cases e : (top s : Int) = (top r : Int)
    · omega
    · rw [if_neg e] at this
      have := of_decide_eq_false this
      omega
  · have := h' s hs
    rwa [if_pos (by rw [e])] at this
theorem argBest_congr {b1 b2 : Nat → Nat → Bool} : ∀ k, (∀ i j, i ≤ k → j ≤ k → b1 i j = b2 i j) → argBest b1 k = argBest b2 k
  | 0, _ => rfl
  | k + 1, h => by
    have ih := argBest_congr k fun i j hi hj => h i j (by omega) (by omega)
    unfold argBest
    rw [ih, h (k + 1) (argBest b2 k) (Nat.le_refl _) (Nat.le_succ_of_le (argBest_lt k))]
theorem first_by_eq {ts : List Tr} (hl : ts.length ≤ 6) (hn : ∀ t ∈ ts, t.length ≤ 1000) : ∃ r, Best ts r ∧ m_first_by [trD ts] = M.ret (rowD r) := by
  have hne := rows_ne ts ts.length
  have hpos : 0 < (rowsOf ts ts.length).length := List.length_pos_iff.mpr hne
  have km : ∀ r ∈ rowsOf ts ts.length, keyM (on1 fun p2 => M.bind (lenSetD p2) fun d3 => mkT (d3 :: (p2 :: []))) (rowD r) = M.ret [keyD r] := fun r hr => by
    have o := rowsOf_ok ts _ r hr
    unfold keyM
    rw [on1_eq, lenSet_row o.rg (by rw [o.len]; omega), M.ret_bind, mkT_ok (by simp), M.ret_bind]
    rfl
  have cm : compM (keyM (on1 fun p2 => M.bind (lenSetD p2) fun d3 => mkT (d3 :: (p2 :: [])))) ((rowsOf ts ts.length).map rowD) = M.ret ((rowsOf ts ts.length).map keyD) := by
    rw [compM_enc rowD km, fm_one]
  have ek : (rowsOf ts ts.length).map keyD = ((rowsOf ts ts.length).map kP).map PySem.W.Datum.toD := by
    rw [List.map_map]
    exact List.map_congr_left fun r _ => (kP_d r).symm
  have al : alikeB ((rowsOf ts ts.length).map keyD) = true := by
    rw [ek]
    exact alikeB_map (by decide) _
  let key : Nat → Int × RT := fun i => kP ((rowsOf ts ts.length).getD i [])
  have hb : argBest (ltK ((rowsOf ts ts.length).map keyD)) ((rowsOf ts ts.length).length - 1) = argBest (fun i j => PySem.W.DatumOrd.lt (key i) (key j)) ((rowsOf ts ts.length).length - 1) := by
    refine argBest_congr _ fun i j hi hj => ?_
    have at_ : ∀ i, i ≤ (rowsOf ts ts.length).length - 1 → ((rowsOf ts ts.length).map keyD).getD i .none = PySem.W.Datum.toD (key i) := fun i hi => by
      have hi : i < (rowsOf ts ts.length).length := by omega
      show _ = PySem.W.Datum.toD (kP ((rowsOf ts ts.length).getD i []))
      rw [kP_d, List.getD_eq_getElem?_getD, List.getD_eq_getElem?_getD, List.getElem?_map, List.getElem?_eq_getElem hi]
      rfl
    unfold ltK
    rw [at_ i hi, at_ j hj, PySem.W.DatumOrd.lt_eq]
  have hlt : argBest (fun i j => PySem.W.DatumOrd.lt (key i) (key j)) ((rowsOf ts ts.length).length - 1) < (rowsOf ts ts.length).length := by
    have := argBest_lt (bt := fun i j => PySem.W.DatumOrd.lt (key i) (key j)) ((rowsOf ts ts.length).length - 1)
    omega
  refine ⟨(rowsOf ts ts.length)[argBest (fun i j => PySem.W.DatumOrd.lt (key i) (key j)) ((rowsOf ts ts.length).length - 1)], best_key (List.getElem_mem hlt) fun s hs => ?_, ?_⟩
  · obtain ⟨j, hj⟩ := List.mem_iff_getElem?.mp hs
    have hjl := (List.getElem?_eq_some_iff.mp hj).1
    have := arg_min (sto_pair sto_int sto_row) key ((rowsOf ts ts.length).length - 1) j (by omega)
    have e1 : key j = kP s := by
      show kP ((rowsOf ts ts.length).getD j []) = _
      rw [List.getD_eq_getElem?_getD, hj]
      rfl
    have e2 : ∀ i (hi : i < (rowsOf ts ts.length).length), key i = kP (rowsOf ts ts.length)[i] := fun i hi => by
      show kP ((rowsOf ts ts.length).getD i []) = _
      rw [List.getD_eq_getElem?_getD, List.getElem?_eq_getElem hi]
      rfl
    rw [e1, e2 _ hlt] at this
    exact this
  · have g := groupings_eq hl hn
    have mk : minKeyM (on1 fun p2 => M.bind (lenSetD p2) fun d3 => mkT (d3 :: (p2 :: []))) (.list ((rowsOf ts ts.length).map rowD)) = M.ret (rowD (rowsOf ts ts.length)[argBest (fun i j => PySem.W.DatumOrd.lt (key i) (key j)) ((rowsOf ts ts.length).length - 1)]) := by
      show M.bind (compM (keyM _) _) _ = _
      rw [cm, M.ret_bind, al, mite_t, List.length_map, hb, List.getElem?_map, List.getElem?_eq_getElem hlt]
      rfl
    simp -implicitDefEqProofs only [m_first_by, on1_eq, fnM, M.ret_bind, g, mk]
theorem fewest_by_eq {ts : List Tr} {r : Row} (hl : ts.length ≤ 6) (hn : ∀ t ∈ ts, t.length ≤ 1000) (b : Best ts r) : m_fewest_by [trD ts] = M.ret (.int (top r : Int)) := by
  obtain ⟨s, bs, e⟩ := first_by_eq hl hn
  have := b.uniq bs
  subst this
  have o := rowsOf_ok ts _ r b.mem
  have ls : lenSetD (rowD r) = M.ret (.int (top r : Int)) := lenSet_row o.rg (by rw [o.len]; omega)
  simp -implicitDefEqProofs only [m_fewest_by, on1_eq, fnM, M.ret_bind, e, ls]
/-! ### what follows of it -/
theorem best_drop {ts : List Tr} {r s : Row} (b : Best ts r) (c : Best (ts.drop 1) s) : top s ≤ top r := by
  have o := rowsOf_ok ts _ r b.mem
  have hl := o.len
  have tr : ∀ i, trAt (ts.drop 1) i = trAt ts (i + 1) := fun i => by
    unfold trAt
    rw [List.getD_eq_getElem?_getD, List.getD_eq_getElem?_getD, List.getElem?_drop, Nat.add_comm]
  obtain ⟨q, hq, hf⟩ := label_row (ts.drop 1) (fun i => r.getD (i + 1) 0) (ts.drop 1).length fun i j hi hj e => by
    rw [List.length_drop] at hi hj
    rw [tr, tr]
    refine o.cons (i + 1) (j + 1) (r.getD (i + 1) 0) ?_ ?_
    · rw [List.getD_eq_getElem?_getD, List.getElem?_eq_getElem (by omega)]
      rfl
    · have e : r.getD (i + 1) 0 = r.getD (j + 1) 0 := e
      rw [e, List.getD_eq_getElem?_getD, List.getElem?_eq_getElem (by omega)]
      rfl
  have h1 := c.few q hq
  have h2 := top_labels (L := List.range (top r)) (rowsOf_ok _ _ q hq) hf fun i hi => by
    rw [List.length_drop] at hi
    refine List.mem_range.mpr ?_
    show r.getD (i + 1) 0 < top r
    rw [List.getD_eq_getElem?_getD, List.getElem?_eq_getElem (by omega)]
    exact lt_top (List.getElem_mem _)
  rw [List.length_range] at h2
  omega
theorem best_one {ts : List Tr} {r : Row} (b : Best ts r) (hne : ts ≠ []) : (top r = 1) ↔ goAll ts = true := by
  have o := rowsOf_ok ts _ r b.mem
  have hl := o.len
  have hpos : 0 < ts.length := List.length_pos_iff.mpr hne
  have h1 : 1 ≤ top r := by
    have := lt_top (List.getElem_mem (show 0 < r.length by omega))
    omega
  have tat : ∀ a ∈ ts, ∃ i, i < ts.length ∧ trAt ts i = a := fun a ha => by
    obtain ⟨i, hi⟩ := List.mem_iff_getElem?.mp ha
    exact ⟨i, (List.getElem?_eq_some_iff.mp hi).1, trAt_of hi⟩
  constructor
  · intro e
    refine List.all_eq_true.mpr fun a ha => List.all_eq_true.mpr fun c hc => ?_
    obtain ⟨i, hi, rfl⟩ := tat a ha
    obtain ⟨j, hj, rfl⟩ := tat c hc
    have z : ∀ i, i < ts.length → r[i]? = some 0 := fun i hi => by
      have hir : i < r.length := by omega
      have := lt_top (List.getElem_mem hir)
      rw [List.getElem?_eq_getElem hir]
      congr 1
      omega
    exact o.cons i j 0 (z i hi) (z j hj)
  · intro h
    obtain ⟨q, hq, hf⟩ := label_row ts (fun _ => 0) ts.length fun i j hi hj _ => by
      have m : ∀ i, i < ts.length → trAt ts i ∈ ts := fun i hi => by rw [← trAt_get hi]; exact List.getElem_mem hi
      exact List.all_eq_true.mp (List.all_eq_true.mp h _ (m i hi)) _ (m j hj)
    have h2 := b.few q hq
    have h3 := top_labels (L := [0]) (rowsOf_ok _ _ q hq) hf fun i _ => List.mem_singleton.mpr rfl
    have h4 : ([0] : List Nat).length = 1 := rfl
    omega
end GL
namespace GL
open PySem PySem.Spec PyProof.Rows L2 LamX
/-! ### small data shown -/
theorem row_show : ∀ r : Row, (∀ n ∈ r, n < 1000) → PyData.showableAll (r.map fun n : Nat => PyData.int (n : Int)) = true ∧ PyData.hasDictAll (r.map fun n : Nat => PyData.int (n : Int)) = false ∧ PyData.depthAll (r.map fun n : Nat => PyData.int (n : Int)) = 0 ∧ PyData.leavesShortAll 13 (r.map fun n : Nat => PyData.int (n : Int)) = true ∧ PyData.bulkAll (r.map fun n : Nat => PyData.int (n : Int)) = r.length
  | [], _ => ⟨rfl, rfl, rfl, rfl, rfl⟩
  | n :: r, h => by
    obtain ⟨a1, a2, a3, a4, a5⟩ := row_show r fun m hm => h m (List.mem_cons_of_mem _ hm)
    have hn := h n List.mem_cons_self
    have l1 : (PyData.shown (.int (n : Int))).length ≤ 13 := PyData.shown_int_le2 (by omega) (by omega)
    have l2 : ((n : Int)).natAbs.log2 < 1920 := by
      rw [Int.natAbs_natCast]
      have : n.log2 ≤ n := Nat.log2_le_self n
      omega
    refine ⟨?_, ?_, ?_, ?_, ?_⟩
    · rw [List.map_cons, PyData.showableAll, a1, PyData.showable, decide_eq_true l2]; rfl
    · rw [List.map_cons, PyData.hasDictAll, a2]; rfl
    · rw [List.map_cons, PyData.depthAll, a3]; rfl
    · rw [List.map_cons, PyData.leavesShortAll, a4, PyData.leavesShort, decide_eq_true l1]; rfl
    · rw [List.map_cons, PyData.bulkAll, a5, List.length_cons, PyData.bulk]; omega
theorem ok_shown {d : D} (h1 : d.showable = true) (h2 : d.hasDict = false) (h3 : d.depth ≤ 60) (h4 : d.leavesShort 13 = true) (h5 : d.bulk ≤ 2 ^ 20) : reprOk d = true := by
  have h6 : d.shown.length ≤ sz := PyData.shown_fits_bulk (B := 13) (by decide) (by decide) h4 h5
  unfold reprOk
  rw [h1, h2, Nat.ble_eq_true_of_le h3, Nat.ble_eq_true_of_le h6]
  rfl
theorem repr_two {d : D} (h1 : d.showable = true) (h2 : d.hasDict = false) (h3 : d.depth ≤ 5) (h4 : d.leavesShort 13 = true) (h5 : d.bulk ≤ 2000) : fRepr [.list [d, d]] = M.ret (.str (PyData.shown (.list [d, d]))) := by
  show M.ite (reprOk _) _ _ = _
  rw [ok_shown, mite_t]
  · show PyData.showableAll [d, d] = true
    simp only [PyData.showableAll, h1, Bool.and_self]
  · show PyData.hasDictAll [d, d] = false
    simp only [PyData.hasDictAll, h2, Bool.or_self]
  · show PyData.depthAll [d, d] + 1 ≤ 60
    simp only [PyData.depthAll]
    omega
  · show PyData.leavesShortAll 13 [d, d] = true
    simp only [PyData.leavesShortAll, h4, Bool.and_self]
  · show PyData.bulkAll [d, d] ≤ 2 ^ 20
    simp only [PyData.bulkAll]
    omega
theorem repr_int {n : Nat} (h : n < 1000) : fRepr [.list [.int (n : Int), .int (n : Int)]] = M.ret (.str (PyData.shown (.list [.int (n : Int), .int (n : Int)]))) := by
  obtain ⟨a1, a2, a3, a4, a5⟩ := row_show [n] (by simpa using h)
  refine repr_two ?_ rfl ?_ ?_ ?_
  · simpa [PyData.showableAll] using a1
  · simp [PyData.depth]
  · simpa [PyData.leavesShortAll] using a4
  · simp [PyData.bulk]
theorem repr_row {r : Row} (h : ∀ n ∈ r, n < 1000) (hl : r.length ≤ 1000) : fRepr [.list [rowD r, rowD r]] = M.ret (.str (PyData.shown (.list [rowD r, rowD r]))) := by
  obtain ⟨a1, a2, a3, a4, a5⟩ := row_show r h
  refine repr_two a1 a2 ?_ a4 ?_
  · show PyData.depthAll _ + 1 ≤ 5
    rw [a3]
    omega
  · show PyData.bulkAll _ ≤ 2000
    rw [a5]
    omega
theorem dNe_str (s : Str) : dNe (.str s) (.str s) = M.ret (.bool false) := by
  show M.ret (PyData.bool (!decide (s = s))) = _
  rw [decide_eq_true rfl]
  rfl
/-! ### the law's least and due -/
theorem least_eq {ts : List Tr} {r : Row} (hl : ts.length ≤ 6) (b : Best ts r) : fMin [.list ((rowsOf ts ts.length).map fun s => PyData.int (top s : Int))] = M.ret (.int (top r : Int)) := by
  have e : ((rowsOf ts ts.length).map fun s => PyData.int (top s : Int)) = ((rowsOf ts ts.length).map fun s => (top s : Int)).map PySem.W.Datum.toD := by
    rw [List.map_map]
    rfl
  rw [e]
  cases h : (rowsOf ts ts.length).map fun s => (top s : Int) with
  | nil => exact absurd (List.map_eq_nil_iff.mp h) (rows_ne ts _)
  | cons x xs =>
    rw [fMin_map (by decide)]
    obtain ⟨h1, h2⟩ := minOf_min sto_int x xs
    rw [← h] at h1 h2
    obtain ⟨s, hs, es⟩ := List.mem_map.mp h1
    have a := b.few s hs
    have c := of_decide_eq_false (h2 (top r : Int) (List.mem_map.mpr ⟨r, b.mem, rfl⟩))
    have v : PySem.W.minOf x xs = (top r : Int) := by omega
    rw [v]
    rfl
theorem due_eq {ts : List Tr} {r : Row} (b : Best ts r) : fMin [.list (((rowsOf ts ts.length).filter fun s => top s == top r).map rowD)] = M.ret (rowD r) := by
  have e : ((rowsOf ts ts.length).filter fun s => top s == top r).map rowD = (((rowsOf ts ts.length).filter fun s => top s == top r).map rowT).map PySem.W.Datum.toD := by
    rw [List.map_map]
    exact List.map_congr_left fun s _ => (rowT_d s).symm
  rw [e]
  have hr : r ∈ (rowsOf ts ts.length).filter fun s => top s == top r := List.mem_filter.mpr ⟨b.mem, by simp⟩
  cases h : ((rowsOf ts ts.length).filter fun s => top s == top r).map rowT with
  | nil =>
    rw [List.map_eq_nil_iff.mp h] at hr
    cases hr
  | cons x xs =>
    rw [fMin_map (by decide)]
    obtain ⟨h1, h2⟩ := minOf_min sto_row x xs
    rw [← h] at h1 h2
    obtain ⟨s, hs, es⟩ := List.mem_map.mp h1
    rw [← es] at h2 ⊢
    obtain ⟨s1, s2⟩ := List.mem_filter.mp hs
    have s2 : top s = top r := by simpa using s2
    have bs : Best ts s := ⟨s1, fun q hq => by rw [s2]; exact b.few q hq, fun q hq e => h2 _ (List.mem_map.mpr ⟨q, List.mem_filter.mpr ⟨hq, by simp [e, s2]⟩, rfl⟩)⟩
    rw [bs.uniq b, rowT_d]
theorem Ok.best {vs : List Nat} {ts : List Tr} (o : Ok vs ts) : ∃ r, Best ts r ∧ m_first_by [trD ts] = M.ret (rowD r) := first_by_eq o.few o.len
theorem fewest_eq {vs : List Nat} {ts : List Tr} {r : Row} (o : Ok vs ts) (b : Best ts r) : m_fewest_unions [valsD vs, trD ts] = M.ret (.int (top r : Int)) := by
  simp -implicitDefEqProofs only [m_fewest_unions, on2_eq, fnM, M.ret_bind, check_ok o, fewest_by_eq o.few o.len b]
theorem first_eq {vs : List Nat} {ts : List Tr} {r : Row} (o : Ok vs ts) (b : Best ts r) : m_first_grouping [valsD vs, trD ts] = M.ret (rowD r) := by
  obtain ⟨s, bs, e⟩ := o.best
  rw [bs.uniq b] at e
  simp -implicitDefEqProofs only [m_first_grouping, on2_eq, fnM, M.ret_bind, check_ok o, e]
/-! ### a group -/
def some_ (ts : List Tr) (r : Row) (g : Nat) : List Tr := ((List.range ts.length).filter fun i => r[i]? == some g).map (trAt ts)
theorem some_mem {ts : List Tr} {r : Row} {g : Nat} {t : Tr} (h : t ∈ some_ ts r g) : ∃ i, i < ts.length ∧ r[i]? = some g ∧ trAt ts i = t := by
  obtain ⟨i, hi, e⟩ := List.mem_map.mp h
  obtain ⟨h1, h2⟩ := List.mem_filter.mp hi
  exact ⟨i, List.mem_range.mp h1, by simpa using h2, e⟩
theorem trAt_mem {ts : List Tr} {i : Nat} (h : i < ts.length) : trAt ts i ∈ ts := by rw [← trAt_get h]; exact List.getElem_mem h
theorem some_len (ts : List Tr) (r : Row) (g : Nat) : (some_ ts r g).length ≤ ts.length := by
  unfold some_
  rw [List.length_map]
  refine Nat.le_trans (List.length_filter_le _ _) ?_
  rw [List.length_range]
  exact Nat.le_refl _
theorem some_ok {vs : List Nat} {ts : List Tr} (o : Ok vs ts) (r : Row) (g : Nat) : Ok vs (some_ ts r g) :=
  ⟨o.lo, o.up, o.vals, Nat.le_trans (some_len ts r g) o.few, fun t ht => by
    obtain ⟨i, h1, _, rfl⟩ := some_mem ht
    exact o.fits _ (trAt_mem h1)⟩
theorem some_go {ts : List Tr} {r : Row} {g : Nat} (o : RowOk ts ts.length r) : goAll (some_ ts r g) = true :=
  List.all_eq_true.mpr fun a ha => List.all_eq_true.mpr fun c hc => by
    obtain ⟨i, _, h2, rfl⟩ := some_mem ha
    obtain ⟨j, _, h4, rfl⟩ := some_mem hc
    exact o.cons i j g h2 h4
theorem fits_at : ∀ {vs : List Nat} {t : Tr} (k : Nat), Fits vs t → k < vs.length → ∃ o, t[k]? = some o
  | vs, t, k, h, hk => ⟨t[k]'(by rw [fits_len h]; exact hk), List.getElem?_eq_getElem _⟩
theorem opt_get {t : Tr} {k : Nat} {o : Option Nat} (h : t[k]? = some o) : dGet (tupO t) (.int (k : Int)) = M.ret (optD o) := dGet_t (by rw [List.getElem?_map, h]; rfl)
theorem lay_tr : ∀ t : Tr, PyData.canLayAll0 (t.map optD) = true ∧ PyData.depthAll (t.map optD) = 0
  | [] => ⟨rfl, rfl⟩
  | o :: t => by
    obtain ⟨h1, h2⟩ := lay_tr t
    constructor
    · rw [List.map_cons, PyData.canLayAll0, h1]
      cases o <;> rfl
    · rw [List.map_cons, PyData.depthAll, h2]
      cases o <;> rfl
theorem lay_trs : ∀ ts : List Tr, PyData.canLayAll0 (seqD ts) = true ∧ PyData.depthAll (seqD ts) ≤ 1
  | [] => ⟨rfl, Nat.zero_le _⟩
  | t :: ts => by
    obtain ⟨h1, h2⟩ := lay_trs ts
    obtain ⟨h3, h4⟩ := lay_tr t
    constructor
    · show (PyData.canLayAll0 (t.map optD) && PyData.canLayAll0 (seqD ts)) = true
      rw [h1, h3]
      rfl
    · show max (PyData.depthAll (t.map optD) + 1) (PyData.depthAll (seqD ts)) ≤ 1
      rw [h4]
      omega
theorem opt_shaped (t : Tr) : SeqAt.shaped (tupO t) = true := by
  obtain ⟨h1, h2⟩ := lay_tr t
  show (PyData.canLayAll0 (t.map optD) && decide (PyData.depthAll (t.map optD) + 1 ≤ 64)) = true
  rw [h1, h2]
  rfl
theorem optl_shaped (t : Tr) : SeqAt.shaped (.list (t.map optD)) = true := by
  obtain ⟨h1, h2⟩ := lay_tr t
  show (PyData.canLayAll0 (t.map optD) && decide (PyData.depthAll (t.map optD) + 1 ≤ 64)) = true
  rw [h1, h2]
  rfl
theorem tr_shaped (ts : List Tr) : SeqAt.shaped (trD ts) = true := by
  obtain ⟨h1, h2⟩ := lay_trs ts
  show (PyData.canLayAll0 (seqD ts) && decide (PyData.depthAll (seqD ts) + 1 ≤ 64)) = true
  rw [h1, decide_eq_true (by omega)]
  rfl
theorem dNe_ln {t : Tr} : dNe (.list (t.map optD)) (.list []) = M.ret (.bool (!t.isEmpty)) := by
  show dNeS _ _ = _
  unfold dNeS
  rw [optl_shaped, if_pos (show (true && SeqAt.shaped (.list [])) = true from rfl)]
  cases t <;> rfl
theorem dNe_tr {ts : List Tr} : dNe (trD ts) (.tuple []) = M.ret (.bool (!ts.isEmpty)) := by
  show dNeS _ _ = _
  unfold dNeS
  rw [tr_shaped, if_pos (show (true && SeqAt.shaped (.tuple [])) = true from rfl)]
  cases ts <;> rfl
/-! ### the union of what goes together, by the law -/
def oAt (t : Tr) (k : Nat) : Option Nat := t.getD k none
def setAt (ts : List Tr) (k : Nat) : List Tr := ts.filter fun t => (oAt t k).isSome
def uAt (ts : List Tr) (k : Nat) : Option Nat := match setAt ts k with
  | [] => none
  | t :: _ => oAt t k
def uSt (ts : List Tr) (k : Nat) : List D := (List.range k).map fun i => optD (uAt ts i)
theorem uSt_succ (ts : List Tr) (k : Nat) : uSt ts (k + 1) = uSt ts k ++ [optD (uAt ts k)] := by
  unfold uSt
  rw [List.range_succ, List.map_append]
  rfl
theorem law_union_eq {vs : List Nat} {ts : List Tr} (o : Ok vs ts) : m__law_union [valsD vs, trD ts] = M.ret (tupO ((List.range vs.length).map (uAt ts))) := by
  have key : ∀ f : D → List D → M (Out (List D)), (∀ k, k < vs.length → f (.int (k : Int)) (uSt ts k) = M.ret (.nx (uSt ts (k + 1)))) → forO f ((List.range vs.length).map fun i : Nat => PyData.int (i : Int)) [] = M.ret (.nx (uSt ts vs.length)) := fun f h => by
    have := forO_map (f := f) (fun i : Nat => PyData.int (i : Int)) (List.range vs.length) (uSt ts) (fun i hi => by
      rw [List.getElem_range]
      exact h i (by simpa using hi))
    rw [List.length_range] at this
    exact this
  have e2 : chkL [] = M.ret [] := chkL_ok (by simp)
  have e3 : fLen [valsD vs] = M.ret (.int (vs.length : Int)) := by
    show M.ret (PyData.int ((vs.map fun v : Nat => PyData.int (v : Int)).length : Nat)) = _
    rw [List.length_map]
  have up := o.up
  simp -implicitDefEqProofs only [m__law_union, on2_eq, M.ret_bind, e2, e3, rng1_nat (show vs.length ≤ 1000000 by omega), M.bind_assoc]
  rw [key]
  · have : (PyData.tuple (uSt ts vs.length)) = tupO ((List.range vs.length).map (uAt ts)) := by
      unfold uSt tupO
      rw [List.map_map]
      rfl
    simp -implicitDefEqProofs only [seqO_nx, M.ret_bind, fTuple_list, fnM_rt, this]
  · intro k hk
    have sq : seqOf (trD ts) = M.ret (seqD ts) := rfl
    have ga : ∀ t ∈ ts, dGet (tupO t) (.int (k : Int)) = M.ret (optD (oAt t k)) := fun t ht => by
      obtain ⟨p, hp⟩ := fits_at k (o.fits t ht) hk
      rw [opt_get hp]
      congr 2
      unfold oAt
      rw [List.getD_eq_getElem?_getD, hp]
      rfl
    have lc : lcM (M.ret (seqD ts)) un1 (on1 fun t5 => M.bind (dGet t5 (.int (k : Int))) fun d8 => M.ret (!isN d8)) (on1 fun t5 => dGet t5 (.int (k : Int))) = M.ret (((setAt ts k).map fun t => oAt t k).map optD) := by
      have := lcM_enc (un := un1) (mt := on1 fun t5 => M.bind (dGet t5 (.int (k : Int))) fun d8 => M.ret (!isN d8)) (me := on1 fun t5 => dGet t5 (.int (k : Int))) tupO (fun t => (oAt t k).isSome) (fun t => optD (oAt t k)) (zs := ts) (fun t ht => itemM_eq rfl (by
        rw [on1_eq, ga t ht, M.ret_bind, isN_opt]
        congr 1
        cases oAt t k <;> rfl) fun _ => by rw [on1_eq, ga t ht]) (by have := o.few; omega)
      rw [List.map_map]
      exact this
    have ml : mkL [] = M.ret (.list []) := mkL_ok (by simp)
    have bl : Nat.blt (uSt ts k).length sz = true := blt_ok (by unfold uSt; rw [List.length_map, List.length_range]; omega)
    simp -implicitDefEqProofs only [un1_eq, M.lift_some, M.ret_bind, on1_eq, sq, lc, ml, dNe_ln, tru_bool, bl, mite_t, M.bind_assoc]
    rw [uSt_succ]
    unfold uAt
    cases setAt ts k with
    | nil => rfl
    | cons t r =>
      have g : dGet (.list (List.map optD (List.map (fun t => oAt t k) (t :: r)))) (.int ((0 : Nat) : Int)) = M.ret (optD (oAt t k)) := dGet_l rfl
      show M.bind (dGet (.list (List.map optD (List.map (fun t => oAt t k) (t :: r)))) (.int ((0 : Nat) : Int))) _ = _
      rw [g]
      rfl
end GL
namespace GL
open PySem PySem.Spec PyProof.Rows L2 LamX
theorem Ok.drop {vs : List Nat} {ts : List Tr} (o : Ok vs ts) : Ok vs (ts.drop 1) :=
  ⟨o.lo, o.up, o.vals, by have := o.few; rw [List.length_drop]; omega, fun t ht => o.fits t (List.mem_of_mem_drop ht)⟩
theorem same_two {ts : List Tr} {r : Row} (b : Best ts r) : M.ite (!ts.isEmpty) (M.ret (decide ((top r : Int) = 1) != goAll ts)) (M.ret false) = M.ret false := by
  cases ts with
  | nil => rfl
  | cons t ts =>
    rw [show (!(t :: ts).isEmpty) = true from rfl, mite_t]
    congr 1
    have h := best_one b (by simp)
    cases e : goAll (t :: ts) with
    | true =>
      have := h.mpr e
      rw [decide_eq_true (by omega)]
      rfl
    | false =>
      have : ¬ top r = 1 := fun z => by rw [h.mp z] at e; cases e
      rw [decide_eq_false (by omega)]
      rfl
theorem pull_num : Draws (m__law_pull [.list [.int 0, .int 1, .int 2, .int 3, .int 4, .int 5, .int 6]]) 1 fun d => ∃ j : Nat, j ≤ 6 ∧ d = .int (j : Int) := by
  refine (pull_dr (by simp) (by simp)).mono (Nat.le_refl _) fun d hd => ?_
  simp only [List.mem_cons, List.not_mem_nil, or_false] at hd
  rcases hd with rfl | rfl | rfl | rfl | rfl | rfl | rfl
  · exact ⟨0, by omega, rfl⟩
  · exact ⟨1, by omega, rfl⟩
  · exact ⟨2, by omega, rfl⟩
  · exact ⟨3, by omega, rfl⟩
  · exact ⟨4, by omega, rfl⟩
  · exact ⟨5, by omega, rfl⟩
  · exact ⟨6, by omega, rfl⟩
theorem opens_dr {vs : List Nat} (hv : ∀ v ∈ vs, 2 ≤ v ∧ v ≤ 4) (hl : vs.length ≤ 4) : Draws (lcM (M.bind (m__law_pull [.list [.int 0, .int 1, .int 2, .int 3, .int 4, .int 5, .int 6]]) rng1) un1 (fun _ => M.ret true) (on1 fun t12 => m__law_open [valsD vs])) 60 fun ys => ∃ ts : List Tr, ys = seqD ts ∧ ts.length ≤ 6 ∧ ∀ t ∈ ts, Fits vs t := by
  have p1 : Draws (M.bind (m__law_pull [.list [.int 0, .int 1, .int 2, .int 3, .int 4, .int 5, .int 6]]) rng1) 1 fun xs => xs.length ≤ 6 :=
    Draws.bind (d := 0) pull_num fun d ⟨j, hj, hd⟩ => by
      subst hd
      rw [rng1_nat (by omega)]
      exact .ret (by rw [List.length_map, List.length_range]; exact hj)
  have p2 := Draws.lc (L := fun n => n ≤ 6) (P := fun y => ∃ t, y = tupO t ∧ Fits vs t) (k := 6) (d := 8) (un := un1) (mt := fun _ => M.ret true) (me := on1 fun t12 => m__law_open [valsD vs]) (p1.mono (Nat.le_refl _) fun xs h => ⟨h, h, fun x hx => Draws.item (un1_eq x) (open_dr hv hl)⟩) (by omega)
  refine p2.mono (by omega) fun ys ⟨h1, h2, h3⟩ => ?_
  obtain ⟨ts, e, h4⟩ := all_enc h3
  subst e
  rw [List.length_map] at h1
  exact ⟨ts, rfl, h1, h4⟩
theorem right_dr : Draws (m__law_right []) 100 fun d => d = .bool true := by
  have k : mkL [.int 0, .int 1, .int 2, .int 3, .int 4, .int 5, .int 6] = M.ret (.list [.int 0, .int 1, .int 2, .int 3, .int 4, .int 5, .int 6]) := mkL_ok (by decide)
  simp -implicitDefEqProofs only [m__law_right, on0_eq, fnM, M.ret_bind, M.bind_assoc, k, fTuple_list]
  refine (Draws.bind (d := 60) values_dr fun d ⟨vs, hd, h1, h2, h3⟩ => ?_).mono (by omega) fun _ h => h
  subst hd
  refine (Draws.bind (d := 0) (opens_dr h3 h2) fun ys ⟨ts, hy, h4, h5⟩ => ?_)
  subst hy
  have o : Ok vs ts := ⟨h1, by omega, h3, h4, h5⟩
  obtain ⟨r, b, _⟩ := o.best
  obtain ⟨s, c, _⟩ := o.drop.best
  have ro := rowsOf_ok ts _ r b.mem
  have rl := ro.len
  have tl : top r ≤ 6 := by have := top_len ro; omega
  have rn : ∀ n ∈ r, n < 1000 := fun n hn => by have := lt_top hn; omega
  have big : (rowsOf ts ts.length).length ≤ 16777216 := by
    have h := rowsOf_len ts ts.length h4
    have : 7 ^ ts.length ≤ 7 ^ 6 := Nat.pow_le_pow_right (by omega) h4
    omega
  refine .of (a := .bool true) ?_ rfl
  have eT : PyData.tuple (seqD ts) = trD ts := rfl
  have lg := law_groupings_eq h4 o.len
  have ls : ∀ q ∈ rowsOf ts ts.length, lenSetD (rowD q) = M.ret (.int (top q : Int)) := fun q hq => by
    have oq := rowsOf_ok ts _ q hq
    exact lenSet_row oq.rg (by rw [oq.len]; omega)
  have lc1 : lcM (M.ret ((rowsOf ts ts.length).map rowD)) un1 (fun _ => M.ret true) (on1 fun t19 => lenSetD t19) = M.ret ((rowsOf ts ts.length).map fun q => PyData.int (top q : Int)) :=
    lcM_map _ _ (fun q hq => by rw [itemM_one (un1_eq _), on1_eq, ls q hq]; rfl) big
  have le := least_eq h4 b
  have lc2 : lcM (M.ret ((rowsOf ts ts.length).map rowD)) un1 (on1 fun t23 => M.bind (lenSetD t23) fun d24 => M.bind (dEq d24 (.int (top r : Int))) tru) (on1 fun t23 => M.ret t23) = M.ret (((rowsOf ts ts.length).filter fun q => top q == top r).map rowD) :=
    lcM_enc _ _ _ (fun q hq => itemM_eq rfl (by
      rw [on1_eq, ls q hq, M.ret_bind, dEq_int, M.ret_bind, tru_bool]
      congr 1
      by_cases h : top q = top r
      · rw [decide_eq_true (by rw [h])]; simp [h]
      · rw [decide_eq_false (by omega)]; simp [h]) fun _ => rfl) big
  have du := due_eq b
  have fe := fewest_eq o b
  have fi := first_eq o b
  have ri := repr_int (n := top r) (by omega)
  have rr := repr_row rn (by omega)
  have m2 : ∀ a c : D, mkL [a, c] = M.ret (.list [a, c]) := fun a c => mkL_ok (by simp)
  have e0 : mkT [] = M.ret (.tuple []) := mkT_ok (by simp)
  have tg := together_eq o
  have fd := fewest_eq o.drop c
  have cu : dCut (some 1) none (trD ts) = M.ret (trD (ts.drop 1)) := by
    show M.ret (PyData.tuple (cut (seqD ts) (some ((1 : Nat) : Int)) none)) = _
    rw [cut_from]
    unfold seqD
    rw [← List.map_drop]
    rfl
  have lev : dLe (.int (top s : Int)) (.int (top r : Int)) = M.ret (.bool true) := by
    rw [dLe_int, decide_eq_true (by have := best_drop b c; omega)]
  have st := same_two b
  have e3 : fLen [trD ts] = M.ret (.int (ts.length : Int)) := by
    show M.ret (PyData.int ((seqD ts).length : Nat)) = _
    unfold seqD
    rw [List.length_map]
  have key : ∀ f : D → Unit → M (Out Unit), (∀ g : Nat, g < top r → f (.int (g : Int)) () = M.ret (.nx ())) → forO f ((List.range (top r)).map fun i : Nat => PyData.int (i : Int)) () = M.ret (.nx ()) := fun f h => by
    have := forO_map (f := f) (fun i : Nat => PyData.int (i : Int)) (List.range (top r)) (fun _ => ()) (fun i hi => by
      rw [List.getElem_range]
      exact h i (by simpa using hi))
    exact this
  simp -implicitDefEqProofs only [eT, lg, M.ret_bind, M.bind_assoc, seqOf_list, lc1, le, lc2, du, fe, fi, m2, ri, rr, dNe_str, tru_bool, mite_f, seqO_nx, rng1_nat (show top r ≤ 1000000 by omega), e0, dNe_tr, mand_ret, tg, dEq_int, dNe_bool, st, dInt_int, cu, fd, lev]
  rw [key]
  · simp -implicitDefEqProofs only [seqO_nx, M.ret_bind]
  · intro g hg
    have ok2 := some_ok o r g
    have gg := some_go (g := g) ro
    have un := union_eq ok2 gg
    have lu := law_union_eq ok2
    have tg2 := together_eq ok2
    rw [gg] at tg2
    have ft : PyData.tuple ((some_ ts r g).map tupO) = trD (some_ ts r g) := rfl
    have sm := dNe_same (opt_shaped ((List.range vs.length).map (uAt (some_ ts r g)))) (fun s h => by cases h)
    have ib : isB true (.bool true) (.bool true) = M.ret (.bool false) := rfl
    have lc3 : lcM (M.ret ((List.range ts.length).map fun i : Nat => PyData.int (i : Int))) un1 (on1 fun t62 => M.bind (dGet (rowD r) t62) fun d65 => M.bind (dEq d65 (.int (g : Int))) tru) (on1 fun t62 => dGet (trD ts) t62) = M.ret ((some_ ts r g).map tupO) := by
      have := lcM_enc (un := un1) (mt := on1 fun t62 => M.bind (dGet (rowD r) t62) fun d65 => M.bind (dEq d65 (.int (g : Int))) tru) (me := on1 fun t62 => dGet (trD ts) t62) (fun i : Nat => PyData.int (i : Int)) (fun i => r[i]? == some g) (fun i => tupO (trAt ts i)) (zs := List.range ts.length) (fun i hi => by
        have hi := List.mem_range.mp hi
        obtain ⟨n, hn2⟩ : ∃ n, r[i]? = some n := ⟨_, List.getElem?_eq_getElem (show i < r.length by omega)⟩
        have gr : dGet (rowD r) (.int (i : Int)) = M.ret (.int (n : Int)) := dGet_t (by
          rw [List.getElem?_map, hn2]
          rfl)
        refine itemM_eq rfl ?_ fun _ => ?_
        · rw [on1_eq, gr, M.ret_bind, dEq_int, M.ret_bind, tru_bool, hn2]
          congr 1
          by_cases h : n = g
          · rw [decide_eq_true (by rw [h])]; simp [h]
          · rw [decide_eq_false (by omega)]; simp [h]
        · rw [on1_eq]
          exact dGet_t (by
            show (ts.map tupO)[i]? = _
            rw [List.getElem?_map, List.getElem?_eq_getElem hi, trAt_get hi]
            rfl)) (by rw [List.length_range]; omega)
      unfold some_
      rw [List.map_map]
      exact this
    simp -implicitDefEqProofs only [un1_eq, M.lift_some, M.ret_bind, on1_eq, e3, rng1_nat (show ts.length ≤ 1000000 by omega), lc3, fTuple_list, ft, un, lu, sm, tru_bool, mor_ret, mite_f, tg2, ib, M.bind_assoc]
/-! ### a lap's ten goes -/
theorem All2.right {α β : Type} {P : β → Prop} {xs : List α} {ys : List β} (h : All2 (fun _ y => P y) xs ys) : ∀ y ∈ ys, P y := by
  induction h with
  | nil => intro y hy; cases hy
  | cons h1 h2 ih =>
    intro y hy
    rcases List.mem_cons.mp hy with rfl | hy
    · exact h1
    · exact ih y hy
theorem body_dr (a d : D) : Draws (m_law_body a d) 2000 fun w => w = .nx () := by
  have e : rng1 (.int 10) = M.ret ((List.range 10).map fun i : Nat => PyData.int (i : Int)) := rng1_nat (n := 10) (by omega)
  simp -implicitDefEqProofs only [m_law_body, M.not, M.ret_bind, M.bind_assoc, e]
  refine (Draws.bind (d := 0) (Draws.lc2 (k := 10) (d := 100) (R := fun _ y => y = PyData.bool true) (un := un1) (mt := fun _ => M.ret true) (me := on1 fun t6 => m__law_right []) (fun x _ => Draws.item (un1_eq x) right_dr) (by simp) (by omega)) fun ys h => ?_).mono (by omega) fun _ h => h
  have h2 : ∀ y ∈ ys, ∃ u : Unit, y = (fun _ : Unit => PyData.bool true) u ∧ True := fun y hy => ⟨(), h.right y hy, trivial⟩
  obtain ⟨us, e2, _⟩ := all_enc h2
  subst e2
  have fa : fAll [.list (us.map fun _ : Unit => PyData.bool true)] = M.ret (.bool true) := by
    rw [fAll_map (fun _ => true)]
    congr 2
    exact List.all_eq_true.mpr fun _ _ => rfl
  refine .of (a := .nx ()) ?_ rfl
  simp -implicitDefEqProofs only [fa, M.ret_bind, tru_bool, Bool.not_true, mite_f]
end GL
namespace GL
open PySem PySem.Spec PyProof.Rows L2 LamX
def okN (ns : List Int) : Prop := ns.length ≤ 63 ∧ ∀ z ∈ ns, Builtin.Int.intBits z ≤ 1048576
/-! ### the first bag -/
def stir1 (w z : Int) : Int := (w * 48271 + z % 2147483629 + 23) % 2147483647
theorem stir1_in (w z : Int) : 0 ≤ stir1 w z ∧ stir1 w z < 2147483648 := by
  unfold stir1
  omega
theorem stir_in : ∀ (zs : List Int) (w : Int), 0 ≤ w → w < 2147483648 → 0 ≤ zs.foldl stir1 w ∧ zs.foldl stir1 w < 2147483648
  | [], w, h1, h2 => ⟨h1, h2⟩
  | z :: zs, w, _, _ => stir_in zs (stir1 w z) (stir1_in w z).1 (stir1_in w z).2
theorem stir_loop {f : D → D → M (Out D)} (h : ∀ z w : Int, 0 ≤ w → w < 2147483648 → f (.int z) (.int w) = M.ret (.nx (.int (stir1 w z)))) : ∀ (zs : List Int) (w : Int), 0 ≤ w → w < 2147483648 → forO f (zs.map .int) (.int w) = M.ret (.nx (.int (zs.foldl stir1 w)))
  | [], w, _, _ => rfl
  | z :: zs, w, h1, h2 => by
    have ih := stir_loop h zs (stir1 w z) (stir1_in w z).1 (stir1_in w z).2
    rw [List.map_cons]
    unfold forO
    rw [h z w h1 h2]
    exact ih
theorem newM_nx {S : Type} (s : S) (me : S → M (List D)) : newM (M.ret (.nx s)) me = me s := rfl
theorem pow_15 : powD (.int 10) (.int 15) = M.ret (.int 1000000000000000) := by
  show (match decide (CPow 10 15) with | true => M.ret (.int ((10 : Int) ^ (15 : Int).toNat)) | false => M.fail : M D) = _
  rw [decide_eq_true (show CPow 10 15 by unfold CPow; decide)]
  rfl
theorem bag_eq (ns : List Int) (k : Nat) (hk : k ≤ 3) : ∃ x y : Int, 0 ≤ x ∧ 0 ≤ y ∧ y < 2147483647 ∧ m__law_bag [scriptD ns, .int (k : Int)] = M.ret [.int x, .int y, .int 0] := by
  have e1 : mulD (.int 8009) (.int (k : Int)) = M.ret (.int (8009 * (k : Int))) := mulD_int (n := 31) (m := 31) (by omega) (by omega) (by omega)
  have sd : scriptD ns = .list (ns.map .int) := rfl
  have cu : dCut none (some 16) (.list (ns.map PyData.int)) = M.ret (.list ((ns.take 16).map .int)) := by
    show M.ret (PyData.list (cut (ns.map PyData.int) none (some ((16 : Nat) : Int)))) = _
    rw [cut_to, List.map_take]
  have h0 : (0 : Int) ≤ 52027 + 8009 * (k : Int) := by omega
  have h1 : (52027 + 8009 * (k : Int)) < 2147483648 := by omega
  obtain ⟨w1, w2⟩ := stir_in (ns.take 16) _ h0 h1
  have lo : ∀ f : D → D → M (Out D), (∀ z w : Int, 0 ≤ w → w < 2147483648 → f (.int z) (.int w) = M.ret (.nx (.int (stir1 w z)))) → forO f ((ns.take 16).map PyData.int) (.int (52027 + 8009 * (k : Int))) = M.ret (.nx (.int ((ns.take 16).foldl stir1 (52027 + 8009 * (k : Int))))) := fun f h => stir_loop h _ _ h0 h1
  generalize (ns.take 16).foldl stir1 (52027 + 8009 * (k : Int)) = w at w1 w2 lo
  obtain ⟨own, ow⟩ : ∃ own : Int, (M.ite (decide ((k : Int) < ((ns.map PyData.int).length : Int))) (M.bind (dGet (.list (ns.map PyData.int)) (.int (k : Int))) fun d30 => fInt [d30]) (M.ret (.int 0))) = M.ret (.int own) := by
    by_cases h : k < ns.length
    · rw [decide_eq_true (by rw [List.length_map]; omega), mite_t, dGet_l (x := .int ns[k]) (by rw [List.getElem?_map, List.getElem?_eq_getElem h]; rfl)]
      exact ⟨ns[k], rfl⟩
    · rw [decide_eq_false (by rw [List.length_map]; omega), mite_f]
      exact ⟨0, rfl⟩
  have e2 : mulD (.int w) (.int 31) = M.ret (.int (w * 31)) := mulD_int (n := 32) (m := 31) (by omega) (by omega) (by omega)
  have q1 : (0 : Int) < 2147483629 := by omega
  have q2 : (0 : Int) < 2147483647 := by omega
  have e3 : mulD (.int (own % 2147483629)) (.int 17) = M.ret (.int (own % 2147483629 * 17)) := mulD_int (n := 32) (m := 31) (by omega) (by omega) (by omega)
  have e4 : ∀ w : Int, 0 ≤ w → w < 2147483648 → mulD (.int w) (.int 48271) = M.ret (.int (w * 48271)) := fun w a c => mulD_int (n := 32) (m := 31) (by omega) (by omega) (by omega)
  have ch : ∀ a c d : D, chkL [a, c, d] = M.ret [a, c, d] := fun a c d => chkL_ok (by simp)
  refine ⟨if own < 0 ∨ 1000000000000000 ≤ own then (if own < 0 then -own else own) else 0, (w * 31 + own % 2147483629 * 17 + 3) % 2147483647, ?_, by omega, by omega, ?_⟩
  · split
    · split <;> omega
    · omega
  simp -implicitDefEqProofs only [m__law_bag, on2_eq, M.ret_bind, M.bind_assoc, e1, addD_int, sd, dInt_int, cu, seqOf_list, fLen_list, dLt_int, tru_bool]
  rw [lo]
  · simp -implicitDefEqProofs only [seqO_nx, ow, M.ret_bind, fInt_int, modD_int q1, modD_int q2, e2, e3, addD_int, newM_nx, dLt_int, dGe_int, tru_bool, pow_15, mor_ret, ch]
    by_cases a : own < 0
    · rw [decide_eq_true a, if_pos (.inl a)]
      rfl
    · by_cases c : 1000000000000000 ≤ own
      · rw [decide_eq_false a, decide_eq_true c, if_pos (.inr c)]
        rfl
      · rw [decide_eq_false a, decide_eq_false c, if_neg (by omega)]
        rfl
  · intro z v a c
    simp -implicitDefEqProofs only [un1_eq, M.lift_some, M.ret_bind, on1_eq, e4 v a c, fInt_int, modD_int q1, modD_int q2, addD_int, M.bind_assoc]
    rfl
theorem laps_eq (ns : List Int) : ∃ L : Nat, L ≤ 3 ∧ m_law_laps (scriptD ns) = M.ret ((List.range L).map fun i : Nat => PyData.int (i : Int)) := by
  have sd : fLen [scriptD ns] = M.ret (.int ((ns.map PyData.int).length : Int)) := rfl
  have mi : ∀ i j : Int, fMin [.int i, .int j] = M.ret (.int (if j < i then j else i)) := fun _ _ => rfl
  have ma : ∀ i j : Int, fMax [.int i, .int j] = M.ret (.int (if j > i then j else i)) := fun _ _ => rfl
  obtain ⟨L, h1, h2⟩ : ∃ L : Nat, L ≤ 3 ∧ (if (if (3 : Int) < ((ns.map PyData.int).length : Int) then (3 : Int) else ((ns.map PyData.int).length : Int)) > 2 then (if (3 : Int) < ((ns.map PyData.int).length : Int) then (3 : Int) else ((ns.map PyData.int).length : Int)) else 2) = (L : Int) := by
    by_cases h : (3 : Int) ≤ ((ns.map PyData.int).length : Int)
    · refine ⟨3, by omega, ?_⟩
      split <;> split <;> omega
    · refine ⟨2, by omega, ?_⟩
      split <;> split <;> omega
  refine ⟨L, h1, ?_⟩
  simp -implicitDefEqProofs only [m_law_laps, M.ret_bind, sd, mi, ma]
  rw [h2]
  exact rng1_nat (by omega)
theorem plain_64 : ∀ ns, okN ns → ∃ laps, m_law_laps (scriptD ns) none = some (.ok laps, none) ∧ ∀ d ∈ laps, ∃ x y z b', m__law_bag [scriptD ns, d] none = some (.ok [.int x, .int y, .int z], none) ∧ m_law_body (scriptD ns) d (some (x, y, z)) = some (.ok (.nx ()), b') := by
  intro ns _
  obtain ⟨L, h1, h2⟩ := laps_eq ns
  refine ⟨_, by rw [h2]; rfl, fun d hd => ?_⟩
  obtain ⟨k, hk, rfl⟩ := List.mem_map.mp hd
  obtain ⟨x, y, a1, a2, a3, e⟩ := bag_eq ns k (by have := List.mem_range.mp hk; omega)
  obtain ⟨w, t, e2, _, e3⟩ := body_dr (scriptD ns) (.int (k : Int)) 0 (x, y, 0) (by omega) ⟨a1, a2, a3, Int.le_refl _, Int.le_refl _⟩
  subst e3
  exact ⟨x, y, 0, _, by rw [e]; rfl, e2⟩
end GL
namespace GL
open PySem PySem.Spec PyProof.Rows L2 LamX

def tS (i : Nat) : Stmt := PySem.Challenge.pw_seenpairs_k64_whole_groupings.main.body.getD i (.Pass ⟨0, 0, 0, 0⟩)
section
variable {P : Program} {w : World} {K : PySem.W.Frag} {mg : Str → Option Value} {base : Heap} {g : Gx}
abbrev t_is_whole : Stmt := tS 5
theorem sc_is_whole : FnScope ["value"] ["value"] (defScope t_is_whole) := ⟨rfl, rfl, rfl, by decide +kernel, rfl, by decide +kernel, by decide +kernel⟩
theorem w_is_whole (dd : Df K mg "is_whole" t_is_whole (fun _ => True)) (b_bool : mg "bool" = none) (b_int : mg "int" = none) (b_isinstance : mg "isinstance" = none) : Kn P w K mg base g "is_whole" t_is_whole 1 ["value"] [.d] m_is_whole := by
  refine kn_of (k := 0) dd sc_is_whole rfl (fun _ _ _ _ _ _ us hl => match us, hl with | [_], _ => rfl) fun β f cdv A outer s H E ds hT C hl => ?_
  obtain ⟨a0, rfl⟩ := len1 hl
  refine ⟨Unit, fun _ => List.replicate 1 .un, _, ?_, (bj_ret (ev_and (ev_isa call_isaInt rfl b_isinstance rfl b_int (by decide +kernel) (ev_v 0 a0)) (ev_one (ev_not (ev_isa call_isaBool rfl b_isinstance rfl b_bool (by decide +kernel) (ev_v 0 a0))))))⟩
  rfl
abbrev t_is_between : Stmt := tS 6
theorem sc_is_between : FnScope ["value", "least", "most"] ["value", "least", "most"] (defScope t_is_between) := ⟨rfl, rfl, rfl, by decide +kernel, rfl, by decide +kernel, by decide +kernel⟩
theorem w_is_between (dd : Df K mg "is_between" t_is_between (fun _ => True)) (k_is_whole : Kn P w K mg base g "is_whole" t_is_whole 1 ["value"] [.d] m_is_whole) : Kn P w K mg base g "is_between" t_is_between 2 ["value", "least", "most"] [.d, .d, .d] m_is_between := by
  refine kn_of (k := 1) dd sc_is_between rfl (fun _ _ _ _ _ _ us hl => match us, hl with | [_, _, _], _ => rfl) fun β f cdv A outer s H E ds hT C hl => ?_
  obtain ⟨a0, a1, a2, rfl⟩ := len3 hl
  refine ⟨Unit, fun _ => List.replicate 3 .un, _, ?_, (bj_ret (ev_and (Ev.cast (ev_call C (k_is_whole.at β) (by decide) rfl (by exact rfl) (as_d (ev_v 0 a0) as_nil)) rfl) (ev_one (ev_leLe (ev_v 1 a1) (ev_v 0 a0) (ev_v 2 a2)))))⟩
  rfl
abbrev t_is_tuple_of : Stmt := tS 7
theorem sc_is_tuple_of : FnScope ["value", "many"] ["value", "many"] (defScope t_is_tuple_of) := ⟨rfl, rfl, rfl, by decide +kernel, rfl, by decide +kernel, by decide +kernel⟩
theorem w_is_tuple_of (dd : Df K mg "is_tuple_of" t_is_tuple_of (fun _ => True)) (b_isinstance : mg "isinstance" = none) (b_len : mg "len" = none) (b_tuple : mg "tuple" = none) : Kn P w K mg base g "is_tuple_of" t_is_tuple_of 1 ["value", "many"] [.d, .d] m_is_tuple_of := by
  refine kn_of (k := 0) dd sc_is_tuple_of rfl (fun _ _ _ _ _ _ us hl => match us, hl with | [_, _], _ => rfl) fun β f cdv A outer s H E ds hT C hl => ?_
  obtain ⟨a0, a1, rfl⟩ := len2 hl
  refine ⟨Unit, fun _ => List.replicate 2 .un, _, ?_, (bj_ret (ev_and (ev_isa call_isaTuple rfl b_isinstance rfl b_tuple (by decide +kernel) (ev_v 0 a0)) (ev_one (ev_cmp (c_eq C) (Ev.cast (ev_blt GL.b_len rfl b_len (es_cons (ev_v 0 a0) es_nil)) rfl) (ev_v 1 a1)))))⟩
  rfl
abbrev t_is_row : Stmt := tS 8
theorem sc_is_row : FnScope ["value", "least", "most"] ["value", "least", "most"] (defScope t_is_row) := ⟨rfl, rfl, rfl, by decide +kernel, rfl, by decide +kernel, by decide +kernel⟩
theorem w_is_row (dd : Df K mg "is_row" t_is_row (fun _ => True)) (b_isinstance : mg "isinstance" = none) (b_len : mg "len" = none) (b_tuple : mg "tuple" = none) : Kn P w K mg base g "is_row" t_is_row 1 ["value", "least", "most"] [.d, .d, .d] m_is_row := by
  refine kn_of (k := 0) dd sc_is_row rfl (fun _ _ _ _ _ _ us hl => match us, hl with | [_, _, _], _ => rfl) fun β f cdv A outer s H E ds hT C hl => ?_
  obtain ⟨a0, a1, a2, rfl⟩ := len3 hl
  refine ⟨Unit, fun _ => List.replicate 3 .un, _, ?_, (bj_ret (ev_and (ev_isa call_isaTuple rfl b_isinstance rfl b_tuple (by decide +kernel) (ev_v 0 a0)) (ev_one (ev_leLe (ev_v 1 a1) (Ev.cast (ev_blt GL.b_len rfl b_len (es_cons (ev_v 0 a0) es_nil)) rfl) (ev_v 2 a2)))))⟩
  rfl
abbrev t_first_wrong : Stmt := tS 9
theorem sc_first_wrong : FnScope ["value", "is_right", "index", "each"] ["value", "is_right"] (defScope t_first_wrong) := ⟨rfl, rfl, rfl, by decide +kernel, rfl, by decide +kernel, by decide +kernel⟩
theorem w_first_wrong (dd : Df K mg "first_wrong" t_first_wrong (fun _ => True)) (b_enumerate : mg "enumerate" = none) (kc : Nat) : KnC P w K mg base g "first_wrong" t_first_wrong (kc + 3) ["value", "is_right"] (kc + 1) 2 m_first_wrong := by
  refine knC_of (k := kc + 2) (nd := 1) dd sc_first_wrong rfl (fun _ _ _ _ _ _ us hl => match us, hl with | [_, _], _ => rfl) fun β f cdv A outer s H E ds fa Fc Mc C hl hc => ?_
  obtain ⟨a0, rfl⟩ := len1 hl
  refine ⟨Unit, fun _ => List.replicate 4 .un, _, ?_, (bj_seq (sj_forG (sh := (fun s : Unit => ([.d a0, .v (.ref fa) Fc, .un, .un] : List Sl))) (s0 := ()) C (it_enum rfl b_enumerate (ev_v 0 a0)) (tg_tup (by exact C.calm) (tgs_n (by exact C.nd) 2 (tgs_n (by exact C.nd) 3 tgs_nil))) (.keep (.keep (.keep (.keep .nil)))) (fun _ => hl_of rfl) (fun ds s3 => bj_on2 (fun t4 t5 => (bj_one (sj_if (et_not (et_val (Ev.cast (ev_callV (n := 2) C (by omega) (i := 1) rfl (by first | exact Or.inl rfl | exact Or.inr (Or.inl rfl) | exact Or.inr (Or.inr rfl)) rfl hc rfl (as_d (ev_v 3 t5) (as_d (ev_cut (ev_v 0 a0) po_no (po_ev (ev_v 2 t4))) as_nil))) rfl))) (bj_ret (ev_v 2 t4)) (bj_weak (.keep (.keep (.drop (.drop .nil)))) (bj_nil () rfl))))) ds)) fun s13 => (bj_ret ev_non))⟩
  rfl
abbrev t_wrong_number : Stmt := tS 15
theorem sc_wrong_number : FnScope ["value"] ["value"] (defScope t_wrong_number) := ⟨rfl, rfl, rfl, by decide +kernel, rfl, by decide +kernel, by decide +kernel⟩
theorem w_wrong_number (dd : Df K mg "wrong_number" t_wrong_number (CcL mg base g "wrong_number")) (c_FEWEST_VALUES : ∃ t, mg "FEWEST_VALUES" = some (.int 2 t)) (c_MOST_VALUES : ∃ t, mg "MOST_VALUES" = some (.int 4 t)) (k_is_between : Kn P w K mg base g "is_between" t_is_between 2 ["value", "least", "most"] [.d, .d, .d] m_is_between) (k_first_wrong : ∀ kc, KnC P w K mg base g "first_wrong" t_first_wrong (kc + 3) ["value", "is_right"] (kc + 1) 2 m_first_wrong) : Kn P w K mg base g "wrong_number" t_wrong_number 6 ["value"] [.d] m_wrong_number := by
  refine kn_of (k := 5) dd sc_wrong_number rfl (fun _ _ _ _ _ _ us hl => match us, hl with | [_], _ => rfl) fun β f cdv A outer s H E ds hT C hl => ?_
  obtain ⟨a0, rfl⟩ := len1 hl
  refine ⟨Unit, fun _ => List.replicate 1 .un, _, ?_, (bj_ret (ev_callL1 (kc := 2) (N := ["number", "ahead"]) (psL := ["number", "ahead"]) (fr := []) (js := []) (cs := []) (Mc := (on2 fun p1 p2 => (M.bind (M.ret p1) fun d3 => (M.bind (M.ret (.int 2)) fun d4 => (M.bind (M.ret (.int 4)) fun d5 => (m_is_between [d3, d4, d5])))))) C ((k_first_wrong 2).at β) (by decide) rfl rfl (ev_v 0 a0) (fun _ => { tab := hT, hdef := rfl, S := NdefX.nscope_by rfl, free := NdefX.ndef_free (fr := []) rfl, frs_ := NdefX.ndef_fr (sc := defScope t_wrong_number) rfl, hjs := rfl, caps := rfl, bind := fun _ _ _ _ _ us hl => (match us, hl with | [_, _], _ => rfl), body := (fun A outer s H E f c' cl ds hl hC => have C := hC 2 (Nat.le_refl _); ev_on2 (Γf := fun ds => lamSl ds [] 0) (fun p1 p2 => (Ev.cast (ev_call C (k_is_between.at β) (by decide) rfl (by exact rfl) (as_d (ev_v 0 p1) (as_d (ev_globE (x := "FEWEST_VALUES") rfl c_FEWEST_VALUES) (as_d (ev_globE (x := "MOST_VALUES") rfl c_MOST_VALUES) as_nil)))) rfl)) ds) })))⟩
  rfl
abbrev t_check_values : Stmt := tS 16
theorem sc_check_values : FnScope ["value", "wrong"] ["value"] (defScope t_check_values) := ⟨rfl, rfl, rfl, by decide +kernel, rfl, by decide +kernel, by decide +kernel⟩
theorem w_check_values (dd : Df K mg "check_values" t_check_values (fun _ => True)) (c_FEWEST_SWITCHES : ∃ t, mg "FEWEST_SWITCHES" = some (.int 2 t)) (c_MOST_SWITCHES : ∃ t, mg "MOST_SWITCHES" = some (.int 6 t)) (k_is_row : Kn P w K mg base g "is_row" t_is_row 1 ["value", "least", "most"] [.d, .d, .d] m_is_row) (k_wrong_number : Kn P w K mg base g "wrong_number" t_wrong_number 6 ["value"] [.d] m_wrong_number) : Kn P w K mg base g "check_values" t_check_values 7 ["value"] [.d] m_check_values := by
  refine kn_of (k := 6) dd sc_check_values rfl (fun _ _ _ _ _ _ us hl => match us, hl with | [_], _ => rfl) fun β f cdv A outer s H E ds hT C hl => ?_
  obtain ⟨a0, rfl⟩ := len1 hl
  refine ⟨Unit, fun _ => List.replicate 2 .un, _, ?_, (bj_seq (sh' := (fun s : Unit => ([.d a0, .un] : List Sl))) (sj_if (et_not (et_val (Ev.cast (ev_call C (k_is_row.at β) (by decide) rfl (by exact rfl) (as_d (ev_v 0 a0) (as_d (ev_globE (x := "FEWEST_SWITCHES") rfl c_FEWEST_SWITCHES) (as_d (ev_globE (x := "MOST_SWITCHES") rfl c_MOST_SWITCHES) as_nil)))) rfl))) bj_never (bj_weak (.keep (.keep .nil)) (bj_nil () rfl))) fun s5 => (bj_set (i := 1) C rfl (by first | exact Or.inl rfl | exact Or.inr rfl) (Nat.le_of_ble_eq_true rfl) (Ev.cast (ev_call C (k_wrong_number.at β) (by decide) rfl (by exact rfl) (as_d (ev_v 0 a0) as_nil)) rfl) fun v7 => (bj_one (sj_if (et_notN (ev_v 1 v7)) bj_never (bj_weak (.drop (.drop .nil)) (bj_nil () rfl))))))⟩
  rfl
abbrev t_is_open : Stmt := tS 19
theorem sc_is_open : FnScope ["values", "value", "own", "many"] ["values", "value"] (defScope t_is_open) := ⟨rfl, rfl, rfl, by decide +kernel, rfl, by decide +kernel, by decide +kernel⟩
theorem w_is_open (dd : Df K mg "is_open" t_is_open (fun _ => True)) (b_all : mg "all" = none) (b_len : mg "len" = none) (b_zip : mg "zip" = none) (k_is_between : Kn P w K mg base g "is_between" t_is_between 2 ["value", "least", "most"] [.d, .d, .d] m_is_between) (k_is_tuple_of : Kn P w K mg base g "is_tuple_of" t_is_tuple_of 1 ["value", "many"] [.d, .d] m_is_tuple_of) : Kn P w K mg base g "is_open" t_is_open 3 ["values", "value"] [.d, .d] m_is_open := by
  refine kn_of (k := 2) dd sc_is_open rfl (fun _ _ _ _ _ _ us hl => match us, hl with | [_, _], _ => rfl) fun β f cdv A outer s H E ds hT C hl => ?_
  obtain ⟨a0, a1, rfl⟩ := len2 hl
  refine ⟨Unit, fun _ => List.replicate 4 .un, _, ?_, (bj_seq (sh' := (fun s : Unit => ([.d a0, .d a1, .un, .un] : List Sl))) (sj_if (et_not (et_val (Ev.cast (ev_call C (k_is_tuple_of.at β) (by decide) rfl (by exact rfl) (as_d (ev_v 1 a1) (as_d (Ev.cast (ev_blt GL.b_len rfl b_len (es_cons (ev_v 0 a0) es_nil)) rfl) as_nil))) rfl))) (bj_ret ev_bl) (bj_weak (.keep (.keep (.keep (.keep .nil)))) (bj_nil () rfl))) fun s6 => (bj_ret (Ev.cast (ev_blt (GL.b_all C) rfl b_all (es_cons (Ev.ofN (evN_lc (is := [2, 3]) (own := [("own", 2), ("many", 3)]) C (it_zip rfl b_zip (ev_v 1 a1) (ev_v 0 a0)) rfl rfl (fun _ _ _ _ _ => (tg_tup (by exact C.calm) (tgs_n (by exact C.nd) 2 (tgs_n (by exact C.nd) 3 tgs_nil)))) (fun _ _ _ _ _ C1 _ => ets_nil) (fun _ _ _ _ _ C1 => ev_on2 fun t9 t10 => (ev_or (ev_isN (ev_v 2 t9)) (ev_one (Ev.cast (ev_call C1 (k_is_between.at β) (by decide) rfl (by exact rfl) (as_d (ev_v 2 t9) (as_d ev_int (as_d (ev_sub (ev_v 3 t10) ev_int) as_nil)))) rfl)))))) es_nil)) rfl)))⟩
  rfl
abbrev t_wrong_open : Stmt := tS 20
theorem sc_wrong_open : FnScope ["values", "value"] ["values", "value"] (defScope t_wrong_open) := ⟨rfl, rfl, rfl, by decide +kernel, rfl, by decide +kernel, by decide +kernel⟩
theorem w_wrong_open (dd : Df K mg "wrong_open" t_wrong_open (CcL mg base g "wrong_open")) (k_first_wrong : ∀ kc, KnC P w K mg base g "first_wrong" t_first_wrong (kc + 3) ["value", "is_right"] (kc + 1) 2 m_first_wrong) (k_is_open : Kn P w K mg base g "is_open" t_is_open 3 ["values", "value"] [.d, .d] m_is_open) : Kn P w K mg base g "wrong_open" t_wrong_open 7 ["values", "value"] [.d, .d] m_wrong_open := by
  refine kn_of (k := 6) dd sc_wrong_open rfl (fun _ _ _ _ _ _ us hl => match us, hl with | [_, _], _ => rfl) fun β f cdv A outer s H E ds hT C hl => ?_
  obtain ⟨a0, a1, rfl⟩ := len2 hl
  refine ⟨Unit, fun _ => List.replicate 2 .un, _, ?_, (bj_ret (ev_callL1 (kc := 3) (N := ["each", "ahead", "values"]) (psL := ["each", "ahead"]) (fr := ["values"]) (js := [0]) (cs := [a0]) (Mc := (on2 fun p1 p2 => (M.bind (M.ret a0) fun d3 => (M.bind (M.ret p1) fun d4 => (m_is_open [d3, d4]))))) C ((k_first_wrong 3).at β) (by decide) rfl rfl (ev_v 1 a1) (fun _ => { tab := hT, hdef := rfl, S := NdefX.nscope_by rfl, free := NdefX.ndef_free (fr := ["values"]) rfl, frs_ := NdefX.ndef_fr (sc := defScope t_wrong_open) rfl, hjs := rfl, caps := rfl, bind := fun _ _ _ _ _ us hl => (match us, hl with | [_, _], _ => rfl), body := (fun A outer s H E f c' cl ds hl hC => have C := hC 3 (Nat.le_refl _); ev_on2 (Γf := fun ds => lamSl ds [a0] 0) (fun p1 p2 => (Ev.cast (ev_call C (k_is_open.at β) (by decide) rfl (by exact rfl) (as_d (ev_v 2 a0) (as_d (ev_v 0 p1) as_nil))) rfl)) ds) })))⟩
  rfl
abbrev t_check_opens : Stmt := tS 21
theorem sc_check_opens : FnScope ["values", "value", "wrong"] ["values", "value"] (defScope t_check_opens) := ⟨rfl, rfl, rfl, by decide +kernel, rfl, by decide +kernel, by decide +kernel⟩
theorem w_check_opens (dd : Df K mg "check_opens" t_check_opens (fun _ => True)) (c_MOST_OPEN : ∃ t, mg "MOST_OPEN" = some (.int 6 t)) (k_is_row : Kn P w K mg base g "is_row" t_is_row 1 ["value", "least", "most"] [.d, .d, .d] m_is_row) (k_wrong_open : Kn P w K mg base g "wrong_open" t_wrong_open 7 ["values", "value"] [.d, .d] m_wrong_open) : Kn P w K mg base g "check_opens" t_check_opens 8 ["values", "value"] [.d, .d] m_check_opens := by
  refine kn_of (k := 7) dd sc_check_opens rfl (fun _ _ _ _ _ _ us hl => match us, hl with | [_, _], _ => rfl) fun β f cdv A outer s H E ds hT C hl => ?_
  obtain ⟨a0, a1, rfl⟩ := len2 hl
  refine ⟨Unit, fun _ => List.replicate 3 .un, _, ?_, (bj_seq (sh' := (fun s : Unit => ([.d a0, .d a1, .un] : List Sl))) (sj_if (et_not (et_val (Ev.cast (ev_call C (k_is_row.at β) (by decide) rfl (by exact rfl) (as_d (ev_v 1 a1) (as_d ev_int (as_d (ev_globE (x := "MOST_OPEN") rfl c_MOST_OPEN) as_nil)))) rfl))) bj_never (bj_weak (.keep (.keep (.keep .nil))) (bj_nil () rfl))) fun s5 => (bj_set (i := 2) C rfl (by first | exact Or.inl rfl | exact Or.inr rfl) (Nat.le_of_ble_eq_true rfl) (Ev.cast (ev_call C (k_wrong_open.at β) (by decide) rfl (by exact rfl) (as_d (ev_v 0 a0) (as_d (ev_v 1 a1) as_nil))) rfl) fun v8 => (bj_one (sj_if (et_notN (ev_v 2 v8)) bj_never (bj_weak (.drop (.drop (.drop .nil))) (bj_nil () rfl))))))⟩
  rfl
abbrev t_go_two : Stmt := tS 22
theorem sc_go_two : FnScope ["one", "other", "own", "far"] ["one", "other"] (defScope t_go_two) := ⟨rfl, rfl, rfl, by decide +kernel, rfl, by decide +kernel, by decide +kernel⟩
theorem w_go_two (dd : Df K mg "go_two" t_go_two (fun _ => True)) (b_all : mg "all" = none) (b_zip : mg "zip" = none) : Kn P w K mg base g "go_two" t_go_two 1 ["one", "other"] [.d, .d] m_go_two := by
  refine kn_of (k := 0) dd sc_go_two rfl (fun _ _ _ _ _ _ us hl => match us, hl with | [_, _], _ => rfl) fun β f cdv A outer s H E ds hT C hl => ?_
  obtain ⟨a0, a1, rfl⟩ := len2 hl
  refine ⟨Unit, fun _ => List.replicate 4 .un, _, ?_, (bj_ret (Ev.cast (ev_blt (GL.b_all C) rfl b_all (es_cons (Ev.ofN (evN_lc (is := [2, 3]) (own := [("own", 2), ("far", 3)]) C (it_zip rfl b_zip (ev_v 0 a0) (ev_v 1 a1)) rfl rfl (fun _ _ _ _ _ => (tg_tup (by exact C.calm) (tgs_n (by exact C.nd) 2 (tgs_n (by exact C.nd) 3 tgs_nil)))) (fun _ _ _ _ _ C1 _ => ets_nil) (fun _ _ _ _ _ C1 => ev_on2 fun t3 t4 => (ev_or (ev_isN (ev_v 2 t3)) (ev_or (ev_isN (ev_v 3 t4)) (ev_one (ev_cmp (c_eq C1) (ev_v 2 t3) (ev_v 3 t4)))))))) es_nil)) rfl))⟩
  rfl
abbrev t_go_all : Stmt := tS 23
theorem sc_go_all : FnScope ["trials", "one", "other"] ["trials"] (defScope t_go_all) := ⟨rfl, rfl, rfl, by decide +kernel, rfl, by decide +kernel, by decide +kernel⟩
theorem w_go_all (dd : Df K mg "go_all" t_go_all (fun _ => True)) (b_all : mg "all" = none) (k_go_two : Kn P w K mg base g "go_two" t_go_two 1 ["one", "other"] [.d, .d] m_go_two) : Kn P w K mg base g "go_all" t_go_all 2 ["trials"] [.d] m_go_all := by
  refine kn_of (k := 1) dd sc_go_all rfl (fun _ _ _ _ _ _ us hl => match us, hl with | [_], _ => rfl) fun β f cdv A outer s H E ds hT C hl => ?_
  obtain ⟨a0, rfl⟩ := len1 hl
  refine ⟨Unit, fun _ => List.replicate 3 .un, _, ?_, (bj_ret (Ev.cast (ev_blt (GL.b_all C) rfl b_all (es_cons (Ev.ofN (evN_lc2 (is := [1]) (is1 := [2]) (own := [("one", 1), ("other", 2)]) C [2] (it_seq (ev_v 0 a0)) rfl rfl rfl rfl (fun _ _ _ _ _ => (tg_n (by exact C.nd) 1)) (fun _ _ _ _ _ => (tg_n (by exact C.nd) 2)) (fun _ _ _ _ _ C1 _ => ets_nil) (fun _ _ _ _ _ C1 => itj_on1 fun t1 => (it_seq (ev_v 0 a0))) (fun _ _ _ _ _ C1 _ _ => ets_nil) (fun _ _ _ _ _ C1 => ev2_11 fun t1 t2 => (Ev.cast (ev_call C1 (k_go_two.at β) (by decide) rfl (by exact rfl) (as_d (ev_v 1 t1) (as_d (ev_v 2 t2) as_nil))) rfl)))) es_nil)) rfl))⟩
  rfl
abbrev t_union_by : Stmt := tS 24
theorem sc_union_by : FnScope ["values", "trials", "found", "switch", "told", "trial"] ["values", "trials"] (defScope t_union_by) := ⟨rfl, rfl, rfl, by decide +kernel, rfl, by decide +kernel, by decide +kernel⟩
theorem w_union_by (dd : Df K mg "union_by" t_union_by (fun _ => True)) (b_len : mg "len" = none) (b_range : mg "range" = none) (b_tuple : mg "tuple" = none) : Kn P w K mg base g "union_by" t_union_by 1 ["values", "trials"] [.d, .d] m_union_by := by
  refine kn_of (k := 0) dd sc_union_by rfl (fun _ _ _ _ _ _ us hl => match us, hl with | [_, _], _ => rfl) fun β f cdv A outer s H E ds hT C hl => ?_
  obtain ⟨a0, a1, rfl⟩ := len2 hl
  refine ⟨Unit, fun _ => List.replicate 6 .un, _, ?_, (bj_setN (i := 2) C rfl (by first | exact Or.inl rfl | exact Or.inr rfl) (Nat.le_of_ble_eq_true rfl) (evN_lst esN_nil) fun o1 => (bj_seq (sj_forG (sh := (fun s : List D => ([.d a0, .d a1, .own s, .un, .un, .un] : List Sl))) (s0 := o1) C (it_range1 rfl b_range (Ev.cast (ev_blt GL.b_len rfl b_len (es_cons (ev_v 0 a0) es_nil)) rfl)) (tg_n (by exact C.nd) 3) (.keep (.keep (.keep (.keep (.keep (.keep .nil)))))) (fun _ => hl_of rfl) (fun ds s3 => bj_on1 (fun t4 => (bj_setLcN (is := [5]) (own := [("trial", 5)]) (i := 4) C rfl rfl (Nat.le_of_ble_eq_true rfl) rfl (it_seq (ev_v 1 a1)) rfl rfl (fun _ _ _ _ _ => (tg_n (by exact C.nd) 5)) (fun _ _ _ _ _ C1 => ets_on1 fun t5 => ets_one (et_notN (ev_get (ev_v 5 t5) (ev_v 3 t4) (fun _ _ => rfl)))) (fun _ _ _ _ _ C1 => ev_on1 fun t5 => (ev_get (ev_v 5 t5) (ev_v 3 t4) (fun _ _ => rfl))) fun o11 => (bj_freeze (i := 4) rfl (bj_append (i := 2) C rfl (by first | exact Or.inl rfl | exact Or.inr (Or.inl rfl) | exact Or.inr (Or.inr rfl)) rfl (ev_if (et_cmp (c_ne C) (ev_v 4 (.list o11)) (Ev.cast (ev_lst es_nil) rfl)) (ev_get (ev_v 4 (.list o11)) ev_int (fun _ _ => rfl)) ev_non) fun v17 => (bj_weak (.keep (.keep (.keep (.drop (.drop (.keep .nil)))))) (bj_nil (s3 ++ [v17]) rfl)))))) ds)) fun s18 => (bj_freeze (i := 2) rfl (bj_ret (Ev.cast (ev_blt GL.b_tuple rfl b_tuple (es_cons (ev_v 2 (.list s18)) es_nil)) rfl)))))⟩
  rfl
abbrev t_groupings : Stmt := tS 25
theorem sc_groupings : FnScope ["trials", "found", "trial", "longer", "some", "group", "own", "other"] ["trials"] (defScope t_groupings) := ⟨rfl, rfl, rfl, by decide +kernel, rfl, by decide +kernel, by decide +kernel⟩
theorem w_groupings (dd : Df K mg "groupings" t_groupings (fun _ => True)) (b_len : mg "len" = none) (b_range : mg "range" = none) (b_set : mg "set" = none) (b_zip : mg "zip" = none) (k_go_all : Kn P w K mg base g "go_all" t_go_all 2 ["trials"] [.d] m_go_all) : Kn P w K mg base g "groupings" t_groupings 3 ["trials"] [.d] m_groupings := by
  refine kn_of (k := 2) dd sc_groupings rfl (fun _ _ _ _ _ _ us hl => match us, hl with | [_], _ => rfl) fun β f cdv A outer s H E ds hT C hl => ?_
  obtain ⟨a0, rfl⟩ := len1 hl
  refine ⟨Unit, fun _ => List.replicate 8 .un, _, ?_, (bj_set (i := 1) C rfl (by first | exact Or.inl rfl | exact Or.inr rfl) (Nat.le_of_ble_eq_true rfl) (Ev.cast (ev_lst (es_cons (Ev.cast (ev_tup es_nil) rfl) es_nil)) rfl) fun v2 => (bj_seq (sj_forG (sh := (fun s : D => ([.d a0, .d s, .un, .un, .un, .un, .un, .un] : List Sl))) (s0 := v2) C (it_seq (ev_v 0 a0)) (tg_n (by exact C.nd) 2) (.keep (.keep (.keep (.keep (.keep (.keep (.keep (.keep .nil)))))))) (fun _ => hl_of rfl) (fun ds s3 => bj_on1 (fun t4 => (bj_setN (i := 3) C rfl (by first | exact Or.inl rfl | exact Or.inr rfl) (Nat.le_of_ble_eq_true rfl) (evN_lst esN_nil) fun o5 => (bj_seq (sj_forG (sh := (fun s : List D => ([.d a0, .d s3, .d t4, .own s, .un, .un, .un, .un] : List Sl))) (s0 := o5) C (it_seq (ev_v 1 s3)) (tg_n (by exact C.nd) 4) (.keep (.keep (.keep (.keep (.keep (.keep (.keep (.keep .nil)))))))) (fun _ => hl_of rfl) (fun ds s6 => bj_on1 (fun t7 => (bj_seq (sj_forG (sh := (fun s : List D => ([.d a0, .d s3, .d t4, .own s, .d t7, .un, .un, .un] : List Sl))) (s0 := s6) C (it_range1 rfl b_range (ev_add (ev_lenSet C rfl b_len rfl b_set (ev_v 4 t7)) ev_int)) (tg_n (by exact C.nd) 5) (.keep (.keep (.keep (.keep (.keep (.keep (.keep (.keep .nil)))))))) (fun _ => hl_of rfl) (fun ds s10 => bj_on1 (fun t11 => (bj_one (sj_if (et_val (Ev.cast (ev_call C (k_go_all.at β) (by decide) rfl (by exact rfl) (as_d (Ev.cast (ev_lst (es_cons (ev_v 2 t4) (es_star (Ev.ofN (evN_lc (is := [6, 7]) (own := [("own", 6), ("other", 7)]) C (it_zip rfl b_zip (ev_v 0 a0) (ev_v 4 t7)) rfl rfl (fun _ _ _ _ _ => (tg_tup (by exact C.calm) (tgs_n (by exact C.nd) 6 (tgs_n (by exact C.nd) 7 tgs_nil)))) (fun _ _ _ _ _ C1 => ets_on2 fun t15 t16 => ets_one (et_cmp (c_eq C1) (ev_v 7 t16) (ev_v 5 t11))) (fun _ _ _ _ _ C1 => ev_on2 fun t15 t16 => (ev_v 6 t15)))) es_nil))) rfl) as_nil)) rfl)) (bj_append (i := 3) C rfl (by first | exact Or.inl rfl | exact Or.inr (Or.inl rfl) | exact Or.inr (Or.inr rfl)) rfl (Ev.cast (ev_tup (es_star (ev_v 4 t7) (es_cons (ev_v 5 t11) es_nil))) rfl) fun v26 => (bj_weak (.keep (.keep (.keep (.keep (.keep (.drop (.keep (.keep .nil)))))))) (bj_nil (s10 ++ [v26]) rfl))) (bj_weak (.keep (.keep (.keep (.keep (.keep (.drop (.keep (.keep .nil)))))))) (bj_nil s10 rfl))))) ds)) fun s28 => (bj_weak (.keep (.keep (.keep (.keep (.drop (.keep (.keep (.keep .nil)))))))) (bj_nil s28 rfl)))) ds)) fun s29 => (bj_freeze (i := 3) rfl (bj_set (i := 1) C rfl (by first | exact Or.inl rfl | exact Or.inr rfl) (Nat.le_of_ble_eq_true rfl) (ev_v 3 (.list s29)) fun v30 => (bj_weak (.keep (.keep (.drop (.drop (.keep (.keep (.keep (.keep .nil)))))))) (bj_nil v30 rfl))))))) ds)) fun s31 => (bj_ret (ev_v 1 s31))))⟩
  rfl
abbrev t_first_by : Stmt := tS 26
theorem sc_first_by : FnScope ["trials"] ["trials"] (defScope t_first_by) := ⟨rfl, rfl, rfl, by decide +kernel, rfl, by decide +kernel, by decide +kernel⟩
theorem w_first_by (dd : Df K mg "first_by" t_first_by (CcL mg base g "first_by")) (b_len : mg "len" = none) (b_min : mg "min" = none) (b_set : mg "set" = none) (k_groupings : Kn P w K mg base g "groupings" t_groupings 3 ["trials"] [.d] m_groupings) : Kn P w K mg base g "first_by" t_first_by 4 ["trials"] [.d] m_first_by := by
  refine kn_of (k := 3) dd sc_first_by rfl (fun _ _ _ _ _ _ us hl => match us, hl with | [_], _ => rfl) fun β f cdv A outer s H E ds hT C hl => ?_
  obtain ⟨a0, rfl⟩ := len1 hl
  refine ⟨Unit, fun _ => List.replicate 1 .un, _, ?_, (bj_ret (ev_minKey (kc := 0) (N := ["some"]) (psL := ["some"]) (fr := []) (js := []) (cs := []) (Mc := (on1 fun p2 => (M.bind (M.bind (M.ret p2) lenSetD) fun d3 => (M.bind (M.ret p2) fun d4 => (mkT (d3 :: (d4 :: []))))))) C (by decide) rfl b_min (Ev.cast (ev_call C (k_groupings.at β) (by decide) rfl (by exact rfl) (as_d (ev_v 0 a0) as_nil)) rfl) rfl { tab := hT, hdef := rfl, S := NdefX.nscope_by rfl, free := NdefX.ndef_free (fr := []) rfl, frs_ := NdefX.ndef_fr (sc := defScope t_first_by) rfl, hjs := rfl, caps := rfl, bind := fun _ _ _ _ _ us hl => (match us, hl with | [_], _ => rfl), body := (fun A outer s H E f c' cl ds hl hC => have C := hC 0 (Nat.le_refl _); ev_on1 (Γf := fun ds => lamSl ds [] 0) (fun p2 => (Ev.cast (ev_tup (es_cons (ev_lenSet C rfl b_len rfl b_set (ev_v 0 p2)) (es_cons (ev_v 0 p2) es_nil))) rfl)) ds) }))⟩
  rfl
abbrev t_fewest_by : Stmt := tS 27
theorem sc_fewest_by : FnScope ["trials"] ["trials"] (defScope t_fewest_by) := ⟨rfl, rfl, rfl, by decide +kernel, rfl, by decide +kernel, by decide +kernel⟩
theorem w_fewest_by (dd : Df K mg "fewest_by" t_fewest_by (fun _ => True)) (b_len : mg "len" = none) (b_set : mg "set" = none) (k_first_by : Kn P w K mg base g "first_by" t_first_by 4 ["trials"] [.d] m_first_by) : Kn P w K mg base g "fewest_by" t_fewest_by 5 ["trials"] [.d] m_fewest_by := by
  refine kn_of (k := 4) dd sc_fewest_by rfl (fun _ _ _ _ _ _ us hl => match us, hl with | [_], _ => rfl) fun β f cdv A outer s H E ds hT C hl => ?_
  obtain ⟨a0, rfl⟩ := len1 hl
  refine ⟨Unit, fun _ => List.replicate 1 .un, _, ?_, (bj_ret (ev_lenSet C rfl b_len rfl b_set (Ev.cast (ev_call C (k_first_by.at β) (by decide) rfl (by exact rfl) (as_d (ev_v 0 a0) as_nil)) rfl)))⟩
  rfl
abbrev t_check_opened : Stmt := tS 28
theorem sc_check_opened : FnScope ["values", "trials"] ["values", "trials"] (defScope t_check_opened) := ⟨rfl, rfl, rfl, by decide +kernel, rfl, by decide +kernel, by decide +kernel⟩
theorem w_check_opened (dd : Df K mg "check_opened" t_check_opened (fun _ => True)) (k_check_values : Kn P w K mg base g "check_values" t_check_values 7 ["value"] [.d] m_check_values) (k_check_opens : Kn P w K mg base g "check_opens" t_check_opens 8 ["values", "value"] [.d, .d] m_check_opens) : Kn P w K mg base g "check_opened" t_check_opened 9 ["values", "trials"] [.d, .d] m_check_opened := by
  refine kn_of (k := 8) dd sc_check_opened rfl (fun _ _ _ _ _ _ us hl => match us, hl with | [_, _], _ => rfl) fun β f cdv A outer s H E ds hT C hl => ?_
  obtain ⟨a0, a1, rfl⟩ := len2 hl
  refine ⟨Unit, fun _ => List.replicate 2 .un, _, ?_, (bj_expr (Ev.cast (ev_call C (k_check_values.at β) (by decide) rfl (by exact rfl) (as_d (ev_v 0 a0) as_nil)) rfl) (bj_expr (Ev.cast (ev_call C (k_check_opens.at β) (by decide) rfl (by exact rfl) (as_d (ev_v 0 a0) (as_d (ev_v 1 a1) as_nil))) rfl) (bj_weak (.drop (.drop .nil)) (bj_nil () rfl))))⟩
  rfl
abbrev t_do_go_together : Stmt := tS 29
theorem sc_do_go_together : FnScope ["values", "trials"] ["values", "trials"] (defScope t_do_go_together) := ⟨rfl, rfl, rfl, by decide +kernel, rfl, by decide +kernel, by decide +kernel⟩
theorem w_do_go_together (dd : Df K mg "do_go_together" t_do_go_together (fun _ => True)) (k_go_all : Kn P w K mg base g "go_all" t_go_all 2 ["trials"] [.d] m_go_all) (k_check_opened : Kn P w K mg base g "check_opened" t_check_opened 9 ["values", "trials"] [.d, .d] m_check_opened) : Kn P w K mg base g "do_go_together" t_do_go_together 10 ["values", "trials"] [.d, .d] m_do_go_together := by
  refine kn_of (k := 9) dd sc_do_go_together rfl (fun _ _ _ _ _ _ us hl => match us, hl with | [_, _], _ => rfl) fun β f cdv A outer s H E ds hT C hl => ?_
  obtain ⟨a0, a1, rfl⟩ := len2 hl
  refine ⟨Unit, fun _ => List.replicate 2 .un, _, ?_, (bj_expr (Ev.cast (ev_call C (k_check_opened.at β) (by decide) rfl (by exact rfl) (as_d (ev_v 0 a0) (as_d (ev_v 1 a1) as_nil))) rfl) (bj_ret (Ev.cast (ev_call C (k_go_all.at β) (by decide) rfl (by exact rfl) (as_d (ev_v 1 a1) as_nil)) rfl)))⟩
  rfl
abbrev t_union : Stmt := tS 30
theorem sc_union : FnScope ["values", "trials"] ["values", "trials"] (defScope t_union) := ⟨rfl, rfl, rfl, by decide +kernel, rfl, by decide +kernel, by decide +kernel⟩
theorem w_union (dd : Df K mg "union" t_union (fun _ => True)) (k_go_all : Kn P w K mg base g "go_all" t_go_all 2 ["trials"] [.d] m_go_all) (k_union_by : Kn P w K mg base g "union_by" t_union_by 1 ["values", "trials"] [.d, .d] m_union_by) (k_check_opened : Kn P w K mg base g "check_opened" t_check_opened 9 ["values", "trials"] [.d, .d] m_check_opened) : Kn P w K mg base g "union" t_union 10 ["values", "trials"] [.d, .d] m_union := by
  refine kn_of (k := 9) dd sc_union rfl (fun _ _ _ _ _ _ us hl => match us, hl with | [_, _], _ => rfl) fun β f cdv A outer s H E ds hT C hl => ?_
  obtain ⟨a0, a1, rfl⟩ := len2 hl
  refine ⟨Unit, fun _ => List.replicate 2 .un, _, ?_, (bj_expr (Ev.cast (ev_call C (k_check_opened.at β) (by decide) rfl (by exact rfl) (as_d (ev_v 0 a0) (as_d (ev_v 1 a1) as_nil))) rfl) (bj_ret (ev_if (et_val (Ev.cast (ev_call C (k_go_all.at β) (by decide) rfl (by exact rfl) (as_d (ev_v 1 a1) as_nil)) rfl)) (Ev.cast (ev_call C (k_union_by.at β) (by decide) rfl (by exact rfl) (as_d (ev_v 0 a0) (as_d (ev_v 1 a1) as_nil))) rfl) ev_non)))⟩
  rfl
abbrev t_fewest_unions : Stmt := tS 31
theorem sc_fewest_unions : FnScope ["values", "trials"] ["values", "trials"] (defScope t_fewest_unions) := ⟨rfl, rfl, rfl, by decide +kernel, rfl, by decide +kernel, by decide +kernel⟩
theorem w_fewest_unions (dd : Df K mg "fewest_unions" t_fewest_unions (fun _ => True)) (k_fewest_by : Kn P w K mg base g "fewest_by" t_fewest_by 5 ["trials"] [.d] m_fewest_by) (k_check_opened : Kn P w K mg base g "check_opened" t_check_opened 9 ["values", "trials"] [.d, .d] m_check_opened) : Kn P w K mg base g "fewest_unions" t_fewest_unions 10 ["values", "trials"] [.d, .d] m_fewest_unions := by
  refine kn_of (k := 9) dd sc_fewest_unions rfl (fun _ _ _ _ _ _ us hl => match us, hl with | [_, _], _ => rfl) fun β f cdv A outer s H E ds hT C hl => ?_
  obtain ⟨a0, a1, rfl⟩ := len2 hl
  refine ⟨Unit, fun _ => List.replicate 2 .un, _, ?_, (bj_expr (Ev.cast (ev_call C (k_check_opened.at β) (by decide) rfl (by exact rfl) (as_d (ev_v 0 a0) (as_d (ev_v 1 a1) as_nil))) rfl) (bj_ret (Ev.cast (ev_call C (k_fewest_by.at β) (by decide) rfl (by exact rfl) (as_d (ev_v 1 a1) as_nil)) rfl)))⟩
  rfl
abbrev t_first_grouping : Stmt := tS 32
theorem sc_first_grouping : FnScope ["values", "trials"] ["values", "trials"] (defScope t_first_grouping) := ⟨rfl, rfl, rfl, by decide +kernel, rfl, by decide +kernel, by decide +kernel⟩
theorem w_first_grouping (dd : Df K mg "first_grouping" t_first_grouping (fun _ => True)) (k_first_by : Kn P w K mg base g "first_by" t_first_by 4 ["trials"] [.d] m_first_by) (k_check_opened : Kn P w K mg base g "check_opened" t_check_opened 9 ["values", "trials"] [.d, .d] m_check_opened) : Kn P w K mg base g "first_grouping" t_first_grouping 10 ["values", "trials"] [.d, .d] m_first_grouping := by
  refine kn_of (k := 9) dd sc_first_grouping rfl (fun _ _ _ _ _ _ us hl => match us, hl with | [_, _], _ => rfl) fun β f cdv A outer s H E ds hT C hl => ?_
  obtain ⟨a0, a1, rfl⟩ := len2 hl
  refine ⟨Unit, fun _ => List.replicate 2 .un, _, ?_, (bj_expr (Ev.cast (ev_call C (k_check_opened.at β) (by decide) rfl (by exact rfl) (as_d (ev_v 0 a0) (as_d (ev_v 1 a1) as_nil))) rfl) (bj_ret (Ev.cast (ev_call C (k_first_by.at β) (by decide) rfl (by exact rfl) (as_d (ev_v 1 a1) as_nil)) rfl)))⟩
  rfl
abbrev t__law_bag : Stmt := tS 34
theorem sc__law_bag : FnScope ["script", "lap", "stirred", "cell", "own"] ["script", "lap"] (defScope t__law_bag) := ⟨rfl, rfl, rfl, by decide +kernel, rfl, by decide +kernel, by decide +kernel⟩
theorem w__law_bag (dd : Df K mg "_law_bag" t__law_bag (fun _ => True)) (b_abs : mg "abs" = none) (b_int : mg "int" = none) (b_len : mg "len" = none) : KnN P w K mg base g "_law_bag" t__law_bag 1 ["script", "lap"] [.d, .d] m__law_bag := by
  refine knN_of (k := 0) (pre := (defBody t__law_bag).dropLast) (e := retE (defBody t__law_bag)) (pos := retP (defBody t__law_bag)) dd sc__law_bag rfl (fun _ _ _ _ _ _ us hl => match us, hl with | [_, _], _ => rfl) rfl fun β f cdv A outer s H E ds C hl => ?_
  obtain ⟨a0, a1, rfl⟩ := len2 hl
  refine ⟨D × D, (fun s => [.un, .un, .d s.1, .un, .d s.2]), _, _, ?_, (bj_set (i := 2) C rfl (by first | exact Or.inl rfl | exact Or.inr rfl) (Nat.le_of_ble_eq_true rfl) (ev_add ev_int (ev_mul ev_int (ev_v 1 a1))) fun v5 => (bj_seq (sj_forG (sh := (fun s : D => ([.d a0, .d a1, .d s, .un, .un] : List Sl))) (s0 := v5) C (it_seq (ev_cut (ev_v 0 a0) po_no (po_ev ev_int))) (tg_n (by exact C.nd) 3) (.keep (.keep (.keep (.keep (.keep .nil))))) (fun _ => hl_of rfl) (fun ds s9 => bj_on1 (fun t10 => (bj_set (i := 2) C rfl (by first | exact Or.inl rfl | exact Or.inr rfl) (Nat.le_of_ble_eq_true rfl) (ev_mod (Ev.cast (ev_blt GL.b_int rfl b_int (es_cons (ev_add (ev_add (ev_mul (ev_v 2 s9) ev_int) (ev_mod (Ev.cast (ev_blt GL.b_int rfl b_int (es_cons (ev_v 3 t10) es_nil)) rfl) ev_int)) ev_int) es_nil)) rfl) ev_int) fun v23 => (bj_weak (.keep (.keep (.keep (.drop (.keep .nil))))) (bj_nil v23 rfl)))) ds)) fun s24 => (bj_set (i := 4) C rfl (by first | exact Or.inl rfl | exact Or.inr rfl) (Nat.le_of_ble_eq_true rfl) (ev_if (et_cmp c_lt (ev_v 1 a1) (Ev.cast (ev_blt GL.b_len rfl b_len (es_cons (ev_v 0 a0) es_nil)) rfl)) (Ev.cast (ev_blt GL.b_int rfl b_int (es_cons (ev_get (ev_v 0 a0) (ev_v 1 a1) (fun _ _ => rfl)) es_nil)) rfl) ev_int) fun v32 => (bj_set (i := 2) C rfl (by first | exact Or.inl rfl | exact Or.inr rfl) (Nat.le_of_ble_eq_true rfl) (ev_mod (Ev.cast (ev_blt GL.b_int rfl b_int (es_cons (ev_add (ev_add (ev_mul (ev_v 2 s24) ev_int) (ev_mul (ev_mod (Ev.cast (ev_blt GL.b_int rfl b_int (es_cons (ev_v 4 v32) es_nil)) rfl) ev_int) ev_int)) ev_int) es_nil)) rfl) ev_int) fun v47 => (bj_weak (.drop (.drop (.keep (.keep (.keep .nil))))) (bj_nil (v47, v32) rfl)))))), fun s => evN_lst (esN_cons (ev_if (et_w (et_or (et_cmp c_lt (ev_v 4 s.2) ev_int) (et_or1 (et_cmp c_ge (ev_v 4 s.2) (ev_pow ev_int ev_int))))) (Ev.cast (ev_blt GL.b_abs rfl b_abs (es_cons (ev_v 4 s.2) es_nil)) rfl) ev_int) (esN_cons (ev_v 2 s.1) (esN_cons ev_int esN_nil)))⟩
  rfl
abbrev t__law_take : Stmt := tS 35
theorem sc__law_take : FnScope ["bag", "top", "digit"] ["bag", "top"] (defScope t__law_take) := ⟨rfl, rfl, rfl, by decide +kernel, rfl, by decide +kernel, by decide +kernel⟩
theorem w__law_take (dd : Df K mg "_law_take" t__law_take (fun _ => True)) (b_divmod : mg "divmod" = none) (b_int : mg "int" = none) : Kn P w K mg base g "_law_take" t__law_take 1 ["bag", "top"] [.bag, .d] m__law_take := by
  refine kn_of (k := 0) dd sc__law_take rfl (fun _ _ _ _ _ _ us hl => match us, hl with | [_, _], _ => rfl) fun β f cdv A outer s H E ds hT C hl => ?_
  obtain ⟨a1, rfl⟩ := len1 hl
  refine ⟨Unit, fun _ => List.replicate 3 .un, _, ?_, (bj_seq (sh' := (fun s : Unit => ([.bag, .d a1, .un] : List Sl))) (sj_if (et_cmp c_gt (ev_bag 0 0 (by decide) rfl rfl) ev_int) (bj_bagTwo C 0 0 2 (by decide) rfl rfl rfl (by first | exact Or.inl rfl | exact Or.inr rfl) (Nat.le_of_ble_eq_true rfl) (Ev.cast (ev_blt GL.b_divmod rfl b_divmod (es_cons (ev_bag 0 0 (by decide) rfl rfl) (es_cons (ev_v 1 a1) es_nil))) rfl) fun v7 => (bj_ret (ev_v 2 v7))) (bj_weak (.keep (.keep (.keep .nil))) (bj_nil () rfl))) fun s10 => (bj_bagSet 0 2 (by decide) rfl rfl (ev_add (ev_bag 0 2 (by decide) rfl rfl) ev_int) (bj_bagSet 0 1 (by decide) rfl rfl (ev_mod (Ev.cast (ev_blt GL.b_int rfl b_int (es_cons (ev_add (ev_add (ev_mul (ev_bag 0 1 (by decide) rfl rfl) ev_int) (ev_mul ev_int (ev_bag 0 2 (by decide) rfl rfl))) ev_int) es_nil)) rfl) ev_int) (bj_ret (ev_mod (Ev.cast (ev_blt GL.b_int rfl b_int (es_cons (ev_fdv (ev_bag 0 1 (by decide) rfl rfl) ev_int) es_nil)) rfl) (ev_v 1 a1))))))⟩
  rfl
abbrev t__law_pull : Stmt := tS 36
theorem sc__law_pull : FnScope ["bag", "some"] ["bag", "some"] (defScope t__law_pull) := ⟨rfl, rfl, rfl, by decide +kernel, rfl, by decide +kernel, by decide +kernel⟩
theorem w__law_pull (dd : Df K mg "_law_pull" t__law_pull (fun _ => True)) (b_len : mg "len" = none) (k__law_take : Kn P w K mg base g "_law_take" t__law_take 1 ["bag", "top"] [.bag, .d] m__law_take) : Kn P w K mg base g "_law_pull" t__law_pull 2 ["bag", "some"] [.bag, .d] m__law_pull := by
  refine kn_of (k := 1) dd sc__law_pull rfl (fun _ _ _ _ _ _ us hl => match us, hl with | [_, _], _ => rfl) fun β f cdv A outer s H E ds hT C hl => ?_
  obtain ⟨a1, rfl⟩ := len1 hl
  refine ⟨Unit, fun _ => List.replicate 2 .un, _, ?_, (bj_ret (ev_get (ev_v 1 a1) (Ev.cast (ev_call C (k__law_take.at β) (by decide) rfl (by exact rfl) (as_bag (i := 0) rfl (by first | exact Or.inl rfl | exact Or.inr (Or.inl rfl) | exact Or.inr (Or.inr rfl)) rfl (as_d (Ev.cast (ev_blt GL.b_len rfl b_len (es_cons (ev_v 1 a1) es_nil)) rfl) as_nil))) rfl) (fun _ _ => rfl)))⟩
  rfl
abbrev t__law_values : Stmt := tS 37
theorem sc__law_values : FnScope ["bag", "most", "wide", "switch"] ["bag", "most", "wide"] (defScope t__law_values) := ⟨rfl, rfl, rfl, by decide +kernel, rfl, by decide +kernel, by decide +kernel⟩
theorem w__law_values (dd : Df K mg "_law_values" t__law_values (fun _ => True)) (b_range : mg "range" = none) (b_tuple : mg "tuple" = none) (k__law_take : Kn P w K mg base g "_law_take" t__law_take 1 ["bag", "top"] [.bag, .d] m__law_take) (k__law_pull : Kn P w K mg base g "_law_pull" t__law_pull 2 ["bag", "some"] [.bag, .d] m__law_pull) : Kn P w K mg base g "_law_values" t__law_values 3 ["bag", "most", "wide"] [.bag, .d, .d] m__law_values := by
  refine kn_of (k := 2) dd sc__law_values rfl (fun _ _ _ _ _ _ us hl => match us, hl with | [_, _, _], _ => rfl) fun β f cdv A outer s H E ds hT C hl => ?_
  obtain ⟨a1, a2, rfl⟩ := len2 hl
  refine ⟨Unit, fun _ => List.replicate 4 .un, _, ?_, (bj_ret (Ev.cast (ev_blt GL.b_tuple rfl b_tuple (es_cons (Ev.ofN (evN_lc (is := [3]) (own := [("switch", 3)]) C (it_range1 rfl b_range (ev_add ev_int (Ev.cast (ev_call C (k__law_take.at β) (by decide) rfl (by exact rfl) (as_bag (i := 0) rfl (by first | exact Or.inl rfl | exact Or.inr (Or.inl rfl) | exact Or.inr (Or.inr rfl)) rfl (as_d (ev_sub (ev_v 1 a1) ev_int) as_nil))) rfl))) rfl rfl (fun _ _ _ _ _ => (tg_n (by exact C.nd) 3)) (fun _ _ _ _ _ C1 _ => ets_nil) (fun _ _ _ _ _ C1 => ev_on1 fun t6 => (ev_add ev_int (Ev.cast (ev_call C1 (k__law_pull.at β) (by decide) rfl (by exact rfl) (as_bag (i := 0) rfl (by first | exact Or.inl rfl | exact Or.inr (Or.inl rfl) | exact Or.inr (Or.inr rfl)) rfl (as_d (ev_cut (Ev.cast (ev_lst (es_cons ev_int (es_cons ev_int (es_cons ev_int (es_cons ev_int (es_cons ev_int es_nil)))))) rfl) po_no (po_ev (ev_add (ev_v 2 a2) ev_int))) as_nil))) rfl))))) es_nil)) rfl))⟩
  rfl
abbrev t__law_open : Stmt := tS 38
theorem sc__law_open : FnScope ["bag", "values", "many"] ["bag", "values"] (defScope t__law_open) := ⟨rfl, rfl, rfl, by decide +kernel, rfl, by decide +kernel, by decide +kernel⟩
theorem w__law_open (dd : Df K mg "_law_open" t__law_open (fun _ => True)) (b_tuple : mg "tuple" = none) (k__law_take : Kn P w K mg base g "_law_take" t__law_take 1 ["bag", "top"] [.bag, .d] m__law_take) : Kn P w K mg base g "_law_open" t__law_open 2 ["bag", "values"] [.bag, .d] m__law_open := by
  refine kn_of (k := 1) dd sc__law_open rfl (fun _ _ _ _ _ _ us hl => match us, hl with | [_, _], _ => rfl) fun β f cdv A outer s H E ds hT C hl => ?_
  obtain ⟨a1, rfl⟩ := len1 hl
  refine ⟨Unit, fun _ => List.replicate 3 .un, _, ?_, (bj_ret (Ev.cast (ev_blt GL.b_tuple rfl b_tuple (es_cons (Ev.ofN (evN_lc (is := [2]) (own := [("many", 2)]) C (it_seq (ev_v 1 a1)) rfl rfl (fun _ _ _ _ _ => (tg_n (by exact C.nd) 2)) (fun _ _ _ _ _ C1 _ => ets_nil) (fun _ _ _ _ _ C1 => ev_on1 fun t1 => (ev_if (et_cmp (c_eq C1) (Ev.cast (ev_call C1 (k__law_take.at β) (by decide) rfl (by exact rfl) (as_bag (i := 0) rfl (by first | exact Or.inl rfl | exact Or.inr (Or.inl rfl) | exact Or.inr (Or.inr rfl)) rfl (as_d ev_int as_nil))) rfl) ev_int) ev_non (Ev.cast (ev_call C1 (k__law_take.at β) (by decide) rfl (by exact rfl) (as_bag (i := 0) rfl (by first | exact Or.inl rfl | exact Or.inr (Or.inl rfl) | exact Or.inr (Or.inr rfl)) rfl (as_d (ev_v 2 t1) as_nil))) rfl))))) es_nil)) rfl))⟩
  rfl
abbrev t__law_agree : Stmt := tS 39
theorem sc__law_agree : FnScope ["one", "two", "mine", "yours"] ["one", "two"] (defScope t__law_agree) := ⟨rfl, rfl, rfl, by decide +kernel, rfl, by decide +kernel, by decide +kernel⟩
theorem w__law_agree (dd : Df K mg "_law_agree" t__law_agree (fun _ => True)) (b_any : mg "any" = none) (b_zip : mg "zip" = none) : Kn P w K mg base g "_law_agree" t__law_agree 1 ["one", "two"] [.d, .d] m__law_agree := by
  refine kn_of (k := 0) dd sc__law_agree rfl (fun _ _ _ _ _ _ us hl => match us, hl with | [_, _], _ => rfl) fun β f cdv A outer s H E ds hT C hl => ?_
  obtain ⟨a0, a1, rfl⟩ := len2 hl
  refine ⟨Unit, fun _ => List.replicate 4 .un, _, ?_, (bj_ret (ev_not (Ev.cast (ev_blt (GL.b_any C) rfl b_any (es_cons (Ev.ofN (evN_lc (is := [2, 3]) (own := [("mine", 2), ("yours", 3)]) C (it_zip rfl b_zip (ev_v 0 a0) (ev_v 1 a1)) rfl rfl (fun _ _ _ _ _ => (tg_tup (by exact C.calm) (tgs_n (by exact C.nd) 2 (tgs_n (by exact C.nd) 3 tgs_nil)))) (fun _ _ _ _ _ C1 _ => ets_nil) (fun _ _ _ _ _ C1 => ev_on2 fun t3 t4 => (ev_and (ev_notN (ev_v 2 t3)) (ev_and (ev_notN (ev_v 3 t4)) (ev_one (ev_cmp (c_ne C1) (ev_v 2 t3) (ev_v 3 t4)))))))) es_nil)) rfl)))⟩
  rfl
abbrev t__law_union : Stmt := tS 40
theorem sc__law_union : FnScope ["values", "trials", "found", "switch", "some", "trial"] ["values", "trials"] (defScope t__law_union) := ⟨rfl, rfl, rfl, by decide +kernel, rfl, by decide +kernel, by decide +kernel⟩
theorem w__law_union (dd : Df K mg "_law_union" t__law_union (fun _ => True)) (b_len : mg "len" = none) (b_range : mg "range" = none) (b_tuple : mg "tuple" = none) : Kn P w K mg base g "_law_union" t__law_union 1 ["values", "trials"] [.d, .d] m__law_union := by
  refine kn_of (k := 0) dd sc__law_union rfl (fun _ _ _ _ _ _ us hl => match us, hl with | [_, _], _ => rfl) fun β f cdv A outer s H E ds hT C hl => ?_
  obtain ⟨a0, a1, rfl⟩ := len2 hl
  refine ⟨Unit, fun _ => List.replicate 6 .un, _, ?_, (bj_setN (i := 2) C rfl (by first | exact Or.inl rfl | exact Or.inr rfl) (Nat.le_of_ble_eq_true rfl) (evN_lst esN_nil) fun o1 => (bj_seq (sj_forG (sh := (fun s : List D => ([.d a0, .d a1, .own s, .un, .un, .un] : List Sl))) (s0 := o1) C (it_range1 rfl b_range (Ev.cast (ev_blt GL.b_len rfl b_len (es_cons (ev_v 0 a0) es_nil)) rfl)) (tg_n (by exact C.nd) 3) (.keep (.keep (.keep (.keep (.keep (.keep .nil)))))) (fun _ => hl_of rfl) (fun ds s3 => bj_on1 (fun t4 => (bj_setLcN (is := [5]) (own := [("trial", 5)]) (i := 4) C rfl rfl (Nat.le_of_ble_eq_true rfl) rfl (it_seq (ev_v 1 a1)) rfl rfl (fun _ _ _ _ _ => (tg_n (by exact C.nd) 5)) (fun _ _ _ _ _ C1 => ets_on1 fun t5 => ets_one (et_notN (ev_get (ev_v 5 t5) (ev_v 3 t4) (fun _ _ => rfl)))) (fun _ _ _ _ _ C1 => ev_on1 fun t5 => (ev_get (ev_v 5 t5) (ev_v 3 t4) (fun _ _ => rfl))) fun o11 => (bj_freeze (i := 4) rfl (bj_append (i := 2) C rfl (by first | exact Or.inl rfl | exact Or.inr (Or.inl rfl) | exact Or.inr (Or.inr rfl)) rfl (ev_if (et_cmp (c_ne C) (ev_v 4 (.list o11)) (Ev.cast (ev_lst es_nil) rfl)) (ev_get (ev_v 4 (.list o11)) ev_int (fun _ _ => rfl)) ev_non) fun v17 => (bj_weak (.keep (.keep (.keep (.drop (.drop (.keep .nil)))))) (bj_nil (s3 ++ [v17]) rfl)))))) ds)) fun s18 => (bj_freeze (i := 2) rfl (bj_ret (Ev.cast (ev_blt GL.b_tuple rfl b_tuple (es_cons (ev_v 2 (.list s18)) es_nil)) rfl)))))⟩
  rfl
abbrev t__law_groupings : Stmt := tS 41
theorem sc__law_groupings : FnScope ["trials", "found", "k", "longer", "row", "group", "own"] ["trials"] (defScope t__law_groupings) := ⟨rfl, rfl, rfl, by decide +kernel, rfl, by decide +kernel, by decide +kernel⟩
theorem w__law_groupings (dd : Df K mg "_law_groupings" t__law_groupings (fun _ => True)) (b_all : mg "all" = none) (b_len : mg "len" = none) (b_max : mg "max" = none) (b_range : mg "range" = none) (k__law_agree : Kn P w K mg base g "_law_agree" t__law_agree 1 ["one", "two"] [.d, .d] m__law_agree) : Kn P w K mg base g "_law_groupings" t__law_groupings 2 ["trials"] [.d] m__law_groupings := by
  refine kn_of (k := 1) dd sc__law_groupings rfl (fun _ _ _ _ _ _ us hl => match us, hl with | [_], _ => rfl) fun β f cdv A outer s H E ds hT C hl => ?_
  obtain ⟨a0, rfl⟩ := len1 hl
  refine ⟨Unit, fun _ => List.replicate 7 .un, _, ?_, (bj_set (i := 1) C rfl (by first | exact Or.inl rfl | exact Or.inr rfl) (Nat.le_of_ble_eq_true rfl) (Ev.cast (ev_lst (es_cons (Ev.cast (ev_tup es_nil) rfl) es_nil)) rfl) fun v2 => (bj_seq (sj_forG (sh := (fun s : D => ([.d a0, .d s, .un, .un, .un, .un, .un] : List Sl))) (s0 := v2) C (it_range1 rfl b_range (Ev.cast (ev_blt GL.b_len rfl b_len (es_cons (ev_v 0 a0) es_nil)) rfl)) (tg_n (by exact C.nd) 2) (.keep (.keep (.keep (.keep (.keep (.keep (.keep .nil))))))) (fun _ => hl_of rfl) (fun ds s4 => bj_on1 (fun t5 => (bj_setN (i := 3) C rfl (by first | exact Or.inl rfl | exact Or.inr rfl) (Nat.le_of_ble_eq_true rfl) (evN_lst esN_nil) fun o6 => (bj_seq (sj_forG (sh := (fun s : List D => ([.d a0, .d s4, .d t5, .own s, .un, .un, .un] : List Sl))) (s0 := o6) C (it_seq (ev_v 1 s4)) (tg_n (by exact C.nd) 4) (.keep (.keep (.keep (.keep (.keep (.keep (.keep .nil))))))) (fun _ => hl_of rfl) (fun ds s7 => bj_on1 (fun t8 => (bj_seq (sj_forG (sh := (fun s : List D => ([.d a0, .d s4, .d t5, .own s, .d t8, .un, .un] : List Sl))) (s0 := s7) C (it_range1 rfl b_range (ev_add (Ev.cast (ev_blt (GL.b_max C) rfl b_max (es_cons (ev_add (ev_v 4 t8) (Ev.cast (ev_tup (es_cons (ev_sub ev_int ev_int) es_nil)) rfl)) es_nil)) rfl) ev_int)) (tg_n (by exact C.nd) 5) (.keep (.keep (.keep (.keep (.keep (.keep (.keep .nil))))))) (fun _ => hl_of rfl) (fun ds s17 => bj_on1 (fun t18 => (bj_one (sj_if (et_val (Ev.cast (ev_blt (GL.b_all C) rfl b_all (es_cons (Ev.ofN (evN_lc (is := [6]) (own := [("own", 6)]) C (it_range1 rfl b_range (ev_v 2 t5)) rfl rfl (fun _ _ _ _ _ => (tg_n (by exact C.nd) 6)) (fun _ _ _ _ _ C1 => ets_on1 fun t19 => ets_one (et_cmp (c_eq C1) (ev_get (ev_v 4 t8) (ev_v 6 t19) (fun _ _ => rfl)) (ev_v 5 t18))) (fun _ _ _ _ _ C1 => ev_on1 fun t19 => (Ev.cast (ev_call C1 (k__law_agree.at β) (by decide) rfl (by exact rfl) (as_d (ev_get (ev_v 0 a0) (ev_v 2 t5) (fun _ _ => rfl)) (as_d (ev_get (ev_v 0 a0) (ev_v 6 t19) (fun _ _ => rfl)) as_nil))) rfl)))) es_nil)) rfl)) (bj_append (i := 3) C rfl (by first | exact Or.inl rfl | exact Or.inr (Or.inl rfl) | exact Or.inr (Or.inr rfl)) rfl (ev_add (ev_v 4 t8) (Ev.cast (ev_tup (es_cons (ev_v 5 t18) es_nil)) rfl)) fun v35 => (bj_weak (.keep (.keep (.keep (.keep (.keep (.drop (.keep .nil))))))) (bj_nil (s17 ++ [v35]) rfl))) (bj_weak (.keep (.keep (.keep (.keep (.keep (.drop (.keep .nil))))))) (bj_nil s17 rfl))))) ds)) fun s37 => (bj_weak (.keep (.keep (.keep (.keep (.drop (.keep (.keep .nil))))))) (bj_nil s37 rfl)))) ds)) fun s38 => (bj_freeze (i := 3) rfl (bj_set (i := 1) C rfl (by first | exact Or.inl rfl | exact Or.inr rfl) (Nat.le_of_ble_eq_true rfl) (ev_v 3 (.list s38)) fun v39 => (bj_weak (.keep (.keep (.drop (.drop (.keep (.keep (.keep .nil))))))) (bj_nil v39 rfl))))))) ds)) fun s40 => (bj_ret (ev_v 1 s40))))⟩
  rfl
abbrev t__law_right : Stmt := tS 42
theorem sc__law_right : FnScope ["bag", "values", "trials", "turn", "every", "least", "row", "due", "group", "some", "k"] ["bag"] (defScope t__law_right) := ⟨rfl, rfl, rfl, by decide +kernel, rfl, by decide +kernel, by decide +kernel⟩
theorem w__law_right (dd : Df K mg "_law_right" t__law_right (fun _ => True)) (b_len : mg "len" = none) (b_min : mg "min" = none) (b_range : mg "range" = none) (b_repr : mg "repr" = none) (b_set : mg "set" = none) (b_tuple : mg "tuple" = none) (k_do_go_together : Kn P w K mg base g "do_go_together" t_do_go_together 10 ["values", "trials"] [.d, .d] m_do_go_together) (k_union : Kn P w K mg base g "union" t_union 10 ["values", "trials"] [.d, .d] m_union) (k_fewest_unions : Kn P w K mg base g "fewest_unions" t_fewest_unions 10 ["values", "trials"] [.d, .d] m_fewest_unions) (k_first_grouping : Kn P w K mg base g "first_grouping" t_first_grouping 10 ["values", "trials"] [.d, .d] m_first_grouping) (k__law_pull : Kn P w K mg base g "_law_pull" t__law_pull 2 ["bag", "some"] [.bag, .d] m__law_pull) (k__law_values : Kn P w K mg base g "_law_values" t__law_values 3 ["bag", "most", "wide"] [.bag, .d, .d] m__law_values) (k__law_open : Kn P w K mg base g "_law_open" t__law_open 2 ["bag", "values"] [.bag, .d] m__law_open) (k__law_union : Kn P w K mg base g "_law_union" t__law_union 1 ["values", "trials"] [.d, .d] m__law_union) (k__law_groupings : Kn P w K mg base g "_law_groupings" t__law_groupings 2 ["trials"] [.d] m__law_groupings) : Kn P w K mg base g "_law_right" t__law_right 11 ["bag"] [.bag] m__law_right := by
  refine kn_of (k := 10) dd sc__law_right rfl (fun _ _ _ _ _ _ us hl => match us, hl with | [_], _ => rfl) fun β f cdv A outer s H E ds hT C hl => ?_
  cases len0 hl
  refine ⟨Unit, fun _ => List.replicate 11 .un, _, ?_, (bj_set (i := 1) C rfl (by first | exact Or.inl rfl | exact Or.inr rfl) (Nat.le_of_ble_eq_true rfl) (Ev.cast (ev_call C (k__law_values.at β) (by decide) rfl (by exact rfl) (as_bag (i := 0) rfl (by first | exact Or.inl rfl | exact Or.inr (Or.inl rfl) | exact Or.inr (Or.inr rfl)) rfl (as_d ev_int (as_d ev_int as_nil)))) rfl) fun v3 => (bj_set (i := 2) C rfl (by first | exact Or.inl rfl | exact Or.inr rfl) (Nat.le_of_ble_eq_true rfl) (Ev.cast (ev_blt GL.b_tuple rfl b_tuple (es_cons (Ev.ofN (evN_lc (is := [3]) (own := [("turn", 3)]) C (it_range1 rfl b_range (Ev.cast (ev_call C (k__law_pull.at β) (by decide) rfl (by exact rfl) (as_bag (i := 0) rfl (by first | exact Or.inl rfl | exact Or.inr (Or.inl rfl) | exact Or.inr (Or.inr rfl)) rfl (as_d (Ev.cast (ev_lst (es_cons ev_int (es_cons ev_int (es_cons ev_int (es_cons ev_int (es_cons ev_int (es_cons ev_int (es_cons ev_int es_nil)))))))) rfl) as_nil))) rfl)) rfl rfl (fun _ _ _ _ _ => (tg_n (by exact C.nd) 3)) (fun _ _ _ _ _ C1 _ => ets_nil) (fun _ _ _ _ _ C1 => ev_on1 fun t12 => (Ev.cast (ev_call C1 (k__law_open.at β) (by decide) rfl (by exact rfl) (as_bag (i := 0) rfl (by first | exact Or.inl rfl | exact Or.inr (Or.inl rfl) | exact Or.inr (Or.inr rfl)) rfl (as_d (ev_v 1 v3) as_nil))) rfl)))) es_nil)) rfl) fun v16 => (bj_set (i := 4) C rfl (by first | exact Or.inl rfl | exact Or.inr rfl) (Nat.le_of_ble_eq_true rfl) (Ev.cast (ev_call C (k__law_groupings.at β) (by decide) rfl (by exact rfl) (as_d (ev_v 2 v16) as_nil)) rfl) fun v18 => (bj_set (i := 5) C rfl (by first | exact Or.inl rfl | exact Or.inr rfl) (Nat.le_of_ble_eq_true rfl) (Ev.cast (ev_blt (GL.b_min C) rfl b_min (es_cons (Ev.ofN (evN_lc (is := [6]) (own := [("row", 6)]) C (it_seq (ev_v 4 v18)) rfl rfl (fun _ _ _ _ _ => (tg_n (by exact C.nd) 6)) (fun _ _ _ _ _ C1 _ => ets_nil) (fun _ _ _ _ _ C1 => ev_on1 fun t19 => (ev_lenSet C1 rfl b_len rfl b_set (ev_v 6 t19))))) es_nil)) rfl) fun v22 => (bj_set (i := 7) C rfl (by first | exact Or.inl rfl | exact Or.inr rfl) (Nat.le_of_ble_eq_true rfl) (Ev.cast (ev_blt (GL.b_min C) rfl b_min (es_cons (Ev.ofN (evN_lc (is := [6]) (own := [("row", 6)]) C (it_seq (ev_v 4 v18)) rfl rfl (fun _ _ _ _ _ => (tg_n (by exact C.nd) 6)) (fun _ _ _ _ _ C1 => ets_on1 fun t23 => ets_one (et_cmp (c_eq C1) (ev_lenSet C1 rfl b_len rfl b_set (ev_v 6 t23)) (ev_v 5 v22))) (fun _ _ _ _ _ C1 => ev_on1 fun t23 => (ev_v 6 t23)))) es_nil)) rfl) fun v28 => (bj_seq (sh' := (fun s : Unit => ([.bag, .d v3, .d v16, .un, .d v18, .d v22, .un, .d v28, .un, .un, .un] : List Sl))) (sj_if (et_cmp (c_ne C) (Ev.cast (ev_blt (GL.b_repr C) rfl b_repr (es_cons (Ev.cast (ev_lst (es_cons (Ev.cast (ev_call C (k_fewest_unions.at β) (by decide) rfl (by exact rfl) (as_d (ev_v 1 v3) (as_d (ev_v 2 v16) as_nil))) rfl) (es_cons (Ev.cast (ev_callKD (m := 2) (is := [1, 0]) (kn' := ["trials", "values"]) C (k_fewest_unions.at β) (by decide) rfl (ak_d (ev_v 2 v16) (ak_d (ev_v 1 v3) ak_nil)) (by decide) rfl (fun _ _ _ _ _ _ _ _ us hl => match us, hl with | [_, _], _ => rfl)) rfl) es_nil))) rfl) es_nil)) rfl) (Ev.cast (ev_blt (GL.b_repr C) rfl b_repr (es_cons (Ev.cast (ev_lst (es_cons (ev_v 5 v22) (es_cons (ev_v 5 v22) es_nil))) rfl) es_nil)) rfl)) (bj_ret ev_bl) (bj_weak (.keep (.keep (.keep (.keep (.keep (.keep (.keep (.keep (.keep (.keep (.keep .nil))))))))))) (bj_nil () rfl))) fun s43 => (bj_seq (sh' := (fun s : Unit => ([.bag, .d v3, .d v16, .un, .d v18, .d v22, .un, .d v28, .un, .un, .un] : List Sl))) (sj_if (et_cmp (c_ne C) (Ev.cast (ev_blt (GL.b_repr C) rfl b_repr (es_cons (Ev.cast (ev_lst (es_cons (Ev.cast (ev_call C (k_first_grouping.at β) (by decide) rfl (by exact rfl) (as_d (ev_v 1 v3) (as_d (ev_v 2 v16) as_nil))) rfl) (es_cons (Ev.cast (ev_callKD (m := 2) (is := [1, 0]) (kn' := ["trials", "values"]) C (k_first_grouping.at β) (by decide) rfl (ak_d (ev_v 2 v16) (ak_d (ev_v 1 v3) ak_nil)) (by decide) rfl (fun _ _ _ _ _ _ _ _ us hl => match us, hl with | [_, _], _ => rfl)) rfl) es_nil))) rfl) es_nil)) rfl) (Ev.cast (ev_blt (GL.b_repr C) rfl b_repr (es_cons (Ev.cast (ev_lst (es_cons (ev_v 7 v28) (es_cons (ev_v 7 v28) es_nil))) rfl) es_nil)) rfl)) (bj_ret ev_bl) (bj_weak (.keep (.keep (.keep (.keep (.keep (.keep (.keep (.keep (.keep (.keep (.keep .nil))))))))))) (bj_nil () rfl))) fun s58 => (bj_seq (sj_forG (sh := (fun s : Unit => ([.bag, .d v3, .d v16, .un, .d v18, .d v22, .un, .d v28, .un, .un, .un] : List Sl))) (s0 := ()) C (it_range1 rfl b_range (ev_v 5 v22)) (tg_n (by exact C.nd) 8) (.keep (.keep (.keep (.keep (.keep (.keep (.keep (.keep (.keep (.keep (.keep .nil))))))))))) (fun _ => hl_of rfl) (fun ds s59 => bj_on1 (fun t60 => (bj_set (i := 9) C rfl (by first | exact Or.inl rfl | exact Or.inr rfl) (Nat.le_of_ble_eq_true rfl) (Ev.cast (ev_blt GL.b_tuple rfl b_tuple (es_cons (Ev.ofN (evN_lc (is := [10]) (own := [("k", 10)]) C (it_range1 rfl b_range (Ev.cast (ev_blt GL.b_len rfl b_len (es_cons (ev_v 2 v16) es_nil)) rfl)) rfl rfl (fun _ _ _ _ _ => (tg_n (by exact C.nd) 10)) (fun _ _ _ _ _ C1 => ets_on1 fun t62 => ets_one (et_cmp (c_eq C1) (ev_get (ev_v 7 v28) (ev_v 10 t62) (fun _ _ => rfl)) (ev_v 8 t60))) (fun _ _ _ _ _ C1 => ev_on1 fun t62 => (ev_get (ev_v 2 v16) (ev_v 10 t62) (fun _ _ => rfl))))) es_nil)) rfl) fun v71 => (bj_one (sj_if (et_w (et_or (et_cmp (c_ne C) (Ev.cast (ev_call C (k_union.at β) (by decide) rfl (by exact rfl) (as_d (ev_v 1 v3) (as_d (ev_v 9 v71) as_nil))) rfl) (Ev.cast (ev_call C (k__law_union.at β) (by decide) rfl (by exact rfl) (as_d (ev_v 1 v3) (as_d (ev_v 9 v71) as_nil))) rfl)) (et_or1 (et_cmp c_isNot (Ev.cast (ev_call C (k_do_go_together.at β) (by decide) rfl (by exact rfl) (as_d (ev_v 1 v3) (as_d (ev_v 9 v71) as_nil))) rfl) ev_bl)))) (bj_ret ev_bl) (bj_weak (.keep (.keep (.keep (.keep (.keep (.keep (.keep (.keep (.drop (.drop (.keep .nil))))))))))) (bj_nil () rfl)))))) ds)) fun s84 => (bj_seq (sh' := (fun s : Unit => ([.bag, .d v3, .d v16, .un, .d v18, .d v22, .un, .d v28, .un, .un, .un] : List Sl))) (sj_if (et_w (et_and (et_cmp (c_ne C) (ev_v 2 v16) (Ev.cast (ev_tup es_nil) rfl)) (et_and1 (et_cmp (c_ne C) (ev_cmp (c_eq C) (ev_v 5 v22) ev_int) (Ev.cast (ev_call C (k_do_go_together.at β) (by decide) rfl (by exact rfl) (as_d (ev_v 1 v3) (as_d (ev_v 2 v16) as_nil))) rfl))))) (bj_ret ev_bl) (bj_weak (.keep (.keep (.keep (.keep (.keep (.keep (.keep (.keep (.keep (.keep (.keep .nil))))))))))) (bj_nil () rfl))) fun s95 => (bj_ret (ev_cmp c_le (Ev.cast (ev_call C (k_fewest_unions.at β) (by decide) rfl (by exact rfl) (as_d (ev_v 1 v3) (as_d (ev_cut (ev_v 2 v16) (po_ev ev_int) po_no) as_nil))) rfl) (ev_v 5 v22))))))))))))⟩
  rfl
abbrev t_law : Stmt := tS 43
theorem sc_law : FnScope ["script", "lap", "bag", "turn"] ["script"] (defScope t_law) := ⟨rfl, rfl, rfl, by decide +kernel, rfl, by decide +kernel, by decide +kernel⟩
theorem w_law {f : Addr} {fd : FuncData} {β0 : Addr} {q0 : Str} {cs : List (Addr × Addr)} {ok : List Int → Prop} (F : Fun K "law" "law" t_law f fd) (hq : (β0, q0) ∈ g.T) (hgT : ∀ p ∈ g.T, p.1 ∈ cs.map (·.2)) (b_all : mg "all" = none) (b_len : mg "len" = none) (b_max : mg "max" = none) (b_min : mg "min" = none) (b_range : mg "range" = none) (k__law_bag : KnN P w K mg base g "_law_bag" t__law_bag 1 ["script", "lap"] [.d, .d] m__law_bag) (k__law_right : Kn P w K mg base g "_law_right" t__law_right 11 ["bag"] [.bag] m__law_right)
    (plain : ∀ ns, ok ns → ∃ laps, m_law_laps (scriptD ns) none = some (.ok laps, none) ∧ ∀ d ∈ laps, ∃ x y z b', m__law_bag [scriptD ns, d] none = some (.ok [.int x, .int y, .int z], none) ∧ m_law_body (scriptD ns) d (some (x, y, z)) = some (.ok (.nx ()), b')) :
    FnG P w K mg base 12 f fd ["script"] (spL P w K cs ok) := by
  refine fnG_law (k := 11) (st1 := stAt (defBody t_law) 0) F sc_law hq hgT rfl fun cdv A outer s H E ns hok C => ?_
  obtain ⟨laps, h1, h2⟩ := plain ns hok
  revert h1 h2
  generalize scriptD ns = a0
  intro h1 h2
  exact ps_law (β0 := β0) (q0 := q0) (l := 1) (i := 2) (mi := m_law_laps a0) (mN := fun d => m__law_bag [a0, d]) (mb := m_law_body a0) C hq (Itj.cast (have C := C β0; (it_range1 rfl b_range (Ev.cast (ev_blt (GL.b_max C) rfl b_max (es_cons ev_int (es_cons (Ev.cast (ev_blt (GL.b_min C) rfl b_min (es_cons (Ev.cast (ev_blt GL.b_len rfl b_len (es_cons (ev_v 0 a0) es_nil)) rfl) (es_cons ev_int es_nil))) rfl) es_nil))) rfl))) rfl) (tg_n (by exact (C β0).nd) 1) (Nat.le_of_ble_eq_true rfl) (Nat.le_of_ble_eq_true rfl) (by decide) rfl rfl rfl rfl (by first | exact Or.inl rfl | exact Or.inr rfl) (fun d => EvN.cast (evN_call (C β0) (k__law_bag.at β0) (by decide) rfl rfl (asA_d (ev_v 0 a0) (asA_d (ev_v 1 d) asA_nil))) rfl) (fun β d => Bj.cast (have C := C β; (bj_one (sj_if (et_not (et_val (Ev.cast (ev_blt (GL.b_all C) rfl b_all (es_cons (Ev.ofN (evN_lc (is := [3]) (own := [("turn", 3)]) C (it_range1 rfl b_range ev_int) rfl rfl (fun _ _ _ _ _ => (tg_n (by exact C.nd) 3)) (fun _ _ _ _ _ C1 _ => ets_nil) (fun _ _ _ _ _ C1 => ev_on1 fun t6 => (Ev.cast (ev_call C1 (k__law_right.at β) (by decide) rfl (by exact rfl) (as_bag (i := 2) rfl (by first | exact Or.inl rfl | exact Or.inr (Or.inl rfl) | exact Or.inr (Or.inr rfl)) rfl as_nil)) rfl)))) es_nil)) rfl))) (bj_ret ev_bl) (bj_weak (.keep (.drop (.drop (.keep .nil)))) (bj_nil () rfl))))) rfl) rfl (by first | exact Or.inl rfl | exact Or.inr rfl) (fun _ => rfl) h1 h2
end
end GL
namespace GL
open PySem PySem.Spec PyProof.Rows L2 LamX

section
variable {w : World} {K : PySem.W.Frag} {mg : Str → Option Value} {h : Heap}
theorem df_of {x : Str} {st : Stmt} {f : Addr} {oc : Value} {od an : Option Addr} {sl : Array (Option Value)} {kV dc pm cd ct : Value} {cc : Value → Prop} (X : K.In h) (G : h.Ns mainGlobals mg) (a : PySem.W.nsIn K mainGlobals x = some (some (.ref f)))
    (l : K.lookup f = some ⟨oc, od, .func (PySem.W.fnOf x x (defArgs st) (defBody st) (defScope st) .none kV dc pm an cd ct), sl⟩) (c : PySem.W.codeIn K cd x = true) (k : PySem.W.keepIn K (.ref f) = true) (hc : cc cd) : Df K mg x st cc := ⟨f, _, PySem.W.mg_of X G a, fun_mk l c k, hc⟩
theorem all_64 {ts : List Addr} {fa : Addr} (X : K.In h) (G : h.Ns mainGlobals mg) (TT : ∀ P ∈ ts, h.get? P = some (PySem.W.tabObj #[])) (hfa : mg "law" = some (.ref fa))
    {f__law_bag : Addr} {oc__law_bag kV__law_bag dc__law_bag pm__law_bag cd__law_bag ct__law_bag : Value} {od__law_bag an__law_bag : Option Addr} {sl__law_bag : Array (Option Value)} {f_go_two : Addr} {oc_go_two kV_go_two dc_go_two pm_go_two cd_go_two ct_go_two : Value} {od_go_two an_go_two : Option Addr} {sl_go_two : Array (Option Value)} {f_go_all : Addr} {oc_go_all kV_go_all dc_go_all pm_go_all cd_go_all ct_go_all : Value} {od_go_all an_go_all : Option Addr} {sl_go_all : Array (Option Value)} {f_is_row : Addr} {oc_is_row kV_is_row dc_is_row pm_is_row cd_is_row ct_is_row : Value} {od_is_row an_is_row : Option Addr} {sl_is_row : Array (Option Value)} {f_is_whole : Addr} {oc_is_whole kV_is_whole dc_is_whole pm_is_whole cd_is_whole ct_is_whole : Value} {od_is_whole an_is_whole : Option Addr} {sl_is_whole : Array (Option Value)} {f_is_between : Addr} {oc_is_between kV_is_between dc_is_between pm_is_between cd_is_between ct_is_between : Value} {od_is_between an_is_between : Option Addr} {sl_is_between : Array (Option Value)} {f_first_wrong : Addr} {oc_first_wrong kV_first_wrong dc_first_wrong pm_first_wrong cd_first_wrong ct_first_wrong : Value} {od_first_wrong an_first_wrong : Option Addr} {sl_first_wrong : Array (Option Value)} {f_wrong_number : Addr} {oc_wrong_number kV_wrong_number dc_wrong_number pm_wrong_number cd_wrong_number ct_wrong_number : Value} {od_wrong_number an_wrong_number : Option Addr} {sl_wrong_number : Array (Option Value)} {p_wrong_number q_wrong_number : Addr} {f_check_values : Addr} {oc_check_values kV_check_values dc_check_values pm_check_values cd_check_values ct_check_values : Value} {od_check_values an_check_values : Option Addr} {sl_check_values : Array (Option Value)} {f_is_tuple_of : Addr} {oc_is_tuple_of kV_is_tuple_of dc_is_tuple_of pm_is_tuple_of cd_is_tuple_of ct_is_tuple_of : Value} {od_is_tuple_of an_is_tuple_of : Option Addr} {sl_is_tuple_of : Array (Option Value)} {f_is_open : Addr} {oc_is_open kV_is_open dc_is_open pm_is_open cd_is_open ct_is_open : Value} {od_is_open an_is_open : Option Addr} {sl_is_open : Array (Option Value)} {f_wrong_open : Addr} {oc_wrong_open kV_wrong_open dc_wrong_open pm_wrong_open cd_wrong_open ct_wrong_open : Value} {od_wrong_open an_wrong_open : Option Addr} {sl_wrong_open : Array (Option Value)} {p_wrong_open q_wrong_open : Addr} {f_check_opens : Addr} {oc_check_opens kV_check_opens dc_check_opens pm_check_opens cd_check_opens ct_check_opens : Value} {od_check_opens an_check_opens : Option Addr} {sl_check_opens : Array (Option Value)} {f_check_opened : Addr} {oc_check_opened kV_check_opened dc_check_opened pm_check_opened cd_check_opened ct_check_opened : Value} {od_check_opened an_check_opened : Option Addr} {sl_check_opened : Array (Option Value)} {f_do_go_together : Addr} {oc_do_go_together kV_do_go_together dc_do_go_together pm_do_go_together cd_do_go_together ct_do_go_together : Value} {od_do_go_together an_do_go_together : Option Addr} {sl_do_go_together : Array (Option Value)} {f_union_by : Addr} {oc_union_by kV_union_by dc_union_by pm_union_by cd_union_by ct_union_by : Value} {od_union_by an_union_by : Option Addr} {sl_union_by : Array (Option Value)} {f_union : Addr} {oc_union kV_union dc_union pm_union cd_union ct_union : Value} {od_union an_union : Option Addr} {sl_union : Array (Option Value)} {f_groupings : Addr} {oc_groupings kV_groupings dc_groupings pm_groupings cd_groupings ct_groupings : Value} {od_groupings an_groupings : Option Addr} {sl_groupings : Array (Option Value)} {f_first_by : Addr} {oc_first_by kV_first_by dc_first_by pm_first_by cd_first_by ct_first_by : Value} {od_first_by an_first_by : Option Addr} {sl_first_by : Array (Option Value)} {p_first_by q_first_by : Addr} {f_fewest_by : Addr} {oc_fewest_by kV_fewest_by dc_fewest_by pm_fewest_by cd_fewest_by ct_fewest_by : Value} {od_fewest_by an_fewest_by : Option Addr} {sl_fewest_by : Array (Option Value)} {f_fewest_unions : Addr} {oc_fewest_unions kV_fewest_unions dc_fewest_unions pm_fewest_unions cd_fewest_unions ct_fewest_unions : Value} {od_fewest_unions an_fewest_unions : Option Addr} {sl_fewest_unions : Array (Option Value)} {f_first_grouping : Addr} {oc_first_grouping kV_first_grouping dc_first_grouping pm_first_grouping cd_first_grouping ct_first_grouping : Value} {od_first_grouping an_first_grouping : Option Addr} {sl_first_grouping : Array (Option Value)} {f__law_take : Addr} {oc__law_take kV__law_take dc__law_take pm__law_take cd__law_take ct__law_take : Value} {od__law_take an__law_take : Option Addr} {sl__law_take : Array (Option Value)} {f__law_pull : Addr} {oc__law_pull kV__law_pull dc__law_pull pm__law_pull cd__law_pull ct__law_pull : Value} {od__law_pull an__law_pull : Option Addr} {sl__law_pull : Array (Option Value)} {f__law_values : Addr} {oc__law_values kV__law_values dc__law_values pm__law_values cd__law_values ct__law_values : Value} {od__law_values an__law_values : Option Addr} {sl__law_values : Array (Option Value)} {f__law_open : Addr} {oc__law_open kV__law_open dc__law_open pm__law_open cd__law_open ct__law_open : Value} {od__law_open an__law_open : Option Addr} {sl__law_open : Array (Option Value)} {f__law_union : Addr} {oc__law_union kV__law_union dc__law_union pm__law_union cd__law_union ct__law_union : Value} {od__law_union an__law_union : Option Addr} {sl__law_union : Array (Option Value)} {f__law_agree : Addr} {oc__law_agree kV__law_agree dc__law_agree pm__law_agree cd__law_agree ct__law_agree : Value} {od__law_agree an__law_agree : Option Addr} {sl__law_agree : Array (Option Value)} {f__law_groupings : Addr} {oc__law_groupings kV__law_groupings dc__law_groupings pm__law_groupings cd__law_groupings ct__law_groupings : Value} {od__law_groupings an__law_groupings : Option Addr} {sl__law_groupings : Array (Option Value)} {f__law_right : Addr} {oc__law_right kV__law_right dc__law_right pm__law_right cd__law_right ct__law_right : Value} {od__law_right an__law_right : Option Addr} {sl__law_right : Array (Option Value)} {f_law : Addr} {oc_law kV_law dc_law pm_law cd_law ct_law : Value} {od_law an_law : Option Addr} {sl_law : Array (Option Value)} {t_FEWEST_SWITCHES : Tok} {t_FEWEST_VALUES : Tok} {t_MOST_OPEN : Tok} {t_MOST_SWITCHES : Tok} {t_MOST_VALUES : Tok}
    (a__law_bag : PySem.W.nsIn K mainGlobals "_law_bag" = some (some (.ref f__law_bag)))
    (l__law_bag : K.lookup f__law_bag = some ⟨oc__law_bag, od__law_bag, .func (PySem.W.fnOf "_law_bag" "_law_bag" (defArgs t__law_bag) (defBody t__law_bag) (defScope t__law_bag) .none kV__law_bag dc__law_bag pm__law_bag an__law_bag cd__law_bag ct__law_bag), sl__law_bag⟩)
    (c__law_bag : PySem.W.codeIn K cd__law_bag "_law_bag" = true)
    (k__law_bag : PySem.W.keepIn K (.ref f__law_bag) = true)
    (a_go_two : PySem.W.nsIn K mainGlobals "go_two" = some (some (.ref f_go_two)))
    (l_go_two : K.lookup f_go_two = some ⟨oc_go_two, od_go_two, .func (PySem.W.fnOf "go_two" "go_two" (defArgs t_go_two) (defBody t_go_two) (defScope t_go_two) .none kV_go_two dc_go_two pm_go_two an_go_two cd_go_two ct_go_two), sl_go_two⟩)
    (c_go_two : PySem.W.codeIn K cd_go_two "go_two" = true)
    (k_go_two : PySem.W.keepIn K (.ref f_go_two) = true)
    (a_go_all : PySem.W.nsIn K mainGlobals "go_all" = some (some (.ref f_go_all)))
    (l_go_all : K.lookup f_go_all = some ⟨oc_go_all, od_go_all, .func (PySem.W.fnOf "go_all" "go_all" (defArgs t_go_all) (defBody t_go_all) (defScope t_go_all) .none kV_go_all dc_go_all pm_go_all an_go_all cd_go_all ct_go_all), sl_go_all⟩)
    (c_go_all : PySem.W.codeIn K cd_go_all "go_all" = true)
    (k_go_all : PySem.W.keepIn K (.ref f_go_all) = true)
    (a_is_row : PySem.W.nsIn K mainGlobals "is_row" = some (some (.ref f_is_row)))
    (l_is_row : K.lookup f_is_row = some ⟨oc_is_row, od_is_row, .func (PySem.W.fnOf "is_row" "is_row" (defArgs t_is_row) (defBody t_is_row) (defScope t_is_row) .none kV_is_row dc_is_row pm_is_row an_is_row cd_is_row ct_is_row), sl_is_row⟩)
    (c_is_row : PySem.W.codeIn K cd_is_row "is_row" = true)
    (k_is_row : PySem.W.keepIn K (.ref f_is_row) = true)
    (a_is_whole : PySem.W.nsIn K mainGlobals "is_whole" = some (some (.ref f_is_whole)))
    (l_is_whole : K.lookup f_is_whole = some ⟨oc_is_whole, od_is_whole, .func (PySem.W.fnOf "is_whole" "is_whole" (defArgs t_is_whole) (defBody t_is_whole) (defScope t_is_whole) .none kV_is_whole dc_is_whole pm_is_whole an_is_whole cd_is_whole ct_is_whole), sl_is_whole⟩)
    (c_is_whole : PySem.W.codeIn K cd_is_whole "is_whole" = true)
    (k_is_whole : PySem.W.keepIn K (.ref f_is_whole) = true)
    (a_is_between : PySem.W.nsIn K mainGlobals "is_between" = some (some (.ref f_is_between)))
    (l_is_between : K.lookup f_is_between = some ⟨oc_is_between, od_is_between, .func (PySem.W.fnOf "is_between" "is_between" (defArgs t_is_between) (defBody t_is_between) (defScope t_is_between) .none kV_is_between dc_is_between pm_is_between an_is_between cd_is_between ct_is_between), sl_is_between⟩)
    (c_is_between : PySem.W.codeIn K cd_is_between "is_between" = true)
    (k_is_between : PySem.W.keepIn K (.ref f_is_between) = true)
    (a_first_wrong : PySem.W.nsIn K mainGlobals "first_wrong" = some (some (.ref f_first_wrong)))
    (l_first_wrong : K.lookup f_first_wrong = some ⟨oc_first_wrong, od_first_wrong, .func (PySem.W.fnOf "first_wrong" "first_wrong" (defArgs t_first_wrong) (defBody t_first_wrong) (defScope t_first_wrong) .none kV_first_wrong dc_first_wrong pm_first_wrong an_first_wrong cd_first_wrong ct_first_wrong), sl_first_wrong⟩)
    (c_first_wrong : PySem.W.codeIn K cd_first_wrong "first_wrong" = true)
    (k_first_wrong : PySem.W.keepIn K (.ref f_first_wrong) = true)
    (a_wrong_number : PySem.W.nsIn K mainGlobals "wrong_number" = some (some (.ref f_wrong_number)))
    (l_wrong_number : K.lookup f_wrong_number = some ⟨oc_wrong_number, od_wrong_number, .func (PySem.W.fnOf "wrong_number" "wrong_number" (defArgs t_wrong_number) (defBody t_wrong_number) (defScope t_wrong_number) .none kV_wrong_number dc_wrong_number pm_wrong_number an_wrong_number cd_wrong_number ct_wrong_number), sl_wrong_number⟩)
    (c_wrong_number : PySem.W.codeIn K cd_wrong_number "wrong_number" = true)
    (k_wrong_number : PySem.W.keepIn K (.ref f_wrong_number) = true)
    (e_wrong_number : cd_wrong_number = .ref p_wrong_number)
    (h_wrong_number : PySem.W.codeHdIn K p_wrong_number q_wrong_number = true)
    (n_wrong_number : K.lookup q_wrong_number = none)
    (m_wrong_number : q_wrong_number ∈ ts)
    (a_check_values : PySem.W.nsIn K mainGlobals "check_values" = some (some (.ref f_check_values)))
    (l_check_values : K.lookup f_check_values = some ⟨oc_check_values, od_check_values, .func (PySem.W.fnOf "check_values" "check_values" (defArgs t_check_values) (defBody t_check_values) (defScope t_check_values) .none kV_check_values dc_check_values pm_check_values an_check_values cd_check_values ct_check_values), sl_check_values⟩)
    (c_check_values : PySem.W.codeIn K cd_check_values "check_values" = true)
    (k_check_values : PySem.W.keepIn K (.ref f_check_values) = true)
    (a_is_tuple_of : PySem.W.nsIn K mainGlobals "is_tuple_of" = some (some (.ref f_is_tuple_of)))
    (l_is_tuple_of : K.lookup f_is_tuple_of = some ⟨oc_is_tuple_of, od_is_tuple_of, .func (PySem.W.fnOf "is_tuple_of" "is_tuple_of" (defArgs t_is_tuple_of) (defBody t_is_tuple_of) (defScope t_is_tuple_of) .none kV_is_tuple_of dc_is_tuple_of pm_is_tuple_of an_is_tuple_of cd_is_tuple_of ct_is_tuple_of), sl_is_tuple_of⟩)
    (c_is_tuple_of : PySem.W.codeIn K cd_is_tuple_of "is_tuple_of" = true)
    (k_is_tuple_of : PySem.W.keepIn K (.ref f_is_tuple_of) = true)
    (a_is_open : PySem.W.nsIn K mainGlobals "is_open" = some (some (.ref f_is_open)))
    (l_is_open : K.lookup f_is_open = some ⟨oc_is_open, od_is_open, .func (PySem.W.fnOf "is_open" "is_open" (defArgs t_is_open) (defBody t_is_open) (defScope t_is_open) .none kV_is_open dc_is_open pm_is_open an_is_open cd_is_open ct_is_open), sl_is_open⟩)
    (c_is_open : PySem.W.codeIn K cd_is_open "is_open" = true)
    (k_is_open : PySem.W.keepIn K (.ref f_is_open) = true)
    (a_wrong_open : PySem.W.nsIn K mainGlobals "wrong_open" = some (some (.ref f_wrong_open)))
    (l_wrong_open : K.lookup f_wrong_open = some ⟨oc_wrong_open, od_wrong_open, .func (PySem.W.fnOf "wrong_open" "wrong_open" (defArgs t_wrong_open) (defBody t_wrong_open) (defScope t_wrong_open) .none kV_wrong_open dc_wrong_open pm_wrong_open an_wrong_open cd_wrong_open ct_wrong_open), sl_wrong_open⟩)
    (c_wrong_open : PySem.W.codeIn K cd_wrong_open "wrong_open" = true)
    (k_wrong_open : PySem.W.keepIn K (.ref f_wrong_open) = true)
    (e_wrong_open : cd_wrong_open = .ref p_wrong_open)
    (h_wrong_open : PySem.W.codeHdIn K p_wrong_open q_wrong_open = true)
    (n_wrong_open : K.lookup q_wrong_open = none)
    (m_wrong_open : q_wrong_open ∈ ts)
    (a_check_opens : PySem.W.nsIn K mainGlobals "check_opens" = some (some (.ref f_check_opens)))
    (l_check_opens : K.lookup f_check_opens = some ⟨oc_check_opens, od_check_opens, .func (PySem.W.fnOf "check_opens" "check_opens" (defArgs t_check_opens) (defBody t_check_opens) (defScope t_check_opens) .none kV_check_opens dc_check_opens pm_check_opens an_check_opens cd_check_opens ct_check_opens), sl_check_opens⟩)
    (c_check_opens : PySem.W.codeIn K cd_check_opens "check_opens" = true)
    (k_check_opens : PySem.W.keepIn K (.ref f_check_opens) = true)
    (a_check_opened : PySem.W.nsIn K mainGlobals "check_opened" = some (some (.ref f_check_opened)))
    (l_check_opened : K.lookup f_check_opened = some ⟨oc_check_opened, od_check_opened, .func (PySem.W.fnOf "check_opened" "check_opened" (defArgs t_check_opened) (defBody t_check_opened) (defScope t_check_opened) .none kV_check_opened dc_check_opened pm_check_opened an_check_opened cd_check_opened ct_check_opened), sl_check_opened⟩)
    (c_check_opened : PySem.W.codeIn K cd_check_opened "check_opened" = true)
    (k_check_opened : PySem.W.keepIn K (.ref f_check_opened) = true)
    (a_do_go_together : PySem.W.nsIn K mainGlobals "do_go_together" = some (some (.ref f_do_go_together)))
    (l_do_go_together : K.lookup f_do_go_together = some ⟨oc_do_go_together, od_do_go_together, .func (PySem.W.fnOf "do_go_together" "do_go_together" (defArgs t_do_go_together) (defBody t_do_go_together) (defScope t_do_go_together) .none kV_do_go_together dc_do_go_together pm_do_go_together an_do_go_together cd_do_go_together ct_do_go_together), sl_do_go_together⟩)
    (c_do_go_together : PySem.W.codeIn K cd_do_go_together "do_go_together" = true)
    (k_do_go_together : PySem.W.keepIn K (.ref f_do_go_together) = true)
    (a_union_by : PySem.W.nsIn K mainGlobals "union_by" = some (some (.ref f_union_by)))
    (l_union_by : K.lookup f_union_by = some ⟨oc_union_by, od_union_by, .func (PySem.W.fnOf "union_by" "union_by" (defArgs t_union_by) (defBody t_union_by) (defScope t_union_by) .none kV_union_by dc_union_by pm_union_by an_union_by cd_union_by ct_union_by), sl_union_by⟩)
    (c_union_by : PySem.W.codeIn K cd_union_by "union_by" = true)
    (k_union_by : PySem.W.keepIn K (.ref f_union_by) = true)
    (a_union : PySem.W.nsIn K mainGlobals "union" = some (some (.ref f_union)))
    (l_union : K.lookup f_union = some ⟨oc_union, od_union, .func (PySem.W.fnOf "union" "union" (defArgs t_union) (defBody t_union) (defScope t_union) .none kV_union dc_union pm_union an_union cd_union ct_union), sl_union⟩)
    (c_union : PySem.W.codeIn K cd_union "union" = true)
    (k_union : PySem.W.keepIn K (.ref f_union) = true)
    (a_groupings : PySem.W.nsIn K mainGlobals "groupings" = some (some (.ref f_groupings)))
    (l_groupings : K.lookup f_groupings = some ⟨oc_groupings, od_groupings, .func (PySem.W.fnOf "groupings" "groupings" (defArgs t_groupings) (defBody t_groupings) (defScope t_groupings) .none kV_groupings dc_groupings pm_groupings an_groupings cd_groupings ct_groupings), sl_groupings⟩)
    (c_groupings : PySem.W.codeIn K cd_groupings "groupings" = true)
    (k_groupings : PySem.W.keepIn K (.ref f_groupings) = true)
    (a_first_by : PySem.W.nsIn K mainGlobals "first_by" = some (some (.ref f_first_by)))
    (l_first_by : K.lookup f_first_by = some ⟨oc_first_by, od_first_by, .func (PySem.W.fnOf "first_by" "first_by" (defArgs t_first_by) (defBody t_first_by) (defScope t_first_by) .none kV_first_by dc_first_by pm_first_by an_first_by cd_first_by ct_first_by), sl_first_by⟩)
    (c_first_by : PySem.W.codeIn K cd_first_by "first_by" = true)
    (k_first_by : PySem.W.keepIn K (.ref f_first_by) = true)
    (e_first_by : cd_first_by = .ref p_first_by)
    (h_first_by : PySem.W.codeHdIn K p_first_by q_first_by = true)
    (n_first_by : K.lookup q_first_by = none)
    (m_first_by : q_first_by ∈ ts)
    (a_fewest_by : PySem.W.nsIn K mainGlobals "fewest_by" = some (some (.ref f_fewest_by)))
    (l_fewest_by : K.lookup f_fewest_by = some ⟨oc_fewest_by, od_fewest_by, .func (PySem.W.fnOf "fewest_by" "fewest_by" (defArgs t_fewest_by) (defBody t_fewest_by) (defScope t_fewest_by) .none kV_fewest_by dc_fewest_by pm_fewest_by an_fewest_by cd_fewest_by ct_fewest_by), sl_fewest_by⟩)
    (c_fewest_by : PySem.W.codeIn K cd_fewest_by "fewest_by" = true)
    (k_fewest_by : PySem.W.keepIn K (.ref f_fewest_by) = true)
    (a_fewest_unions : PySem.W.nsIn K mainGlobals "fewest_unions" = some (some (.ref f_fewest_unions)))
    (l_fewest_unions : K.lookup f_fewest_unions = some ⟨oc_fewest_unions, od_fewest_unions, .func (PySem.W.fnOf "fewest_unions" "fewest_unions" (defArgs t_fewest_unions) (defBody t_fewest_unions) (defScope t_fewest_unions) .none kV_fewest_unions dc_fewest_unions pm_fewest_unions an_fewest_unions cd_fewest_unions ct_fewest_unions), sl_fewest_unions⟩)
    (c_fewest_unions : PySem.W.codeIn K cd_fewest_unions "fewest_unions" = true)
    (k_fewest_unions : PySem.W.keepIn K (.ref f_fewest_unions) = true)
    (a_first_grouping : PySem.W.nsIn K mainGlobals "first_grouping" = some (some (.ref f_first_grouping)))
    (l_first_grouping : K.lookup f_first_grouping = some ⟨oc_first_grouping, od_first_grouping, .func (PySem.W.fnOf "first_grouping" "first_grouping" (defArgs t_first_grouping) (defBody t_first_grouping) (defScope t_first_grouping) .none kV_first_grouping dc_first_grouping pm_first_grouping an_first_grouping cd_first_grouping ct_first_grouping), sl_first_grouping⟩)
    (c_first_grouping : PySem.W.codeIn K cd_first_grouping "first_grouping" = true)
    (k_first_grouping : PySem.W.keepIn K (.ref f_first_grouping) = true)
    (a__law_take : PySem.W.nsIn K mainGlobals "_law_take" = some (some (.ref f__law_take)))
    (l__law_take : K.lookup f__law_take = some ⟨oc__law_take, od__law_take, .func (PySem.W.fnOf "_law_take" "_law_take" (defArgs t__law_take) (defBody t__law_take) (defScope t__law_take) .none kV__law_take dc__law_take pm__law_take an__law_take cd__law_take ct__law_take), sl__law_take⟩)
    (c__law_take : PySem.W.codeIn K cd__law_take "_law_take" = true)
    (k__law_take : PySem.W.keepIn K (.ref f__law_take) = true)
    (a__law_pull : PySem.W.nsIn K mainGlobals "_law_pull" = some (some (.ref f__law_pull)))
    (l__law_pull : K.lookup f__law_pull = some ⟨oc__law_pull, od__law_pull, .func (PySem.W.fnOf "_law_pull" "_law_pull" (defArgs t__law_pull) (defBody t__law_pull) (defScope t__law_pull) .none kV__law_pull dc__law_pull pm__law_pull an__law_pull cd__law_pull ct__law_pull), sl__law_pull⟩)
    (c__law_pull : PySem.W.codeIn K cd__law_pull "_law_pull" = true)
    (k__law_pull : PySem.W.keepIn K (.ref f__law_pull) = true)
    (a__law_values : PySem.W.nsIn K mainGlobals "_law_values" = some (some (.ref f__law_values)))
    (l__law_values : K.lookup f__law_values = some ⟨oc__law_values, od__law_values, .func (PySem.W.fnOf "_law_values" "_law_values" (defArgs t__law_values) (defBody t__law_values) (defScope t__law_values) .none kV__law_values dc__law_values pm__law_values an__law_values cd__law_values ct__law_values), sl__law_values⟩)
    (c__law_values : PySem.W.codeIn K cd__law_values "_law_values" = true)
    (k__law_values : PySem.W.keepIn K (.ref f__law_values) = true)
    (a__law_open : PySem.W.nsIn K mainGlobals "_law_open" = some (some (.ref f__law_open)))
    (l__law_open : K.lookup f__law_open = some ⟨oc__law_open, od__law_open, .func (PySem.W.fnOf "_law_open" "_law_open" (defArgs t__law_open) (defBody t__law_open) (defScope t__law_open) .none kV__law_open dc__law_open pm__law_open an__law_open cd__law_open ct__law_open), sl__law_open⟩)
    (c__law_open : PySem.W.codeIn K cd__law_open "_law_open" = true)
    (k__law_open : PySem.W.keepIn K (.ref f__law_open) = true)
    (a__law_union : PySem.W.nsIn K mainGlobals "_law_union" = some (some (.ref f__law_union)))
    (l__law_union : K.lookup f__law_union = some ⟨oc__law_union, od__law_union, .func (PySem.W.fnOf "_law_union" "_law_union" (defArgs t__law_union) (defBody t__law_union) (defScope t__law_union) .none kV__law_union dc__law_union pm__law_union an__law_union cd__law_union ct__law_union), sl__law_union⟩)
    (c__law_union : PySem.W.codeIn K cd__law_union "_law_union" = true)
    (k__law_union : PySem.W.keepIn K (.ref f__law_union) = true)
    (a__law_agree : PySem.W.nsIn K mainGlobals "_law_agree" = some (some (.ref f__law_agree)))
    (l__law_agree : K.lookup f__law_agree = some ⟨oc__law_agree, od__law_agree, .func (PySem.W.fnOf "_law_agree" "_law_agree" (defArgs t__law_agree) (defBody t__law_agree) (defScope t__law_agree) .none kV__law_agree dc__law_agree pm__law_agree an__law_agree cd__law_agree ct__law_agree), sl__law_agree⟩)
    (c__law_agree : PySem.W.codeIn K cd__law_agree "_law_agree" = true)
    (k__law_agree : PySem.W.keepIn K (.ref f__law_agree) = true)
    (a__law_groupings : PySem.W.nsIn K mainGlobals "_law_groupings" = some (some (.ref f__law_groupings)))
    (l__law_groupings : K.lookup f__law_groupings = some ⟨oc__law_groupings, od__law_groupings, .func (PySem.W.fnOf "_law_groupings" "_law_groupings" (defArgs t__law_groupings) (defBody t__law_groupings) (defScope t__law_groupings) .none kV__law_groupings dc__law_groupings pm__law_groupings an__law_groupings cd__law_groupings ct__law_groupings), sl__law_groupings⟩)
    (c__law_groupings : PySem.W.codeIn K cd__law_groupings "_law_groupings" = true)
    (k__law_groupings : PySem.W.keepIn K (.ref f__law_groupings) = true)
    (a__law_right : PySem.W.nsIn K mainGlobals "_law_right" = some (some (.ref f__law_right)))
    (l__law_right : K.lookup f__law_right = some ⟨oc__law_right, od__law_right, .func (PySem.W.fnOf "_law_right" "_law_right" (defArgs t__law_right) (defBody t__law_right) (defScope t__law_right) .none kV__law_right dc__law_right pm__law_right an__law_right cd__law_right ct__law_right), sl__law_right⟩)
    (c__law_right : PySem.W.codeIn K cd__law_right "_law_right" = true)
    (k__law_right : PySem.W.keepIn K (.ref f__law_right) = true)
    (a_law : PySem.W.nsIn K mainGlobals "law" = some (some (.ref f_law)))
    (l_law : K.lookup f_law = some ⟨oc_law, od_law, .func (PySem.W.fnOf "law" "law" (defArgs t_law) (defBody t_law) (defScope t_law) .none kV_law dc_law pm_law an_law cd_law ct_law), sl_law⟩)
    (c_law : PySem.W.codeIn K cd_law "law" = true)
    (k_law : PySem.W.keepIn K (.ref f_law) = true)
    (b_abs : PySem.W.nsIn K mainGlobals "abs" = some none)
    (b_all : PySem.W.nsIn K mainGlobals "all" = some none)
    (b_any : PySem.W.nsIn K mainGlobals "any" = some none)
    (b_bool : PySem.W.nsIn K mainGlobals "bool" = some none)
    (b_divmod : PySem.W.nsIn K mainGlobals "divmod" = some none)
    (b_enumerate : PySem.W.nsIn K mainGlobals "enumerate" = some none)
    (b_int : PySem.W.nsIn K mainGlobals "int" = some none)
    (b_isinstance : PySem.W.nsIn K mainGlobals "isinstance" = some none)
    (b_len : PySem.W.nsIn K mainGlobals "len" = some none)
    (b_max : PySem.W.nsIn K mainGlobals "max" = some none)
    (b_min : PySem.W.nsIn K mainGlobals "min" = some none)
    (b_range : PySem.W.nsIn K mainGlobals "range" = some none)
    (b_repr : PySem.W.nsIn K mainGlobals "repr" = some none)
    (b_set : PySem.W.nsIn K mainGlobals "set" = some none)
    (b_tuple : PySem.W.nsIn K mainGlobals "tuple" = some none)
    (b_zip : PySem.W.nsIn K mainGlobals "zip" = some none)
    (i_FEWEST_SWITCHES : PySem.W.nsIn K mainGlobals "FEWEST_SWITCHES" = some (some (.int 2 t_FEWEST_SWITCHES)))
    (i_FEWEST_VALUES : PySem.W.nsIn K mainGlobals "FEWEST_VALUES" = some (some (.int 2 t_FEWEST_VALUES)))
    (i_MOST_OPEN : PySem.W.nsIn K mainGlobals "MOST_OPEN" = some (some (.int 6 t_MOST_OPEN)))
    (i_MOST_SWITCHES : PySem.W.nsIn K mainGlobals "MOST_SWITCHES" = some (some (.int 6 t_MOST_SWITCHES)))
    (i_MOST_VALUES : PySem.W.nsIn K mainGlobals "MOST_VALUES" = some (some (.int 4 t_MOST_VALUES)))
    (d0_1 : q_wrong_number ≠ q_wrong_open)
    (d0_2 : q_wrong_number ≠ q_first_by)
    (d1_2 : q_wrong_open ≠ q_first_by) : LawG PySem.Challenge.rw_seenpairs_k64_whole_groupings w K 12 63 "script" mg fa h := by
  have e := hfa.symm.trans (PySem.W.mg_of X G a_law)
  cases e
  subst e_wrong_number
  subst e_wrong_open
  subst e_first_by
  have F := fun_mk (st := t_law) l_law c_law k_law
  refine ⟨PySem.W.fnOf "law" "law" (defArgs t_law) (defBody t_law) (defScope t_law) .none kV_law dc_law pm_law an_law cd_law ct_law, [(p_wrong_number, q_wrong_number), (p_wrong_open, q_wrong_open), (p_first_by, q_first_by)], spL PySem.Challenge.rw_seenpairs_k64_whole_groupings.prog w K [(p_wrong_number, q_wrong_number), (p_wrong_open, q_wrong_open), (p_first_by, q_first_by)] okN, ?_, ?_, ?_, fun s u => .of_eq rfl, fun H a t ns h1 h2 AA => ⟨a, ns, t, rfl, AA, ⟨h1, h2⟩, fun _ => rfl⟩, fun base KB GB TB => ?_⟩
  · intro p hp
    simp only [List.mem_cons, List.not_mem_nil, or_false] at hp
    rcases hp with rfl | rfl | rfl
    · exact TT _ m_wrong_number
    · exact TT _ m_wrong_open
    · exact TT _ m_first_by
  · intro p hp
    simp only [List.mem_cons, List.not_mem_nil, or_false] at hp
    rcases hp with rfl | rfl | rfl
    · exact n_wrong_number
    · exact n_wrong_open
    · exact n_first_by
  · intro p hp
    simp only [List.mem_cons, List.not_mem_nil, or_false] at hp
    rcases hp with rfl | rfl | rfl
    · exact PySem.W.codeHd_of_K X h_wrong_number
    · exact PySem.W.codeHd_of_K X h_wrong_open
    · exact PySem.W.codeHd_of_K X h_first_by
  · let g : Gx := { T := ([(q_wrong_number, ("wrong_number" : Str) ++ (".<locals>." : Str) ++ ("<lambda>" : Str)), (q_wrong_open, ("wrong_open" : Str) ++ (".<locals>." : Str) ++ ("<lambda>" : Str)), (q_first_by, ("first_by" : Str) ++ (".<locals>." : Str) ++ ("<lambda>" : Str))] : List (Addr × Str)), β := 0, ca := fun _ => 0, fl := fun _ => "" }
    have cc_wrong_number : CcL mg base g "wrong_number" (.ref p_wrong_number) := ⟨p_wrong_number, q_wrong_number, rfl, TB _ (.head _), (show _ ∈ ([(q_wrong_number, ("wrong_number" : Str) ++ (".<locals>." : Str) ++ ("<lambda>" : Str)), (q_wrong_open, ("wrong_open" : Str) ++ (".<locals>." : Str) ++ ("<lambda>" : Str)), (q_first_by, ("first_by" : Str) ++ (".<locals>." : Str) ++ ("<lambda>" : Str))] : List (Addr × Str)) from .head _), fun p hp hP => (by
      have hp : p ∈ ([(q_wrong_number, ("wrong_number" : Str) ++ (".<locals>." : Str) ++ ("<lambda>" : Str)), (q_wrong_open, ("wrong_open" : Str) ++ (".<locals>." : Str) ++ ("<lambda>" : Str)), (q_first_by, ("first_by" : Str) ++ (".<locals>." : Str) ++ ("<lambda>" : Str))] : List (Addr × Str)) := hp
      simp only [List.mem_cons, List.not_mem_nil, or_false] at hp
      rcases hp with rfl | rfl | rfl
      · rfl
      · exact absurd hP d0_1.symm
      · exact absurd hP d0_2.symm)⟩
    have cc_wrong_open : CcL mg base g "wrong_open" (.ref p_wrong_open) := ⟨p_wrong_open, q_wrong_open, rfl, TB _ (.tail _ (.head _)), (show _ ∈ ([(q_wrong_number, ("wrong_number" : Str) ++ (".<locals>." : Str) ++ ("<lambda>" : Str)), (q_wrong_open, ("wrong_open" : Str) ++ (".<locals>." : Str) ++ ("<lambda>" : Str)), (q_first_by, ("first_by" : Str) ++ (".<locals>." : Str) ++ ("<lambda>" : Str))] : List (Addr × Str)) from .tail _ (.head _)), fun p hp hP => (by
      have hp : p ∈ ([(q_wrong_number, ("wrong_number" : Str) ++ (".<locals>." : Str) ++ ("<lambda>" : Str)), (q_wrong_open, ("wrong_open" : Str) ++ (".<locals>." : Str) ++ ("<lambda>" : Str)), (q_first_by, ("first_by" : Str) ++ (".<locals>." : Str) ++ ("<lambda>" : Str))] : List (Addr × Str)) := hp
      simp only [List.mem_cons, List.not_mem_nil, or_false] at hp
      rcases hp with rfl | rfl | rfl
      · exact absurd hP d0_1
      · rfl
      · exact absurd hP d1_2.symm)⟩
    have cc_first_by : CcL mg base g "first_by" (.ref p_first_by) := ⟨p_first_by, q_first_by, rfl, TB _ (.tail _ (.tail _ (.head _))), (show _ ∈ ([(q_wrong_number, ("wrong_number" : Str) ++ (".<locals>." : Str) ++ ("<lambda>" : Str)), (q_wrong_open, ("wrong_open" : Str) ++ (".<locals>." : Str) ++ ("<lambda>" : Str)), (q_first_by, ("first_by" : Str) ++ (".<locals>." : Str) ++ ("<lambda>" : Str))] : List (Addr × Str)) from .tail _ (.tail _ (.head _))), fun p hp hP => (by
      have hp : p ∈ ([(q_wrong_number, ("wrong_number" : Str) ++ (".<locals>." : Str) ++ ("<lambda>" : Str)), (q_wrong_open, ("wrong_open" : Str) ++ (".<locals>." : Str) ++ ("<lambda>" : Str)), (q_first_by, ("first_by" : Str) ++ (".<locals>." : Str) ++ ("<lambda>" : Str))] : List (Addr × Str)) := hp
      simp only [List.mem_cons, List.not_mem_nil, or_false] at hp
      rcases hp with rfl | rfl | rfl
      · exact absurd hP d0_2
      · exact absurd hP d1_2
      · rfl)⟩
    have b_abs := PySem.W.mg_none_of X G b_abs
    have b_all := PySem.W.mg_none_of X G b_all
    have b_any := PySem.W.mg_none_of X G b_any
    have b_bool := PySem.W.mg_none_of X G b_bool
    have b_divmod := PySem.W.mg_none_of X G b_divmod
    have b_enumerate := PySem.W.mg_none_of X G b_enumerate
    have b_int := PySem.W.mg_none_of X G b_int
    have b_isinstance := PySem.W.mg_none_of X G b_isinstance
    have b_len := PySem.W.mg_none_of X G b_len
    have b_max := PySem.W.mg_none_of X G b_max
    have b_min := PySem.W.mg_none_of X G b_min
    have b_range := PySem.W.mg_none_of X G b_range
    have b_repr := PySem.W.mg_none_of X G b_repr
    have b_set := PySem.W.mg_none_of X G b_set
    have b_tuple := PySem.W.mg_none_of X G b_tuple
    have b_zip := PySem.W.mg_none_of X G b_zip
    have c_FEWEST_SWITCHES : ∃ t, mg "FEWEST_SWITCHES" = some (.int 2 t) := ⟨_, PySem.W.mg_of X G i_FEWEST_SWITCHES⟩
    have c_FEWEST_VALUES : ∃ t, mg "FEWEST_VALUES" = some (.int 2 t) := ⟨_, PySem.W.mg_of X G i_FEWEST_VALUES⟩
    have c_MOST_OPEN : ∃ t, mg "MOST_OPEN" = some (.int 6 t) := ⟨_, PySem.W.mg_of X G i_MOST_OPEN⟩
    have c_MOST_SWITCHES : ∃ t, mg "MOST_SWITCHES" = some (.int 6 t) := ⟨_, PySem.W.mg_of X G i_MOST_SWITCHES⟩
    have c_MOST_VALUES : ∃ t, mg "MOST_VALUES" = some (.int 4 t) := ⟨_, PySem.W.mg_of X G i_MOST_VALUES⟩
    have K__law_bag := w__law_bag (P := PySem.Challenge.rw_seenpairs_k64_whole_groupings.prog) (w := w) (base := base) (g := g) (df_of X G a__law_bag l__law_bag c__law_bag k__law_bag trivial) b_abs b_int b_len
    have K_go_two := w_go_two (P := PySem.Challenge.rw_seenpairs_k64_whole_groupings.prog) (w := w) (base := base) (g := g) (df_of X G a_go_two l_go_two c_go_two k_go_two trivial) b_all b_zip
    have K_go_all := w_go_all (P := PySem.Challenge.rw_seenpairs_k64_whole_groupings.prog) (w := w) (base := base) (g := g) (df_of X G a_go_all l_go_all c_go_all k_go_all trivial) b_all K_go_two
    have K_is_row := w_is_row (P := PySem.Challenge.rw_seenpairs_k64_whole_groupings.prog) (w := w) (base := base) (g := g) (df_of X G a_is_row l_is_row c_is_row k_is_row trivial) b_isinstance b_len b_tuple
    have K_is_whole := w_is_whole (P := PySem.Challenge.rw_seenpairs_k64_whole_groupings.prog) (w := w) (base := base) (g := g) (df_of X G a_is_whole l_is_whole c_is_whole k_is_whole trivial) b_bool b_int b_isinstance
    have K_is_between := w_is_between (P := PySem.Challenge.rw_seenpairs_k64_whole_groupings.prog) (w := w) (base := base) (g := g) (df_of X G a_is_between l_is_between c_is_between k_is_between trivial) K_is_whole
    have K_first_wrong := w_first_wrong (P := PySem.Challenge.rw_seenpairs_k64_whole_groupings.prog) (w := w) (base := base) (g := g) (df_of X G a_first_wrong l_first_wrong c_first_wrong k_first_wrong trivial) b_enumerate
    have K_wrong_number := w_wrong_number (P := PySem.Challenge.rw_seenpairs_k64_whole_groupings.prog) (w := w) (base := base) (g := g) (df_of X G a_wrong_number l_wrong_number c_wrong_number k_wrong_number cc_wrong_number) c_FEWEST_VALUES c_MOST_VALUES K_is_between K_first_wrong
    have K_check_values := w_check_values (P := PySem.Challenge.rw_seenpairs_k64_whole_groupings.prog) (w := w) (base := base) (g := g) (df_of X G a_check_values l_check_values c_check_values k_check_values trivial) c_FEWEST_SWITCHES c_MOST_SWITCHES K_is_row K_wrong_number
    have K_is_tuple_of := w_is_tuple_of (P := PySem.Challenge.rw_seenpairs_k64_whole_groupings.prog) (w := w) (base := base) (g := g) (df_of X G a_is_tuple_of l_is_tuple_of c_is_tuple_of k_is_tuple_of trivial) b_isinstance b_len b_tuple
    have K_is_open := w_is_open (P := PySem.Challenge.rw_seenpairs_k64_whole_groupings.prog) (w := w) (base := base) (g := g) (df_of X G a_is_open l_is_open c_is_open k_is_open trivial) b_all b_len b_zip K_is_between K_is_tuple_of
    have K_wrong_open := w_wrong_open (P := PySem.Challenge.rw_seenpairs_k64_whole_groupings.prog) (w := w) (base := base) (g := g) (df_of X G a_wrong_open l_wrong_open c_wrong_open k_wrong_open cc_wrong_open) K_first_wrong K_is_open
    have K_check_opens := w_check_opens (P := PySem.Challenge.rw_seenpairs_k64_whole_groupings.prog) (w := w) (base := base) (g := g) (df_of X G a_check_opens l_check_opens c_check_opens k_check_opens trivial) c_MOST_OPEN K_is_row K_wrong_open
    have K_check_opened := w_check_opened (P := PySem.Challenge.rw_seenpairs_k64_whole_groupings.prog) (w := w) (base := base) (g := g) (df_of X G a_check_opened l_check_opened c_check_opened k_check_opened trivial) K_check_values K_check_opens
    have K_do_go_together := w_do_go_together (P := PySem.Challenge.rw_seenpairs_k64_whole_groupings.prog) (w := w) (base := base) (g := g) (df_of X G a_do_go_together l_do_go_together c_do_go_together k_do_go_together trivial) K_go_all K_check_opened
    have K_union_by := w_union_by (P := PySem.Challenge.rw_seenpairs_k64_whole_groupings.prog) (w := w) (base := base) (g := g) (df_of X G a_union_by l_union_by c_union_by k_union_by trivial) b_len b_range b_tuple
    have K_union := w_union (P := PySem.Challenge.rw_seenpairs_k64_whole_groupings.prog) (w := w) (base := base) (g := g) (df_of X G a_union l_union c_union k_union trivial) K_go_all K_union_by K_check_opened
    have K_groupings := w_groupings (P := PySem.Challenge.rw_seenpairs_k64_whole_groupings.prog) (w := w) (base := base) (g := g) (df_of X G a_groupings l_groupings c_groupings k_groupings trivial) b_len b_range b_set b_zip K_go_all
    have K_first_by := w_first_by (P := PySem.Challenge.rw_seenpairs_k64_whole_groupings.prog) (w := w) (base := base) (g := g) (df_of X G a_first_by l_first_by c_first_by k_first_by cc_first_by) b_len b_min b_set K_groupings
    have K_fewest_by := w_fewest_by (P := PySem.Challenge.rw_seenpairs_k64_whole_groupings.prog) (w := w) (base := base) (g := g) (df_of X G a_fewest_by l_fewest_by c_fewest_by k_fewest_by trivial) b_len b_set K_first_by
    have K_fewest_unions := w_fewest_unions (P := PySem.Challenge.rw_seenpairs_k64_whole_groupings.prog) (w := w) (base := base) (g := g) (df_of X G a_fewest_unions l_fewest_unions c_fewest_unions k_fewest_unions trivial) K_fewest_by K_check_opened
    have K_first_grouping := w_first_grouping (P := PySem.Challenge.rw_seenpairs_k64_whole_groupings.prog) (w := w) (base := base) (g := g) (df_of X G a_first_grouping l_first_grouping c_first_grouping k_first_grouping trivial) K_first_by K_check_opened
    have K__law_take := w__law_take (P := PySem.Challenge.rw_seenpairs_k64_whole_groupings.prog) (w := w) (base := base) (g := g) (df_of X G a__law_take l__law_take c__law_take k__law_take trivial) b_divmod b_int
    have K__law_pull := w__law_pull (P := PySem.Challenge.rw_seenpairs_k64_whole_groupings.prog) (w := w) (base := base) (g := g) (df_of X G a__law_pull l__law_pull c__law_pull k__law_pull trivial) b_len K__law_take
    have K__law_values := w__law_values (P := PySem.Challenge.rw_seenpairs_k64_whole_groupings.prog) (w := w) (base := base) (g := g) (df_of X G a__law_values l__law_values c__law_values k__law_values trivial) b_range b_tuple K__law_take K__law_pull
    have K__law_open := w__law_open (P := PySem.Challenge.rw_seenpairs_k64_whole_groupings.prog) (w := w) (base := base) (g := g) (df_of X G a__law_open l__law_open c__law_open k__law_open trivial) b_tuple K__law_take
    have K__law_union := w__law_union (P := PySem.Challenge.rw_seenpairs_k64_whole_groupings.prog) (w := w) (base := base) (g := g) (df_of X G a__law_union l__law_union c__law_union k__law_union trivial) b_len b_range b_tuple
    have K__law_agree := w__law_agree (P := PySem.Challenge.rw_seenpairs_k64_whole_groupings.prog) (w := w) (base := base) (g := g) (df_of X G a__law_agree l__law_agree c__law_agree k__law_agree trivial) b_any b_zip
    have K__law_groupings := w__law_groupings (P := PySem.Challenge.rw_seenpairs_k64_whole_groupings.prog) (w := w) (base := base) (g := g) (df_of X G a__law_groupings l__law_groupings c__law_groupings k__law_groupings trivial) b_all b_len b_max b_range K__law_agree
    have K__law_right := w__law_right (P := PySem.Challenge.rw_seenpairs_k64_whole_groupings.prog) (w := w) (base := base) (g := g) (df_of X G a__law_right l__law_right c__law_right k__law_right trivial) b_len b_min b_range b_repr b_set b_tuple K_do_go_together K_union K_fewest_unions K_first_grouping K__law_pull K__law_values K__law_open K__law_union K__law_groupings
    exact w_law (g := g) (β0 := q_wrong_number) F (.head _) (fun p hp => by
      have hp : p ∈ ([(q_wrong_number, ("wrong_number" : Str) ++ (".<locals>." : Str) ++ ("<lambda>" : Str)), (q_wrong_open, ("wrong_open" : Str) ++ (".<locals>." : Str) ++ ("<lambda>" : Str)), (q_first_by, ("first_by" : Str) ++ (".<locals>." : Str) ++ ("<lambda>" : Str))] : List (Addr × Str)) := hp
      simp only [List.mem_cons, List.not_mem_nil, or_false] at hp
      rcases hp with rfl | rfl | rfl <;> simp) b_all b_len b_max b_min b_range K__law_bag K__law_right plain_64
end
end GL

open PySem PySem.W PyProof.Rows
set_option maxRecDepth 100000 in
set_option maxHeartbeats 0 in
theorem PySem.Challenge.cw_seenpairs_k64_whole_groupings_holds : PySem.Challenge.rw_seenpairs_k64_whole_groupings.Holds := by
  w_on; o_law; k_head; (case hw => w_witness2)
  k_fill
  refine GL.walk_ofG (k := 12) (n := 63) (x := "script") rfl (by decide +kernel) rfl ⟨rfl, by decide, by decide⟩ (fun w h Y => PySem.W.km_in_of Y) ?F
  case F =>
    intro w mg fa h Y KX G hmg
    refine' GL.all_64 KX G (PySem.W.km_tabs_of Y) hmg ?a__law_bag ?l__law_bag ?c__law_bag ?k__law_bag ?a_go_two ?l_go_two ?c_go_two ?k_go_two ?a_go_all ?l_go_all ?c_go_all ?k_go_all ?a_is_row ?l_is_row ?c_is_row ?k_is_row ?a_is_whole ?l_is_whole ?c_is_whole ?k_is_whole ?a_is_between ?l_is_between ?c_is_between ?k_is_between ?a_first_wrong ?l_first_wrong ?c_first_wrong ?k_first_wrong ?a_wrong_number ?l_wrong_number ?c_wrong_number ?k_wrong_number ?e_wrong_number ?h_wrong_number ?n_wrong_number ?m_wrong_number ?a_check_values ?l_check_values ?c_check_values ?k_check_values ?a_is_tuple_of ?l_is_tuple_of ?c_is_tuple_of ?k_is_tuple_of ?a_is_open ?l_is_open ?c_is_open ?k_is_open ?a_wrong_open ?l_wrong_open ?c_wrong_open ?k_wrong_open ?e_wrong_open ?h_wrong_open ?n_wrong_open ?m_wrong_open ?a_check_opens ?l_check_opens ?c_check_opens ?k_check_opens ?a_check_opened ?l_check_opened ?c_check_opened ?k_check_opened ?a_do_go_together ?l_do_go_together ?c_do_go_together ?k_do_go_together ?a_union_by ?l_union_by ?c_union_by ?k_union_by ?a_union ?l_union ?c_union ?k_union ?a_groupings ?l_groupings ?c_groupings ?k_groupings ?a_first_by ?l_first_by ?c_first_by ?k_first_by ?e_first_by ?h_first_by ?n_first_by ?m_first_by ?a_fewest_by ?l_fewest_by ?c_fewest_by ?k_fewest_by ?a_fewest_unions ?l_fewest_unions ?c_fewest_unions ?k_fewest_unions ?a_first_grouping ?l_first_grouping ?c_first_grouping ?k_first_grouping ?a__law_take ?l__law_take ?c__law_take ?k__law_take ?a__law_pull ?l__law_pull ?c__law_pull ?k__law_pull ?a__law_values ?l__law_values ?c__law_values ?k__law_values ?a__law_open ?l__law_open ?c__law_open ?k__law_open ?a__law_union ?l__law_union ?c__law_union ?k__law_union ?a__law_agree ?l__law_agree ?c__law_agree ?k__law_agree ?a__law_groupings ?l__law_groupings ?c__law_groupings ?k__law_groupings ?a__law_right ?l__law_right ?c__law_right ?k__law_right ?a_law ?l_law ?c_law ?k_law ?b_abs ?b_all ?b_any ?b_bool ?b_divmod ?b_enumerate ?b_int ?b_isinstance ?b_len ?b_max ?b_min ?b_range ?b_repr ?b_set ?b_tuple ?b_zip ?i_FEWEST_SWITCHES ?i_FEWEST_VALUES ?i_MOST_OPEN ?i_MOST_SWITCHES ?i_MOST_VALUES ?d0_1 ?d0_2 ?d1_2
    (case a__law_bag => k_is)
    (case l__law_bag => k_is)
    (case c__law_bag => k_is)
    (case k__law_bag => k_is)
    (case a_go_two => k_is)
    (case l_go_two => k_is)
    (case c_go_two => k_is)
    (case k_go_two => k_is)
    (case a_go_all => k_is)
    (case l_go_all => k_is)
    (case c_go_all => k_is)
    (case k_go_all => k_is)
    (case a_is_row => k_is)
    (case l_is_row => k_is)
    (case c_is_row => k_is)
    (case k_is_row => k_is)
    (case a_is_whole => k_is)
    (case l_is_whole => k_is)
    (case c_is_whole => k_is)
    (case k_is_whole => k_is)
    (case a_is_between => k_is)
    (case l_is_between => k_is)
    (case c_is_between => k_is)
    (case k_is_between => k_is)
    (case a_first_wrong => k_is)
    (case l_first_wrong => k_is)
    (case c_first_wrong => k_is)
    (case k_first_wrong => k_is)
    (case a_wrong_number => k_is)
    (case l_wrong_number => k_is)
    (case c_wrong_number => k_is)
    (case k_wrong_number => k_is)
    (case e_wrong_number => rfl)
    (case h_wrong_number => first | (show PySem.W.codeHdIn _ _ 155 = true; rfl) | (show PySem.W.codeHdIn _ _ 121 = true; rfl) | (show PySem.W.codeHdIn _ _ 102 = true; rfl))
    (case n_wrong_number => rfl)
    (case m_wrong_number => decide)
    (case a_check_values => k_is)
    (case l_check_values => k_is)
    (case c_check_values => k_is)
    (case k_check_values => k_is)
    (case a_is_tuple_of => k_is)
    (case l_is_tuple_of => k_is)
    (case c_is_tuple_of => k_is)
    (case k_is_tuple_of => k_is)
    (case a_is_open => k_is)
    (case l_is_open => k_is)
    (case c_is_open => k_is)
    (case k_is_open => k_is)
    (case a_wrong_open => k_is)
    (case l_wrong_open => k_is)
    (case c_wrong_open => k_is)
    (case k_wrong_open => k_is)
    (case e_wrong_open => rfl)
    (case h_wrong_open => first | (show PySem.W.codeHdIn _ _ 155 = true; rfl) | (show PySem.W.codeHdIn _ _ 121 = true; rfl) | (show PySem.W.codeHdIn _ _ 102 = true; rfl))
    (case n_wrong_open => rfl)
    (case m_wrong_open => decide)
    (case a_check_opens => k_is)
    (case l_check_opens => k_is)
    (case c_check_opens => k_is)
    (case k_check_opens => k_is)
    (case a_check_opened => k_is)
    (case l_check_opened => k_is)
    (case c_check_opened => k_is)
    (case k_check_opened => k_is)
    (case a_do_go_together => k_is)
    (case l_do_go_together => k_is)
    (case c_do_go_together => k_is)
    (case k_do_go_together => k_is)
    (case a_union_by => k_is)
    (case l_union_by => k_is)
    (case c_union_by => k_is)
    (case k_union_by => k_is)
    (case a_union => k_is)
    (case l_union => k_is)
    (case c_union => k_is)
    (case k_union => k_is)
    (case a_groupings => k_is)
    (case l_groupings => k_is)
    (case c_groupings => k_is)
    (case k_groupings => k_is)
    (case a_first_by => k_is)
    (case l_first_by => k_is)
    (case c_first_by => k_is)
    (case k_first_by => k_is)
    (case e_first_by => rfl)
    (case h_first_by => first | (show PySem.W.codeHdIn _ _ 155 = true; rfl) | (show PySem.W.codeHdIn _ _ 121 = true; rfl) | (show PySem.W.codeHdIn _ _ 102 = true; rfl))
    (case n_first_by => rfl)
    (case m_first_by => decide)
    (case a_fewest_by => k_is)
    (case l_fewest_by => k_is)
    (case c_fewest_by => k_is)
    (case k_fewest_by => k_is)
    (case a_fewest_unions => k_is)
    (case l_fewest_unions => k_is)
    (case c_fewest_unions => k_is)
    (case k_fewest_unions => k_is)
    (case a_first_grouping => k_is)
    (case l_first_grouping => k_is)
    (case c_first_grouping => k_is)
    (case k_first_grouping => k_is)
    (case a__law_take => k_is)
    (case l__law_take => k_is)
    (case c__law_take => k_is)
    (case k__law_take => k_is)
    (case a__law_pull => k_is)
    (case l__law_pull => k_is)
    (case c__law_pull => k_is)
    (case k__law_pull => k_is)
    (case a__law_values => k_is)
    (case l__law_values => k_is)
    (case c__law_values => k_is)
    (case k__law_values => k_is)
    (case a__law_open => k_is)
    (case l__law_open => k_is)
    (case c__law_open => k_is)
    (case k__law_open => k_is)
    (case a__law_union => k_is)
    (case l__law_union => k_is)
    (case c__law_union => k_is)
    (case k__law_union => k_is)
    (case a__law_agree => k_is)
    (case l__law_agree => k_is)
    (case c__law_agree => k_is)
    (case k__law_agree => k_is)
    (case a__law_groupings => k_is)
    (case l__law_groupings => k_is)
    (case c__law_groupings => k_is)
    (case k__law_groupings => k_is)
    (case a__law_right => k_is)
    (case l__law_right => k_is)
    (case c__law_right => k_is)
    (case k__law_right => k_is)
    (case a_law => k_is)
    (case l_law => k_is)
    (case c_law => k_is)
    (case k_law => k_is)
    (case b_abs => k_is)
    (case b_all => k_is)
    (case b_any => k_is)
    (case b_bool => k_is)
    (case b_divmod => k_is)
    (case b_enumerate => k_is)
    (case b_int => k_is)
    (case b_isinstance => k_is)
    (case b_len => k_is)
    (case b_max => k_is)
    (case b_min => k_is)
    (case b_range => k_is)
    (case b_repr => k_is)
    (case b_set => k_is)
    (case b_tuple => k_is)
    (case b_zip => k_is)
    (case i_FEWEST_SWITCHES => k_is)
    (case i_FEWEST_VALUES => k_is)
    (case i_MOST_OPEN => k_is)
    (case i_MOST_SWITCHES => k_is)
    (case i_MOST_VALUES => k_is)
    (case d0_1 => decide)
    (case d0_2 => decide)
    (case d1_2 => decide)
