import PyProof.Rows.All
import Wide.All
import OpenK.AllK
import Wide.FinOn
import KE.KStateDown
import HandS.ForMost
import HandS.Exc
import HandS.More
import HandS.Words
import HandS.WordsExc
import HandS.Defaults
import HandS.HeadHook1
import HandS.HeadHook2
import HandS.ExcOwn
import HandS.IsInst
import HandS.Wide
import HandS.TupAny
import HandS.TupLe
import HandS.Deep
import KE.SortData
import HandS.Dict
import HandS.DictTup
import HandS.TryOnly
import HandS.Style
import PyProof.ReprRoads
import PyProof.CallFns
import HandS.MakeKw
import HandS.MakeKwOnly
import PyProof.InstEq
import HandS.Ends
import HandS.HeadEnd
import HandS.Head0
import HandS.Head1
import HandS.Head2
import HandS.Codes
import PySem.Challenge.RW_shelltrees_k82_classes_made_by_hand
import PyProof.ReprText
set_option Elab.async false
set_option linter.all false
set_option maxRecDepth 100000
set_option maxHeartbeats 0
namespace VL
open PySem PySem.Spec
open PyProof.Rows L2

/-! ### data -/
/-- data that may be shared: it never changes any more -/
inductive D where
  | non | bl (b : Bool) | int (i : Int) | str (x : Str)
  | tup (xs : List D) | lst (xs : List D) | dct (kvs : List (Key × D))
  | obj (id : Nat) (c : Str) (fs : List (Str × D))
  /-- the law's script -/
  | scr (ns : List Int)
  /-- what is not looked into: a def, a class -/
  | raw (v : V)
  deriving Inhabited
/-- owned trees: lists and dicts that one name alone holds -/
inductive O where
  | fz (d : D) | lst (xs : List O) | dK (kvs : List (Key × D)) | dT (kvs : List (List Key × D)) | obj (c : Str) (fs : List (Str × D))
  deriving Inhabited

/-- extension -/
abbrev Ex := Same

mutual
inductive Rd (K : PySem.W.Frag) (ι : List Addr) (F : Hp) : V → D → Prop
  | non : Rd K ι F .non .non
  | bl (b : Bool) : Rd K ι F (.bl b) (.bl b)
  | int (i : Int) : Rd K ι F (.int i) (.int i)
  | str (x : Str) : Rd K ι F (.str x) (.str x)
  | tup {a : Addr} {vs : List V} {ds : List D} : F a = some (.tup vs) → RdAll K ι F vs ds → Rd K ι F (.ref a) (.tup ds)
  | lst {a : Addr} {vs : List V} {ds : List D} : F a = some (.lst vs) → RdAll K ι F vs ds → Rd K ι F (.ref a) (.lst ds)
  | dct {a : Addr} {ks : List Key} {vs : List V} {ds : List D} : F a = some (.dK (ks.zip vs)) → ks.length = vs.length → RdAll K ι F vs ds → Rd K ι F (.ref a) (.dct (ks.zip ds))
  | obj {a dx : Addr} {id : Nat} {c : Str} {ns : List Str} {vs : List V} {ds : List D} : ι[id]? = some a → F a = some (.ins (He.ga K c) dx (ns.zip vs)) → ns.length = vs.length → RdAll K ι F vs ds → Rd K ι F (.ref a) (.obj id c (ns.zip ds))
  | scr {a : Addr} {ns : List Int} : SqL K F a (ns.map V.int) → Rd K ι F (.ref a) (.scr ns)
  | raw (v : V) : Rd K ι F v (.raw v)
inductive RdAll (K : PySem.W.Frag) (ι : List Addr) (F : Hp) : List V → List D → Prop
  | nil : RdAll K ι F [] []
  | cons {v : V} {vs : List V} {d : D} {ds : List D} : Rd K ι F v d → RdAll K ι F vs ds → RdAll K ι F (v :: vs) (d :: ds)
end

theorem sqT_mono {K : PySem.W.Frag} {F F' : Hp} {a : Addr} {vs : List V} (e : Ex F F') (h : SqT K F a vs) : SqT K F' a vs := by
  rcases
          h with (h | ⟨o, h⟩) | h
  · exact .inl (.inl (e _ _ h))
  · exact
          .inl (.inr ⟨o, e _ _ h⟩)
  · exact .inr h
theorem sqL_mono {K : PySem.W.Frag} {F F' : Hp} {a : Addr} {vs : List V} (e : Ex F F') (h : SqL K F a vs) : SqL K F' a vs := by
  rcases
          h with (h | ⟨o, h⟩) | h
  · exact .inl (.inl (e _ _ h))
  · exact
          .inl (.inr ⟨o, e _ _ h⟩)
  · exact .inr h
/-- ι grows at its end -/
def Pre (ι ι' : List Addr) : Prop := ∀ (i : Nat) (a : Addr), ι[i]? = some a → ι'[i]? = some a
theorem Pre.refl (ι : List Addr) : Pre ι ι := fun _ _ h => h
theorem Pre.trans {a b c : List Addr} (h : Pre a b) (g : Pre b c) : Pre a c := fun i x e => g i x (h i x e)

mutual
theorem Rd.mono {K : PySem.W.Frag} {ι ι' : List Addr} {F F' : Hp} (e : Ex F F') (p : Pre ι ι') : ∀ {v : V} {d : D}, Rd K ι F v d → Rd K ι' F' v d
  | _, _, .non => .non
  | _, _, .bl b => .bl b
  | _, _, .int i => .int i
  | _, _, .str x => .str x
  | _, _, .tup h r => .tup (e _ _ h) (RdAll.mono e p r)
  | _, _, .lst h r => .lst (e _ _ h) (RdAll.mono e p r)
  | _, _, .dct h l r => .dct (e _ _ h) l (RdAll.mono e p r)
  | _, _, .obj i h l r => .obj (p _ _ i) (e _ _ h) l (RdAll.mono e p r)
  | _, _, .scr h => .scr (sqL_mono e h)
  | _, _, .raw v => .raw v
theorem RdAll.mono {K : PySem.W.Frag} {ι ι' : List Addr} {F F' : Hp} (e : Ex F F') (p : Pre ι ι') : ∀ {vs : List V} {ds : List D}, RdAll K ι F vs ds → RdAll K ι' F' vs ds
  | _, _, .nil => .nil
  | _, _, .cons h r => .cons (h.mono e p) (RdAll.mono e p r)
end
theorem RdAll.length {K : PySem.W.Frag} {ι : List Addr} {F : Hp} : ∀ {vs : List V} {ds : List D}, RdAll K ι F vs ds → vs.length = ds.length
  | _, _, .nil => rfl
  | _, _, .cons _ r => by rw [List.length_cons, List.length_cons, r.length]
theorem RdAll.get {K : PySem.W.Frag} {ι : List Addr} {F : Hp} : ∀ {vs : List V} {ds : List D} {i : Nat} {d : D}, RdAll K ι F vs ds → ds[i]? = some d → ∃ v, vs[i]? = some v ∧ Rd K ι F v d
  | _, _, _, _, .nil, h => by simp at h
  | _, _, 0, d, .cons h _, e => by simp at e; subst e; exact ⟨_, rfl, h⟩
  | _, _, i + 1, d, .cons _ r, e => by
    obtain ⟨v, h1, h2⟩ := r.get (i := i) (d := d) (by simpa using e)
    exact ⟨v, by simpa using h1, h2⟩
theorem RdAll.getV {K : PySem.W.Frag} {ι : List Addr} {F : Hp} : ∀ {vs : List V} {ds : List D} {i : Nat} {v : V}, RdAll K ι F vs ds → vs[i]? = some v → ∃ d, ds[i]? = some d ∧ Rd K ι F v d
  | _, _, _, _, .nil, h => by simp at h
  | _, _, 0, d, .cons h _, e => by simp at e; subst e; exact ⟨_, rfl, h⟩
  | _, _, i + 1, d, .cons _ r, e => by
    obtain ⟨v, h1, h2⟩ := r.getV (i := i) (v := d) (by simpa using e)
    exact ⟨v, by simpa using h1, h2⟩
theorem RdAll.append {K : PySem.W.Frag} {ι : List Addr} {F : Hp} : ∀ {vs ws : List V} {ds es : List D}, RdAll K ι F vs ds → RdAll K ι F ws es → RdAll K ι F (vs ++ ws) (ds ++ es)
  | _, _, _, _, .nil, s => s
  | _, _, _, _, .cons h r, s => .cons h (r.append s)

mutual
/-- v stands for the owned tree o: its own objects at A, all else of it in F -/
inductive Ow (K : PySem.W.Frag) (ι : List Addr) (F H : Hp) : V → O → List Addr → Prop
  | fz {v : V} {d : D} : Rd K ι F v d → Ow K ι F H v (.fz d) []
  | lst {p : Addr} {vs : List V} {os : List O} {A : List Addr} : H p = some (.lst vs) → OwAll K ι F H vs os A → Ow K ι F H (.ref p) (.lst os) (p :: A)
  | dK {p : Addr} {ks : List Key} {vs : List V} {ds : List D} : H p = some (.dK (ks.zip vs)) → ks.length = vs.length → RdAll K ι F vs ds → Ow K ι F H (.ref p) (.dK (ks.zip ds)) [p]
  | dT {p : Addr} {ks : List (List Key)} {vs : List V} {ds : List D} : H p = some (.dT (ks.zip vs)) → ks.length = vs.length → RdAll K ι F vs ds → Ow K ι F H (.ref p) (.dT (ks.zip ds)) [p]
  | obj {p dx : Addr} {c : Str} {ns : List Str} {vs : List V} {ds : List D} : H p = some (.ins (He.ga K c) dx (ns.zip vs)) → H dx = some (.own p) → ns.length = vs.length → RdAll K ι F vs ds → Ow K ι F H (.ref p) (.obj c (ns.zip ds)) [p, dx]
inductive OwAll (K : PySem.W.Frag) (ι : List Addr) (F H : Hp) : List V → List O → List Addr → Prop
  | nil : OwAll K ι F H [] [] []
  | cons {v : V} {vs : List V} {o : O} {os : List O} {A B : List Addr} : Ow K ι F H v o A → OwAll K ι F H vs os B → OwAll K ι F H (v :: vs) (o :: os) (A ++ B)
end
mutual
theorem Ow.mono {K : PySem.W.Frag} {ι ι' : List Addr} {F F' H H' : Hp} (e : Ex F F') (p : Pre ι ι') : ∀ {v : V} {o : O} {A : List Addr}, (∀ a ∈ A, ∀ u, H a = some u → H' a = some u) → Ow K ι F H v o A → Ow K ι' F' H' v o A
  | _, _, _, _, .fz h => .fz (h.mono e p)
  | _, _, _, k, .lst h r => .lst (k _ List.mem_cons_self _ h) (OwAll.mono e p (fun a ha => k a (List.mem_cons_of_mem _ ha)) r)
  | _, _, _, k, .dK h l r => .dK (k _ List.mem_cons_self _ h) l (r.mono e p)
  | _, _, _, k, .dT h l r => .dT (k _ List.mem_cons_self _ h) l (r.mono e p)
  | _, _, _, k, .obj h g l r => .obj (k _ List.mem_cons_self _ h) (k _ (List.mem_cons_of_mem _ List.mem_cons_self) _ g) l (r.mono e p)
theorem OwAll.mono {K : PySem.W.Frag} {ι ι' : List Addr} {F F' H H' : Hp} (e : Ex F F') (p : Pre ι ι') : ∀ {vs : List V} {os : List O} {A : List Addr}, (∀ a ∈ A, ∀ u, H a = some u → H' a = some u) → OwAll K ι F H vs os A → OwAll K ι' F' H' vs os A
  | _, _, _, _, .nil => .nil
  | _, _, _, k, .cons h r => .cons (Ow.mono e p (fun a ha => k a (List.mem_append_left _ ha)) h) (OwAll.mono e p (fun a ha => k a (List.mem_append_right _ ha)) r)
end
theorem OwAll.length {K : PySem.W.Frag} {ι : List Addr} {F H : Hp} : ∀ {vs : List V} {os : List O} {A : List Addr}, OwAll K ι F H vs os A → vs.length = os.length
  | _, _, _, .nil => rfl
  | _, _, _, .cons _ r => by rw [List.length_cons, List.length_cons, r.length]
/-- own objects stand in H -/
theorem Ow.there {K : PySem.W.Frag} {ι : List Addr} {F H : Hp} {v : V} {o : O} {A : List Addr} (h : Ow K ι F H v o A) : ∀ a ∈ A, H a ≠ none := by
  refine Ow.rec (motive_1 := fun v o A _ => ∀ a ∈ A, H a ≠ none) (motive_2 := fun vs os A _ => ∀ a ∈ A, H a ≠ none) ?_ ?_ ?_ ?_ ?_ ?_ ?_ h
  · intro v d _ a ha; cases ha
  · intro p vs os A h _ ih a ha
    rcases
            List.mem_cons.mp ha with rfl | ha
    · rw [h]; exact fun z => nomatch z
    · exact ih a ha
  · intro p ks vs ds h _ _ a ha
    rcases
            List.mem_cons.mp ha with rfl | ha
    · rw [h]; exact fun z => nomatch z
    · cases ha
  · intro p ks vs ds h _ _ a ha
    rcases
            List.mem_cons.mp ha with rfl | ha
    · rw [h]; exact fun z => nomatch z
    · cases ha
  · intro p dx c ns vs ds h g _ _ a ha
    rcases
            List.mem_cons.mp ha with rfl | ha
    · rw [h]; exact fun z => nomatch z
    · rcases
            List.mem_cons.mp ha with rfl | ha
      · rw [g]; exact fun z => nomatch z
      · cases ha
  · intro a ha; cases ha
  · intro v vs o os A B _ _ h1 h2 a ha
    rcases
            List.mem_append.mp ha with ha | ha
    · exact h1 a ha
    · exact h2 a ha

theorem OwAll.there {K : PySem.W.Frag} {ι : List Addr} {F H : Hp} : ∀ {os : List O} {vs : List V} {A : List Addr}, OwAll K ι F H vs os A → ∀ a ∈ A, H a ≠ none
  | [], _, _, .nil, a, ha => nomatch ha
  | _ :: _, _, _, .cons h r, a, ha => (List.mem_append.mp ha).elim (h.there a) (r.there a)

/-! ### the memory of a frame -/
/-- a frame's names, as many objects as have a number -/
structure S where
  ρ : List (Option O)
  n : Nat
  deriving Inhabited
abbrev Foot := Nat → List Addr
def own (As : Foot) (a : Addr) : Prop := ∃ i, a ∈ As i
/-- numbered objects: each once, all there -/
def IJ (ι : List Addr) (F : Hp) : Prop := ι.Nodup ∧ ∀ a ∈ ι, F a ≠ none
theorem IJ.mono {ι : List Addr} {F F' : Hp} (h : IJ ι F) (e : Ex F F') : IJ ι F' := ⟨h.1, fun a ha z => by
  cases q : F a with
  | none => exact h.2 a ha q
  | some u => rw [e a u q] at z; cases z⟩
structure Mem (K : PySem.W.Frag) (ι : List Addr) (As : Foot) (F H : Hp) (σ : L2.St) (s : S) : Prop where
  ext : Ex F H
  num : ι.length = s.n
  ij : IJ ι F
  len : σ.length = s.ρ.length
  at_ : ∀ (i : Nat) (o : O), s.ρ[i]? = some (some o) → ∃ v, σ[i]? = some (some v) ∧ Ow K ι F H v o (As i)
  nd : ∀ i, (As i).Nodup
  ap : ∀ i j a, i ≠ j → a ∈ As i → a ∈ As j → False
  fr : ∀ i a, a ∈ As i → F a = none
  th : ∀ i a, a ∈ As i → H a ≠ none
/-- what a step may change: P before, P' behind -/
structure Evo (P P' : Addr → Prop) (F H F' H' : Hp) : Prop where
  ext : Ex F F'
  keep : ∀ a u, H a = some u → ¬ P a → H' a = some u
  grow : ∀ a u, F' a = some u → (∃ w, F a = some w) ∨ P a ∨ H a = none
  foot : ∀ a, P' a → P a ∨ H a = none
  there : ∀ a, H' a = none → H a = none
theorem Evo.refl {P P' : Addr → Prop} {F H : Hp} (h : ∀ a, P' a → P a) : Evo P P' F H F H :=
  ⟨Same.refl _, fun _ _ h _ => h, fun _ u h => .inl ⟨u, h⟩, fun a x => .inl (h a x), fun _ h => h⟩
theorem Evo.trans {P P1 P2 : Addr → Prop} {F H F1 H1 F2 H2 : Hp} (a : Evo P P1 F H F1 H1) (b : Evo P1 P2 F1 H1 F2 H2) : Evo P P2 F H F2 H2 where
  ext := Same.trans a.ext b.ext
  keep := fun x u h n => b.keep x u (a.keep x u h n) fun z => by
    rcases a.foot x z with z | z
    · exact n z
    · rw [z] at h; cases h
  grow := fun x u h => by
    rcases b.grow x u h with ⟨w, h⟩ | h | h
    · exact a.grow x w h
    · rcases a.foot x h with h | h
      · exact .inr (.inl h)
      · exact .inr (.inr h)
    · exact .inr (.inr (a.there x h))
  foot := fun x h => by
    rcases b.foot x h with h | h
    · exact a.foot x h
    · exact .inr (a.there x h)
  there := fun x h => a.there x (b.there x h)
theorem Evo.post {P P' P'' : Addr → Prop} {F H F' H' : Hp} (e : Evo P P' F H F' H') (h : ∀ a, P'' a → P' a) : Evo P P'' F H F' H' := ⟨e.ext, e.keep, e.grow, fun a x => e.foot a (h a x), e.there⟩
theorem Evo.pre {P P0 P' : Addr → Prop} {F H F' H' : Hp} (e : Evo P P' F H F' H') (h : ∀ a, P a → P0 a) : Evo P0 P' F H F' H' :=
  ⟨e.ext, fun a u x n => e.keep a u x fun z => n (h a z), fun a u x => by
    rcases e.grow a u x with z | z | z
    · exact .inl z
    · exact .inr (.inl (h a z))
    · exact .inr (.inr z), fun a x => by
    rcases e.foot a x with z | z
    · exact .inl (h a z)
    · exact .inr z, e.there⟩

theorem Evo.post' {P P' P'' R : Addr → Prop} {F H F' H' : Hp} (e : Evo P P' F H F' H') (h : ∀ a, P'' a → P' a ∨ R a) (g : ∀ a, R a → P a ∨ H a = none) : Evo P P'' F H F' H' := ⟨e.ext, e.keep, e.grow, fun a x => (h a x).elim (e.foot a) (g a), e.there⟩

/-! ### results -/
inductive R (α : Type) where
  | ok (a : α) (s : S) | ex (c : Str) (fs : List (Str × D)) (s : S) | st
  deriving Inhabited
def R.bind {α β : Type} (r : R α) (f : α → S → R β) : R β := match r with
  | .ok a s => f a s
  | .ex c fs s => .ex c fs s
  | .st => .st
abbrev M (α : Type) := S → R α
def M.pure {α : Type} (a : α) : M α := fun s => .ok a s
def M.bind {α β : Type} (m : M α) (f : α → M β) : M β := fun s => (m s).bind fun a s' => f a s'
def M.st {α : Type} : M α := fun _ => .st
@[simp] theorem M.bind_def {α β : Type} (m : M α) (f : α → M β) (s : S) : m.bind f s = (m s).bind fun a s' => f a s' := rfl
@[simp] theorem R.bind_ok {α β : Type} (a : α) (s : S) (f : α → S → R β) : (R.ok a s).bind f = f a s := rfl
@[simp] theorem R.bind_ex {α β : Type} (c : Str) (fs : List (Str × D)) (s : S) (f : α → S → R β) : (R.ex c fs s).bind f = R.ex c fs s := rfl
@[simp] theorem R.bind_st {α β : Type} (f : α → S → R β) : (R.st : R α).bind f = R.st := rfl
theorem R.bind_eq_ok {α β : Type} {r : R α} {f : α → S → R β} {b : β} {s' : S} (h : r.bind f = .ok b s') : ∃ a s, r = .ok a s ∧ f a s = .ok b s' := by
  cases r with
  | ok a s => exact ⟨a, s, rfl, h⟩
  | ex _ _ _ => cases h
  | st => cases h

/-! ### the context -/
structure Ctx where
  P : Program
  w : World
  K : PySem.W.Frag
  mg : Str → Option Value
  base : Heap
  N : List Str
  sc : Scope
  lv : Nat
  /-- names that are handed back: never stored to -/
  io : List Nat := []
  /-- cells that may be stored to -/
  cel : List Str := []
structure At (C : Ctx) (X : Cx) : Prop where
  prog : X.prog = C.P
  w : X.w = C.w
  K : X.K = C.K
  mg : X.mg = C.mg
  base : X.base = C.base
  N : X.N = C.N
  sc : X.env.scope = C.sc
  calm : X.calm = true
  nd : X.N.Nodup
  room : Room C.lv X.A
  gd : X.A.guards = some []
  fn : ∀ x, C.cel.contains x = true → X.fn x = true
  po : PassesOwn (model X.prog X.w) X.A X.env X.xe
/-- the weakest reading -/
def tW (X : Cx) (e : Expr) : TE := fun σ H Q => ∃ t, PE X e t ∧ t σ H Q
theorem pe_W {X : Cx} {e : Expr} : PE X e (tW X e) := ⟨fun pins s σ H Q I ⟨t, h, q⟩ => h.run pins s σ H Q I q⟩
theorem tW_of {X : Cx} {e : Expr} {t : TE} {σ : L2.St} {H : Hp} {Q : VK} (h : PE X e t) (q : t σ H Q) : tW X e σ H Q := ⟨t, h, q⟩
def aW (X : Cx) (es : List Expr) : TA := fun σ H Q => ∃ t, PA X es t ∧ t σ H Q
theorem pa_W {X : Cx} {es : List Expr} : PA X es (aW X es) := ⟨fun pos pins s σ H Q I ⟨t, h, q⟩ => h.run pos pins s σ H Q I q⟩
def sW (X : Cx) (st : Stmt) : TS := fun D σ H => ∃ t, PS X st t ∧ t D σ H
theorem ps_W {X : Cx} {st : Stmt} : PS X st (sW X st) := ⟨fun pins s σ H D I ⟨t, h, q⟩ => h.run pins s σ H D I q⟩
def ssW (X : Cx) (st : List Stmt) : TS := fun D σ H => ∃ t, PSs X st t ∧ t D σ H
theorem pss_W {X : Cx} {st : List Stmt} : PSs X st (ssW X st) := ⟨fun pins s σ H D I ⟨t, h, q⟩ => h.run pins s σ H D I q⟩
def ptW (X : Cx) (e : Expr) : TT := fun σ H Q => ∃ t, PT X e t ∧ t σ H Q
theorem pt_W {X : Cx} {e : Expr} : PT X e (ptW X e) := ⟨fun pins s σ H Q I ⟨t, h, q⟩ => h.run pins s σ H Q I q⟩

/-- an exception's own dict -/
def ExAt (K : PySem.W.Frag) (ι : List Addr) (F H : Hp) (d : Addr) (fs : List (Str × D)) : Prop :=
  ∃ (ns : List Str) (vs : List V) (ds : List D), H d = some (.xd (ns.zip vs)) ∧ ns.length = vs.length ∧ RdAll K ι F vs ds ∧ fs = ns.zip ds
end VL
namespace VL
open PySem PySem.Spec
open PyProof.Rows L2

mutual
def O.frz : O → Option D
  | .fz d => some d
  | .lst os => match O.frzAll os with
    | some ds => some (.lst ds)
    | none => none
  | .dK kvs => some (.dct kvs)
  | .dT _ => none
  | .obj _ _ => none
def O.frzAll : List O → Option (List D)
  | [] => some []
  | o :: os => match O.frz o with
    | some d => match O.frzAll os with
      | some ds => some (d :: ds)
      | none => none
    | none => none
end
@[simp] theorem frz_fz (d : D) : (O.fz d).frz = some d := by simp [O.frz]
@[simp] theorem frzAll_nil : O.frzAll [] = some [] := by simp [O.frzAll]
@[simp] theorem frzAll_cons (o : O) (os : List O) : O.frzAll (o :: os) = (o.frz.bind fun d => (O.frzAll os).map fun ds => d :: ds) := by
  rw [O.frzAll]
  cases o.frz with
  | none => rfl
  | some d => cases O.frzAll os <;> rfl
@[simp] theorem frz_lst (os : List O) : (O.lst os).frz = (O.frzAll os).map D.lst := by
  rw [O.frz]
  cases O.frzAll os <;> rfl
@[simp] theorem frz_dK (kvs : List (Key × D)) : (O.dK kvs).frz = some (.dct kvs) := by simp [O.frz]
@[simp] theorem frzAll_map (ds : List D) : O.frzAll (ds.map O.fz) = some ds := by
  induction ds with
  | nil => simp
  | cons d ds ih => simp [ih]

mutual
theorem Ow.freeze {K : PySem.W.Frag} {ι : List Addr} {F F' H : Hp} (e : Ex F F') : ∀ {v : V} {o : O} {A : List Addr} {d : D}, Ow K ι F H v o A → o.frz = some d → (∀ a ∈ A, ∀ u, H a = some u → F' a = some u) → Rd K ι F' v d
  | _, _, _, _, .fz h, q, _ => by
    simp at q
    subst q
    exact h.mono e (Pre.refl _)
  | _, _, _, d, .lst (os := os) h r, q, k => by
    rw [frz_lst] at q
    cases hq : O.frzAll os with
    | none =>
            rw [hq] at q; cases q
    | some ds =>
      rw [hq] at q
      cases q
      exact .lst (k _ List.mem_cons_self _ h) (OwAll.freeze e r hq fun a ha => k a (List.mem_cons_of_mem _ ha))
  | _, _, _, _, .dK h l r, q, k => by
    rw [frz_dK] at q
    cases q
    exact .dct (k _ List.mem_cons_self _ h) l (r.mono e (Pre.refl _))
  | _, _, _, _, .dT h l r, q, k => by
    rw [O.frz] at q
    cases q
  | _, _, _, _, .obj h g l r, q, k => by
    rw [O.frz] at q
    cases q
theorem OwAll.freeze {K : PySem.W.Frag} {ι : List Addr} {F F' H : Hp} (e : Ex F F') : ∀ {vs : List V} {os : List O} {A : List Addr} {ds : List D}, OwAll K ι F H vs os A → O.frzAll os = some ds → (∀ a ∈ A, ∀ u, H a = some u → F' a = some u) → RdAll K ι F' vs ds
  | _, _, _, _, .nil, q, _ => by
    simp at q
    subst q
    exact .nil
  | _, _, _, _, .cons (o := o) (os := os) h r, q, k => by
    rw [frzAll_cons] at q
    cases h1 : o.frz with
    | none => rw [h1] at q; cases q
    | some d =>
      cases h2 : O.frzAll os with
      | none => rw [h1, h2] at q; cases q
      | some ds =>
        rw [h1, h2] at q
        cases q
        exact .cons (Ow.freeze e h h1 fun a ha => k a (List.mem_append_left _ ha)) (OwAll.freeze e r h2 fun a ha => k a (List.mem_append_right _ ha))
end
/-- frozen things seen as an owned tree -/
theorem OwAll.of_rd {K : PySem.W.Frag} {ι : List Addr} {F H : Hp} : ∀ {vs : List V} {ds : List D}, RdAll K ι F vs ds → OwAll K ι F H vs (ds.map O.fz) []
  | _, _, .nil => .nil
  | _, _, .cons h r => by
    have q := OwAll.cons (H := H) (Ow.fz h) (OwAll.of_rd (H := H) r)
    exact q
theorem OwAll.to_rd {K : PySem.W.Frag} {ι : List Addr} {F H : Hp} : ∀ {ds : List D} {vs : List V} {A : List Addr}, OwAll K ι F H vs (ds.map O.fz) A → RdAll K ι F vs ds ∧ A = []
  | [], _, _, h => by
    cases h
    exact ⟨.nil, rfl⟩
  | d :: ds, _, _, h => by
    cases h with
    | cons h r =>
      cases h with
      | fz h =>
        obtain ⟨q, e⟩ := OwAll.to_rd r
        subst e
        exact ⟨.cons h q, rfl⟩

/-- the part of H at A added to F -/
def join (F H : Hp) (A : List Addr) : Hp := fun a => if a ∈ A then H a else F a
theorem join_ext {F H : Hp} {A : List Addr} (f : ∀ a ∈ A, F a = none) : Ex F (join F H A) := fun a u h => by
  unfold join
  by_cases q : a ∈ A
  · rw [f a q] at h; cases h
  · rw [if_neg q]; exact h
theorem join_in {F H : Hp} {A : List Addr} (e : Ex F H) : Ex (join F H A) H := fun a u h => by
  unfold join at h
  by_cases q : a ∈ A
  · rw [if_pos q] at h; exact h
  · rw [if_neg q] at h; exact e a u h
theorem join_at {F H : Hp} {A : List Addr} : ∀ a ∈ A, ∀ u, H a = some u → join F H A a = some u := fun a q u h => by
  unfold join
  rw [if_pos q]; exact h
theorem join_of {F H : Hp} {A : List Addr} {a : Addr} {u : HO} (h : join F H A a = some u) : F a = some u ∨ a ∈ A := by
  unfold join at h
  by_cases q : a ∈ A
  · exact .inr q
  · rw [if_neg q] at h; exact .inl h
theorem join_none {F H : Hp} {A : List Addr} {a : Addr} (h : F a = none) (n : a ∉ A) : join F H A a = none := by
  unfold join
  rw [if_neg n]; exact h

section
variable {K : PySem.W.Frag} {ι ι' : List Addr} {As : Foot} {F F' H H' : Hp} {σ : L2.St} {s : S}
theorem Mem.own_none (m : Mem K ι As F H σ s) {a : Addr} (h : own As a) : F a = none := by
  obtain ⟨i, h⟩ := h
  exact m.fr i a h
theorem Mem.own_there (m : Mem K ι As F H σ s) {a : Addr} (h : own As a) : H a ≠ none := by
  obtain ⟨i, h⟩ := h
  exact m.th i a h
/-- nothing of one's own changes -/
theorem Mem.keep (m : Mem K ι As F H σ s) (e : Ex F F') (x : Ex F' H') (p : Pre ι ι') (g : IJ ι' F') (k : ∀ a, own As a → ∀ u, H a = some u → H' a = some u) (f : ∀ a, own As a → F' a = none) : Mem K ι' As F' H' σ { s with n := ι'.length } where
  ext := x
  num := rfl
  ij := g
  len := m.len
  at_ := fun i o h => by
    obtain ⟨v, h1, h2⟩ := m.at_ i o h
    exact ⟨v, h1, h2.mono e p fun a ha u => k a ⟨i, ha⟩ u⟩
  nd := m.nd
  ap := m.ap
  fr := fun i a h => f a ⟨i, h⟩
  th := fun i a h z => by
    cases q : H a with
    | none => exact m.th i a h q
    | some u => rw [k a ⟨i, h⟩ u q] at z; cases z
theorem Mem.keepN (m : Mem K ι As F H σ s) (e : Ex F F') (x : Ex F' H') (k : ∀ a, own As a → ∀ u, H a = some u → H' a = some u) (f : ∀ a, own As a → F' a = none) : Mem K ι As F' H' σ s := by
  have q := m.keep (ι' := ι) e x (Pre.refl _) (m.ij.mono e) k f
  rw [m.num] at q
  exact q
/-- by a step that leaves one's own alone -/
theorem Mem.evo {P P' : Addr → Prop} (m : Mem K ι As F H σ s) (ev : Evo P P' F H F' H') (x : Ex F' H') (p : Pre ι ι') (g : IJ ι' F') (d : ∀ a, own As a → ¬ P a) : Mem K ι' As F' H' σ { s with n := ι'.length } :=
  m.keep ev.ext x p g (fun a h u q => ev.keep a u q (d a h)) fun a h => by
    cases q : F' a with
    | none => rfl
    | some u =>
      rcases ev.grow a u q with ⟨w, z⟩ | z | z
      · rw [m.own_none h] at z; cases z
      · exact (d a h z).elim
      · exact (m.own_there h z).elim
/-- the footprint with another list at i -/
def setF (As : Foot) (i : Nat) (B : List Addr) : Foot := fun j => if j = i then B else As j
@[simp] theorem setF_same {As : Foot} {i : Nat} {B : List Addr} : setF As i B i = B := if_pos rfl
theorem setF_ne {As : Foot} {i j : Nat} {B : List Addr} (h : j ≠ i) : setF As i B j = As j := if_neg h
theorem own_setF {As : Foot} {i : Nat} {B : List Addr} {a : Addr} (h : own (setF As i B) a) : a ∈ B ∨ own As a := by
  obtain ⟨j, h⟩ := h
  by_cases e : j = i
  · subst e; rw [setF_same] at h; exact .inl h
  · rw [setF_ne e] at h; exact .inr ⟨j, h⟩
theorem Mem.lt (m : Mem K ι As F H σ s) {i : Nat} {o : O} (h : s.ρ[i]? = some (some o)) : i < s.ρ.length := (List.getElem?_eq_some_iff.mp h).1
/-- a name is set -/
theorem Mem.set (m : Mem K ι As F H σ s) {i : Nat} {v : V} {o : O} {B : List Addr} (hi : i < s.ρ.length) (h : Ow K ι F H v o B) (nd : B.Nodup) (fr : ∀ a ∈ B, F a = none ∧ ∀ j, j ≠ i → a ∉ As j) : Mem K ι (setF As i B) F H (σ.set i (some v)) { s with ρ := s.ρ.set i (some o) } where
  ext := m.ext
  num := m.num
  ij := m.ij
  len := by simp [m.len]
  at_ := fun j p q => by
    by_cases e : j = i
    · subst e
      simp only at q
      rw [List.getElem?_set_self hi] at q
      cases q
      refine ⟨v, ?_, by rw [setF_same]; exact h⟩
      rw [List.getElem?_set_self (by rw [m.len]; exact hi)]
    · simp only at q
      rw [List.getElem?_set_ne (Ne.symm e)] at q
      obtain ⟨w, h1, h2⟩ := m.at_ j p q
      refine ⟨w, ?_, by rw [setF_ne e]; exact h2⟩
      rw [List.getElem?_set_ne (Ne.symm e)]
      exact h1
  nd := fun j => by
    by_cases e : j = i
    · subst e; rw [setF_same]; exact nd
    · rw [setF_ne e]; exact m.nd j
  ap := fun j k a ne hj hk => by
    by_cases e : j = i
    · subst e
      rw [setF_same] at hj
      rw [setF_ne (Ne.symm ne)] at hk
      exact (fr a hj).2 k (Ne.symm ne) hk
    · rw [setF_ne e] at hj
      by_cases e2 : k = i
      · subst e2
        rw [setF_same] at hk
        exact (fr a hk).2 j e hj
      · rw [setF_ne e2] at hk
        exact m.ap j k a ne hj hk
  fr := fun j a q => by
    by_cases e : j = i
    · subst e; rw [setF_same] at q; exact (fr a q).1
    · rw [setF_ne e] at q; exact m.fr j a q
  th := fun j a q => by
    by_cases e : j = i
    · subst e; rw [setF_same] at q; exact h.there a q
    · rw [setF_ne e] at q; exact m.th j a q
/-- a name is forgotten -/
theorem Mem.forget (m : Mem K ι As F H σ s) (i : Nat) : Mem K ι (setF As i []) F H σ { s with ρ := s.ρ.set i none } where
  ext := m.ext
  num := m.num
  ij := m.ij
  len := by simp [m.len]
  at_ := fun j p q => by
    by_cases e : j = i
    · subst e
      simp only at q
      by_cases hj : j < s.ρ.length
      · rw [List.getElem?_set_self hj] at q; cases q
      · rw [List.getElem?_eq_none (by simpa using hj)] at q; cases q
    · simp only at q
      rw [List.getElem?_set_ne (Ne.symm e)] at q
      obtain ⟨w, h1, h2⟩ := m.at_ j p q
      exact ⟨w, h1, by rw [setF_ne e]; exact h2⟩
  nd := fun j => by
    by_cases e : j = i
    · subst e; rw [setF_same]; exact List.nodup_nil
    · rw [setF_ne e]; exact m.nd j
  ap := fun j k a ne hj hk => by
    by_cases e : j = i
    · subst e; rw [setF_same] at hj; cases hj
    · rw [setF_ne e] at hj
      by_cases e2 : k = i
      · subst e2; rw [setF_same] at hk; cases hk
      · rw [setF_ne e2] at hk
        exact m.ap j k a ne hj hk
  fr := fun j a q => by
    by_cases e : j = i
    · subst e; rw [setF_same] at q; cases q
    · rw [setF_ne e] at q; exact m.fr j a q
  th := fun j a q => by
    by_cases e : j = i
    · subst e; rw [setF_same] at q; cases q
    · rw [setF_ne e] at q; exact m.th j a q
/-- what a name holds is frozen -/
theorem Mem.freeze (m : Mem K ι As F H σ s) {i : Nat} {o : O} {d : D} (h : s.ρ[i]? = some (some o)) (hz : o.frz = some d) :
    ∃ v F', σ[i]? = some (some v) ∧ Rd K ι F' v d ∧ Evo (own As) (own (setF As i [])) F H F' H ∧ Mem K ι (setF As i []) F' H σ { s with ρ := s.ρ.set i (some (.fz d)) } := by
  obtain ⟨v, hv, w⟩ := m.at_ i o h
  have je : Ex F (join F H (As i)) := join_ext fun a ha => m.fr i a ha
  have r : Rd K ι (join F H (As i)) v d := w.freeze je hz join_at
  have ev : Evo (own As) (own (setF As i [])) F H (join F H (As i)) H := ⟨je, fun _ _ q _ => q, fun a u q => by
      rcases join_of q with q | q
      · exact .inl ⟨u, q⟩
      · exact .inr (.inl ⟨i, q⟩), fun a q => by
      rcases own_setF q with q | q
      · cases q
      · exact .inl q, fun _ q => q⟩
  refine ⟨v, join F H (As i), hv, r, ev, ?_⟩
  have m1 : Mem K ι (setF As i []) (join F H (As i)) H σ { s with ρ := s.ρ.set i none } := by
    refine (m.forget i).keepN je (join_in m.ext) (fun _ _ _ q => q) fun a q => ?_
    obtain ⟨j, q⟩ := q
    by_cases e : j = i
    · subst e; rw [setF_same] at q; cases q
    · rw [setF_ne e] at q
      exact join_none (m.fr j a q) fun z => m.ap j i a e q z
  have m2 := m1.set (i := i) (v := v) (o := .fz d) (B := []) (by simpa using m.lt h) (.fz r) List.nodup_nil (fun a ha => by cases ha)
  have e1 : (setF (setF As i []) i []) = setF As i [] := by
    funext j
    by_cases e : j = i
    · subst e; rw [setF_same, setF_same]
    · rw [setF_ne e]
  have e2 : σ.set i (some v) = σ := by
    have hlt := (List.getElem?_eq_some_iff.mp hv).1
    refine
            List.ext_getElem? fun j => ?_
    by_cases e : j = i
    · subst e
      rw [List.getElem?_set_self hlt, hv]
    · rw [List.getElem?_set_ne (Ne.symm e)]
  rw [e1, e2] at m2
  simpa using m2
end
end VL
namespace VL
open PySem PySem.Spec
open PyProof.Rows L2

/-! ### ends -/
def IsX {α : Type} (r : R α) : Prop := match r with
  | .ex _ _ _ => True
  | _ => False
/-- a value's end -/
def PostE (X : Cx) (ι : List Addr) (As : Foot) (F H : Hp) (σ : L2.St) (o : O) (s' : S) (Q : VK) : Prop :=
  ∀ (v : V) (B ι' : List Addr) (As' : Foot) (F' H' : Hp), Evo (own As) (fun a => own As' a ∨ a ∈ B) F H F' H' → Pre ι ι' → Mem X.K ι' As' F' H' σ s' → Ow X.K ι' F' H' v o B → B.Nodup → (∀ a ∈ B, F' a = none ∧ ¬ own As' a) → Q v H'
/-- an exception's end -/
def PostX (X : Cx) (ι : List Addr) (As : Foot) (F H : Hp) (σ : L2.St) (c : Str) (fs : List (Str × D)) (s' : S) (W : WX) : Prop :=
  ∀ (d : Addr) (ι' : List Addr) (As' : Foot) (F' H' : Hp), Evo (own As) (own As') F H F' H' → Pre ι ι' → Mem X.K ι' As' F' H' σ s' → ExAt X.K ι' F' H' d fs → W (.ref (He.ga X.K c)) (some d) σ H'
def PostV (X : Cx) (ι : List Addr) (As : Foot) (F H : Hp) (σ : L2.St) (r : R O) (Q : VK) (W : WX) : Prop := match r with
  | .ok o s' => PostE X ι As F H σ o s' Q
  | .ex c fs s' => PostX X ι As F H σ c fs s' W
  | .st => False
/-- e denotes f -/
def DE (C : Ctx) (e : Expr) (f : M O) : Prop := ∀ (X : Cx), At C X → ∀ (ι : List Addr) (As : Foot) (F H : Hp) (σ : L2.St) (s : S), Mem X.K ι As F H σ s → ∀ (Q : VK) (W : WX),
  (IsX (f s) → Takes X W) → PostV X ι As F H σ (f s) Q W → tW X e σ H Q

/-- operands: what a name holds, looked at when all operands are there; or a value -/
inductive Opnd where
  | pl (i : Nat) | vl (d : D)
def OpRd (K : PySem.W.Frag) (ι : List Addr) (F : Hp) (σ : L2.St) (v : V) : Opnd → Prop
  | .pl i => σ[i]? = some (some v)
  | .vl d => Rd K ι F v d
theorem OpRd.mono {K : PySem.W.Frag} {ι ι' : List Addr} {F F' : Hp} {σ : L2.St} {v : V} {o : Opnd} (e : Ex F F') (p : Pre ι ι') (h : OpRd K ι F σ v o) : OpRd K ι' F' σ v o := by
  cases o with
  | pl i => exact h
  | vl d => exact Rd.mono e p h
def opv (o : Opnd) (s : S) : Option O := match o with
  | .pl i => match s.ρ[i]? with
    | some (some x) => some x
    | _ => none
  | .vl d => some (.fz d)
theorem opv_ow {K : PySem.W.Frag} {ι : List Addr} {As : Foot} {F H : Hp} {σ : L2.St} {s : S} {v : V} {o : Opnd} {x : O} (m : Mem K ι As F H σ s) (h : OpRd K ι F σ v o) (e : opv o s = some x) : ∃ A, Ow K ι F H v x A := by
  cases o with
  | pl i =>
    unfold opv at e
    cases q : s.ρ[i]? with
    | none => simp [q] at e
    | some y =>
      cases y with
      | none => simp [q] at e
      | some z =>
        simp [q] at e
        subst e
        obtain ⟨w, h1, h2⟩ := m.at_ i _ q
        have h : σ[i]? = some (some v) := h
        rw [h] at h1
        cases h1
        exact ⟨_, h2⟩
  | vl d =>
    simp [opv] at e
    subst e
    exact ⟨[], .fz h⟩
def PostO (X : Cx) (ι : List Addr) (As : Foot) (F H : Hp) (σ : L2.St) (o : Opnd) (s' : S) (Q : VK) : Prop :=
  ∀ (v : V) (ι' : List Addr) (As' : Foot) (F' H' : Hp), Evo (own As) (own As') F H F' H' → Pre ι ι' → Mem X.K ι' As' F' H' σ s' → OpRd X.K ι' F' σ v o → Q v H'
def PostVO (X : Cx) (ι : List Addr) (As : Foot) (F H : Hp) (σ : L2.St) (r : R Opnd) (Q : VK) (W : WX) : Prop := match r with
  | .ok o s' => PostO X ι As F H σ o s' Q
  | .ex c fs s' => PostX X ι As F H σ c fs s' W
  | .st => False
def DO (C : Ctx) (e : Expr) (f : M Opnd) : Prop := ∀ (X : Cx), At C X → ∀ (ι : List Addr) (As : Foot) (F H : Hp) (σ : L2.St) (s : S), Mem X.K ι As F H σ s → ∀ (Q : VK) (W : WX),
  (IsX (f s) → Takes X W) → PostVO X ι As F H σ (f s) Q W → tW X e σ H Q

section
variable {X : Cx} {ι ι1 : List Addr} {As As1 : Foot} {P1 : Addr → Prop} {F H F1 H1 : Hp} {σ : L2.St} {W : WX} {Q : VK} {s' : S}
theorem PostX.step {c : Str} {fs : List (Str × D)} (p : PostX X ι As F H σ c fs s' W) (ev : Evo (own As) P1 F H F1 H1) (i : Pre ι ι1) (h : ∀ a, own As1 a → P1 a) : PostX X ι1 As1 F1 H1 σ c fs s' W :=
  fun d ι' As' F' H' ev' i' m x => p d ι' As' F' H' (ev.trans (ev'.pre h)) (i.trans i') m x
theorem PostE.step {o : O} (p : PostE X ι As F H σ o s' Q) (ev : Evo (own As) P1 F H F1 H1) (i : Pre ι ι1) (h : ∀ a, own As1 a → P1 a) : PostE X ι1 As1 F1 H1 σ o s' Q :=
  fun v B ι' As' F' H' ev' i' m w nd fr => p v B ι' As' F' H' (ev.trans (ev'.pre h)) (i.trans i') m w nd fr
theorem PostO.step {o : Opnd} (p : PostO X ι As F H σ o s' Q) (ev : Evo (own As) P1 F H F1 H1) (i : Pre ι ι1) (h : ∀ a, own As1 a → P1 a) : PostO X ι1 As1 F1 H1 σ o s' Q :=
  fun v ι' As' F' H' ev' i' m w => p v ι' As' F' H' (ev.trans (ev'.pre h)) (i.trans i') m w
theorem PostV.step {r : R O} (p : PostV X ι As F H σ r Q W) (ev : Evo (own As) P1 F H F1 H1) (i : Pre ι ι1) (h : ∀ a, own As1 a → P1 a) : PostV X ι1 As1 F1 H1 σ r Q W := by
  cases r with
  | ok o s => exact PostE.step p ev i h
  | ex c fs s => exact PostX.step p ev i h
  | st => exact p
theorem PostVO.step {r : R Opnd} (p : PostVO X ι As F H σ r Q W) (ev : Evo (own As) P1 F H F1 H1) (i : Pre ι ι1) (h : ∀ a, own As1 a → P1 a) : PostVO X ι1 As1 F1 H1 σ r Q W := by
  cases r with
  | ok o s => exact PostO.step p ev i h
  | ex c fs s => exact PostX.step p ev i h
  | st => exact p
end
/-- what is new -/
abbrev New (F H F' H' : Hp) (B : List Addr) : Prop := Evo (fun _ => False) (fun a => a ∈ B) F H F' H'
theorem New.refl {F H : Hp} : New F H F H [] := Evo.refl fun _ h => nomatch h
/-- a new object, frozen at once -/
theorem New.frozen {F H : Hp} {p : Addr} {u : HO} (x : Ex F H) (h : H p = none) : New F H (upd F p u) (upd H p u) [] where
  ext := fun a w q => by
    rw [upd_ne (ne_of_none (x _ _ q) h)]; exact q
  keep := fun a w q _ => by
    rw [upd_ne (ne_of_none q h)]; exact q
  grow := fun a w q => by
    by_cases e : a = p
    · subst e; exact .inr (.inr h)
    · rw [upd_ne e] at q; exact .inl ⟨w, q⟩
  foot := fun a q => nomatch q
  there := fun a q => by
    by_cases e : a = p
    · subst e; exact h
    · rw [upd_ne e] at q; exact q
theorem upd_ex {F H : Hp} {p : Addr} {u : HO} (x : Ex F H) : Ex (upd F p u) (upd H p u) := fun a w q => by
  by_cases e : a = p
  · subst e; rw [upd_same] at q ⊢; exact q
  · rw [upd_ne e] at q ⊢; exact x a w q
/-- a new object of one's own -/
theorem New.owned {F H : Hp} {p : Addr} {u : HO} (h : H p = none) : New F H F (upd H p u) [p] where
  ext := Same.refl _
  keep := fun a w q _ => by
    rw [upd_ne (ne_of_none q h)]; exact q
  grow := fun a w q => .inl ⟨w, q⟩
  foot := fun a q => by
    rcases List.mem_cons.mp q with e | e
    · subst e; exact .inr h
    · cases e
  there := fun a q => by
    by_cases e : a = p
    · subst e; exact h
    · rw [upd_ne e] at q; exact q
theorem ex_none {F H : Hp} {a : Addr} (x : Ex F H) (h : H a = none) : F a = none := by
  cases q : F a with
  | none => rfl
  | some u => rw [x a u q] at h; cases h
/-- the end of an operation that makes new things alone -/
theorem post_new {X : Cx} {ι : List Addr} {As : Foot} {F H F' H' : Hp} {σ : L2.St} {s : S} {o : O} {Q : VK} {v : V} {B : List Addr} (m : Mem X.K ι As F H σ s) (p : PostE X ι As F H σ o s Q)
    (n : New F H F' H' B) (x : Ex F' H') (w : Ow X.K ι F' H' v o B) (nd : B.Nodup) (fr : ∀ a ∈ B, F' a = none) : Q v H' := by
  have m' := m.evo n x (Pre.refl ι) (m.ij.mono n.ext) (fun a _ z => z)
  rw [m.num] at m'
  refine p v B ι As F' H' ⟨n.ext, fun a u q _ => n.keep a u q fun z => z, fun a u q => ?_, fun a q => ?_, n.there⟩ (Pre.refl _) m' w nd fun a ha => ⟨fr a ha, fun z => ?_⟩
  · rcases n.grow a u q with z | z | z
    · exact .inl z
    · exact z.elim
    · exact .inr (.inr z)
  · rcases q with q | q
    · exact .inl q
    · rcases n.foot a q with z | z
      · exact z.elim
      · exact .inr z
  · rcases n.foot a ha with q | q
    · exact q
    · exact m.own_there z q

/-! ### weakest operations -/
def rW (X : Cx) (f : Value → Value → Sem Value) : R2 := fun x y H Q => ∃ r, OpR X f r ∧ r x y H Q
theorem rW_ok {X : Cx} {f : Value → Value → Sem Value} : OpR X f (rW X f) := by
  intro pins s σ H x y v u Q I rx ry ⟨r, h, q⟩
  exact h pins s σ H x y v u Q I rx ry q
def cW (X : Cx) (f : Value) : List V → Hp → VK → Prop := fun vs H Q => ∃ r, CallR X f r ∧ r vs H Q
theorem cW_ok {X : Cx} {f : Value} : CallR X f (cW X f) := by
  intro pins s σ H us vs Q I rv ⟨r, h, q⟩
  exact h pins s σ H us vs Q I rv q

/-! ### operands -/
def mVar (i : Nat) : M Opnd := fun s => match s.ρ[i]? with
  | some (some _) => .ok (.pl i) s
  | _ => .st
def mOpnd (f : M O) : M Opnd := fun s => (f s).bind fun o s' => match o.frz with
  | some d => .ok (.vl d) s'
  | none => .st
def visB (sc : Scope) (x : Str) : Bool := match sc.names.lookup x with
  | some .local => true
  | some .cell => true
  | some .free => true
  | _ => false
theorem vis_of {sc : Scope} {x : Str} (h : visB sc x = true) : Vis sc x := by
  unfold visB at h
  unfold Vis
  cases q : sc.names.lookup x with
  | none => rw [q] at h; cases h
  | some k =>
    rw [q] at h
    cases k with
    | «local» => exact .inl rfl
    | cell => exact .inr (.inl rfl)
    | free => exact .inr (.inr rfl)
    | _ => cases h
section
variable {C : Ctx}
theorem do_var {i : Nat} {x : Str} {pos : Pos} (hN : C.N[i]? = some x := by rfl) (hv : visB C.sc x = true := by rfl) (hd : (x == ("__debug__" : Str)) = false := by decide) (hcd : (x == ("__classdict__" : Str)) = false := by decide) : DO C (.Name x pos) (mVar i) := by
  intro X hX ι As F H σ s m Q W tk p
  unfold mVar at p
  cases q : s.ρ[i]? with
  | none => simp only [q] at p; exact p.elim
  | some y =>
    cases y with
    | none => simp only [q] at p; exact p.elim
    | some o =>
      simp only [q] at p
      obtain ⟨v, h1, _⟩ := m.at_ i o q
      exact tW_of (pe_var (i := i) (by rw [hX.N]; exact hN) (by rw [hX.sc]; exact vis_of hv) hd hcd) ⟨v, h1, p v ι As F H (Evo.refl fun _ z => z) (Pre.refl _) m h1⟩
/-- a value as an operand: it is frozen -/
theorem do_val {e : Expr} {f : M O} (h : DE C e f) : DO C e (mOpnd f) := by
  intro X hX ι As F H σ s m Q W tk p
  unfold mOpnd at p tk
  refine h X hX ι As F H σ s m Q W (fun z => tk ?_) ?_
  · cases q : f s with
    | ex _ _ _ => trivial
    | ok _ _ => rw [q] at z; exact z.elim
    | st => rw [q] at z; exact z.elim
  · cases q : f s with
    | ok o s1 =>
      rw [q] at p
      intro v B ι' As' F' H' ev pr m' w nd fr
      simp only [R.bind_ok] at p
      cases hz : o.frz with
      | none => rw [hz] at p; exact p.elim
      | some d =>
        rw [hz] at p
        have je : Ex F' (join F' H' B) := join_ext fun a ha => (fr a ha).1
        have r := w.freeze je hz join_at
        have m2 : Mem X.K ι' As' (join F' H' B) H' σ s1 := m'.keepN je (join_in m'.ext) (fun _ _ _ q => q) fun a q => join_none (m'.own_none q) fun z => (fr a z).2 q
        refine p v ι' As' (join F' H' B) H' ⟨Same.trans ev.ext je, ev.keep, fun a u q => ?_, fun a q => ev.foot a (.inl q), ev.there⟩ pr m2 r
        rcases join_of q with q | q
        · exact ev.grow a u q
        · rcases ev.foot a (.inr q) with z | z
          · exact .inr (.inl z)
          · exact .inr (.inr z)
    | ex c fs s1 => rw [q] at p; exact p
    | st => rw [q] at p; exact p.elim
/-! ### constants -/
theorem de_c {e : Expr} {d : D} {v : V} (h : ∀ X, At C X → PE X e (tC v)) (r : ∀ (K : PySem.W.Frag) (ι : List Addr) (F : Hp), Rd K ι F v d) : DE C e (M.pure (.fz d)) := by
  intro X hX ι As F H σ s m Q W tk p
  exact tW_of (h X hX) (post_new m p New.refl m.ext (.fz (r _ _ _)) List.nodup_nil (fun _ h => nomatch h))
theorem de_int {i : Int} {j : Nat} {pos : Pos} : DE C (.Constant (.int i) j pos) (M.pure (.fz (.int i))) := de_c (fun _ _ => pe_int) fun _ _ _ => .int i
theorem de_str {x : Str} {j : Nat} {pos : Pos} : DE C (.Constant (.str x) j pos) (M.pure (.fz (.str x))) := de_c (fun _ _ => pe_str) fun _ _ _ => .str x
theorem de_bl {b : Bool} {j : Nat} {pos : Pos} : DE C (.Constant (.bool b) j pos) (M.pure (.fz (.bl b))) := de_c (fun _ _ => pe_bl) fun _ _ _ => .bl b
theorem de_non {j : Nat} {pos : Pos} : DE C (.Constant .none j pos) (M.pure (.fz .non)) := de_c (fun _ _ => pe_non) fun _ _ _ => .non
def glB (sc : Scope) (x : Str) : Bool := match sc.names.lookup x with
  | some .globalImplicit => true
  | _ => false
theorem gl_of {sc : Scope} {x : Str} {X : Cx} (e : X.env.scope = sc) (h : glB sc x = true) : Gl X x := by
  unfold glB at h
  show X.env.scope.names.lookup x = some .globalImplicit
  rw [e]
  cases q : sc.names.lookup x with
  | none => rw [q] at h; cases h
  | some k =>
    rw [q] at h
    cases k <;> first | rfl | cases h
/-- a module's int -/
theorem de_gint {x : Str} {i : Int} {pos : Pos} (hg : glB C.sc x = true) (hm : ∃ t, C.mg x = some (.int i t)) (hd : (x == ("__debug__" : Str)) = false := by decide) : DE C (.Name x pos) (M.pure (.fz (.int i))) := by
  obtain ⟨t, hm⟩ := hm
  exact de_c (v := .int i) (fun X hX => pe_glob (gl_of hX.sc hg) (by rw [hX.mg]; exact hm) ⟨t, rfl⟩ hd) fun _ _ _ => .int i

/-! ### a name's value is taken: it is frozen -/
def mUse (i : Nat) : M O := fun s => match s.ρ[i]? with
  | some (some o) => match o.frz with
    | some d => .ok (.fz d) { s with ρ := s.ρ.set i (some (.fz d)) }
    | none => .st
  | _ => .st
theorem de_use {i : Nat} {x : Str} {pos : Pos} (hN : C.N[i]? = some x := by rfl) (hv : visB C.sc x = true := by rfl) (hd : (x == ("__debug__" : Str)) = false := by decide) (hcd : (x == ("__classdict__" : Str)) = false := by decide) : DE C (.Name x pos) (mUse i) := by
  intro X hX ι As F H σ s m Q W tk p
  unfold mUse at p
  cases q : s.ρ[i]? with
  | none => simp only [q] at p; exact p.elim
  | some y =>
    cases y with
    | none => simp only [q] at p; exact p.elim
    | some o =>
      simp only [q] at p
      cases hz : o.frz with
      | none => simp only [hz] at p; exact p.elim
      | some d =>
        simp only [hz] at p
        obtain ⟨v, F', hv', r, ev, m'⟩ := m.freeze q hz
        exact tW_of (pe_var (i := i) (by rw [hX.N]; exact hN) (by rw [hX.sc]; exact vis_of hv) hd hcd) ⟨v, hv', p v [] ι _ F' H (ev.post fun a z => by
          rcases z with z | z
          · exact z
          · cases z) (Pre.refl _) m' (.fz r) List.nodup_nil fun a ha => nomatch ha⟩

/-! ### operations with two places -/
def OpOk (f : Value → Value → Sem Value) (h : O → O → Option O) : Prop := ∀ (X : Cx) (k : Nat), Room k X.A → ∀ (x y o : O), h x y = some o → ∀ (ι : List Addr) (F H : Hp) (A B : List Addr) (va vb : V) (Q : VK), Ex F H → Ow X.K ι F H va x A → Ow X.K ι F H vb y B →
  (∀ v Bo F' H', New F H F' H' Bo → Ex F' H' → Ow X.K ι F' H' v o Bo → Bo.Nodup → (∀ a ∈ Bo, F' a = none) → Q v H') → rW X f va vb H Q
def op2 (h : O → O → Option O) (a b : Opnd) : M O := fun s => match opv a s with
  | some x => match opv b s with
    | some y => match h x y with
      | some o => .ok o s
      | none => .st
    | none => .st
  | none => .st
def mOp2 (h : O → O → Option O) (fa fb : M Opnd) : M O := fa.bind fun a => fb.bind fun b => op2 h a b
theorem isX_bind {α β : Type} {r : R α} {f : α → S → R β} (h : IsX r) : IsX (r.bind f) := by
  cases r with
  | ex _ _ _ => trivial
  | ok _ _ => exact h.elim
  | st => exact h.elim
theorem op2_post {X : Cx} {f : Value → Value → Sem Value} {h : O → O → Option O} (ho : OpOk f h) {k : Nat} (hr : Room k X.A) {ι : List Addr} {As : Foot} {F H : Hp} {σ : L2.St} {s : S} {Q : VK} {W : WX} {a b : Opnd} {va vb : V}
    (m : Mem X.K ι As F H σ s) (ra : OpRd X.K ι F σ va a) (rb : OpRd X.K ι F σ vb b) (p : PostV X ι As F H σ (op2 h a b s) Q W) : rW X f va vb H Q := by
  unfold op2 at p
  cases e1 : opv a s with
  | none => rw [e1] at p; exact p.elim
  | some x =>
    rw [e1] at p
    cases e2 : opv b s with
    | none => simp only [e2] at p; exact p.elim
    | some y =>
      simp only [e2] at p
      cases e3 : h x y with
      | none => simp only [e3] at p; exact p.elim
      | some o =>
        simp only [e3] at p
        obtain ⟨A, wa⟩ := opv_ow m ra e1
        obtain ⟨B, wb⟩ := opv_ow m rb e2
        exact ho X k hr x y o e3 ι F H A B va vb Q m.ext wa wb fun v Bo F' H' n x' w nd fr => post_new m p n x' w nd fr
/-- the two operands, one behind the other -/
theorem two {X : Cx} {a b : Expr} {fa fb : M Opnd} {g : Opnd → Opnd → M O} (hX : At C X) (ha : DO C a fa) (hb : DO C b fb) {ι : List Addr} {As : Foot} {F H : Hp} {σ : L2.St} {s : S} (m : Mem X.K ι As F H σ s) {Q : VK} {W : WX} {r : R2}
    (tk : IsX ((fa.bind fun x => fb.bind fun y => g x y) s) → Takes X W) (p : PostV X ι As F H σ ((fa.bind fun x => fb.bind fun y => g x y) s) Q W)
    (k : ∀ ι As F H s x y va vb, Mem X.K ι As F H σ s → OpRd X.K ι F σ va x → OpRd X.K ι F σ vb y → PostV X ι As F H σ (g x y s) Q W → r va vb H Q) : tOp r (tW X a) (tW X b) σ H Q := by
  refine ha X hX ι As F H σ s m _ W (fun z => tk (isX_bind z)) ?_
  rw [M.bind_def] at p tk
  cases q : fa s with
  | st => rw [q] at p; exact p.elim
  | ex c fs s1 => rw [q] at p; exact p
  | ok x s1 =>
    rw [q] at p tk
    intro va ι1 As1 F1 H1 ev pr m1 ra
    simp only [R.bind_ok, M.bind_def] at p tk
    refine hb X hX ι1 As1 F1 H1 σ s1 m1 _ W (fun z => tk (isX_bind z)) ?_
    cases q2 : fb s1 with
    | st => rw [q2] at p; exact p.elim
    | ex c fs s2 =>
      rw [q2] at p
      exact PostX.step p ev pr fun _ z => z
    | ok y s2 =>
      rw [q2] at p
      intro vb ι2 As2 F2 H2 ev2 pr2 m2 rb
      exact k ι2 As2 F2 H2 s2 x y va vb m2 (ra.mono ev2.ext pr2) rb (PostV.step (PostV.step p ev pr fun _ z => z) ev2 pr2 fun _ z => z)
theorem de_bin {op : Operator} {h : O → O → Option O} {a b : Expr} {fa fb : M Opnd} {pos : Pos} (ho : OpOk (binaryOp op) h) (ha : DO C a fa) (hb : DO C b fb) : DE C (.BinOp a op b pos) (mOp2 h fa fb) := by
  intro X hX ι As F H σ s m Q W tk p
  exact tW_of (pe_op rW_ok pe_W pe_W) (two hX ha hb m tk p fun ι As F H s x y va vb m ra rb p => op2_post ho hX.room m ra rb p)
theorem de_cmp {op : CmpOp} {h : O → O → Option O} {a b : Expr} {fa fb : M Opnd} {pos : Pos} (ho : OpOk (compareOp op) h) (ha : DO C a fa) (hb : DO C b fb) (hm : behindInMarks op b = false := by first | exact nomark _ | rfl) : DE C (.Compare a [op] [b] pos) (mOp2 h fa fb) := by
  intro X hX ι As F H σ s m Q W tk p
  exact tW_of (pe_cmpR rW_ok pe_W pe_W hm) (two hX ha hb m tk p fun ι As F H s x y va vb m ra rb p => op2_post ho hX.room m ra rb p)
end
end VL
namespace VL
open PySem PySem.Spec
open PyProof.Rows L2

/-! ### tests -/
def PostB (X : Cx) (ι : List Addr) (As : Foot) (F H : Hp) (σ : L2.St) (r : R Bool) (Q : Bool → Hp → Prop) (W : WX) : Prop := match r with
  | .ok b s' => ∀ (ι' : List Addr) (As' : Foot) (F' H' : Hp), Evo (own As) (own As') F H F' H' → Pre ι ι' → Mem X.K ι' As' F' H' σ s' → Q b H'
  | .ex c fs s' => PostX X ι As F H σ c fs s' W
  | .st => False
def DT (C : Ctx) (e : Expr) (f : M Bool) : Prop := ∀ (X : Cx), At C X → ∀ (ι : List Addr) (As : Foot) (F H : Hp) (σ : L2.St) (s : S), Mem X.K ι As F H σ s → ∀ (Q : Bool → Hp → Prop) (W : WX),
  (IsX (f s) → Takes X W) → PostB X ι As F H σ (f s) Q W → ptW X e σ H Q
def pwW (X : Cx) (e : Expr) : TT := fun σ H Q => ∃ t, PW X e t ∧ t σ H Q
theorem pw_W {X : Cx} {e : Expr} : PW X e (pwW X e) := ⟨fun wh pins s σ H Q I ⟨t, h, q⟩ => h.run wh pins s σ H Q I q⟩
/-- a chain of and, or -/
def DW (C : Ctx) (e : Expr) (f : M Bool) : Prop := ∀ (X : Cx), At C X → ∀ (ι : List Addr) (As : Foot) (F H : Hp) (σ : L2.St) (s : S), Mem X.K ι As F H σ s → ∀ (Q : Bool → Hp → Prop) (W : WX),
  (IsX (f s) → Takes X W) → PostB X ι As F H σ (f s) Q W → pwW X e σ H Q
theorem PostB.step {X : Cx} {ι ι1 : List Addr} {As As1 : Foot} {P1 : Addr → Prop} {F H F1 H1 : Hp} {σ : L2.St} {W : WX} {Q : Bool → Hp → Prop} {r : R Bool} (p : PostB X ι As F H σ r Q W) (ev : Evo (own As) P1 F H F1 H1) (i : Pre ι ι1) (h : ∀ a, own As1 a → P1 a) : PostB X ι1 As1 F1 H1 σ r Q W := by
  cases r with
  | ok b s => exact fun ι' As' F' H' ev' i' m => p ι' As' F' H' (ev.trans (ev'.pre h)) (i.trans i') m
  | ex c fs s => exact PostX.step p ev i h
  | st => exact p
theorem isX_of {α β : Type} {r : R α} {f : α → S → R β} {P : Prop} (tk : IsX (r.bind f) → P) : IsX r → P := fun z => tk (isX_bind z)
section
variable {C : Ctx}
theorem dt_of_dw {e : Expr} {f : M Bool} (h : DW C e f) : DT C e f := fun X hX ι As F H σ s m Q W tk p => by
  obtain ⟨t, h1, h2⟩ := h X hX ι As F H σ s m Q W tk p
  exact ⟨t, h1.pt, h2⟩
def asB (o : O) : M Bool := fun s => match o with
  | .fz (.bl b) => .ok b s
  | _ => .st
def mTest (f : M O) : M Bool := f.bind asB
/-- the end of a test by a value -/
theorem test_post {X : Cx} {ι : List Addr} {As : Foot} {F H : Hp} {σ : L2.St} {r : R O} {Q : Bool → Hp → Prop} {W : WX} (p : PostB X ι As F H σ (r.bind asB) Q W) : PostV X ι As F H σ r (fun x H' => ∃ k, x = .bl k ∧ Q k H') W := by
  cases r with
  | st => exact p.elim
  | ex c fs s => exact p
  | ok o s =>
    intro v B ι' As' F' H' ev pr m w nd fr
    simp only [R.bind_ok] at p
    cases o with
    | fz d =>
      cases d with
      | bl b =>
        cases w with
        | fz w =>
          cases w
          exact ⟨b, rfl, p ι' As' F' H' (ev.post fun a z => .inl z) pr m⟩
      | _ => exact p.elim
    | _ => exact p.elim
theorem dt_val {e : Expr} {f : M O} (h : DE C e f) (he : ∀ (env : Env) whole, isTrue e env whole = (do let v ← whole; standAt e.pos; holding [v] (truthy v)) := by intro _ _; rfl) : DT C e (mTest f) := by
  intro X hX ι As F H σ s m Q W tk p
  exact ⟨_, pt_val pe_W (he _), h X hX ι As F H σ s m _ W (isX_of tk) (test_post p)⟩
theorem dt_not {e : Expr} {f : M Bool} {pos : Pos} (h : DT C e f) : DT C (.UnaryOp .Not e pos) (f.bind fun b => M.pure (!b)) := by
  intro X hX ι As F H σ s m Q W tk p
  refine ⟨_, pt_not pt_W, h X hX ι As F H σ s m _ W (isX_of tk) ?_⟩
  simp only [M.bind_def] at p
  cases q : f s with
  | st => rw [q] at p; exact p.elim
  | ex c fs s => rw [q] at p; exact p
  | ok b s1 => rw [q] at p; exact p
theorem dw_and1 {e : Expr} {f : M Bool} {pos : Pos} (h : DT C e f) : DW C (.BoolOp .And [e] pos) f := by
  intro X hX ι As F H σ s m Q W tk p
  exact ⟨_, pw_and1 pt_W, h X hX ι As F H σ s m Q W tk p⟩
theorem dw_or1 {e : Expr} {f : M Bool} {pos : Pos} (h : DT C e f) : DW C (.BoolOp .Or [e] pos) f := by
  intro X hX ι As F H σ s m Q W tk p
  exact ⟨_, pw_or1 pt_W, h X hX ι As F H σ s m Q W tk p⟩
def mAnd (f g : M Bool) : M Bool := f.bind fun b => if b then g else M.pure false
def mOr (f g : M Bool) : M Bool := f.bind fun b => if b then M.pure true else g
theorem dw_and {a b : Expr} {rest : List Expr} {f g : M Bool} {pos : Pos} (ha : DT C a f) (hb : DW C (.BoolOp .And (b :: rest) pos) g) : DW C (.BoolOp .And (a :: b :: rest) pos) (mAnd f g) := by
  intro X hX ι As F H σ s m Q W tk p
  unfold mAnd at p tk
  refine ⟨_, pw_and pt_W pw_W, ha X hX ι As F H σ s m _ W (isX_of tk) ?_⟩
  simp only [M.bind_def] at p tk
  cases q : f s with
  | st => rw [q] at p; exact p.elim
  | ex c fs s => rw [q] at p; exact p
  | ok x s1 =>
    rw [q] at p tk
    intro ι1 As1 F1 H1 ev pr m1
    simp only [R.bind_ok] at p tk
    cases x with
    | true => exact hb X hX ι1 As1 F1 H1 σ s1 m1 Q W tk (PostB.step p ev pr fun _ z => z)
    | false => exact p ι1 As1 F1 H1 ev pr m1
theorem dw_or {a b : Expr} {rest : List Expr} {f g : M Bool} {pos : Pos} (ha : DT C a f) (hb : DW C (.BoolOp .Or (b :: rest) pos) g) : DW C (.BoolOp .Or (a :: b :: rest) pos) (mOr f g) := by
  intro X hX ι As F H σ s m Q W tk p
  unfold mOr at p tk
  refine ⟨_, pw_or pt_W pw_W, ha X hX ι As F H σ s m _ W (isX_of tk) ?_⟩
  simp only [M.bind_def] at p tk
  cases q : f s with
  | st => rw [q] at p; exact p.elim
  | ex c fs s => rw [q] at p; exact p
  | ok x s1 =>
    rw [q] at p tk
    intro ι1 As1 F1 H1 ev pr m1
    simp only [R.bind_ok] at p tk
    cases x with
    | false => exact hb X hX ι1 As1 F1 H1 σ s1 m1 Q W tk (PostB.step p ev pr fun _ z => z)
    | true => exact p ι1 As1 F1 H1 ev pr m1
theorem dt_cmp {op : CmpOp} {h : O → O → Option O} {a b : Expr} {fa fb : M Opnd} {pos : Pos} (ho : OpOk (compareOp op) h) (ha : DO C a fa) (hb : DO C b fb) (hm : behindInMarks op b = false := by first | exact nomark _ | rfl) : DT C (.Compare a [op] [b] pos) (mTest (mOp2 h fa fb)) := by
  intro X hX ι As F H σ s m Q W tk p
  exact ⟨_, pt_cmpR rW_ok pe_W pe_W hm, two hX ha hb m (isX_of tk) (test_post p) fun ι As F H s x y va vb m ra rb p => op2_post ho hX.room m ra rb p⟩
/-- a < b < c -/
def mChain (h h' : O → O → Option O) (fa fb fc : M Opnd) : M O := fa.bind fun x => fb.bind fun y => (op2 h x y).bind fun z => (asB z).bind fun k => if k then fc.bind fun w => op2 h' y w else M.pure (.fz (.bl false))
theorem chain_run {op op' : CmpOp} {h h' : O → O → Option O} {a b c : Expr} {fa fb fc : M Opnd} (ho : OpOk (compareOp op) h) (ho' : OpOk (compareOp op') h') (ha : DO C a fa) (hb : DO C b fb) (hc : DO C c fc)
    {X : Cx} (hX : At C X) {ι : List Addr} {As : Foot} {F H : Hp} {σ : L2.St} {s : S} (m : Mem X.K ι As F H σ s) {Q : VK} {W : WX} (tk : IsX (mChain h h' fa fb fc s) → Takes X W) (p : PostV X ι As F H σ (mChain h h' fa fb fc s) Q W) :
    tChain (rW X (compareOp op)) (rW X (compareOp op')) (tW X a) (tW X b) (tW X c) σ H Q := by
  unfold mChain at p tk
  refine ha X hX ι As F H σ s m _ W (isX_of tk) ?_
  simp only [M.bind_def] at p tk
  cases q : fa s with
  | st => rw [q] at p; exact p.elim
  | ex c fs s1 => rw [q] at p; exact p
  | ok x s1 =>
    rw [q] at p tk
    intro va ι1 As1 F1 H1 ev pr m1 ra
    simp only [R.bind_ok] at p tk
    refine hb X hX ι1 As1 F1 H1 σ s1 m1 _ W (isX_of tk) ?_
    cases q2 : fb s1 with
    | st => rw [q2] at p; exact p.elim
    | ex c fs s2 =>
      rw [q2] at p
      exact PostX.step p ev pr fun _ z => z
    | ok y s2 =>
      rw [q2] at p tk
      intro vb ι2 As2 F2 H2 ev2 pr2 m2 rb
      simp only [R.bind_ok] at p tk
      have p2 := PostV.step (PostV.step p ev pr fun _ z => z) ev2 pr2 fun _ z => z
      refine op2_post (Q := _) (W := W) ho hX.room m2 (ra.mono ev2.ext pr2) rb ?_
      cases q3 : op2 h x y s2 with
      | st => rw [q3] at p2; exact p2.elim
      | ex c fs s3 => rw [q3] at p2; exact p2
      | ok z s3 =>
        rw [q3] at p2 tk
        simp only [R.bind_ok] at p2 tk
        intro v B ι3 As3 F3 H3 ev3 pr3 m3 w nd fr
        cases z with
        | fz d =>
          cases d with
          | bl k =>
            cases w with
            | fz w =>
              cases w
              refine ⟨k, rfl, ?_⟩
              simp only [asB, R.bind_ok] at p2 tk
              have p3 := PostV.step (As1 := As3) p2 ev3 pr3 fun _ z => .inl z
              cases k with
              | false =>
                rw [if_neg (by decide)]
                rw [if_neg (by decide)] at p3
                exact post_new m3 p3 New.refl m3.ext (.fz (.bl false)) List.nodup_nil fun _ z => nomatch z
              | true =>
                rw [if_pos rfl]
                rw [if_pos rfl] at p3 tk
                refine hc X hX ι3 As3 F3 H3 σ s3 m3 _ W (isX_of tk) ?_
                simp only [M.bind_def] at p3
                cases q4 : fc s3 with
                | st => rw [q4] at p3; exact p3.elim
                | ex c fs s4 => rw [q4] at p3; exact p3
                | ok u s4 =>
                  rw [q4] at p3
                  intro vc ι4 As4 F4 H4 ev4 pr4 m4 rc
                  simp only [R.bind_ok] at p3
                  exact op2_post ho' hX.room m4 ((rb.mono ev3.ext pr3).mono ev4.ext pr4) rc (PostV.step p3 ev4 pr4 fun _ z => z)
          | _ => exact p2.elim
        | _ => exact p2.elim
theorem de_chain {op op' : CmpOp} {h h' : O → O → Option O} {a b c : Expr} {fa fb fc : M Opnd} {pos : Pos} (ho : OpOk (compareOp op) h) (ho' : OpOk (compareOp op') h') (ha : DO C a fa) (hb : DO C b fb) (hc : DO C c fc)
    (hm : lastMarks [op, op'] [b, c] = false := by with_unfolding_all rfl) : DE C (.Compare a [op, op'] [b, c] pos) (mChain h h' fa fb fc) := by
  intro X hX ι As F H σ s m Q W tk p
  exact tW_of (pe_chain rW_ok rW_ok pe_W pe_W pe_W hm) (chain_run ho ho' ha hb hc hX m tk p)
theorem dt_chain {op op' : CmpOp} {h h' : O → O → Option O} {a b c : Expr} {fa fb fc : M Opnd} {pos : Pos} (ho : OpOk (compareOp op) h) (ho' : OpOk (compareOp op') h') (ha : DO C a fa) (hb : DO C b fb) (hc : DO C c fc)
    (hm : lastMarks [op, op'] [b, c] = false := by with_unfolding_all rfl) : DT C (.Compare a [op, op'] [b, c] pos) (mTest (mChain h h' fa fb fc)) := by
  intro X hX ι As F H σ s m Q W tk p
  exact ⟨_, pt_chain rW_ok rW_ok pe_W pe_W pe_W hm, chain_run ho ho' ha hb hc hX m (isX_of tk) (test_post p)⟩
/-! ### and, or, not, if as values -/
def mAndV (f g : M O) : M O := (mTest f).bind fun b => if b then g else M.pure (.fz (.bl false))
def mOrV (f g : M O) : M O := (mTest f).bind fun b => if b then M.pure (.fz (.bl true)) else g
/-- the end of a value that is a bool, and what follows -/
theorem bool_post {X : Cx} {ι : List Addr} {As : Foot} {F H : Hp} {σ : L2.St} {f : M O} {s : S} {k : Bool → M O} {Q : VK} {W : WX} {q : Bool → Hp → Prop} (p : PostV X ι As F H σ (((mTest f).bind k) s) Q W)
    (h : ∀ (b : Bool) (s1 : S) (ι1 : List Addr) (As1 : Foot) (F1 H1 : Hp), mTest f s = .ok b s1 → Mem X.K ι1 As1 F1 H1 σ s1 → PostV X ι1 As1 F1 H1 σ (k b s1) Q W → q b H1) : PostV X ι As F H σ (f s) (fun x H' => ∃ k, x = .bl k ∧ q k H') W := by
  refine test_post ?_
  have e : mTest f s = (f s).bind asB := rfl
  rw [M.bind_def] at p
  rw [← e]
  cases r : mTest f s with
  | st => rw [r] at p; exact p.elim
  | ex c fs s1 => rw [r] at p; exact p
  | ok b s1 =>
    rw [r] at p
    intro ι1 As1 F1 H1 ev pr m1
    exact h b s1 ι1 As1 F1 H1 r m1 (PostV.step p ev pr fun _ z => z)
theorem isX_test {f : M O} {s : S} {β : Type} {k : Bool → S → R β} {P : Prop} (tk : IsX ((mTest f s).bind k) → P) : IsX (f s) → P := fun z => tk (isX_bind (by
  show IsX ((f s).bind asB)
  exact isX_bind z))
theorem de_one {op : BoolOp} {e : Expr} {f : M O} {pos : Pos} (h : DE C e f) : DE C (.BoolOp op [e] pos) f := by
  intro X hX ι As F H σ s m Q W tk p
  exact tW_of (pe_one pe_W) (h X hX ι As F H σ s m Q W tk p)
theorem de_and {a b : Expr} {rest : List Expr} {f g : M O} {pos : Pos} (ha : DE C a f) (hb : DE C (.BoolOp .And (b :: rest) pos) g) : DE C (.BoolOp .And (a :: b :: rest) pos) (mAndV f g) := by
  intro X hX ι As F H σ s m Q W tk p
  unfold mAndV at p tk
  refine tW_of (pe_and pe_W pe_W) (ha X hX ι As F H σ s m _ W (isX_test tk) (bool_post p fun b s1 ι1 As1 F1 H1 e m1 p1 => ?_))
  cases b with
  | true =>
    rw [if_pos rfl]
    rw [if_pos rfl] at p1
    refine hb X hX ι1 As1 F1 H1 σ s1 m1 Q W (fun z => tk ?_) p1
    show IsX ((mTest f s).bind _)
    rw [e]
    exact z
  | false =>
    rw [if_neg (by decide)]
    rw [if_neg (by decide)] at p1
    exact post_new m1 p1 New.refl m1.ext (.fz (.bl false)) List.nodup_nil fun _ z => nomatch z
theorem de_or {a b : Expr} {rest : List Expr} {f g : M O} {pos : Pos} (ha : DE C a f) (hb : DE C (.BoolOp .Or (b :: rest) pos) g) : DE C (.BoolOp .Or (a :: b :: rest) pos) (mOrV f g) := by
  intro X hX ι As F H σ s m Q W tk p
  unfold mOrV at p tk
  refine tW_of (pe_or pe_W pe_W) (ha X hX ι As F H σ s m _ W (isX_test tk) (bool_post p fun b s1 ι1 As1 F1 H1 e m1 p1 => ?_))
  cases b with
  | false =>
    rw [if_neg (by decide)]
    rw [if_neg (by decide)] at p1
    refine hb X hX ι1 As1 F1 H1 σ s1 m1 Q W (fun z => tk ?_) p1
    show IsX ((mTest f s).bind _)
    rw [e]
    exact z
  | true =>
    rw [if_pos rfl]
    rw [if_pos rfl] at p1
    exact post_new m1 p1 New.refl m1.ext (.fz (.bl true)) List.nodup_nil fun _ z => nomatch z
theorem de_not {e : Expr} {f : M O} {pos : Pos} (h : DE C e f) : DE C (.UnaryOp .Not e pos) ((mTest f).bind fun b => M.pure (.fz (.bl (!b)))) := by
  intro X hX ι As F H σ s m Q W tk p
  refine tW_of (pe_not pe_W) (h X hX ι As F H σ s m _ W (isX_test tk) (bool_post p fun b s1 ι1 As1 F1 H1 e m1 p1 => ?_))
  exact post_new m1 p1 New.refl m1.ext (.fz (.bl _)) List.nodup_nil fun _ z => nomatch z
theorem de_if {c a b : Expr} {f : M Bool} {g g' : M O} {pos : Pos} (hc : DT C c f) (ha : DE C a g) (hb : DE C b g') : DE C (.IfExp c a b pos) (f.bind fun k => if k then g else g') := by
  intro X hX ι As F H σ s m Q W tk p
  refine tW_of (pe_ifExp pt_W pe_W pe_W) (hc X hX ι As F H σ s m _ W (isX_of tk) ?_)
  simp only [M.bind_def] at p tk
  cases q : f s with
  | st => rw [q] at p; exact p.elim
  | ex c fs s => rw [q] at p; exact p
  | ok k s1 =>
    rw [q] at p tk
    intro ι1 As1 F1 H1 ev pr m1
    simp only [R.bind_ok] at p tk
    have p1 := PostV.step p ev pr fun _ z => z
    cases k with
    | true =>
      rw [if_pos rfl] at p1 tk ⊢
      exact ha X hX ι1 As1 F1 H1 σ s1 m1 Q W tk p1
    | false =>
      rw [if_neg (by decide)] at p1 tk ⊢
      exact hb X hX ι1 As1 F1 H1 σ s1 m1 Q W tk p1
end
end VL
namespace VL
open PySem PySem.Spec
open PyProof.Rows L2

/-! ### statements -/
inductive T where
  | nx (s : S) | rt (o : O) (s : S) | bk (s : S) | ct (s : S) | ex (c : Str) (fs : List (Str × D)) (s : S) | st
  deriving Inhabited
def T.seq (t : T) (k : S → T) : T := match t with
  | .nx s => k s
  | t => t
def R.toT {α : Type} (r : R α) (k : α → S → T) : T := match r with
  | .ok a s => k a s
  | .ex c fs s => .ex c fs s
  | .st => .st
@[simp] theorem T.seq_nx (s : S) (k : S → T) : (T.nx s).seq k = k s := rfl
@[simp] theorem T.seq_rt (o : O) (s : S) (k : S → T) : (T.rt o s).seq k = .rt o s := rfl
@[simp] theorem T.seq_bk (s : S) (k : S → T) : (T.bk s).seq k = .bk s := rfl
@[simp] theorem T.seq_ct (s : S) (k : S → T) : (T.ct s).seq k = .ct s := rfl
@[simp] theorem T.seq_ex (c : Str) (fs : List (Str × D)) (s : S) (k : S → T) : (T.ex c fs s).seq k = .ex c fs s := rfl
@[simp] theorem T.seq_st (k : S → T) : T.st.seq k = .st := rfl
@[simp] theorem R.toT_ok {α : Type} (a : α) (s : S) (k : α → S → T) : (R.ok a s).toT k = k a s := rfl
@[simp] theorem R.toT_ex {α : Type} (c : Str) (fs : List (Str × D)) (s : S) (k : α → S → T) : (R.ex c fs s : R α).toT k = .ex c fs s := rfl
@[simp] theorem R.toT_st {α : Type} (k : α → S → T) : (R.st : R α).toT k = .st := rfl
abbrev MT := S → T
def IsXT (t : T) : Prop := match t with
  | .ex _ _ _ => True
  | _ => False
/-- what is handed back stands where it stood -/
abbrev Prot (io : List Nat) (σ σ' : L2.St) : Prop := ∀ i ∈ io, σ'[i]? = σ[i]?
/-- a step's end -/
def PostN (X : Cx) (io : List Nat) (ι : List Addr) (As : Foot) (F H : Hp) (σ : L2.St) (s' : S) (k : L2.St → Hp → Prop) : Prop :=
  ∀ (σ' : L2.St) (ι' : List Addr) (As' : Foot) (F' H' : Hp), Evo (own As) (own As') F H F' H' → Pre ι ι' → Mem X.K ι' As' F' H' σ' s' → Prot io σ σ' → k σ' H'
def PostR (X : Cx) (io : List Nat) (ι : List Addr) (As : Foot) (F H : Hp) (σ : L2.St) (o : O) (s' : S) (Q : VK) : Prop := ∀ σ', Prot io σ σ' → PostE X ι As F H σ' o s' Q
def PostT (X : Cx) (io : List Nat) (ι : List Addr) (As : Foot) (F H : Hp) (σ : L2.St) (t : T) (D : Ends) (W : WX) : Prop := match t with
  | .nx s' => PostN X io ι As F H σ s' D.nx
  | .rt o s' => PostR X io ι As F H σ o s' D.rt
  | .bk s' => PostN X io ι As F H σ s' D.bk
  | .ct s' => PostN X io ι As F H σ s' D.ct
  | .ex c fs s' => ∀ σ', Prot io σ σ' → PostX X ι As F H σ' c fs s' W
  | .st => False
def DS (C : Ctx) (st : Stmt) (g : MT) : Prop := ∀ (X : Cx), At C X → ∀ (ι : List Addr) (As : Foot) (F H : Hp) (σ : L2.St) (s : S), Mem X.K ι As F H σ s → ∀ (D : Ends) (W : WX),
  (IsXT (g s) → Takes X W) → PostT X C.io ι As F H σ (g s) D W → sW X st D σ H
def DSs (C : Ctx) (st : List Stmt) (g : MT) : Prop := ∀ (X : Cx), At C X → ∀ (ι : List Addr) (As : Foot) (F H : Hp) (σ : L2.St) (s : S), Mem X.K ι As F H σ s → ∀ (D : Ends) (W : WX),
  (IsXT (g s) → Takes X W) → PostT X C.io ι As F H σ (g s) D W → ssW X st D σ H
theorem prot_refl {io : List Nat} {σ : L2.St} : Prot io σ σ := fun _ _ => rfl
theorem prot_trans {io : List Nat} {σ σ1 σ2 : L2.St} (h : Prot io σ σ1) (g : Prot io σ1 σ2) : Prot io σ σ2 := fun i hi => (g i hi).trans (h i hi)
theorem PostN.step {X : Cx} {io : List Nat} {ι ι1 : List Addr} {As As1 : Foot} {P1 : Addr → Prop} {F H F1 H1 : Hp} {σ σ1 : L2.St} {k : L2.St → Hp → Prop} {s' : S} (p : PostN X io ι As F H σ s' k) (ev : Evo (own As) P1 F H F1 H1) (i : Pre ι ι1) (h : ∀ a, own As1 a → P1 a) (hp : Prot io σ σ1) : PostN X io ι1 As1 F1 H1 σ1 s' k :=
  fun σ' ι' As' F' H' ev' i' m q => p σ' ι' As' F' H' (ev.trans (ev'.pre h)) (i.trans i') m (prot_trans hp q)
theorem PostT.step {X : Cx} {io : List Nat} {ι ι1 : List Addr} {As As1 : Foot} {P1 : Addr → Prop} {F H F1 H1 : Hp} {σ σ1 : L2.St} {D : Ends} {W : WX} {t : T} (p : PostT X io ι As F H σ t D W) (ev : Evo (own As) P1 F H F1 H1) (i : Pre ι ι1) (h : ∀ a, own As1 a → P1 a) (hp : Prot io σ σ1) : PostT X io ι1 As1 F1 H1 σ1 t D W := by
  cases t with
  | nx s => exact PostN.step p ev i h hp
  | rt o s => exact fun σ' q => PostE.step (p σ' (prot_trans hp q)) ev i h
  | bk s => exact PostN.step p ev i h hp
  | ct s => exact PostN.step p ev i h hp
  | ex c fs s => exact fun σ' q => PostX.step (p σ' (prot_trans hp q)) ev i h
  | st => exact p
theorem isXT_seq {t : T} {k : S → T} {P : Prop} (tk : IsXT (t.seq k) → P) : IsXT t → P := fun z => tk (by
  cases t <;> first | exact z.elim | trivial)
section
variable {C : Ctx}
theorem dss_nil : DSs C [] T.nx := fun X hX ι As F H σ s m D W tk p => ⟨_, pss_nil, p σ ι As F H (Evo.refl fun _ z => z) (Pre.refl _) m prot_refl⟩
theorem dss_one {st : Stmt} {g : MT} (h : DS C st g) : DSs C [st] g := fun X hX ι As F H σ s m D W tk p => ⟨_, pss_one ps_W, h X hX ι As F H σ s m D W tk p⟩
theorem dss_cons {st : Stmt} {rest : List Stmt} {g k : MT} (h : DS C st g) (hr : DSs C rest k) : DSs C (st :: rest) (fun s => (g s).seq k) := by
  intro X hX ι As F H σ s m D W tk p
  refine ⟨_, pss_cons ps_W pss_W, h X hX ι As F H σ s m { D with nx := ssW X rest D } W (isXT_seq tk) ?_⟩
  cases q : g s with
  | nx s1 =>
    simp only [q, T.seq_nx] at p tk
    intro σ1 ι1 As1 F1 H1 ev pr m1 hp
    exact hr X hX ι1 As1 F1 H1 σ1 s1 m1 D W tk (PostT.step p ev pr (fun _ z => z) hp)
  | rt o s1 => simp only [q, T.seq_rt] at p; exact p
  | bk s1 => simp only [q, T.seq_bk] at p; exact p
  | ct s1 => simp only [q, T.seq_ct] at p; exact p
  | ex c fs s1 => simp only [q, T.seq_ex] at p; exact p
  | st => simp only [q, T.seq_st] at p; exact p.elim
theorem ds_pass {pos : Pos} : DS C (.Pass pos) T.nx := fun X hX ι As F H σ s m D W tk p => ⟨_, ps_pass, p σ ι As F H (Evo.refl fun _ z => z) (Pre.refl _) m prot_refl⟩
theorem ds_break {pos : Pos} : DS C (.Break pos) T.bk := fun X hX ι As F H σ s m D W tk p => ⟨_, ps_break, p σ ι As F H (Evo.refl fun _ z => z) (Pre.refl _) m prot_refl⟩
theorem ds_continue {pos : Pos} : DS C (.Continue pos) T.ct := fun X hX ι As F H σ s m D W tk p => ⟨_, ps_continue, p σ ι As F H (Evo.refl fun _ z => z) (Pre.refl _) m prot_refl⟩
/-- a value, then what is made of it -/
theorem val_post {X : Cx} {io : List Nat} {ι : List Addr} {As : Foot} {F H : Hp} {σ : L2.St} {r : R O} {k : O → S → T} {D : Ends} {W : WX} {Q : VK} (p : PostT X io ι As F H σ (r.toT k) D W)
    (h : ∀ o s1 v B ι1 As1 F1 H1, r = .ok o s1 → Evo (own As) (fun a => own As1 a ∨ a ∈ B) F H F1 H1 → Pre ι ι1 → Mem X.K ι1 As1 F1 H1 σ s1 → Ow X.K ι1 F1 H1 v o B → B.Nodup → (∀ a ∈ B, F1 a = none ∧ ¬ own As1 a) → PostT X io ι As F H σ (k o s1) D W → Q v H1) : PostV X ι As F H σ r Q W := by
  cases r with
  | st => exact p.elim
  | ex c fs s1 => exact p σ prot_refl
  | ok o s1 =>
    intro v B ι1 As1 F1 H1 ev pr m1 w nd fr
    exact h o s1 v B ι1 As1 F1 H1 rfl ev pr m1 w nd fr p
theorem isX_toT {α : Type} {r : R α} {k : α → S → T} {P : Prop} (tk : IsXT (r.toT k) → P) : IsX r → P := fun z => tk (by
  cases r <;> first | exact z.elim | trivial)
theorem ds_ret {e : Expr} {f : M O} {pos : Pos} (h : DE C e f) : DS C (.Return (some e) pos) (fun s => (f s).toT T.rt) := by
  intro X hX ι As F H σ s m D W tk p
  refine ⟨_, ps_ret pe_W, h X hX ι As F H σ s m _ W (isX_toT tk) (val_post p fun o s1 v B ι1 As1 F1 H1 _ ev pr m1 w nd fr p => ?_)⟩
  exact p σ prot_refl v B ι1 As1 F1 H1 ev pr m1 w nd fr
theorem ds_retN {pos : Pos} : DS C (.Return none pos) (T.rt (.fz .non)) := fun X hX ι As F H σ s m D W tk p => ⟨_, ps_retN, post_new m (p σ prot_refl) New.refl m.ext (.fz .non) List.nodup_nil fun _ z => nomatch z⟩
theorem ds_expr {e : Expr} {f : M O} {pos : Pos} (h : DE C e f) (hs : ∀ env : Env, swapsWith e none pos.line env = pure false := by intro _; rfl) : DS C (.Expr e pos) (fun s => (f s).toT fun _ => T.nx) := by
  intro X hX ι As F H σ s m D W tk p
  refine ⟨_, ps_expr pe_W (hs _), h X hX ι As F H σ s m _ W (isX_toT tk) (val_post p fun o s1 v B ι1 As1 F1 H1 _ ev pr m1 w nd fr p => ?_)⟩
  exact p σ ι1 As1 F1 H1 (ev.post fun a z => .inl z) pr m1 prot_refl
def locB (sc : Scope) (x : Str) : Bool := match sc.names.lookup x with
  | some .local => true
  | some .cell => true
  | _ => false
theorem loc_of {sc : Scope} {x : Str} (h : locB sc x = true) : L2.Loc sc x := by
  unfold locB at h
  unfold L2.Loc
  cases q : sc.names.lookup x with
  | none => rw [q] at h; cases h
  | some k =>
    rw [q] at h
    cases k with
    | «local» => exact .inl rfl
    | cell => exact .inr rfl
    | _ => cases h
/-- a name that may be stored to -/
def storB (sc : Scope) (cel : List Str) (x : Str) : Bool := match sc.names.lookup x with
  | some .local => true
  | some .cell => cel.contains x
  | _ => false
theorem stor_loc {sc : Scope} {cel : List Str} {x : Str} (h : storB sc cel x = true) : L2.Loc sc x := by
  unfold storB at h
  unfold L2.Loc
  cases q : sc.names.lookup x with
  | none => rw [q] at h; cases h
  | some k =>
    rw [q] at h
    cases k with
    | «local» => exact .inl rfl
    | cell => exact .inr rfl
    | _ => cases h
theorem At.stores {X : Cx} (hX : At C X) {x : Str} (h : storB C.sc C.cel x = true) : X.fn x = true ∨ X.env.scope.names.lookup x = some .local := by
  unfold storB at h
  rw [hX.sc]
  cases q : C.sc.names.lookup x with
  | none => rw [q] at h; cases h
  | some k =>
    rw [q] at h
    cases k with
    | «local» => exact .inr rfl
    | cell => exact .inl (hX.fn x h)
    | _ => cases h
theorem io_of {io : List Nat} {i : Nat} (h : io.contains i = false) : i ∉ io := fun z => by
  have e : io.contains i = true := by simpa using z
  rw [h] at e
  cases e
theorem ios_of {io tl : List Nat} (h : (tl.all fun i => !io.contains i) = true) : ∀ i ∈ tl, i ∉ io := fun i hi => io_of (by simpa using List.all_eq_true.mp h i hi)
/-- name = value -/
def mSet (i : Nat) (f : M O) : MT := fun s => (f s).toT fun o s1 => if i < s1.ρ.length then .nx { s1 with ρ := s1.ρ.set i (some o) } else .st
theorem set_step {K : PySem.W.Frag} {ι : List Addr} {As : Foot} {F H : Hp} {σ : L2.St} {s : S} {i : Nat} {v : V} {o : O} {B : List Addr} (m : Mem K ι As F H σ s) (hi : i < s.ρ.length) (w : Ow K ι F H v o B) (nd : B.Nodup) (fr : ∀ a ∈ B, F a = none ∧ ¬ own As a) :
    Mem K ι (setF As i B) F H (σ.set i (some v)) { s with ρ := s.ρ.set i (some o) } := m.set hi w nd fun a ha => ⟨(fr a ha).1, fun j _ z => (fr a ha).2 ⟨j, z⟩⟩
theorem ds_set {i : Nat} {x : Str} {e : Expr} {f : M O} {pos pos' : Pos} (h : DE C e f) (hN : C.N[i]? = some x := by rfl) (hioB : C.io.contains i = false := by rfl) (hl : storB C.sc C.cel x = true := by rfl) (hs : ∀ env : Env, swapsWith e (some (.Name x pos')) pos.line env = pure false := by intro _; rfl) : DS C (.Assign [.Name x pos'] e pos) (mSet i f) := by
  intro X hX ι As F H σ s m D W tk p
  have hio : i ∉ C.io := io_of hioB
  unfold mSet at p tk
  refine ⟨_, ps_set (i := i) hX.nd (by rw [hX.N]; exact hN) (by rw [hX.sc]; exact stor_loc hl) pe_W (hs _) (hX.stores hl), h X hX ι As F H σ s m _ W (isX_toT tk) (val_post p fun o s1 v B ι1 As1 F1 H1 _ ev pr m1 w nd fr p => ?_)⟩
  by_cases hi : i < s1.ρ.length
  · rw [if_pos hi] at p
    refine p _ ι1 (setF As1 i B) F1 H1 (ev.post fun a z => ?_) pr (set_step m1 hi w nd fr) fun j hj => ?_
    · rcases own_setF z with z | z
      · exact .inr z
      · exact .inl z
    · exact List.getElem?_set_ne fun e : i = j => hio (by rw [e]; exact hj)
  · rw [if_neg hi] at p; exact p.elim
theorem ds_if {c : Expr} {a b : List Stmt} {f : M Bool} {g g' : MT} {pos : Pos} (hc : DT C c f) (ha : DSs C a g) (hb : DSs C b g') : DS C (.If c a b pos) (fun s => (f s).toT fun k => if k then g else g') := by
  intro X hX ι As F H σ s m D W tk p
  refine ⟨_, ps_if pt_W pss_W pss_W, hc X hX ι As F H σ s m _ W (isX_toT tk) ?_⟩
  cases q : f s with
  | st => simp only [q, R.toT_st] at p; exact p.elim
  | ex c fs s1 => simp only [q, R.toT_ex] at p; exact p σ prot_refl
  | ok k s1 =>
    simp only [q, R.toT_ok] at p tk
    intro ι1 As1 F1 H1 ev pr m1
    have p1 := PostT.step p ev pr (fun _ z => z) (prot_refl (σ := σ))
    cases k with
    | true =>
      rw [if_pos rfl] at p1 tk ⊢
      exact ha X hX ι1 As1 F1 H1 σ s1 m1 D W tk p1
    | false =>
      rw [if_neg (by decide)] at p1 tk ⊢
      exact hb X hX ι1 As1 F1 H1 σ s1 m1 D W tk p1

/-! ### rows of values -/
def PostA (X : Cx) (ι : List Addr) (As : Foot) (F H : Hp) (σ : L2.St) (r : R (List O)) (Q : List V → Hp → Prop) (W : WX) : Prop := match r with
  | .ok os s' => ∀ (vs : List V) (B ι' : List Addr) (As' : Foot) (F' H' : Hp), Evo (own As) (fun a => own As' a ∨ a ∈ B) F H F' H' → Pre ι ι' → Mem X.K ι' As' F' H' σ s' → OwAll X.K ι' F' H' vs os B → B.Nodup → (∀ a ∈ B, F' a = none ∧ ¬ own As' a) → Q vs H'
  | .ex c fs s' => PostX X ι As F H σ c fs s' W
  | .st => False
def DA (C : Ctx) (es : List Expr) (f : M (List O)) : Prop := ∀ (X : Cx), At C X → ∀ (ι : List Addr) (As : Foot) (F H : Hp) (σ : L2.St) (s : S), Mem X.K ι As F H σ s → ∀ (Q : List V → Hp → Prop) (W : WX),
  (IsX (f s) → Takes X W) → PostA X ι As F H σ (f s) Q W → aW X es σ H Q
theorem da_nil : DA C [] (M.pure []) := fun X hX ι As F H σ s m Q W tk p => ⟨_, pa_nil, p [] [] ι As F H (Evo.refl fun a z => z.elim id fun z => nomatch z) (Pre.refl _) m .nil List.nodup_nil fun _ z => nomatch z⟩
theorem da_cons {e : Expr} {es : List Expr} {f : M O} {g : M (List O)} (h : DE C e f) (hr : DA C es g) (hs : ∀ env : Env, starEach (e :: es) env = (false, eval e env) :: starEach es env := by intro _; rfl) :
    DA C (e :: es) (f.bind fun o => g.bind fun os => M.pure (o :: os)) := by
  intro X hX ι As F H σ s m Q W tk p
  refine ⟨_, pa_cons pe_W pa_W (hs _), h X hX ι As F H σ s m _ W (isX_of tk) ?_⟩
  simp only [M.bind_def] at p tk
  cases q : f s with
  | st => rw [q] at p; exact p.elim
  | ex c fs s1 => rw [q] at p; exact p
  | ok o s1 =>
    rw [q] at p tk
    simp only [R.bind_ok] at p tk
    intro v B ι1 As1 F1 H1 ev pr m1 w nd fr
    refine hr X hX ι1 As1 F1 H1 σ s1 m1 _ W (isX_of tk) ?_
    cases q2 : g s1 with
    | st => rw [q2] at p; exact p.elim
    | ex c fs s2 =>
      rw [q2] at p
      exact PostX.step p ev pr fun _ z => .inl z
    | ok os s2 =>
      rw [q2] at p
      simp only [R.bind_ok] at p
      intro vs B2 ι2 As2 F2 H2 ev2 pr2 m2 w2 nd2 fr2
      have nB : ∀ a ∈ B, ¬ own As1 a := fun a ha => (fr a ha).2
      have keep : ∀ a ∈ B, ∀ u, H1 a = some u → H2 a = some u := fun a ha u hu => ev2.keep a u hu (nB a ha)
      have nn : ∀ a ∈ B, H1 a ≠ none := fun a ha => w.there a ha
      have nf : ∀ a ∈ B, ¬ (own As2 a ∨ a ∈ B2) := fun a ha z => by
        rcases ev2.foot a z with z | z
        · exact nB a ha z
        · exact nn a ha z
      refine p (v :: vs) (B ++ B2) ι2 As2 F2 H2 ?_ (pr.trans pr2) m2 (.cons (w.mono ev2.ext pr2 keep) w2) ?_ ?_
      · refine (ev.trans (ev2.pre fun a z => .inl z)).post' (R := fun a => a ∈ B) ?_ ?_
        · intro a z
          rcases z with z | z
          · exact .inl (.inl z)
          · rcases List.mem_append.mp z with z | z
            · exact .inr z
            · exact .inl (.inr z)
        · intro a z
          rcases ev.foot a (.inr z) with q | q
          · exact .inl q
          · exact .inr q
      · exact List.nodup_append.mpr ⟨nd, nd2, fun a ha b hb e => nf a ha (.inr (e ▸ hb))⟩
      · intro a ha
        rcases
                List.mem_append.mp ha with ha | ha
        · refine ⟨?_, fun z => nf a ha (.inl z)⟩
          cases q : F2 a with
          | none => rfl
          | some u =>
            rcases ev2.grow a u q with ⟨w', z⟩ | z | z
            · rw [(fr a ha).1] at z; cases z
            · exact (nB a ha z).elim
            · exact (nn a ha z).elim
        · exact fr2 a ha
end
end VL
namespace VL
open PySem PySem.Spec
open PyProof.Rows L2
section
variable {C : Ctx}
/-! ### displays -/
/-- what is owned is frozen -/
theorem freezeAll {K : PySem.W.Frag} {ι : List Addr} {As : Foot} {P : Addr → Prop} {F0 H0 F H : Hp} {σ : L2.St} {s : S} {vs : List V} {os : List O} {ds : List D} {B : List Addr} (m : Mem K ι As F H σ s) (ev : Evo P (fun a => own As a ∨ a ∈ B) F0 H0 F H)
    (w : OwAll K ι F H vs os B) (fr : ∀ a ∈ B, F a = none ∧ ¬ own As a) (e : O.frzAll os = some ds) :
    ∃ F', Evo P (own As) F0 H0 F' H ∧ Mem K ι As F' H σ s ∧ RdAll K ι F' vs ds := by
  have je : Ex F (join F H B) := join_ext fun a ha => (fr a ha).1
  refine ⟨join F H B, ⟨Same.trans ev.ext je, ev.keep, fun a u q => ?_, fun a q => ev.foot a (.inl q), ev.there⟩, m.keepN je (join_in m.ext) (fun _ _ _ q => q) (fun a q => join_none (m.own_none q) fun z => (fr a z).2 q), w.freeze je e join_at⟩
  rcases join_of q with q | q
  · exact ev.grow a u q
  · rcases ev.foot a (.inr q) with z | z
    · exact .inr (.inl z)
    · exact .inr (.inr z)
/-- (a, b, ..) -/
def mTup (f : M (List O)) : M O := f.bind fun os => match O.frzAll os with
  | some ds => fun s => if ds.length ≤ 1000 then .ok (.fz (.tup ds)) s else .st
  | none => M.st
theorem le_line {n : Nat} (h : n ≤ 1000) : n ≤ sizeLine := Nat.le_of_lt (small1000 h)
theorem de_tup {es : List Expr} {f : M (List O)} {x : Nat} {pos : Pos} (h : DA C es f) : DE C (.Tuple es x pos) (mTup f) := by
  intro X hX ι As F H σ s m Q W tk p
  unfold mTup at p tk
  refine tW_of (pe_tup pa_W) (h X hX ι As F H σ s m _ W (isX_of tk) ?_)
  simp only [M.bind_def] at p
  cases q : f s with
  | st => rw [q] at p; exact p.elim
  | ex c fs s1 => rw [q] at p; exact p
  | ok os s1 =>
    rw [q] at p
    simp only [R.bind_ok] at p
    intro vs B ι1 As1 F1 H1 ev pr m1 w nd fr
    cases e : O.frzAll os with
    | none => rw [e] at p; exact p.elim
    | some ds =>
      rw [e] at p
      by_cases hl : ds.length ≤ 1000
      · simp only [hl, if_true] at p
        obtain ⟨F2, ev2, m2, r⟩ := freezeAll m1 ev w fr e
        refine ⟨le_line (by rw [r.length]; exact hl), fun a ha => ?_⟩
        refine post_new m2 (PostE.step p ev2 pr fun _ z => z) (New.frozen m2.ext ha) (upd_ex m2.ext) (.fz (.tup upd_same (r.mono (New.frozen (u := .tup vs) m2.ext ha).ext (Pre.refl _)))) List.nodup_nil fun _ z => nomatch z
      · simp only [hl, if_false] at p; exact p.elim
/-- [a, b, ..] -/
def mLst (f : M (List O)) : M O := f.bind fun os s => if os.length ≤ 1000 then .ok (.lst os) s else .st
theorem de_lst {es : List Expr} {f : M (List O)} {pos : Pos} (h : DA C es f) : DE C (.List es pos) (mLst f) := by
  intro X hX ι As F H σ s m Q W tk p
  unfold mLst at p tk
  refine tW_of (pe_lst pa_W) (h X hX ι As F H σ s m _ W (isX_of tk) ?_)
  simp only [M.bind_def] at p
  cases q : f s with
  | st => rw [q] at p; exact p.elim
  | ex c fs s1 => rw [q] at p; exact p
  | ok os s1 =>
    rw [q] at p
    simp only [R.bind_ok] at p
    intro vs B ι1 As1 F1 H1 ev pr m1 w nd fr
    by_cases hl : os.length ≤ 1000
    · simp only [hl, if_true] at p
      refine ⟨le_line (by rw [w.length]; exact hl), fun a ha => ?_⟩
      have n := New.owned (F := F1) (u := .lst vs) ha
      have nb : a ∉ B := fun z => w.there a z ha
      have m2 := m1.keepN (F' := F1) (Same.refl _) (fun b u z => n.keep b u (m1.ext b u z) fun y => y) (fun b _ u z => n.keep b u z fun y => y) fun b z => m1.own_none z
      refine p (.ref a) (a :: B) ι1 As1 F1 (upd H1 a (.lst vs)) ⟨ev.ext, fun b u q z => n.keep b u (ev.keep b u q z) fun y => y, ev.grow, fun b z => ?_, fun b z => ev.there b (n.there b z)⟩ pr m2 (.lst upd_same (w.mono (Same.refl _) (Pre.refl _) fun b _ u z => n.keep b u z fun y => y)) (List.nodup_cons.mpr ⟨nb, nd⟩) fun b z => ?_
      · rcases z with z | z
        · exact ev.foot b (.inl z)
        · rcases
                List.mem_cons.mp z with z | z
          · subst z; exact .inr (ev.there _ ha)
          · exact ev.foot b (.inr z)
      · rcases
              List.mem_cons.mp z with z | z
        · subst z
          exact ⟨ex_none m1.ext ha, fun y => m1.own_there y ha⟩
        · exact fr b z
    · simp only [hl, if_false] at p; exact p.elim

/-! ### rows of operands, calls of built-ins -/
inductive OpAll (K : PySem.W.Frag) (ι : List Addr) (F : Hp) (σ : L2.St) : List V → List Opnd → Prop
  | nil : OpAll K ι F σ [] []
  | cons {v : V} {vs : List V} {o : Opnd} {os : List Opnd} : OpRd K ι F σ v o → OpAll K ι F σ vs os → OpAll K ι F σ (v :: vs) (o :: os)
theorem OpAll.mono {K : PySem.W.Frag} {ι ι' : List Addr} {F F' : Hp} {σ : L2.St} (e : Ex F F') (p : Pre ι ι') : ∀ {vs : List V} {os : List Opnd}, OpAll K ι F σ vs os → OpAll K ι' F' σ vs os
  | _, _, .nil => .nil
  | _, _, .cons h r => .cons (h.mono e p) (r.mono e p)
inductive OwVs (K : PySem.W.Frag) (ι : List Addr) (F H : Hp) : List V → List O → Prop
  | nil : OwVs K ι F H [] []
  | cons {v : V} {vs : List V} {o : O} {os : List O} (A : List Addr) : Ow K ι F H v o A → OwVs K ι F H vs os → OwVs K ι F H (v :: vs) (o :: os)
def opvs : List Opnd → S → Option (List O)
  | [], _ => some []
  | o :: os, s => match opv o s with
    | some x => match opvs os s with
      | some xs => some (x :: xs)
      | none => none
    | none => none
theorem opvs_ow {K : PySem.W.Frag} {ι : List Addr} {As : Foot} {F H : Hp} {σ : L2.St} {s : S} (m : Mem K ι As F H σ s) : ∀ {vs : List V} {os : List Opnd} {xs : List O}, OpAll K ι F σ vs os → opvs os s = some xs → OwVs K ι F H vs xs
  | _, _, _, .nil, e => by
    cases e
    exact .nil
  | _, _, _, .cons (o := o) (os := os) h r, e => by
    unfold opvs at e
    cases e1 : opv o s with
    | none => simp [e1] at e
    | some x =>
      cases e2 : opvs os s with
      | none => simp [e1, e2] at e
      | some xs =>
        simp only [e1, e2, Option.some.injEq] at e
        subst e
        obtain ⟨A, w⟩ := opv_ow m h e1
        exact .cons A w (opvs_ow m r e2)
def PostOs (X : Cx) (ι : List Addr) (As : Foot) (F H : Hp) (σ : L2.St) (r : R (List Opnd)) (Q : List V → Hp → Prop) (W : WX) : Prop := match r with
  | .ok os s' => ∀ (vs : List V) (ι' : List Addr) (As' : Foot) (F' H' : Hp), Evo (own As) (own As') F H F' H' → Pre ι ι' → Mem X.K ι' As' F' H' σ s' → OpAll X.K ι' F' σ vs os → Q vs H'
  | .ex c fs s' => PostX X ι As F H σ c fs s' W
  | .st => False
def DOs (C : Ctx) (es : List Expr) (f : M (List Opnd)) : Prop := ∀ (X : Cx), At C X → ∀ (ι : List Addr) (As : Foot) (F H : Hp) (σ : L2.St) (s : S), Mem X.K ι As F H σ s → ∀ (Q : List V → Hp → Prop) (W : WX),
  (IsX (f s) → Takes X W) → PostOs X ι As F H σ (f s) Q W → aW X es σ H Q
theorem dos_nil : DOs C [] (M.pure []) := fun X hX ι As F H σ s m Q W tk p => ⟨_, pa_nil, p [] ι As F H (Evo.refl fun _ z => z) (Pre.refl _) m .nil⟩
theorem dos_cons {e : Expr} {es : List Expr} {f : M Opnd} {g : M (List Opnd)} (h : DO C e f) (hr : DOs C es g) (hs : ∀ env : Env, starEach (e :: es) env = (false, eval e env) :: starEach es env := by intro _; rfl) :
    DOs C (e :: es) (f.bind fun o => g.bind fun os => M.pure (o :: os)) := by
  intro X hX ι As F H σ s m Q W tk p
  refine ⟨_, pa_cons pe_W pa_W (hs _), h X hX ι As F H σ s m _ W (isX_of tk) ?_⟩
  simp only [M.bind_def] at p tk
  cases q : f s with
  | st => rw [q] at p; exact p.elim
  | ex c fs s1 => rw [q] at p; exact p
  | ok o s1 =>
    rw [q] at p tk
    simp only [R.bind_ok] at p tk
    intro v ι1 As1 F1 H1 ev pr m1 ro
    refine hr X hX ι1 As1 F1 H1 σ s1 m1 _ W (isX_of tk) ?_
    cases q2 : g s1 with
    | st => rw [q2] at p; exact p.elim
    | ex c fs s2 =>
      rw [q2] at p
      exact PostX.step p ev pr fun _ z => z
    | ok os s2 =>
      rw [q2] at p
      simp only [R.bind_ok] at p
      intro vs ι2 As2 F2 H2 ev2 pr2 m2 ros
      exact p (v :: vs) ι2 As2 F2 H2 (ev.trans ev2) (pr.trans pr2) m2 (.cons (ro.mono ev2.ext pr2) ros)
def CbOk (f : Value) (h : List O → Option O) : Prop := ∀ (X : Cx) (k : Nat), Room k X.A → X.A.guards = some [] → X.calm = true → ∀ (xs : List O) (o : O), h xs = some o → ∀ (ι : List Addr) (F H : Hp) (vs : List V) (Q : VK), Ex F H → OwVs X.K ι F H vs xs →
  (∀ v Bo F' H', New F H F' H' Bo → Ex F' H' → Ow X.K ι F' H' v o Bo → Bo.Nodup → (∀ a ∈ Bo, F' a = none) → Q v H') → cW X f vs H Q
def opN (h : List O → Option O) (os : List Opnd) : M O := fun s => match opvs os s with
  | some xs => match h xs with
    | some o => .ok o s
    | none => .st
  | none => .st
theorem opN_post {X : Cx} {f : Value} {h : List O → Option O} (ho : CbOk f h) {k : Nat} (hr : Room k X.A) (hgd : X.A.guards = some []) (hc : X.calm = true) {ι : List Addr} {As : Foot} {F H : Hp} {σ : L2.St} {s : S} {Q : VK} {W : WX} {os : List Opnd} {vs : List V}
    (m : Mem X.K ι As F H σ s) (r : OpAll X.K ι F σ vs os) (p : PostV X ι As F H σ (opN h os s) Q W) : cW X f vs H Q := by
  unfold opN at p
  cases e1 : opvs os s with
  | none => rw [e1] at p; exact p.elim
  | some xs =>
    rw [e1] at p
    cases e3 : h xs with
    | none => simp only [e3] at p; exact p.elim
    | some o =>
      simp only [e3] at p
      exact ho X k hr hgd hc xs o e3 ι F H vs Q m.ext (opvs_ow m r e1) fun v Bo F' H' n x' w nd fr => post_new m p n x' w nd fr
theorem row {X : Cx} {es : List Expr} {f : M (List Opnd)} {g : List Opnd → M O} (hX : At C X) (h : DOs C es f) {ι : List Addr} {As : Foot} {F H : Hp} {σ : L2.St} {s : S} (m : Mem X.K ι As F H σ s) {Q : VK} {W : WX} {r : List V → Hp → VK → Prop}
    (tk : IsX ((f.bind g) s) → Takes X W) (p : PostV X ι As F H σ ((f.bind g) s) Q W)
    (k : ∀ ι As F H s os vs, Mem X.K ι As F H σ s → OpAll X.K ι F σ vs os → PostV X ι As F H σ (g os s) Q W → r vs H Q) : tCB r (aW X es) σ H Q := by
  refine h X hX ι As F H σ s m _ W (isX_of tk) ?_
  simp only [M.bind_def] at p
  cases q : f s with
  | st => rw [q] at p; exact p.elim
  | ex c fs s1 => rw [q] at p; exact p
  | ok os s1 =>
    rw [q] at p
    intro vs ι1 As1 F1 H1 ev pr m1 ro
    exact k ι1 As1 F1 H1 s1 os vs m1 ro (PostV.step p ev pr fun _ z => z)
theorem de_callB {x : Str} {id : String} {h : List O → Option O} {e : Expr} {es : List Expr} {f : M (List Opnd)} {p pos : Pos} (ho : CbOk (.builtin id) h) (ha : DOs C (e :: es) f) (hm : C.mg x = none) (hv : bootBuiltins x = some (.builtin id)) (hg : glB C.sc x = true := by rfl)
    (hn : x ≠ "__name__" := by decide) (hdb : (x == ("__debug__" : Str)) = false := by decide)
    (he : ∀ env : Env, starEach (e :: es) env = (false, eval e env) :: starEach es env := by intro _; rfl) (hpl : ∀ env : Env, (backTo pos (starEach es env)).any (·.1) = false := by intro _; rfl) : DE C (.Call (.Name x p) (e :: es) [] pos) (f.bind (opN h)) := by
  intro X hX ι As F H σ s m Q W tk p
  exact tW_of (pe_callB cW_ok (gl_of hX.sc hg) (by rw [hX.mg]; exact hm) hv pa_W hn hdb (he _) (hpl _)) (row hX ha m tk p fun ι As F H s os vs m r p => opN_post ho hX.room hX.gd hX.calm m r p)
theorem de_callT {x : Str} {id : String} {h : List O → Option O} {e : Expr} {es : List Expr} {f : M (List Opnd)} {p pos : Pos} (ho : CbOk (.type id) h) (ha : DOs C (e :: es) f) (hm : C.mg x = none) (hv : bootBuiltins x = some (.type id)) (hg : glB C.sc x = true := by rfl)
    (hn : x ≠ "__name__" := by decide) (hdb : (x == ("__debug__" : Str)) = false := by decide)
    (he : ∀ env : Env, starEach (e :: es) env = (false, eval e env) :: starEach es env := by intro _; rfl) (hpl : ∀ env : Env, (backTo pos (starEach es env)).any (·.1) = false := by intro _; rfl) : DE C (.Call (.Name x p) (e :: es) [] pos) (f.bind (opN h)) := by
  intro X hX ι As F H σ s m Q W tk p
  exact tW_of (pe_callTy cW_ok (gl_of hX.sc hg) (by rw [hX.mg]; exact hm) hv pa_W hn hdb (he _) (hpl _)) (row hX ha m tk p fun ι As F H s os vs m r p => opN_post ho hX.room hX.gd hX.calm m r p)
end
end VL
namespace VL
open PySem PySem.Spec
open PyProof.Rows L2
/-! ### functions -/
/-- what a def hands back: its value, what it leaves of what it was lent, how many objects have a number -/
inductive FR where
  | ok (o : O) (outs : List (Option O)) (n : Nat) | ex (c : Str) (fs : List (Str × D)) (outs : List (Option O)) (n : Nat) | st
  deriving Inhabited
abbrev FnM := List O → Nat → FR
def pick (io : List Nat) (l : List (Option O)) : Nat → List (Option O) → List (Option O)
  | _, [] => []
  | i, _ :: r => (if i ∈ io then (match l[i]? with | some x => x | none => none) else none) :: pick io l (i + 1) r
/-- the parameters that are handed back, as they stand at the end -/
def handed (io : List Nat) (np : Nat) (s : S) : List (Option O) := (List.range np).map fun i => if i ∈ io then (match s.ρ[i]? with | some x => x | none => none) else none
def T.toFR (io : List Nat) (np : Nat) (t : T) : FR := match t with
  | .nx s => .ok (.fz .non) (handed io np s) s.n
  | .rt o s => .ok o (handed io np s) s.n
  | .ex c fs s => .ex c fs (handed io np s) s.n
  | _ => .st
/-- the names at the entry -/
def entry (nn : Nat) (os : List O) (n : Nat) : S := ⟨os.map some ++ List.replicate (nn - os.length) none, n⟩
def PostF (K : PySem.W.Frag) (ι : List Addr) (As : Foot) (F H : Hp) (vs : List V) (r : FR) (Q : VK) (E : XK) : Prop := match r with
  | .ok o outs n => ∀ (v : V) (B ι' : List Addr) (As' : Foot) (F' H' : Hp), Evo (own As) (fun a => own As' a ∨ a ∈ B) F H F' H' → Pre ι ι' → Mem K ι' As' F' H' (vs.map some) ⟨outs, n⟩ → Ow K ι' F' H' v o B → B.Nodup → (∀ a ∈ B, F' a = none ∧ ¬ own As' a) → Q v H'
  | .ex c fs outs n => ∀ (d : Addr) (ι' : List Addr) (As' : Foot) (F' H' : Hp), Evo (own As) (own As') F H F' H' → Pre ι ι' → Mem K ι' As' F' H' (vs.map some) ⟨outs, n⟩ → ExAt K ι' F' H' d fs → E (.ref (He.ga K c)) (some d) H'
  | .st => False
/-- the promise of a def -/
def spOf (K : PySem.W.Frag) (np : Nat) (g : FnM) : Sp := fun vs H Q E => ∃ (ι : List Addr) (As : Foot) (F : Hp) (os : List O), vs.length = np ∧ os.length = np ∧ Mem K ι As F H (vs.map some) ⟨os.map some, ι.length⟩ ∧ PostF K ι As F H vs (g os ι.length) Q E
/-- a def keeps its promise wherever no repr runs -/
structure FnG (P : Program) (w : World) (K : PySem.W.Frag) (mg : Str → Option Value) (base : Heap) (k : Nat) (f : Addr) (fd : FuncData) (ps : List Str) (sp : Sp) : Prop where
  len
          : ∀ vs H Q E, sp vs H Q E → vs.length = ps.length
  run : ∀ (A : Around) (outer : List Env) (s : Shared) (H : Hp) (args : Args) (us : List Value) (vs : List V) (Q : VK) (E : XK),
    Room k A → A.guards = some [] → Env0 P w K mg base A outer s H → BindsTo s fd args (ps.zip us) → Vals vs us → sp vs H Q E →
    codeAny (model P w) A (.call (.ref f) args) (CR (L2.CX P w) outer P w H s Q E) s
theorem FnG.mono {P : Program} {w : World} {K : PySem.W.Frag} {mg : Str → Option Value} {base : Heap} {j k : Nat} {f : Addr} {fd : FuncData} {ps : List Str} {sp : Sp} (F : FnG P w K mg base j f fd ps sp) (h : j ≤ k) : FnG P w K mg base k f fd ps sp :=
  ⟨F.len, fun A outer s H args us vs Q E hr => F.run A outer s H args us vs Q E (hr.mono h)⟩
/-- a def of the text denotes g -/
structure FD (P : Program) (w : World) (K : PySem.W.Frag) (mg : Str → Option Value) (base : Heap) (x : Str) (k : Nat) (ps : List Str) (g : FnM) : Prop where
  ok : ∃ (f : Addr) (fd : FuncData), mg x = some (.ref f) ∧ PySem.W.keepIn K (.ref f) = true ∧ Binds K fd ps [] ∧ FnG P w K mg base k f fd ps (spOf K ps.length g)

theorem handed_at {io : List Nat} {np : Nat} {s : S} {i : Nat} {o : O} (h : (handed io np s)[i]? = some (some o)) : i ∈ io ∧ i < np ∧ s.ρ[i]? = some (some o) := by
  unfold handed at h
  rw [List.getElem?_map] at h
  cases q : (List.range np)[i]? with
  | none => rw [q] at h; cases h
  | some j =>
    rw [q] at h
    simp only [Option.map_some, Option.some.injEq] at h
    obtain ⟨h1, h2⟩ := List.getElem?_eq_some_iff.mp q
    have e : j = i := by simpa using h2.symm
    subst e
    have hl : j < np := by simpa using h1
    by_cases hi : j ∈ io
    · rw [if_pos hi] at h
      cases r : s.ρ[j]? with
      | none => rw [r] at h; cases h
      | some y => rw [r] at h; exact ⟨hi, hl, by rw [show y = some o from h]⟩
    · rw [if_neg hi] at h; cases h
/-- what is handed back, seen by the caller -/
theorem Mem.handed {K : PySem.W.Frag} {ι : List Addr} {As : Foot} {F H : Hp} {σ : L2.St} {s : S} {io : List Nat} {np : Nat} {vs : List V} (m : Mem K ι As F H σ s) (hl : vs.length = np) (hs : ∀ i ∈ io, i < np → σ[i]? = (vs.map some)[i]?) :
    Mem K ι (fun i => if i ∈ io ∧ i < np then As i else []) F H (vs.map some) ⟨VL.handed io np s, s.n⟩ where
  ext := m.ext
  num := m.num
  ij := m.ij
  len := by simp [VL.handed, hl]
  at_ := fun i o h => by
    obtain ⟨h1, h2, h3⟩ := handed_at h
    obtain ⟨v, e, w⟩ := m.at_ i o h3
    exact ⟨v, by rw [← hs i h1 h2]; exact e, by rw [if_pos ⟨h1, h2⟩]; exact w⟩
  nd := fun i => by
    by_cases h : i ∈ io ∧ i < np
    · simp only [h, and_self, if_true]; exact m.nd i
    · rw [if_neg h]; exact List.nodup_nil
  ap := fun i j a ne hi hj => by
    by_cases h : i ∈ io ∧ i < np
    · rw [if_pos h] at hi
      by_cases h2 : j ∈ io ∧ j < np
      · rw [if_pos h2] at hj; exact m.ap i j a ne hi hj
      · rw [if_neg h2] at hj; cases hj
    · rw [if_neg h] at hi; cases hi
  fr := fun i a h => by
    by_cases q : i ∈ io ∧ i < np
    · rw [if_pos q] at h; exact m.fr i a h
    · rw [if_neg q] at h; cases h
  th := fun i a h => by
    by_cases q : i ∈ io ∧ i < np
    · rw [if_pos q] at h; exact m.th i a h
    · rw [if_neg q] at h; cases h
theorem own_handed {As : Foot} {io : List Nat} {np : Nat} {a : Addr} (h : own (fun i => if i ∈ io ∧ i < np then As i else []) a) : own As a := by
  obtain ⟨i, h⟩ := h
  by_cases q : i ∈ io ∧ i < np
  · simp only [q, and_self, if_true] at h; exact ⟨i, h⟩
  · simp only [if_neg q] at h; cases h
/-- the memory at the entry -/
theorem Mem.entry {K : PySem.W.Frag} {ι : List Addr} {As : Foot} {F H : Hp} {vs : List V} {os : List O} {N : List Str} (m : Mem K ι As F H (vs.map some) ⟨os.map some, ι.length⟩) (hl : vs.length = os.length) (hn : os.length ≤ N.length) :
    Mem K ι (fun i => if i < os.length then As i else []) F H (L2.start N vs) (VL.entry N.length os ι.length) where
  ext := m.ext
  num := m.num
  ij := m.ij
  len := by simp only [L2.start, VL.entry, List.length_append, List.length_map, List.length_replicate]; omega
  at_ := fun i o h => by
    unfold VL.entry at h
    simp only at h
    by_cases q : i < os.length
    · rw [List.getElem?_append_left (by simpa using q)] at h
      obtain ⟨v, e, w⟩ := m.at_ i o h
      refine ⟨v, ?_, by rw [if_pos q]; exact w⟩
      unfold L2.start
      rw [List.getElem?_append_left (by simpa [hl] using q)]
      exact e
    · rw [List.getElem?_append_right (by simpa using q), List.getElem?_replicate] at h
      split at h <;> cases h
  nd := fun i => by
    by_cases h : i < os.length
    · simp only [h, if_true]; exact m.nd i
    · rw [if_neg h]; exact List.nodup_nil
  ap := fun i j a ne hi hj => by
    by_cases h : i < os.length
    · rw [if_pos h] at hi
      by_cases h2 : j < os.length
      · rw [if_pos h2] at hj; exact m.ap i j a ne hi hj
      · rw [if_neg h2] at hj; cases hj
    · rw [if_neg h] at hi; cases hi
  fr := fun i a h => by
    by_cases q : i < os.length
    · rw [if_pos q] at h; exact m.fr i a h
    · rw [if_neg q] at h; cases h
  th := fun i a h => by
    by_cases q : i < os.length
    · rw [if_pos q] at h; exact m.th i a h
    · rw [if_neg q] at h; cases h
theorem own_entry {As : Foot} {n : Nat} {a : Addr} (h : own (fun i => if i < n then As i else []) a) : own As a := by
  obtain ⟨i, h⟩ := h
  by_cases q : i < n
  · simp only [q, if_true] at h; exact ⟨i, h⟩
  · simp only [if_neg q] at h; cases h
theorem start_at {N : List Str} {vs : List V} {i : Nat} (h : i < vs.length) : (L2.start N vs)[i]? = (vs.map some)[i]? := by
  unfold L2.start
  rw [List.getElem?_append_left (by simpa using h)]
def cellsOf (sc : Scope) : List Str := sc.names.filterMap fun y => match y.2 with
  | .cell => some y.1
  | _ => none
/-- a def by its body, told by a reading of the body -/
theorem fnG_of {P : Program} {w : World} {K : PySem.W.Frag} {mg : Str → Option Value} {base : Heap} {k : Nat} {f : Addr} {nm qual : Str} {pr : Arguments} {body : List Stmt} {sc : Scope} {dV kV dc pm cdv ct oc : Value} {an od : Option Addr} {osl : Array (Option Value)} {N ps : List Str} {sp : Sp}
    (lk : K.lookup f = some ⟨oc, od, .func (PySem.W.fnOf nm qual pr body sc dV kV dc pm an cdv ct), osl⟩) (hcd : PySem.W.codeIn K cdv qual = true) (S : FnScope N ps sc) (len : ∀ vs H Q E, sp vs H Q E → vs.length = ps.length)
    (hb : ∀ (A : Around) (outer : List Env) (s : Shared) (H : Hp) (vs : List V) (Q : VK) (E : XK), Room k (A.deeper (envOfC qual sc s.heap.objs.size f cdv)) → A.guards = some [] → sp vs H Q E →
      ∃ t, PSs (cxOf (L2.CX P w) P w K mg base N qual sc f cdv A outer s H E) body t ∧ t { nx := fun _ H' => Q .non H', rt := Q } (L2.start N vs) H) :
    FnG P w K mg base (k + 1) f (PySem.W.fnOf nm qual pr body sc dV kV dc pm an cdv ct) ps sp where
  len := len
  run := fun A outer s H args us vs Q E room guard env0 binds rel hsp => by
    have lenV := len vs H Q E hsp
    have inK : K.In s.heap := env0.mod.kin.keeps fun b o e => (env0.bs b o e).1
    have nolim : s.heap.NoLimit := env0.mod.nolimit.keeps fun b o e => (env0.bs b o e).1
    refine codeAny_call_function room.depth (inK _ _ lk) rfl S.co S.gen rfl (PySem.W.codeRec_of inK hcd) (binds _ _ _ _ ?_)
    refine wpAny_newFunctionEnv_cells S.kind (fun y hy => (S.par y.1 (List.of_mem_zip hy).1).imp id fun q => ⟨q, PySem.W.cellsFrom_some _ _ _ (.inl q)⟩) fun env he s1 inC => ?_
    subst he
    refine ⟨nolim.keeps inC.toInCall.keep, codeAny_func ?_⟩
    obtain ⟨t, ht, hq⟩ := hb A outer s H vs Q E (room.deeper _) guard hsp
    have I : Inv (cxOf (L2.CX P w) P w K mg base N qual sc f cdv A outer s H E) [] (L2.start N vs) H s1 := inv_start S room.hd env0 lenV rel inC
    refine wpAny_mono (ht.run [] s1 _ H _ I hq) (fun fl s' hs => ?_) fun _ _ hs => hs
    cases fl with
    | ret u =>
      obtain ⟨v, σ1, H1, J, rv, q⟩ := hs
      exact ⟨v, H1, J.os, J.bare, J.base, J.hok, rv, q⟩
    | next =>
      obtain ⟨σ1, H1, J, q⟩ := hs
      exact ⟨.non, H1, J.os, J.bare, J.base, J.hok, rfl, q⟩
    | brk => exact hs.elim fun _ z => z.elim fun _ z => z.2.elim
    | cont => exact hs.elim fun _ z => z.elim fun _ z => z.2.elim
/-- THE RULE: a def of the text by its body -/
theorem fd_of {P : Program} {w : World} {K : PySem.W.Frag} {mg : Str → Option Value} {base : Heap} {x : Str} {qual : Str} {params : Arguments} {body : List Stmt} {scope : Scope} {f : Addr} {fd : FuncData} {N ps : List Str} {k : Nat} {io : List Nat} {g : MT}
    (F : FunD K x qual params body scope [] [] f fd) (hm : mg x = some (.ref f)) (S : FnScope N ps scope) (b : Binds K fd ps []) (h : DSs ⟨P, w, K, mg, base, N, scope, k, io, cellsOf scope⟩ body g) :
    FD P w K mg base x (k + 1) ps fun os n => (g (VL.entry N.length os n)).toFR io ps.length := by
  have hpl : ps.length ≤ N.length :=
          by have := congrArg List.length S.pre; rw [List.length_take] at this; omega
  obtain ⟨oc, od, dV, kV, dc, pm, an, cdv, ct, osl, e0, lk, hcd, _, _⟩ := F.ex
  refine ⟨f, fd, hm, F.kp, b, ?_⟩
  subst e0
  refine fnG_of lk hcd S (fun vs H Q E ⟨_, _, _, _, hl, _⟩ => hl) fun A outer s H vs Q E hr hgd ⟨ι, As, F0, os, hl, hl2, m, p⟩ => ?_
  have hat : At ⟨P, w, K, mg, base, N, scope, k, io, cellsOf scope⟩ (cxOf (L2.CX P w) P w K mg base N qual scope f cdv A outer s H E) := ⟨rfl, rfl, rfl, rfl, rfl, rfl, rfl, rfl, S.nd, hr, hgd, fun _ _ => rfl, passes_of rfl⟩
  have m1 : Mem K ι (fun i => if i < os.length then As i else []) F0 H (L2.start N vs) (VL.entry N.length os ι.length) := m.entry (by omega) (by omega)
  have tk : Takes (cxOf (L2.CX P w) P w K mg base N qual scope f cdv A outer s H E) (fun cls d _ H => E cls d H) := L2.takes_of rfl rfl rfl rfl
  have ev0 : Evo (own As) (own fun i => if i < os.length then As i else []) F0 H F0 H := Evo.refl fun a z => own_entry z
  have hs : ∀ {σ' : L2.St}, Prot io (L2.start N vs) σ' → ∀ i ∈ io, i < ps.length → σ'[i]? = (vs.map some)[i]? := fun {σ'} hp i hi hlt => by
    rw [hp i hi]; exact start_at (by omega)
  refine h _ hat ι _ F0 H (L2.start N vs) (VL.entry N.length os ι.length) m1 _ _ (fun _ => tk) ?_
  cases q : g (VL.entry N.length os ι.length) with
  | nx s1 =>
    simp only [q, T.toFR] at p
    intro σ' ι' As' F' H' ev pr m' hp
    exact p .non [] ι' _ F' H' ((ev0.trans ev).post' (R := fun _ => False) (fun a z => by
      rcases z with z | z
      · exact .inl (own_handed z)
      · cases z) fun a z => z.elim) pr (m'.handed hl (hs hp)) (.fz .non) List.nodup_nil fun _ z => nomatch z
  | rt o s1 =>
    simp only [q, T.toFR] at p
    intro σ' hp v B ι' As' F' H' ev pr m' w' nd fr
    exact p v B ι' _ F' H' ((ev0.trans ev).post' (R := fun _ => False) (fun a z => by
      rcases z with z | z
      · exact .inl (.inl (own_handed z))
      · exact .inl (.inr z)) fun a z => z.elim) pr (m'.handed hl (hs hp)) w' nd fun a ha => ⟨(fr a ha).1, fun z => (fr a ha).2 (own_handed z)⟩
  | ex c fs s1 =>
    simp only [q, T.toFR] at p
    intro σ' hp d ι' As' F' H' ev pr m' x
    exact p d ι' _ F' H' ((ev0.trans ev).post fun a z => own_handed z) pr (m'.handed hl (hs hp)) x
  | bk s1 => simp only [q, T.toFR] at p; exact p.elim
  | ct s1 => simp only [q, T.toFR] at p; exact p.elim
  | st => simp only [q, T.toFR] at p; exact p.elim
end VL
namespace VL
open PySem PySem.Spec
open PyProof.Rows L2
/-! ### calls of the text's own defs -/
/-- values of operands that are frozen already -/
def frzv (o : Opnd) (s : S) : Option O := match opv o s with
  | some (.fz d) => some (.fz d)
  | _ => none
/-- the arguments; the one at j0 is lent -/
def args (j0 : Option Nat) : Nat → List Opnd → S → Option (List O)
  | _, [], _ => some []
  | j, o :: os, s => match (if some j = j0 then opv o s else frzv o s) with
    | some x => match args j0 (j + 1) os s with
      | some xs => some (x :: xs)
      | none => none
    | none => none
theorem frzv_rd {K : PySem.W.Frag} {ι : List Addr} {As : Foot} {F H : Hp} {σ : L2.St} {s : S} {v : V} {o : Opnd} {x : O} (m : Mem K ι As F H σ s) (h : OpRd K ι F σ v o) (e : frzv o s = some x) : ∃ d, x = .fz d ∧ Rd K ι F v d := by
  unfold frzv at e
  cases q : opv o s with
  | none =>
          rw [q] at e; cases e
  | some y =>
    rw [q] at e
    obtain ⟨A, w⟩ := opv_ow m h q
    cases y with
    | fz d =>
      simp only [Option.some.injEq] at e
      cases w with
      | fz w => exact ⟨d, e.symm, w⟩
    | _ => cases e
theorem args_length {j0 : Option Nat} {s : S} : ∀ {os : List Opnd} {j : Nat} {xs : List O}, args j0 j os s = some xs → xs.length = os.length
  | [], _, _, e => by cases e; rfl
  | o :: os, j, xs, e => by
    unfold args at e
    split at e
    · split at e
      · rename_i h
        cases e
        simp [args_length h]
      · cases e
    · cases e
theorem OpAll.length {K : PySem.W.Frag} {ι : List Addr} {F : Hp} {σ : L2.St} : ∀ {vs : List V} {os : List Opnd}, OpAll K ι F σ vs os → vs.length = os.length
  | _, _, .nil => rfl
  | _, _, .cons _ r => by rw [List.length_cons, List.length_cons, r.length]
theorem OpAll.get {K : PySem.W.Frag} {ι : List Addr} {F : Hp} {σ : L2.St} : ∀ {vs : List V} {os : List Opnd} {i : Nat} {o : Opnd}, OpAll K ι F σ vs os → os[i]? = some o → ∃ v, vs[i]? = some v ∧ OpRd K ι F σ v o
  | _, _, _, _, .nil, h => by simp at h
  | _, _, 0, d, .cons h _, e => by simp at e; subst e; exact ⟨_, rfl, h⟩
  | _, _, i + 1, d, .cons _ r, e => by
    obtain ⟨v, h1, h2⟩ := r.get (i := i) (o := d) (by simpa using e)
    exact ⟨v, by simpa using h1, h2⟩
theorem args_get {j0 : Option Nat} {s : S} : ∀ {os : List Opnd} {j : Nat} {xs : List O} {i : Nat} {x : O}, args j0 j os s = some xs → xs[i]? = some x → ∃ o, os[i]? = some o ∧ (if some (j + i) = j0 then opv o s else frzv o s) = some x
  | [], _, _, _, _, e, h => by cases e; simp at h
  | o :: os, j, xs, i, x, e, h => by
    unfold args at e
    split at e
    · rename_i y hy
      split at e
      · rename_i ys hys
        cases e
        cases i with
        | zero =>
          simp at h
          subst h
          exact ⟨o, rfl, hy⟩
        | succ i =>
          obtain ⟨o', h1, h2⟩ := args_get (i := i) (x := x) hys (by simpa using h)
          exact ⟨o', by simpa using h1, by rw [show j + (i + 1) = j + 1 + i by omega]; exact h2⟩
      · cases e
    · cases e
/-- a call with one thing lent, at j0 (or none): what the call leaves of it goes back -/
def mCall (j0 : Option Nat) (g : FnM) (os : List Opnd) : M O := fun s => match args j0 0 os s with
  | none => .st
  | some xs => match j0 with
    | none => match g xs s.n with
      | .ok o _ n => .ok o { s with n := n }
      | .ex c fs _ n => .ex c fs { s with n := n }
      | .st => .st
    | some j => match os[j]? with
      | some (.pl i) => match g xs s.n with
        | .ok o outs n => .ok o ⟨s.ρ.set i (match outs[j]? with | some x => x | none => none), n⟩
        | .ex c fs outs n => .ex c fs ⟨s.ρ.set i (match outs[j]? with | some x => x | none => none), n⟩
        | .st => .st
      | _ => .st
section
variable {C : Ctx}
theorem mem_lent0 {K : PySem.W.Frag} {ι : List Addr} {As : Foot} {F H : Hp} {σ : L2.St} {s : S} {vs : List V} {os : List Opnd} {xs : List O} (m : Mem K ι As F H σ s) (r : OpAll K ι F σ vs os) (e : args none 0 os s = some xs) :
    Mem K ι (fun _ => []) F H (vs.map some) ⟨xs.map some, ι.length⟩ where
  ext := m.ext
  num := rfl
  ij := m.ij
  len := by simp [args_length e, r.length]
  at_ := fun i o h => by
    have h : (xs.map some)[i]? = some (some o) := h
    rw [List.getElem?_map] at h
    cases q : xs[i]? with
    | none => rw [q] at h; cases h
    | some x =>
      rw [q] at h
      simp only [Option.map_some, Option.some.injEq] at h
      subst h
      obtain ⟨p, h1, h2⟩ := args_get e q
      obtain ⟨v, h3, h4⟩ := r.get h1
      rw [if_neg (by simp)] at h2
      obtain ⟨d, e2, h5⟩ := frzv_rd m h4 h2
      subst e2
      exact ⟨v, by rw [List.getElem?_map, h3]; rfl, .fz h5⟩
  nd := fun _ => List.nodup_nil
  ap := fun _ _ _ _ h _ => nomatch h
  fr := fun _ _ h => nomatch h
  th := fun _ _ h => nomatch h
theorem mem_lent1 {K : PySem.W.Frag} {ι : List Addr} {As : Foot} {F H : Hp} {σ : L2.St} {s : S} {vs : List V} {os : List Opnd} {xs : List O} {j i : Nat} (m : Mem K ι As F H σ s) (r : OpAll K ι F σ vs os) (e : args (some j) 0 os s = some xs) (hj : os[j]? = some (.pl i)) :
    Mem K ι (fun l => if l = j then As i else []) F H (vs.map some) ⟨xs.map some, ι.length⟩ where
  ext := m.ext
  num := rfl
  ij := m.ij
  len := by simp [args_length e, r.length]
  at_ := fun l o h => by
    have h : (xs.map some)[l]? = some (some o) := h
    rw [List.getElem?_map] at h
    cases q : xs[l]? with
    | none => rw [q] at h; cases h
    | some x =>
      rw [q] at h
      simp only [Option.map_some, Option.some.injEq] at h
      subst h
      obtain ⟨p, h1, h2⟩ := args_get e q
      obtain ⟨v, h3, h4⟩ := r.get h1
      by_cases hl : l = j
      · subst hl
        rw [hj] at h1
        cases h1
        rw [if_pos (by simp)] at h2
        unfold opv at h2
        cases q2 : s.ρ[i]? with
        | none => simp [q2] at h2
        | some y =>
          cases y with
          | none => simp [q2] at h2
          | some z =>
            simp [q2] at h2
            subst h2
            obtain ⟨v', e1, w⟩ := m.at_ i _ q2
            have h4 : σ[i]? = some (some v) := h4
            rw [h4] at e1
            cases e1
            exact ⟨v, by rw [List.getElem?_map, h3]; rfl, by rw [if_pos rfl]; exact w⟩
      · rw [if_neg (by simpa using hl)] at h2
        obtain ⟨d, e2, h5⟩ := frzv_rd m h4 h2
        subst e2
        exact ⟨v, by rw [List.getElem?_map, h3]; rfl, by rw [if_neg hl]; exact .fz h5⟩
  nd := fun l => by
    by_cases h : l = j
    · simp only [h, if_true]; exact m.nd i
    · rw [if_neg h]; exact List.nodup_nil
  ap := fun a b x ne ha hb => by
    by_cases h : a = j
    · by_cases h2 : b = j
      · exact ne (h.trans h2.symm)
      · rw [if_neg h2] at hb; cases hb
    · rw [if_neg h] at ha; cases ha
  fr := fun l a h => by
    by_cases q : l = j
    · rw [if_pos q] at h; exact m.fr i a h
    · rw [if_neg q] at h; cases h
  th := fun l a h => by
    by_cases q : l = j
    · rw [if_pos q] at h; exact m.th i a h
    · rw [if_neg q] at h; cases h
theorem own_nil {a : Addr} (h : own (fun _ => []) a) : False := by
  obtain ⟨_, h⟩ := h
  cases h
theorem own_lent {As : Foot} {j i : Nat} {a : Addr} (h : own (fun l => if l = j then As i else []) a) : a ∈ As i := by
  obtain ⟨l, h⟩ := h
  by_cases q : l = j
  · simp only [q, if_true] at h; exact h
  · simp only [if_neg q] at h; cases h
/-- behind a call with nothing lent -/
theorem back0 {K : PySem.W.Frag} {ι ι' : List Addr} {As : Foot} {P' : Addr → Prop} {F H F' H' : Hp} {σ : L2.St} {s : S} {n : Nat} (m : Mem K ι As F H σ s) (ev : Evo (own fun _ => []) P' F H F' H') (x : Ex F' H') (pr : Pre ι ι') (g : IJ ι' F') (hn : ι'.length = n) : Mem K ι' As F' H' σ { s with n := n } := by
  have q := m.evo ev x pr g fun a _ z => own_nil z
  rw [hn] at q
  exact q
theorem evo_back0 {As : Foot} {P' P'' : Addr → Prop} {F H F' H' : Hp} (ev : Evo (own fun _ => []) P' F H F' H') (h : ∀ a, P'' a → own As a ∨ P' a) : Evo (own As) P'' F H F' H' :=
  ⟨ev.ext, fun a u q _ => ev.keep a u q fun z => own_nil z, fun a u q => by
    rcases ev.grow a u q with z | z | z
    · exact .inl z
    · exact (own_nil z).elim
    · exact .inr (.inr z), fun a q => by
    rcases h a q with z | z
    · exact .inl z
    · rcases ev.foot a z with z | z
      · exact (own_nil z).elim
      · exact .inr z, ev.there⟩
/-- behind a call with one thing lent -/
theorem back1 {K : PySem.W.Frag} {ι ι' : List Addr} {As As1 : Foot} {P' : Addr → Prop} {F H F' H' : Hp} {σ : L2.St} {s : S} {n i j : Nat} {vs : List V} {outs : List (Option O)} (m : Mem K ι As F H σ s) (hi : i < s.ρ.length)
    (ev : Evo (own fun l => if l = j then As i else []) P' F H F' H') (hP : ∀ a, own As1 a → P' a) (pr : Pre ι ι') (m1 : Mem K ι' As1 F' H' (vs.map some) ⟨outs, n⟩) (hv : ∃ v, vs[j]? = some v ∧ σ[i]? = some (some v)) :
    Mem K ι' (setF As i (As1 j)) F' H' σ ⟨s.ρ.set i (match outs[j]? with | some x => x | none => none), n⟩ := by
  have nl : ∀ k, k ≠ i → ∀ a ∈ As k, ¬ own (fun l => if l = j then As i else []) a := fun k hk a ha z => m.ap k i a hk ha (own_lent z)
  have kp : ∀ k, k ≠ i → ∀ a ∈ As k, ∀ u, H a = some u → H' a = some u := fun k hk a ha u hu => ev.keep a u hu (nl k hk a ha)
  have dj : ∀ k, k ≠ i → ∀ a ∈ As k, a ∉ As1 j := fun k hk a ha z => by
    rcases ev.foot a (hP a ⟨j, z⟩) with q | q
    · exact nl k hk a ha q
    · exact m.th k a ha q
  refine ⟨m1.ext, m1.num, m1.ij, by simp [m.len], fun k o h => ?_, fun k => ?_, fun k l a ne hk hl => ?_, fun k a h => ?_, fun k a h => ?_⟩
  · by_cases e : k = i
    · subst e
      simp only at h
      rw [List.getElem?_set_self hi] at h
      cases q : outs[j]? with
      | none => rw [q] at h; cases h
      | some y =>
        rw [q] at h
        have h : y = some o := by simpa using h
        subst h
        obtain ⟨v, e1, w⟩ := m1.at_ j o q
        obtain ⟨v', e2, e3⟩ := hv
        rw [List.getElem?_map, e2] at e1
        cases e1
        exact ⟨v, e3, by rw [setF_same]; exact w⟩
    · simp only at h
      rw [List.getElem?_set_ne (Ne.symm e)] at h
      obtain ⟨v, e1, w⟩ := m.at_ k o h
      exact ⟨v, e1, by rw [setF_ne e]; exact w.mono ev.ext pr (kp k e)⟩
  · by_cases e : k = i
    · subst e; rw [setF_same]; exact m1.nd j
    · rw [setF_ne e]; exact m.nd k
  · by_cases e : k = i
    · subst e
      rw [setF_same] at hk
      rw [setF_ne (Ne.symm ne)] at hl
      exact dj l (Ne.symm ne) a hl hk
    · rw [setF_ne e] at hk
      by_cases e2 : l = i
      · subst e2
        rw [setF_same] at hl
        exact dj k e a hk hl
      · rw [setF_ne e2] at hl
        exact m.ap k l a ne hk hl
  · by_cases e : k = i
    · subst e; rw [setF_same] at h; exact m1.fr j a h
    · rw [setF_ne e] at h
      cases q : F' a with
      | none => rfl
      | some u =>
        rcases ev.grow a u q with ⟨w, z⟩ | z | z
        · rw [m.fr k a h] at z; cases z
        · exact (nl k e a h z).elim
        · exact (m.th k a h z).elim
  · by_cases e : k = i
    · subst e; rw [setF_same] at h; exact m1.th j a h
    · rw [setF_ne e] at h
      intro z
      cases q : H a with
      | none => exact m.th k a h q
      | some u => rw [kp k e a h u q] at z; cases z
theorem evo_back1 {As As1 : Foot} {P' P'' : Addr → Prop} {F H F' H' : Hp} {i j : Nat} (ev : Evo (own fun l => if l = j then As i else []) P' F H F' H') (h : ∀ a, P'' a → own As a ∨ P' a) : Evo (own As) P'' F H F' H' :=
  ⟨ev.ext, fun a u q n => ev.keep a u q fun z => n ⟨i, own_lent z⟩, fun a u q => by
    rcases ev.grow a u q with z | z | z
    · exact .inl z
    · exact .inr (.inl ⟨i, own_lent z⟩)
    · exact .inr (.inr z), fun a q => by
    rcases h a q with z | z
    · exact .inl z
    · rcases ev.foot a z with z | z
      · exact .inl ⟨i, own_lent z⟩
      · exact .inr z, ev.there⟩
theorem own_set_back {As As1 : Foot} {i j : Nat} {a : Addr} (h : own (setF As i (As1 j)) a) : own As a ∨ own As1 a := by
  rcases own_setF h with z | z
  · exact .inr ⟨j, z⟩
  · exact .inl z
theorem pl_lt {i : Nat} {s : S} {o : O} (h : opv (.pl i) s = some o) : i < s.ρ.length := by
  unfold opv at h
  cases q : s.ρ[i]? with
  | none => simp [q] at h
  | some y => exact (List.getElem?_eq_some_iff.mp q).1
/-- what the callee is promised -/
theorem call_run {X : Cx} {j0 : Option Nat} {g : FnM} {np : Nat} {ι : List Addr} {As : Foot} {F H : Hp} {σ : L2.St} {s : S} {os : List Opnd} {vs : List V} {Q : VK} {W : WX} (m : Mem X.K ι As F H σ s) (r : OpAll X.K ι F σ vs os) (hl : os.length = np)
    (p : PostV X ι As F H σ (mCall j0 g os s) Q W) : spOf X.K np g vs H Q (fun cls d H' => W cls d σ H') := by
  unfold mCall at p
  cases ea : args j0 0 os s with
  | none => simp only [ea] at p; exact p.elim
  | some xs =>
    simp only [ea] at p
    have l1 : vs.length = np := by rw [r.length]; exact hl
    have l2 : xs.length = np := by rw [args_length ea]; exact hl
    cases j0 with
    | none =>
      simp only at p
      refine ⟨ι, _, F, xs, l1, l2, mem_lent0 m r ea, ?_⟩
      rw [m.num]
      cases q : g xs s.n with
      | st => rw [q] at p; exact p.elim
      | ok o outs n =>
        rw [q] at p
        intro v B ι' As' F' H' ev pr m' w nd fr
        refine p v B ι' As F' H' (evo_back0 ev fun a z => ?_) pr (back0 m ev m'.ext pr m'.ij m'.num) w nd fun a ha => ⟨(fr a ha).1, fun z => ?_⟩
        · rcases z with z | z
          · exact .inl z
          · exact .inr (.inr z)
        · rcases ev.foot a (.inr ha) with y | y
          · exact own_nil y
          · exact m.own_there z y
      | ex c fs outs n =>
        rw [q] at p
        intro d ι' As' F' H' ev pr m' x
        exact p d ι' As F' H' (evo_back0 ev fun a z => .inl z) pr (back0 m ev m'.ext pr m'.ij m'.num) x
    | some j =>
      simp only at p
      cases ej : os[j]? with
      | none => simp only [ej] at p; exact p.elim
      | some oj =>
        cases oj with
        | vl d => simp only [ej] at p; exact p.elim
        | pl i =>
          simp only [ej] at p
          obtain ⟨v0, e1, e2⟩ := r.get ej
          have hi : i < s.ρ.length := by
            have hj : j < xs.length := by rw [args_length ea]; exact (List.getElem?_eq_some_iff.mp ej).1
            obtain ⟨o', h1, h2⟩ := args_get ea (List.getElem?_eq_getElem hj)
            rw [ej] at h1
            cases h1
            rw [if_pos (by simp)] at h2
            exact pl_lt h2
          refine ⟨ι, _, F, xs, l1, l2, mem_lent1 m r ea ej, ?_⟩
          rw [m.num]
          cases q : g xs s.n with
          | st => rw [q] at p; exact p.elim
          | ok o outs n =>
            rw [q] at p
            intro v B ι' As' F' H' ev pr m' w nd fr
            refine p v B ι' (setF As i (As' j)) F' H' (evo_back1 (As1 := As') ev fun a z => ?_) pr (back1 m hi ev (fun a z => .inl z) pr m' ⟨v0, e1, e2⟩) w nd fun a ha => ⟨(fr a ha).1, fun z => ?_⟩
            · rcases z with z | z
              · rcases own_set_back z with z | z
                · exact .inl z
                · exact .inr (.inl z)
              · exact .inr (.inr z)
            · obtain ⟨k, z⟩ := z
              by_cases e : k = i
              · subst e
                rw [setF_same] at z
                exact (fr a ha).2 ⟨j, z⟩
              · rw [setF_ne e] at z
                rcases ev.foot a (.inr ha) with y | y
                · exact m.ap k i a e z (own_lent y)
                · exact m.th k a z y
          | ex c fs outs n =>
            rw [q] at p
            intro d ι' As' F' H' ev pr m' x
            refine p d ι' (setF As i (As' j)) F' H' (evo_back1 (As1 := As') ev fun a z => ?_) pr (back1 m hi ev (fun a z => z) pr m' ⟨v0, e1, e2⟩) x
            rcases own_set_back z with z | z
            · exact .inl z
            · exact .inr z
/-- the callee runs -/
theorem run_G {X : Cx} {k : Nat} {f : Addr} {fd : FuncData} {ps : List Str} {sp : Sp} {E : L2.St → XK} {pins : List (Addr × Obj)} {σ : L2.St} {H : Hp} {s : Shared} {Q : VK} {us : List Value} {vs : List V}
    (F : FnG X.prog X.w X.K X.mg X.base k f fd ps sp) (hr : Room k X.A) (hgd : X.A.guards = some []) (hb : Binds X.K fd ps []) (hx : PassesAt (L2.CX X.prog X.w) X σ (E σ)) (I : Inv X pins σ H s) (r : Vals vs us) (h : sp vs H Q (E σ)) :
    wpAny (model X.prog X.w) X.A (PySem.call (.ref f) us) (EP X pins σ Q) X.xe s := by
  have lenU : (us ++ []).length = ps.length := by
    rw [List.append_nil, ← Paired.length r]
    exact F.len _ _ _ _ h
  have bind := hb s us I.kIn lenU
  rw [List.append_nil] at bind
  refine wpAny_call (codeAny_mono (F.run X.A X.stack s H ⟨us, []⟩ us vs Q (E σ) hr hgd I.env0 bind r h) fun res s' hq => ?_)
  match res, hq with
  | .error e, hq => exact hx pins H s e s' I hq
  | .ok (.ret _), hq => exact I.after hq
  | .ok .next, hq => exact (show False from hq).elim
  | .ok .brk, hq => exact (show False from hq).elim
  | .ok .cont, hq => exact (show False from hq).elim
theorem pe_callG {X : Cx} {k : Nat} {f : Addr} {fd : FuncData} {ps : List Str} {sp : Sp} {E : L2.St → XK} {x : Str} {p pos : Pos} {e : Expr} {es : List Expr} {t : TA}
    (F : FnG X.prog X.w X.K X.mg X.base k f fd ps sp) (hr : Room k X.A) (hgd : X.A.guards = some []) (hg : Gl X x) (hm : X.mg x = some (.ref f)) (hk : PySem.W.keepIn X.K (.ref f) = true) (hb : Binds X.K fd ps [])
    (hx : ∀ σ, PassesAt (L2.CX X.prog X.w) X σ (E σ)) (ha : PA X (e :: es) t) (hdb : (x == ("__debug__" : Str)) = false)
    (he : starEach (e :: es) X.env = (false, eval e X.env) :: starEach es X.env) (hpl : (backTo pos (starEach es X.env)).any (·.1) = false) : PE X (.Call (.Name x p) (e :: es) [] pos) (tCallS sp E t) := by
  refine ⟨fun pins s σ H Q I h => wpAny_Call_Name_kw (ld_glob I hg hm ?_ hdb)⟩
  exact PySem.W.callWith_K (h₀ := X.base) I.ok.mod.kin hk (thn (ha.run pos pins s σ H _ I h) fun us s1 ⟨vs, H1, I1, r, q⟩ => ⟨I1.kIn, run_G F hr hgd hb (hx σ) I1 r q⟩) he hpl
theorem passF {X : Cx} (σ : L2.St) : PassesAt (L2.CX X.prog X.w) X σ (fun _ _ _ => False) := fun _ _ _ _ _ _ h => by
  obtain
          ⟨_, _, _, _, _, _, _, _, _, _, _, _, z⟩ := h
  exact z.elim
/-- f(a, ..) -/
theorem de_call {x : Str} {ps : List Str} {k : Nat} {g : FnM} {j0 : Option Nat} {e : Expr} {es : List Expr} {f : M (List Opnd)} {p pos : Pos} (D : FD C.P C.w C.K C.mg C.base x k ps g) (ha : DOs C (e :: es) f) (hkB : Nat.ble k C.lv = true := by rfl) (hl : ps.length = (e :: es).length := by rfl) (hg : glB C.sc x = true := by rfl)
    (hdb : (x == ("__debug__" : Str)) = false := by decide) (he : ∀ env : Env, starEach (e :: es) env = (false, eval e env) :: starEach es env := by intro _; rfl) (hpl : ∀ env : Env, (backTo pos (starEach es env)).any (·.1) = false := by intro _; rfl) :
    DE C (.Call (.Name x p) (e :: es) [] pos) (f.bind fun os => if os.length = ps.length then mCall j0 g os else M.st) := by
  intro X hX ι As F H σ s m Q W tk p
  have hk : k ≤ C.lv := Nat.le_of_ble_eq_true hkB
  obtain ⟨fa, fd, hm, hkp, hb, F0⟩ := D.ok
  have F1 : FnG X.prog X.w X.K X.mg X.base C.lv fa fd ps (spOf X.K ps.length g) := by
    rw [hX.prog, hX.w, hX.K, hX.mg, hX.base]
    exact F0.mono hk
  have hkp' : PySem.W.keepIn X.K (.ref fa) = true := by rw [hX.K]; exact hkp
  have hb' : Binds X.K fd ps [] := by rw [hX.K]; exact hb
  have hm' : X.mg x = some (.ref fa) := by rw [hX.mg]; exact hm
  by_cases hx : IsX ((f.bind fun os => if os.length = ps.length then mCall j0 g os else M.st) s)
  · have T := tk hx
    refine tW_of (pe_callG (E := fun σ => WE W σ) F1 hX.room hX.gd (gl_of hX.sc hg) hm' hkp' hb' (fun σ => passAt T σ) pa_W hdb (he _) (hpl _)) ?_
    refine ha X hX ι As F H σ s m _ W (fun _ => T) ?_
    simp only [M.bind_def] at p
    cases q : f s with
    | st => rw [q] at p; exact p.elim
    | ex c fs s1 => rw [q] at p; exact p
    | ok os s1 =>
      rw [q] at p
      simp only [R.bind_ok] at p
      intro vs ι1 As1 F1 H1 ev pr m1 r
      by_cases hlen : os.length = ps.length
      · rw [if_pos hlen] at p
        exact call_run m1 r hlen (PostV.step p ev pr fun _ z => z)
      · rw [if_neg hlen] at p; exact p.elim
  · refine tW_of (pe_callG (E := fun _ _ _ _ => False) F1 hX.room hX.gd (gl_of hX.sc hg) hm' hkp' hb' (fun σ => passF σ) pa_W hdb (he _) (hpl _)) ?_
    simp only [M.bind_def] at p tk hx
    cases q : f s with
    | st => rw [q] at p; exact p.elim
    | ex c fs s1 => rw [q] at hx; exact (hx trivial).elim
    | ok os s1 =>
      rw [q] at p hx tk
      simp only [R.bind_ok] at p hx tk
      refine ha X hX ι As F H σ s m _ (fun _ _ _ _ => False) (fun z => by rw [q] at z; exact z.elim) ?_
      rw [q]
      intro vs ι1 As1 F1 H1 ev pr m1 r
      by_cases hlen : os.length = ps.length
      · rw [if_pos hlen] at p hx
        have p1 := PostV.step p ev pr fun _ z => z
        have p2 : PostV X ι1 As1 F1 H1 σ (mCall j0 g os s1) Q (fun _ _ _ _ => False) := by
          cases q2 : mCall j0 g os s1 with
          | ok o s2 => rw [q2] at p1; exact p1
          | ex c fs s2 => rw [q2] at hx; exact (hx trivial).elim
          | st => rw [q2] at p1; exact p1
        exact call_run m1 r hlen p2
      · rw [if_neg hlen] at p; exact p.elim
end
end VL
namespace VL
open PySem PySem.Spec
open PyProof.Rows L2
/-! ### what is walked -/
def iW (X : Cx) (tg iter : Expr) : TI := fun σ H Rr => ∃ wi, PI X tg iter wi ∧ wi σ H Rr
theorem pi_W {X : Cx} {tg iter : Expr} : PI X tg iter (iW X tg iter) := ⟨fun pins s σ H Rr I ⟨t, h, q⟩ => h.run pins s σ H Rr I q⟩
/-- J goes through ds -/
def ItOk (K : PySem.W.Frag) (ι : List Addr) (F : Hp) (J : It) (ds : List D) : Prop := ∀ (ι1 : List Addr) (F1 H1 : Hp) (i : Nat), Pre ι ι1 → Ex F F1 → Ex F1 H1 →
  (∀ d, ds[i]? = some d → J.go i H1 ∧ ∀ x H2, J.yld i H1 x H2 → ∃ F2, New F1 H1 F2 H2 [] ∧ Ex F2 H2 ∧ Rd K ι1 F2 x d) ∧ (ds[i]? = none → J.stop i H1)
def PostI (X : Cx) (ι : List Addr) (As : Foot) (F H : Hp) (σ : L2.St) (r : R (List D)) (Rr : It → Hp → Prop) (W : WX) : Prop := match r with
  | .ok ds s' => ∀ (J : It) (ι' : List Addr) (As' : Foot) (F' H' : Hp), Evo (own As) (own As') F H F' H' → Pre ι ι' → Mem X.K ι' As' F' H' σ s' → ItOk X.K ι' F' J ds → Rr J H'
  | .ex c fs s' => PostX X ι As F H σ c fs s' W
  | .st => False
def DI (C : Ctx) (tg iter : Expr) (f : M (List D)) : Prop := ∀ (X : Cx), At C X → ∀ (ι : List Addr) (As : Foot) (F H : Hp) (σ : L2.St) (s : S), Mem X.K ι As F H σ s → ∀ (Rr : It → Hp → Prop) (W : WX),
  (IsX (f s) → Takes X W) → PostI X ι As F H σ (f s) Rr W → iW X tg iter σ H Rr
/-! ### targets -/
def gW (X : Cx) (tg : Expr) : TG := fun v σ H Q => ∃ g, PG X tg g ∧ g v σ H Q
theorem pg_W {X : Cx} {tg : Expr} : PG X tg (gW X tg) := ⟨fun pins s σ H v u Q I r ⟨t, h, q⟩ => h.run pins s σ H v u Q I r q⟩
/-- a target stores a value; tl: the places that it stores to -/
def DG (C : Ctx) (tg : Expr) (tl : List Nat) (g : D → S → Option S) : Prop := ∀ (X : Cx), At C X → ∀ (ι : List Addr) (As : Foot) (F H : Hp) (σ : L2.St) (s s' : S) (x : V) (d : D), Mem X.K ι As F H σ s → Rd X.K ι F x d → g d s = some s' → ∀ (Q : L2.St → Hp → Prop),
  (∀ σ' As', (∀ a, own As' a → own As a) → Mem X.K ι As' F H σ' s' → (∀ j, j ∉ tl → σ'[j]? = σ[j]?) → σ'.length = σ.length → Q σ' H) → gW X tg x σ H Q
def gSet (i : Nat) (d : D) (s : S) : Option S := if i < s.ρ.length then some { s with ρ := s.ρ.set i (some (.fz d)) } else none
theorem mem_set_fz {K : PySem.W.Frag} {ι : List Addr} {As : Foot} {F H : Hp} {σ : L2.St} {s : S} {i : Nat} {v : V} {d : D} (m : Mem K ι As F H σ s) (hi : i < s.ρ.length) (r : Rd K ι F v d) : Mem K ι (setF As i []) F H (σ.set i (some v)) { s with ρ := s.ρ.set i (some (.fz d)) } :=
  m.set hi (.fz r) List.nodup_nil fun _ h => nomatch h
theorem own_setF_nil {As : Foot} {i : Nat} {a : Addr} (h : own (setF As i []) a) : own As a := (own_setF h).elim (fun z => nomatch z) id
section
variable {C : Ctx}
theorem dg_name {i : Nat} {x : Str} {pos : Pos} (hN : C.N[i]? = some x := by rfl) (hl : storB C.sc C.cel x = true := by rfl) : DG C (.Name x pos) [i] (gSet i) := by
  intro X hX ι As F H σ s s' v d m r e Q q
  unfold gSet at e
  by_cases hi : i < s.ρ.length
  · rw [if_pos hi] at e
    cases e
    exact ⟨_, pg_name (i := i) hX.nd (by rw [hX.N]; exact hN) (by rw [hX.sc]; exact stor_loc hl) (hX.stores hl), q _ _ (fun a z => own_setF_nil z) (mem_set_fz m hi r) (fun j hj => List.getElem?_set_ne fun e : i = j => hj (by rw [e]; exact List.mem_cons_self)) (List.length_set ..)⟩
  · rw [if_neg hi] at e; cases e
/-- several targets -/
def gsW (X : Cx) (ts : List Expr) : TGs := fun vs σ H Q => ∃ g, PGs X ts g ∧ g vs σ H Q
theorem pgs_W {X : Cx} {ts : List Expr} : PGs X ts (gsW X ts) := ⟨fun pins s σ H vs us Q I r ⟨t, h, q⟩ => h.run pins s σ H vs us Q I r q⟩
def DGs (C : Ctx) (ts : List Expr) (tl : List Nat) (g : List D → S → Option S) : Prop := ∀ (X : Cx), At C X → ∀ (ι : List Addr) (As : Foot) (F H : Hp) (σ : L2.St) (s s' : S) (xs : List V) (ds : List D), Mem X.K ι As F H σ s → RdAll X.K ι F xs ds → g ds s = some s' → ∀ (Q : L2.St → Hp → Prop),
  (∀ σ' As', (∀ a, own As' a → own As a) → Mem X.K ι As' F H σ' s' → (∀ j, j ∉ tl → σ'[j]? = σ[j]?) → σ'.length = σ.length → Q σ' H) → gsW X ts xs σ H Q
def gNone : List D → S → Option S
  | [], s => some s
  | _ :: _, _ => none
def gMore (g : D → S → Option S) (h : List D → S → Option S) : List D → S → Option S
  | [], _ => none
  | d :: ds, s => match g d s with
    | some s1 => h ds s1
    | none => none
theorem dgs_nil : DGs C [] [] gNone := by
  intro X hX ι As F H σ s s' vs ds m r e Q q
  cases r with
  | nil =>
    cases e
    exact ⟨_, pgs_nil, rfl, q σ As (fun _ z => z) m (fun _ _ => rfl) rfl⟩
  | cons _ _ => cases e
theorem dgs_cons {e : Expr} {es : List Expr} {tl tl' : List Nat} {g : D → S → Option S} {h : List D → S → Option S} (h1 : DG C e tl g) (h2 : DGs C es tl' h) (hs : ∀ env : Env, (assignEach (e :: es) env).map (·.2) = assign e env :: (assignEach es env).map (·.2) := by intro _; rfl) : DGs C (e :: es) (tl ++ tl') (gMore g h) := by
  intro X hX ι As F H σ s s' vs ds m r e Q q
  cases r with
  | nil => cases e
  | cons r rr =>
    rename_i v vs d ds
    unfold gMore at e
    cases e1 : g d s with
    | none => simp only [e1] at e; cases e
    | some s1 =>
      simp only [e1] at e
      refine ⟨_, pgs_cons pg_W pgs_W (hs _), v, vs, rfl, h1 X hX ι As F H σ s s1 v d m r e1 _ fun σ1 As1 o1 m1 c1 l1 => ?_⟩
      exact h2 X hX ι As1 F H σ1 s1 s' vs ds m1 rr e _ fun σ2 As2 o2 m2 c2 l2 => q σ2 As2 (fun a z => o1 a (o2 a z)) m2 (fun j hj => by
        rw [c2 j fun z => hj (List.mem_append_right _ z), c1 j fun z => hj (List.mem_append_left _ z)]) (l2.trans l1)
def gTupD (n : Nat) (g : List D → S → Option S) : D → S → Option S
  | .tup ds, s => if ds.length = n then g ds s else none
  | _, _ => none
theorem dg_tup {es : List Expr} {k : Nat} {pos : Pos} {tl : List Nat} {g : List D → S → Option S} {n : Nat} (h : DGs C es tl g) (hn : ∀ env : Env, (assignEach es env).length = n := by intro _; rfl) (hst : ∀ env : Env, (assignEach es env).findIdx? (·.1) = none := by intro _; rfl) : DG C (.Tuple es k pos) tl (gTupD n g) := by
  intro X hX ι As F H σ s s' v d m r e Q q
  cases d with
  | tup ds =>
    cases r with
    | tup hq rr =>
      rename_i a vs
      simp only [gTupD] at e
      by_cases hl : ds.length = n
      · rw [if_pos hl] at e
        exact ⟨_, pg_tup hX.calm pgs_W (hn _) (hst _), a, vs, rfl, SqT.of (m.ext _ _ hq), by rw [rr.length]; exact hl, h X hX ι As F H σ s s' vs ds m rr e Q q⟩
      · rw [if_neg hl] at e; cases e
  | _ => cases e

/-! ### for -/
def forL (g : D → S → Option S) (b : MT) : List D → MT
  | [], s => .nx s
  | d :: ds, s => match g d s with
    | none => .st
    | some s1 => match b s1 with
      | .nx s2 => forL g b ds s2
      | .ct s2 => forL g b ds s2
      | .bk s2 => .nx s2
      | t => t
theorem ds_for {tg iter : Expr} {body : List Stmt} {f : M (List D)} {tl : List Nat} {g : D → S → Option S} {b : MT} {pos : Pos} (hi : DI C tg iter f) (hg : DG C tg tl g) (hb : DSs C body b) (hioB : (tl.all fun i => !C.io.contains i) = true := by rfl)
    (hs : ∀ (env : Env) x, foldedSetIterable iter env x = pure x := by intro _ _; rfl) : DS C (.For tg iter body [] pos) (fun s => (f s).toT fun ds => forL g b ds) := by
  intro X hX ι As F H σ s m D W tk p
  have hio : ∀ i ∈ tl, i ∉ C.io := ios_of hioB
  refine ⟨_, ps_for hX.po hX.calm pi_W pg_W pss_W (hs _), hi X hX ι As F H σ s m _ W (isX_toT tk) ?_⟩
  cases q : f s with
  | st => simp only [q, R.toT_st] at p; exact p.elim
  | ex c fs s1 => simp only [q, R.toT_ex] at p; exact p σ prot_refl
  | ok ds s1 =>
    simp only [q, R.toT_ok] at p tk
    intro J ι1 As1 F1 H1 ev1 pr1 m1 it
    refine ⟨fun i n σ' H' => ∃ ι' As' F' s', i + n = ds.length ∧ Evo (own As1) (own As') F1 H1 F' H' ∧ Pre ι1 ι' ∧ Mem X.K ι' As' F' H' σ' s' ∧ (IsXT (forL g b (ds.drop i) s') → Takes X W) ∧ PostT X C.io ι' As' F' H' σ' (forL g b (ds.drop i) s') D W,
      ⟨ds.length, ι1, As1, F1, s1, by omega, Evo.refl fun _ z => z, Pre.refl _, m1, by simpa using tk, by simpa using PostT.step p ev1 pr1 (fun _ z => z) (prot_refl (σ := σ))⟩, fun i n σ' H' hW => ?_⟩
    obtain ⟨ι', As', F', s', hn, ev, pr, m', tk', p'⟩ := hW
    obtain ⟨hgo, hstop⟩ := it ι' F' H' i pr ev.ext m'.ext
    cases e : ds[i]? with
    | none =>
      have hlen : ds.length ≤ i := List.getElem?_eq_none_iff.mp e
      rw [List.drop_eq_nil_of_le hlen] at p'
      exact .inl ⟨hstop e, p' σ' ι' As' F' H' (Evo.refl fun _ z => z) (Pre.refl _) m' prot_refl⟩
    | some d =>
      obtain ⟨h1, h2⟩ := hgo d e
      have hlt : i < ds.length := (List.getElem?_eq_some_iff.mp e).1
      have hd : ds.drop i = d :: ds.drop (i + 1) := by
        rw [List.drop_eq_getElem_cons hlt, (List.getElem?_eq_some_iff.mp e).2]
      rw [hd] at p' tk'
      unfold forL at p' tk'
      refine .inr ⟨h1, fun σ'' H'' => ∃ ι' As' F' s', (i + 1) + (n - 1) = ds.length ∧ Evo (own As1) (own As') F1 H1 F' H'' ∧ Pre ι1 ι' ∧ Mem X.K ι' As' F' H'' σ'' s' ∧ (IsXT (forL g b (ds.drop (i + 1)) s') → Takes X W) ∧ PostT X C.io ι' As' F' H'' σ'' (forL g b (ds.drop (i + 1)) s') D W,
        fun σ'' H'' hN => ⟨n - 1, by omega, hN⟩, fun x H2 hy => ?_⟩
      obtain ⟨F2, nw, x2, rd⟩ := h2 x H2 hy
      cases eg : g d s' with
      | none => simp only [eg] at p'; exact p'.elim
      | some s2 =>
        simp only [eg] at p' tk'
        have m2 : Mem X.K ι' As' F2 H2 σ' s' := by
          have z := m'.evo nw x2 (Pre.refl _) (m'.ij.mono nw.ext) fun _ _ z => z
          rw [m'.num] at z
          exact z
        have nw' : Evo (own As') (own As') F' H' F2 H2 := ⟨nw.ext, fun a u h _ => nw.keep a u h fun z => z, fun a u h => by
          rcases nw.grow a u h with z | z | z
          · exact .inl z
          · exact z.elim
          · exact .inr (.inr z), fun a h => .inl h, nw.there⟩
        refine hg X hX ι' As' F2 H2 σ' s' s2 x d m2 rd eg _ fun σ3 As3 o3 m3 c3 _ => ?_
        have pt3 : Prot C.io σ' σ3 := fun j hj => c3 j fun z => hio j z hj
        have ev3 : Evo (own As') (own As3) F' H' F2 H2 := nw'.post o3
        refine hb X hX ι' As3 F2 H2 σ3 s2 m3 _ W (fun z => tk' ?_) ?_
        · cases eb : b s2 <;> simp only [eb] at z ⊢ <;> first | exact z.elim | trivial
        · cases eb : b s2 with
          | st => simp only [eb] at p'; exact p'.elim
          | nx s4 =>
            simp only [eb] at p' tk'
            intro σ4 ι4 As4 F4 H4 ev4 pr4 m4 hp4
            have ev34 := ev3.trans ev4
            exact ⟨ι4, As4, F4, s4, by omega, ev.trans ev34, pr.trans pr4, m4, tk', PostT.step p' ev34 pr4 (fun _ z => z) (prot_trans pt3 hp4)⟩
          | ct s4 =>
            simp only [eb] at p' tk'
            intro σ4 ι4 As4 F4 H4 ev4 pr4 m4 hp4
            have ev34 := ev3.trans ev4
            exact ⟨ι4, As4, F4, s4, by omega, ev.trans ev34, pr.trans pr4, m4, tk', PostT.step p' ev34 pr4 (fun _ z => z) (prot_trans pt3 hp4)⟩
          | bk s4 =>
            simp only [eb] at p'
            intro σ4 ι4 As4 F4 H4 ev4 pr4 m4 hp4
            exact p' σ4 ι4 As4 F4 H4 (ev3.trans ev4) pr4 m4 (prot_trans pt3 hp4)
          | rt o s4 =>
            simp only [eb] at p'
            intro σ4 hp4
            exact PostE.step (p' σ4 (prot_trans pt3 hp4)) ev3 (Pre.refl _) fun _ z => z
          | ex c fs s4 =>
            simp only [eb] at p'
            intro σ4 hp4
            exact PostX.step (p' σ4 (prot_trans pt3 hp4)) ev3 (Pre.refl _) fun _ z => z
/-! ### while -/
def whileL (c : M Bool) (b : MT) : Nat → MT
  | 0, _ => .st
  | n + 1, s => match c s with
    | .st => .st
    | .ex c fs s1 => .ex c fs s1
    | .ok false s1 => .nx s1
    | .ok true s1 => match b s1 with
      | .nx s2 => whileL c b n s2
      | .ct s2 => whileL c b n s2
      | .bk s2 => .nx s2
      | t => t
theorem ds_while {c : Expr} {body : List Stmt} {f : M Bool} {b : MT} {pos : Pos} (n : Nat) (hc : DT C c f) (hb : DSs C body b) : DS C (.While c body [] pos) (whileL f b n) := by
  intro X hX ι As F H σ s m D W tk p
  refine ⟨_, ps_while hX.po pt_W pss_W, fun k σ' H' => ∃ ι' As' F' s', Evo (own As) (own As') F H F' H' ∧ Pre ι ι' ∧ Mem X.K ι' As' F' H' σ' s' ∧ (IsXT (whileL f b k s') → Takes X W) ∧ PostT X C.io ι' As' F' H' σ' (whileL f b k s') D W,
    ⟨n, ι, As, F, s, Evo.refl fun _ z => z, Pre.refl _, m, tk, p⟩, fun k σ' H' hW => ?_⟩
  obtain ⟨ι', As', F', s', ev, pr, m', tk', p'⟩ := hW
  cases k with
  | zero => exact p'.elim
  | succ k =>
    unfold whileL at p' tk'
    refine hc X hX ι' As' F' H' σ' s' m' _ W (fun z => tk' ?_) ?_
    · cases q : f s' <;> simp only [q] at z ⊢ <;> first | exact z.elim | trivial
    · cases q : f s' with
      | st => simp only [q] at p'; exact p'.elim
      | ex c fs s1 => simp only [q] at p'; exact p' σ' prot_refl
      | ok k2 s1 =>
        simp only [q] at p' tk'
        intro ι1 As1 F1 H1 ev1 pr1 m1
        cases k2 with
        | false =>
          rw [if_neg (by decide)]
          exact p' σ' ι1 As1 F1 H1 ev1 pr1 m1 prot_refl
        | true =>
          rw [if_pos rfl]
          refine ⟨fun σ'' H'' => ∃ ι' As' F' s', Evo (own As) (own As') F H F' H'' ∧ Pre ι ι' ∧ Mem X.K ι' As' F' H'' σ'' s' ∧ (IsXT (whileL f b k s') → Takes X W) ∧ PostT X C.io ι' As' F' H'' σ'' (whileL f b k s') D W, fun σ'' H'' hN => ⟨k, Nat.lt_succ_self _, hN⟩, ?_⟩
          simp only at p' tk'
          refine hb X hX ι1 As1 F1 H1 σ' s1 m1 _ W (fun z => tk' ?_) ?_
          · cases eb : b s1 <;> simp only [eb] at z ⊢ <;> first | exact z.elim | trivial
          · cases eb : b s1 with
            | st => simp only [eb] at p'; exact p'.elim
            | nx s4 =>
              simp only [eb] at p' tk'
              intro σ4 ι4 As4 F4 H4 ev4 pr4 m4 hp4
              have ev34 := ev1.trans ev4
              exact ⟨ι4, As4, F4, s4, ev.trans ev34, pr.trans (pr1.trans pr4), m4, tk', PostT.step p' ev34 (pr1.trans pr4) (fun _ z => z) hp4⟩
            | ct s4 =>
              simp only [eb] at p' tk'
              intro σ4 ι4 As4 F4 H4 ev4 pr4 m4 hp4
              have ev34 := ev1.trans ev4
              exact ⟨ι4, As4, F4, s4, ev.trans ev34, pr.trans (pr1.trans pr4), m4, tk', PostT.step p' ev34 (pr1.trans pr4) (fun _ z => z) hp4⟩
            | bk s4 =>
              simp only [eb] at p'
              intro σ4 ι4 As4 F4 H4 ev4 pr4 m4 hp4
              exact p' σ4 ι4 As4 F4 H4 (ev1.trans ev4) (pr1.trans pr4) m4 hp4
            | rt o s4 =>
              simp only [eb] at p'
              intro σ4 hp4
              exact PostE.step (p' σ4 hp4) ev1 pr1 fun _ z => z
            | ex c fs s4 =>
              simp only [eb] at p'
              intro σ4 hp4
              exact PostX.step (p' σ4 hp4) ev1 pr1 fun _ z => z
end
end VL
namespace VL
open PySem PySem.Spec
open PyProof.Rows L2
/-! ### comprehensions -/
theorem Ow.fz_inv {K : PySem.W.Frag} {ι : List Addr} {F H : Hp} {v : V} {d : D} {A : List Addr} (w : Ow K ι F H v (.fz d) A) : Rd K ι F v d ∧ A = [] := by
  cases w with
  | fz w => exact ⟨w, rfl⟩
def wipeS (own : List Nat) (s : S) : S := { s with ρ := own.foldr (fun i ρ => ρ.set i none) s.ρ }
theorem wipe_get {σ : L2.St} : ∀ {vs : List Nat} {j : Nat}, j ∉ vs → (wipe σ vs)[j]? = σ[j]?
  | [], _, _ => rfl
  | v :: vs, j, h => by
    unfold wipe
    rw [List.getElem?_set_ne (fun e : v = j => h (by rw [e]; exact List.mem_cons_self))]
    exact wipe_get fun z => h (List.mem_cons_of_mem _ z)
theorem wipe_in {σ : L2.St} : ∀ {vs : List Nat} {j : Nat}, j ∈ vs → j < σ.length → (wipe σ vs)[j]? = some none
  | v :: vs, j, h, hl => by
    unfold wipe
    by_cases e : v = j
    · subst e
      rw [List.getElem?_set_self (by rw [wipe_length]; exact hl)]
    · rw [List.getElem?_set_ne e]
      rcases
              List.mem_cons.mp h with z | z
      · exact absurd z.symm e
      · exact wipe_in z hl
theorem wipe_out {σ : L2.St} {vs : List Nat} {j : Nat} (hl : ¬ j < σ.length) : (wipe σ vs)[j]? = none := by
  rw [List.getElem?_eq_none_iff, wipe_length]
  omega
theorem wipe_eq {σ1 σ2 : L2.St} {vs : List Nat} (hl : σ1.length = σ2.length) (h : ∀ j, j ∉ vs → σ1[j]? = σ2[j]?) : wipe σ1 vs = wipe σ2 vs := by
  refine
          List.ext_getElem? fun j => ?_
  by_cases hj : j ∈ vs
  · by_cases hlt : j < σ1.length
    · rw [wipe_in hj hlt, wipe_in hj (by omega)]
    · rw [wipe_out hlt, wipe_out (by omega)]
  · rw [wipe_get hj, wipe_get hj]
    exact h j hj
theorem wipe_wipe {σ : L2.St} {vs : List Nat} : wipe (wipe σ vs) vs = wipe σ vs := wipe_eq (wipe_length _ _) fun j hj => wipe_get hj
theorem wipeS_get {own : List Nat} {s : S} {j : Nat} (h : j ∉ own) : (wipeS own s).ρ[j]? = s.ρ[j]? := by
  unfold wipeS
  show (own.foldr (fun i ρ => ρ.set i none) s.ρ)[j]? = s.ρ[j]?
  induction own with
  | nil => rfl
  | cons v vs ih =>
    rw [List.foldr_cons, List.getElem?_set_ne (fun e : v = j => h (by rw [e]; exact List.mem_cons_self))]
    exact ih fun z => h (List.mem_cons_of_mem _ z)
theorem wipeS_len {own : List Nat} {s : S} : (wipeS own s).ρ.length = s.ρ.length := by
  unfold wipeS
  show (own.foldr (fun i ρ => ρ.set i none) s.ρ).length = s.ρ.length
  induction own with
  | nil => rfl
  | cons v vs ih => rw [List.foldr_cons, List.length_set]; exact ih
theorem wipeS_in {own : List Nat} {s : S} {j : Nat} {o : O} (h : j ∈ own) : (wipeS own s).ρ[j]? ≠ some (some o) := by
  unfold wipeS
  show (own.foldr (fun i ρ => ρ.set i none) s.ρ)[j]? ≠ some (some o)
  induction own with
  | nil => cases h
  | cons v vs ih =>
    rw [List.foldr_cons]
    by_cases e : v = j
    · subst e
      intro z
      rw [List.getElem?_set] at z
      split at z
      · split at z <;> cases z
      · rename_i hh
        exact hh rfl
    · rw [List.getElem?_set_ne e]
      rcases
              List.mem_cons.mp h with z | z
      · exact absurd z.symm e
      · exact ih z
/-- what an outer name of the same name holds is frozen, or nothing -/
def calmAt (own : List Nat) (s : S) : Bool := own.all fun i => match s.ρ[i]? with
  | some (some (.fz _)) => true
  | some (some _) => false
  | _ => true
/-- the outer names back -/
def backSet (s0 : S) (i : Nat) (ρ : List (Option O)) : List (Option O) := match s0.ρ[i]? with
  | some x => ρ.set i x
  | none => ρ
def backS (own : List Nat) (s0 s : S) : S := { s with ρ := own.foldr (backSet s0) s.ρ }
theorem backS_len {own : List Nat} {s0 s : S} : (backS own s0 s).ρ.length = s.ρ.length := by
  unfold backS
  show (own.foldr (backSet s0) s.ρ).length = s.ρ.length
  induction own with
  | nil => rfl
  | cons v vs ih =>
    rw [List.foldr_cons]
    unfold backSet
    split
    · rw [List.length_set]; exact ih
    · exact ih
theorem backS_get {own : List Nat} {s0 s : S} {j : Nat} (h : j ∉ own) : (backS own s0 s).ρ[j]? = s.ρ[j]? := by
  unfold backS
  show (own.foldr (backSet s0) s.ρ)[j]? = s.ρ[j]?
  induction own with
  | nil => rfl
  | cons v vs ih =>
    rw [List.foldr_cons]
    have ih' := ih fun z => h (List.mem_cons_of_mem _ z)
    conv => lhs; unfold backSet
    split
    · rw [List.getElem?_set_ne (fun e : v = j => h (by rw [e]; exact List.mem_cons_self))]; exact ih'
    · exact ih'
theorem backS_in {own : List Nat} {s0 s : S} {j : Nat} (h : j ∈ own) (hl : s.ρ.length = s0.ρ.length) : (backS own s0 s).ρ[j]? = s0.ρ[j]? := by
  have key : ∀ own : List Nat, (backS own s0 s).ρ.length = s.ρ.length := fun own => backS_len
  induction own with
  | nil => cases h
  | cons v vs ih =>
    have e0 : (backS (v :: vs) s0 s).ρ = (match s0.ρ[v]? with
      | some x => (backS vs s0 s).ρ.set v x
      | none => (backS vs s0 s).ρ) := by
      show backSet s0 v (vs.foldr (backSet s0) s.ρ) = _
      rfl
    rw [e0]
    by_cases e : v = j
    · subst e
      cases q : s0.ρ[v]? with
      | some x =>
        simp only
        rw [List.getElem?_set_self]
        rw [key, hl]
        exact (List.getElem?_eq_some_iff.mp q).1
      | none =>
        simp only
        rw [List.getElem?_eq_none_iff, key, hl]
        exact List.getElem?_eq_none_iff.mp q
    · have hj : j ∈ vs := by
        rcases
                List.mem_cons.mp h with z | z
        · exact absurd z.symm e
        · exact z
      cases q : s0.ρ[v]? with
      | some x =>
        simp only
        rw [List.getElem?_set_ne e]
        exact ih hj
      | none => exact ih hj
section
variable {K : PySem.W.Frag} {ι ι' : List Addr} {As As' : Foot} {F F' H H' : Hp} {σ : L2.St} {s s' : S} {ow : List Nat}
/-- the block begins -/
theorem Mem.wiped (m : Mem K ι As F H σ s) : Mem K ι (fun i => if i ∈ ow then [] else As i) F H (wipe σ ow) (wipeS ow s) where
  ext := m.ext
  num := m.num
  ij := m.ij
  len := by rw [wipe_length, wipeS_len]; exact m.len
  at_ := fun i o h => by
    by_cases hi : i ∈ ow
    · exact (wipeS_in hi h).elim
    · rw [wipeS_get hi] at h
      obtain ⟨v, e, w⟩ := m.at_ i o h
      exact ⟨v, by rw [wipe_get hi]; exact e, by rw [if_neg hi]; exact w⟩
  nd := fun i => by
    by_cases hi : i ∈ ow
    · simp only [hi, if_true]; exact List.nodup_nil
    · rw [if_neg hi]; exact m.nd i
  ap := fun i j a ne hi hj => by
    by_cases h : i ∈ ow
    · rw [if_pos h] at hi; cases hi
    · rw [if_neg h] at hi
      by_cases h2 : j ∈ ow
      · rw [if_pos h2] at hj; cases hj
      · rw [if_neg h2] at hj; exact m.ap i j a ne hi hj
  fr := fun i a h => by
    by_cases q : i ∈ ow
    · rw [if_pos q] at h; cases h
    · rw [if_neg q] at h; exact m.fr i a h
  th := fun i a h => by
    by_cases q : i ∈ ow
    · rw [if_pos q] at h; cases h
    · rw [if_neg q] at h; exact m.th i a h
theorem own_wiped {a : Addr} (h : own (fun i => if i ∈ ow then [] else As i) a) : own As a := by
  obtain ⟨i, h⟩ := h
  by_cases q : i ∈ ow
  · simp only [q, if_true] at h; cases h
  · simp only [if_neg q] at h; exact ⟨i, h⟩
/-- the block ends: m0 the memory ahead of it -/
theorem Mem.backed (m0 : Mem K ι As F H σ s) (hc : calmAt ow s = true) (e : Ex F F') (pr : Pre ι ι') (m : Mem K ι' As' F' H' (wipe σ ow) s') : Mem K ι' (fun i => if i ∈ ow then [] else As' i) F' H' σ (backS ow s s') where
  ext := m.ext
  num := m.num
  ij := m.ij
  len := by
    rw [backS_len]
    have := m.len
    rw [wipe_length] at this
    exact this
  at_ := fun i o h => by
    have hl : s'.ρ.length = s.ρ.length := by
      have h1 := m.len
      rw [wipe_length] at h1
      rw [← h1, m0.len]
    by_cases hi : i ∈ ow
    · rw [backS_in hi hl] at h
      obtain ⟨v, e1, w⟩ := m0.at_ i o h
      have z := List.all_eq_true.mp hc i hi
      simp only [h] at z
      cases o with
      | fz d => exact ⟨v, e1, by rw [if_pos hi]; exact .fz (w.fz_inv.1.mono e pr)⟩
      | _ => cases z
    · rw [backS_get hi] at h
      obtain ⟨v, e1, w⟩ := m.at_ i o h
      exact ⟨v, by rw [← wipe_get (σ := σ) hi]; exact e1, by rw [if_neg hi]; exact w⟩
  nd := fun i => by
    by_cases hi : i ∈ ow
    · simp only [hi, if_true]; exact List.nodup_nil
    · rw [if_neg hi]; exact m.nd i
  ap := fun i j a ne hi hj => by
    by_cases h : i ∈ ow
    · rw [if_pos h] at hi; cases hi
    · rw [if_neg h] at hi
      by_cases h2 : j ∈ ow
      · rw [if_pos h2] at hj; cases hj
      · rw [if_neg h2] at hj; exact m.ap i j a ne hi hj
  fr := fun i a h => by
    by_cases q : i ∈ ow
    · rw [if_pos q] at h; cases h
    · rw [if_neg q] at h; exact m.fr i a h
  th := fun i a h => by
    by_cases q : i ∈ ow
    · rw [if_pos q] at h; cases h
    · rw [if_neg q] at h; exact m.th i a h
/-- a turn ends: the block's own names are forgotten -/
theorem Mem.rewiped {σ0 : L2.St} (m : Mem K ι As F H σ s) (h : wipe σ ow = wipe σ0 ow) : Mem K ι (fun i => if i ∈ ow then [] else As i) F H (wipe σ0 ow) (wipeS ow s) := by
  rw [← h]
  exact m.wiped
end
/-- the turns: tests, elements; nothing is raised -/
def compL (ow : List Nat) (g : D → S → Option S) (t : M Bool) (f : M O) : List D → List O → M (List O)
  | [], acc, s => .ok acc s
  | d :: ds, acc, s => match g d s with
    | none => .st
    | some s1 => match t s1 with
      | .ok true s2 => match f s2 with
        | .ok o s3 => if acc.length < 100000 then compL ow g t f ds (acc ++ [o]) (wipeS ow s3) else .st
        | _ => .st
      | .ok false s2 => compL ow g t f ds acc (wipeS ow s2)
      | _ => .st
def mComp (ow : List Nat) (i : M (List D)) (g : D → S → Option S) (t : M Bool) (f : M O) : M O := i.bind fun ds s => if calmAt ow s then (compL ow g t f ds [] (wipeS ow s)).bind fun os s' => .ok (.lst os) (backS ow s s') else .st
/-- the block's context -/
def Ctx.blk (C : Ctx) (scope : Scope) : Ctx := { C with sc := relS scope C.sc, io := [], cel := cellsOf scope }
theorem At.blk {C : Ctx} {X : Cx} (hX : At C X) {scope : Scope} (hu : ∀ y ∈ scope.names, scope.names.lookup y.1 = some y.2) (s : Shared) (H : Hp) (Cc : Addr) (cl : List (Str × Addr)) (fp : List Addr) : At (C.blk scope) (X.blk s H scope (compEnvC scope cl Cc X.env) fp) := by
  refine ⟨hX.prog, hX.w, hX.K, hX.mg, hX.base, hX.N, ?_, hX.calm, hX.nd, hX.room, hX.gd, fun x hx => ?_, PassesOwn.never⟩
  · show relS scope X.env.scope = relS scope C.sc
    rw [hX.sc]
  · show (scope.names.lookup x == some .cell) = true
    have hx : (cellsOf scope).contains x = true := hx
    have hm : x ∈ cellsOf scope := by simpa using hx
    unfold cellsOf at hm
    obtain ⟨y, hy, e⟩ := List.mem_filterMap.mp hm
    have q := hu y hy
    split at e
    · rename_i hk
      cases e
      rw [q, hk]
      rfl
    · cases e
def DTs (C : Ctx) (ifs : List Expr) (t : M Bool) : Prop := (ifs = [] ∧ t = M.pure true) ∨ ∃ c, ifs = [c] ∧ DT C c t
theorem dts_nil {C : Ctx} : DTs C [] (M.pure true) := .inl ⟨rfl, rfl⟩
theorem dts_one {C : Ctx} {c : Expr} {t : M Bool} (h : DT C c t) : DTs C [c] t := .inr ⟨c, rfl, h⟩
def ptsW (X : Cx) (ifs : List Expr) : TT := fun σ H Q => ∃ t, PTs X ifs t ∧ t σ H Q
theorem pts_W {X : Cx} {ifs : List Expr} : PTs X ifs (ptsW X ifs) := ⟨fun pins s σ H Q I ⟨t, h, q⟩ => h.run pins s σ H Q I q⟩
section
variable {C : Ctx}
theorem dts_run {X : Cx} {ifs : List Expr} {t : M Bool} (h : DTs C ifs t) (hX : At C X) {ι : List Addr} {As : Foot} {F H : Hp} {σ : L2.St} {s : S} (m : Mem X.K ι As F H σ s) {Q : Bool → Hp → Prop} {W : WX} (tk : IsX (t s) → Takes X W) (p : PostB X ι As F H σ (t s) Q W) : ptsW X ifs σ H Q := by
  rcases h with ⟨e1, e2⟩ | ⟨c, e1, h⟩
  · subst e1
    subst e2
    exact ⟨_, pts_nil, p ι As F H (Evo.refl fun _ z => z) (Pre.refl _) m⟩
  · subst e1
    exact ⟨_, pts_one pt_W, h X hX ι As F H σ s m Q W tk p⟩
/-- the readings of a block, whatever its frame is -/
def uE (X : Cx) (scope : Scope) (e : Expr) : TE := fun σ H Q => ∀ s0 H0 Cc cl fp, tW (X.blk s0 H0 scope (compEnvC scope cl Cc X.env) fp) e σ H Q
def uG (X : Cx) (scope : Scope) (tg : Expr) : TG := fun v σ H Q => ∀ s0 H0 Cc cl fp, gW (X.blk s0 H0 scope (compEnvC scope cl Cc X.env) fp) tg v σ H Q
def uT (X : Cx) (scope : Scope) (ifs : List Expr) : TT := fun σ H Q => ∀ s0 H0 Cc cl fp, ptsW (X.blk s0 H0 scope (compEnvC scope cl Cc X.env) fp) ifs σ H Q
theorem uE_ok {X : Cx} {scope : Scope} {e : Expr} (s0 : Shared) (H0 : Hp) (Cc : Addr) (cl : List (Str × Addr)) (fp : List Addr) : PE (X.blk s0 H0 scope (compEnvC scope cl Cc X.env) fp) e (uE X scope e) := ⟨fun pins s σ H Q I h => pe_W.run pins s σ H Q I (h s0 H0 Cc cl fp)⟩
theorem uG_ok {X : Cx} {scope : Scope} {tg : Expr} (s0 : Shared) (H0 : Hp) (Cc : Addr) (cl : List (Str × Addr)) (fp : List Addr) : PG (X.blk s0 H0 scope (compEnvC scope cl Cc X.env) fp) tg (uG X scope tg) := ⟨fun pins s σ H v u Q I r h => pg_W.run pins s σ H v u Q I r (h s0 H0 Cc cl fp)⟩
theorem uT_ok {X : Cx} {scope : Scope} {ifs : List Expr} (s0 : Shared) (H0 : Hp) (Cc : Addr) (cl : List (Str × Addr)) (fp : List Addr) : PTs (X.blk s0 H0 scope (compEnvC scope cl Cc X.env) fp) ifs (uT X scope ifs) := ⟨fun pins s σ H Q I h => pts_W.run pins s σ H Q I (h s0 H0 Cc cl fp)⟩
end
end VL
namespace VL
open PySem PySem.Spec
open PyProof.Rows L2
/-- what stands aside of a step -/
theorem aside {P P' : Addr → Prop} {F H F' H' : Hp} {B : List Addr} (ev : Evo P P' F H F' H') (h : ∀ a ∈ B, F a = none ∧ ¬ P a ∧ H a ≠ none) : ∀ a ∈ B, F' a = none ∧ ¬ P' a ∧ ∀ u, H a = some u → H' a = some u := fun a ha => by
  obtain ⟨h1, h2, h3⟩ := h a ha
  refine ⟨?_, fun z => ?_, fun u q => ev.keep a u q h2⟩
  · cases q : F' a with
    | none => rfl
    | some u =>
      rcases ev.grow a u q with ⟨w, z⟩ | z | z
      · rw [h1] at z; cases z
      · exact (h2 z).elim
      · exact (h3 z).elim
  · rcases ev.foot a z with z | z
    · exact h2 z
    · exact h3 z
theorem OwAll.append {K : PySem.W.Frag} {ι : List Addr} {F H : Hp} : ∀ {vs ws : List V} {os ps : List O} {A B : List Addr}, OwAll K ι F H vs os A → OwAll K ι F H ws ps B → OwAll K ι F H (vs ++ ws) (os ++ ps) (A ++ B)
  | _, _, _, _, _, _, .nil, s => s
  | _, _, _, _, _, _, .cons h r, s => by
    have q := OwAll.cons h (r.append s)
    rw [List.append_assoc]
    exact q
theorem OwAll.one {K : PySem.W.Frag} {ι : List Addr} {F H : Hp} {v : V} {o : O} {A : List Addr} (h : Ow K ι F H v o A) : OwAll K ι F H [v] [o] A := by
  have q := OwAll.cons h (OwAll.nil (K := K) (ι := ι) (F := F) (H := H))
  rw [List.append_nil] at q
  exact q
section
variable {C : Ctx}
theorem comp_run {elt tg iter : Expr} {ifs : List Expr} {scope : Scope} {ow tl : List Nat} {fi : M (List D)} {g : D → S → Option S} {t : M Bool} {f : M O} (hi : DI C tg iter fi) (hg : DG (C.blk scope) tg tl g) (htl : ∀ j ∈ tl, j ∈ ow) (ht : DTs (C.blk scope) ifs t) (he : DE (C.blk scope) elt f)
    (hu : ∀ y ∈ scope.names, scope.names.lookup y.1 = some y.2) {X : Cx} (hX : At C X) {ι : List Addr} {As : Foot} {F H : Hp} {σ : L2.St} {s : S} (m : Mem X.K ι As F H σ s) {Q : VK} {W : WX} (tk : IsX (mComp ow fi g t f s) → Takes X W) (p : PostV X ι As F H σ (mComp ow fi g t f s) Q W) :
    tLc (iW X tg iter) (uG X scope tg) (uT X scope ifs) (uE X scope elt) ow σ H Q := by
  unfold mComp at p tk
  refine hi X hX ι As F H σ s m _ W (isX_of tk) ?_
  simp only [M.bind_def] at p
  cases q : fi s with
  | st => rw [q] at p; exact p.elim
  | ex c fs s1 => rw [q] at p; exact p
  | ok ds s1 =>
    rw [q] at p
    simp only [R.bind_ok] at p
    by_cases hc : calmAt ow s1 = true
    case neg => rw [if_neg hc] at p; exact p.elim
    rw [if_pos hc] at p
    intro J ι1 As1 F1 H1 ev1 pr1 m1 it D hD
    have p1 := PostV.step (As1 := As1) p ev1 pr1 fun _ z => z
    clear p
    have nw := New.owned (F := F1) (u := .lst []) hD
    refine ⟨fun i n H' => ∃ (ι' : List Addr) (As' : Foot) (F' : Hp) (s' : S) (vs : List V) (os : List O) (B : List Addr), i + n = ds.length ∧ Evo (own As1) (fun a => own As' a ∨ a ∈ D :: B) F1 H1 F' H' ∧ Pre ι1 ι' ∧ Mem X.K ι' As' F' H' (wipe σ ow) s' ∧ H' D = some (.lst vs) ∧ OwAll X.K ι' F' H' vs os B ∧
      (D :: B).Nodup ∧ (∀ a ∈ D :: B, F' a = none ∧ ¬ own As' a) ∧ PostV X ι1 As1 F1 H1 σ ((compL ow g t f (ds.drop i) os s').bind fun os s' => .ok (.lst os) (backS ow s1 s')) Q W, ?_, ?_⟩
    · refine ⟨ds.length, ι1, fun i => if i ∈ ow then [] else As1 i, F1, wipeS ow s1, [], [], [], by omega, ⟨Same.refl _, fun a u h _ => nw.keep a u h fun z => z, fun a u h => .inl ⟨u, h⟩, fun a z => ?_, nw.there⟩, Pre.refl _, ?_, upd_same, .nil, by simp, fun a ha => ?_, by simpa using p1⟩
      · rcases z with z | z
        · exact .inl (own_wiped z)
        · have e : a = D := by simpa using z
          subst e
          exact .inr hD
      · exact (m1.wiped (ow := ow)).keepN (Same.refl _) (fun a u h => nw.keep a u (m1.ext a u h) fun z => z) (fun a _ u h => nw.keep a u h fun z => z) fun a z => m1.own_none (own_wiped z)
      · have e : a = D := by simpa using ha
        subst e
        exact ⟨ex_none m1.ext hD, fun z => m1.own_there (own_wiped z) hD⟩
    · intro i n H' hW
      obtain ⟨ι', As', F', s', vs, os, B, hn, ev, pr, m', hDl, wB, ndB, frB, p'⟩ := hW
      obtain ⟨hgo, hstop⟩ := it ι' F' H' i pr ev.ext m'.ext
      have hB : ∀ a ∈ D :: B, F' a = none ∧ ¬ own As' a ∧ H' a ≠ none := fun a ha => ⟨(frB a ha).1, (frB a ha).2, by
        rcases List.mem_cons.mp ha with e | e
        · subst e; rw [hDl]; exact fun z => nomatch z
        · exact wB.there a e⟩
      cases e : ds[i]? with
      | none =>
        have hlen : ds.length ≤ i := List.getElem?_eq_none_iff.mp e
        rw [List.drop_eq_nil_of_le hlen] at p'
        refine .inl ⟨hstop e, ?_⟩
        have p' : PostE X ι1 As1 F1 H1 σ (.lst os) (backS ow s1 s') Q := p'
        refine p' (.ref D) (D :: B) ι' (fun i => if i ∈ ow then [] else As' i) F' H' (ev.post fun a z => ?_) pr (m1.backed hc ev.ext pr m') (.lst hDl wB) ndB fun a ha => ⟨(frB a ha).1, fun z => (frB a ha).2 (own_wiped z)⟩
        rcases z with z | z
        · exact .inl (own_wiped z)
        · exact .inr z
      | some d =>
        obtain ⟨h1, h2⟩ := hgo d e
        have hlt : i < ds.length := (List.getElem?_eq_some_iff.mp e).1
        have hd : ds.drop i = d :: ds.drop (i + 1) := by
          rw [List.drop_eq_getElem_cons hlt, (List.getElem?_eq_some_iff.mp e).2]
        rw [hd] at p'
        unfold compL at p'
        refine .inr ⟨h1, fun H'' => ∃ (ι' : List Addr) (As' : Foot) (F' : Hp) (s' : S) (vs : List V) (os : List O) (B : List Addr), (i + 1) + (n - 1) = ds.length ∧ Evo (own As1) (fun a => own As' a ∨ a ∈ D :: B) F1 H1 F' H'' ∧ Pre ι1 ι' ∧ Mem X.K ι' As' F' H'' (wipe σ ow) s' ∧ H'' D = some (.lst vs) ∧ OwAll X.K ι' F' H'' vs os B ∧
          (D :: B).Nodup ∧ (∀ a ∈ D :: B, F' a = none ∧ ¬ own As' a) ∧ PostV X ι1 As1 F1 H1 σ ((compL ow g t f (ds.drop (i + 1)) os s').bind fun os s' => .ok (.lst os) (backS ow s1 s')) Q W, fun H'' hN => ⟨n - 1, by omega, hN⟩, fun x H2 hy => ?_⟩
        obtain ⟨F2, nw2, x2, rd⟩ := h2 x H2 hy
        cases eg : g d s' with
        | none => simp only [eg, R.bind_st] at p'; exact p'.elim
        | some s2 =>
          simp only [eg] at p'
          have m2 : Mem X.K ι' As' F2 H2 (wipe σ ow) s' := by
            have z := m'.evo nw2 x2 (Pre.refl _) (m'.ij.mono nw2.ext) fun _ _ z => z
            rw [m'.num] at z
            exact z
          have ev2 : Evo (own As') (own As') F' H' F2 H2 := ⟨nw2.ext, fun a u h _ => nw2.keep a u h fun z => z, fun a u h => by
            rcases nw2.grow a u h with z | z | z
            · exact .inl z
            · exact z.elim
            · exact .inr (.inr z), fun a h => .inl h, nw2.there⟩
          intro s0 H0 Cc cl fp
          refine hg _ (hX.blk hu s0 H0 Cc cl fp) ι' As' F2 H2 (wipe σ ow) s' s2 x d m2 rd eg _ fun σ3 As3 o3 m3 c3 l3 => ?_
          have ev3 : Evo (own As') (own As3) F' H' F2 H2 := ev2.post o3
          have hw : wipe σ3 ow = wipe σ ow := by
            rw [← wipe_wipe (σ := σ) (vs := ow)]
            exact wipe_eq l3 fun j hj => c3 j fun z => hj (htl j z)
          refine ⟨hw, fun s0 H0 Cc cl fp => ?_⟩
          have next : ∀ (b : Bool) (s4 : S) (vs4 : List V) (os4 : List O) (B4 : List Addr) (ι4 : List Addr) (As4 : Foot) (F4 H4 : Hp), Evo (own As') (fun a => own As4 a ∨ a ∈ B4) F' H' F4 H4 → Pre ι' ι4 → Mem X.K ι4 As4 F4 H4 σ3 s4 → OwAll X.K ι4 F4 H4 vs4 os4 B4 → B4.Nodup → (∀ a ∈ B4, F4 a = none ∧ ¬ own As4 a) →
              PostV X ι1 As1 F1 H1 σ ((compL ow g t f (ds.drop (i + 1)) (os ++ os4) (wipeS ow s4)).bind fun os s' => .ok (.lst os) (backS ow s1 s')) Q W →
              H4 D = some (.lst vs) ∧ ∃ (ι' : List Addr) (As' : Foot) (F' : Hp) (s' : S) (vs' : List V) (os' : List O) (B' : List Addr), (i + 1) + (n - 1) = ds.length ∧ Evo (own As1) (fun a => own As' a ∨ a ∈ D :: B') F1 H1 F' (upd H4 D (.lst (vs ++ vs4))) ∧ Pre ι1 ι' ∧ Mem X.K ι' As' F' (upd H4 D (.lst (vs ++ vs4))) (wipe σ ow) s' ∧
                (upd H4 D (.lst (vs ++ vs4))) D = some (.lst vs') ∧ OwAll X.K ι' F' (upd H4 D (.lst (vs ++ vs4))) vs' os' B' ∧ (D :: B').Nodup ∧ (∀ a ∈ D :: B', F' a = none ∧ ¬ own As' a) ∧ PostV X ι1 As1 F1 H1 σ ((compL ow g t f (ds.drop (i + 1)) os' s').bind fun os s' => .ok (.lst os) (backS ow s1 s')) Q W := by
            intro b s4 vs4 os4 B4 ι4 As4 F4 H4 ev4 pr4 m4 w4 nd4 fr4 p4
            have as4 := aside ev4 hB
            have hD4 : H4 D = some (.lst vs) := (as4 D List.mem_cons_self).2.2 _ hDl
            have nD : ∀ a, H4 a ≠ none → a ≠ D → upd H4 D (.lst (vs ++ vs4)) a = H4 a := fun a _ h => upd_ne h
            have nDB : D ∉ B := (List.nodup_cons.mp ndB).1
            have nD4 : D ∉ B4 := fun z => (as4 D List.mem_cons_self).2.1 (.inr z)
            have FD : F4 D = none := (as4 D List.mem_cons_self).1
            have oD : ¬ own As4 D := fun z => (as4 D List.mem_cons_self).2.1 (.inl z)
            have m5 : Mem X.K ι4 (fun i => if i ∈ ow then [] else As4 i) F4 (upd H4 D (.lst (vs ++ vs4))) (wipe σ ow) (wipeS ow s4) := (m4.rewiped hw).keepN (Same.refl _) (fun a u h => by
                rw [upd_ne (fun z => by rw [z, FD] at h; cases h)]
                exact m4.ext a u h) (fun a ha u h => by
                rw [upd_ne (fun z => oD (by rw [← z]; exact own_wiped ha))]
                exact h) fun a ha => m4.own_none (own_wiped ha)
            refine ⟨hD4, ι4, fun i => if i ∈ ow then [] else As4 i, F4, wipeS ow s4, vs ++ vs4, os ++ os4, B ++ B4, by omega, ?_, pr.trans pr4, m5, upd_same, ?_, ?_, ?_, p4⟩
            · have e1 : Evo (own As1) (fun a => own As4 a ∨ a ∈ B4) F1 H1 F4 H4 := (ev.trans (ev4.pre fun a z => .inl z))
              refine ⟨e1.ext, fun a u h hn => ?_, e1.grow, fun a z => ?_, fun a h => ?_⟩
              · rw [upd_ne (fun z => by
                  rcases ev.foot a (.inr (by rw [z]; exact List.mem_cons_self)) with y | y
                  · exact hn y
                  · rw [y] at h; cases h)]
                exact e1.keep a u h hn
              · rcases z with z | z
                · exact e1.foot a (.inl (own_wiped z))
                · rcases
                        List.mem_cons.mp z with z | z
                  · exact ev.foot a (.inr (by rw [z]; exact List.mem_cons_self))
                  · rcases List.mem_append.mp z with z | z
                    · exact ev.foot a (.inr (List.mem_cons_of_mem _ z))
                    · exact e1.foot a (.inr z)
              · refine e1.there a ?_
                by_cases z : a = D
                · subst z; rw [upd_same] at h; cases h
                · rw [upd_ne z] at h; exact h
            · refine OwAll.append (wB.mono ev4.ext pr4 fun a ha u h => ?_) (w4.mono (Same.refl _) (Pre.refl _) fun a ha u h => ?_)
              · rw [upd_ne (fun z => nDB (by rw [← z]; exact ha))]
                exact (as4 a (List.mem_cons_of_mem _ ha)).2.2 u h
              · rw [upd_ne (fun z => nD4 (by rw [← z]; exact ha))]
                exact h
            · refine List.nodup_cons.mpr ⟨fun z => (List.mem_append.mp z).elim nDB nD4, List.nodup_append.mpr ⟨(List.nodup_cons.mp ndB).2, nd4, fun a ha b hb e => ?_⟩⟩
              exact (as4 a (List.mem_cons_of_mem _ ha)).2.1 (.inr (by rw [e]; exact hb))
            · intro a ha
              rcases List.mem_cons.mp ha with z | z
              · subst z
                exact ⟨FD, fun y => oD (own_wiped y)⟩
              · rcases List.mem_append.mp z with z | z
                · exact ⟨(as4 a (List.mem_cons_of_mem _ z)).1, fun y => (as4 a (List.mem_cons_of_mem _ z)).2.1 (.inl (own_wiped y))⟩
                · exact ⟨(fr4 a z).1, fun y => (fr4 a z).2 (own_wiped y)⟩
          cases et : t s2 with
          | st => simp only [et, R.bind_st] at p'; exact p'.elim
          | ex c fs s3 => simp only [et, R.bind_st] at p'; exact p'.elim
          | ok b s3 =>
            refine dts_run ht (hX.blk hu s0 H0 Cc cl fp) m3 (W := fun _ _ _ _ => False) (fun z => by rw [et] at z; exact z.elim) ?_
            rw [et]
            intro ι4 As4 F4 H4 ev4 pr4 m4
            cases b with
            | false =>
              rw [if_neg (by decide)]
              simp only [et] at p'
              obtain ⟨hD4, h⟩ := next false s3 [] [] [] ι4 As4 F4 H4 ((ev3.trans ev4).post fun a z => by
                rcases z with z | z
                · exact z
                · cases z) pr4 m4 .nil List.nodup_nil (fun _ z => nomatch z) (by rw [List.append_nil]; exact p')
              have eu : upd H4 D (.lst (vs ++ [])) = H4 := by
                funext a
                by_cases z : a = D
                · subst z; rw [upd_same, List.append_nil, hD4]
                · rw [upd_ne z]
              rw [eu] at h
              exact h
            | true =>
              rw [if_pos rfl]
              simp only [et] at p'
              intro s0 H0 Cc cl fp
              cases ef : f s3 with
              | st => simp only [ef, R.bind_st] at p'; exact p'.elim
              | ex c fs s4 => simp only [ef, R.bind_st] at p'; exact p'.elim
              | ok o s4 =>
                simp only [ef] at p'
                by_cases hlen : os.length < 100000
                case neg => rw [if_neg hlen] at p'; exact p'.elim
                rw [if_pos hlen] at p'
                refine he _ (hX.blk hu s0 H0 Cc cl fp) ι4 As4 F4 H4 σ3 s3 m4 _ (fun _ _ _ _ => False) (fun z => by rw [ef] at z; exact z.elim) ?_
                rw [ef]
                intro y B5 ι5 As5 F5 H5 ev5 pr5 m5 w5 nd5 fr5
                obtain ⟨hD5, h⟩ := next true s4 [y] [o] B5 ι5 As5 F5 H5 ((ev3.trans ev4).trans ev5) (pr4.trans pr5) m5 (OwAll.one w5) nd5 fr5 p'
                exact ⟨vs, hD5, Nat.lt_of_lt_of_le (by rw [wB.length]; exact hlen) (by decide), h⟩
/-- [elt for tg in iter if ..] -/
theorem de_lc {elt tg iter : Expr} {ifs : List Expr} {scope : Scope} {pos : Pos} {fi : M (List D)} {g : D → S → Option S} {t : M Bool} {f : M O} {tl : List Nat} (ow : List (Str × Nat)) (hi : DI C tg iter fi) (hg : DG (C.blk scope) tg tl g) (ht : DTs (C.blk scope) ifs t) (he : DE (C.blk scope) elt f)
    (hb : blkC C.N C.sc scope ow = true := by rfl) (htl : ∀ j ∈ tl, j ∈ ow.map (·.2) := by decide) (hs : ∀ (env : Env) x, foldedSetIterable iter env x = pure x := by intro _ _; rfl) : DE C (.ListComp elt [⟨tg, iter, ifs, 0⟩] scope pos) (mComp (ow.map (·.2)) fi g t f) := by
  intro X hX ι As F H σ s m Q W tk p
  have ok := blkOk_by hb
  exact tW_of (pe_lc (own := ow) hX.calm hX.nd pi_W (by rw [hX.N, hX.sc]; exact ok) (fun s H Cc cl fp => uG_ok s H Cc cl fp) (fun s H Cc cl fp => uT_ok s H Cc cl fp) (fun s H Cc cl fp => uE_ok s H Cc cl fp) (hs _)) (comp_run hi hg htl ht he ok.uniq hX m tk p)
/-- y = [elt for ..] -/
theorem ds_setLc {i : Nat} {y : Str} {elt tg iter : Expr} {ifs : List Expr} {scope : Scope} {pos py spos : Pos} {fi : M (List D)} {g : D → S → Option S} {t : M Bool} {f : M O} {tl : List Nat} (ow : List (Str × Nat)) (hi : DI C tg iter fi) (hg : DG (C.blk scope) tg tl g) (ht : DTs (C.blk scope) ifs t) (he : DE (C.blk scope) elt f)
    (hN : C.N[i]? = some y := by rfl) (hioB : C.io.contains i = false := by rfl) (hy : C.sc.names.lookup y = some .local := by rfl) (hk : C.sc.kind = .function := by rfl) (hl : (py.line == pos.line) = true := by rfl) (ha : (scope.names.any fun (n, k) => n == y && (k == .local || k == .cell)) = false := by decide +kernel)
    (hb : blkC C.N C.sc scope ow = true := by rfl) (htl : ∀ j ∈ tl, j ∈ ow.map (·.2) := by decide) (hs : ∀ (env : Env) x, foldedSetIterable iter env x = pure x := by intro _ _; rfl) : DS C (.Assign [.Name y py] (.ListComp elt [⟨tg, iter, ifs, 0⟩] scope pos) spos) (mSet i (mComp (ow.map (·.2)) fi g t f)) := by
  intro X hX ι As F H σ s m D W tk p
  have hio : i ∉ C.io := io_of hioB
  unfold mSet at p tk
  have ok := blkOk_by hb
  refine ⟨_, ps_setLc (i := i) (own := ow) hX.calm hX.nd (by rw [hX.N]; exact hN) (by rw [hX.sc]; exact hy) (sw_true (by rw [hX.sc]; exact hk) (by rw [hX.sc]; exact hy) hl ha) pi_W (by rw [hX.N, hX.sc]; exact ok) (fun s H Cc cl fp => uG_ok s H Cc cl fp) (fun s H Cc cl fp => uT_ok s H Cc cl fp) (fun s H Cc cl fp => uE_ok s H Cc cl fp) (hs _),
    comp_run hi hg htl ht he ok.uniq hX m (W := W) (isX_toT tk) (val_post p fun o s1 v B ι1 As1 F1 H1 _ ev pr m1 w nd fr p => ?_)⟩
  by_cases hi : i < s1.ρ.length
  · rw [if_pos hi] at p
    refine p _ ι1 (setF As1 i B) F1 H1 (ev.post fun a z => ?_) pr (set_step m1 hi w nd fr) fun j hj => ?_
    · rcases own_setF z with z | z
      · exact .inr z
      · exact .inl z
    · exact List.getElem?_set_ne fun e : i = j => hio (by rw [e]; exact hj)
  · rw [if_neg hi] at p; exact p.elim
end
end VL
namespace VL
open PySem PySem.Spec
open PyProof.Rows L2
/-! ### ints -/
theorem OpOk.of {f : Value → Value → Sem Value} {h : O → O → Option O} (k : ∀ (X : Cx) (n : Nat), Room n X.A → ∀ (x y o : O), h x y = some o → ∀ (ι : List Addr) (F H : Hp) (A B : List Addr) (va vb : V) (Q : VK), Ex F H → Ow X.K ι F H va x A → Ow X.K ι F H vb y B →
    (∀ v Bo F' H', New F H F' H' Bo → Ex F' H' → Ow X.K ι F' H' v o Bo → Bo.Nodup → (∀ a ∈ Bo, F' a = none) → Q v H') → rW X f va vb H Q) : OpOk f h := k
/-- a value that is there already -/
theorem same_end {K : PySem.W.Frag} {ι : List Addr} {F H : Hp} {Q : VK} {v : V} {d : D} (x : Ex F H) (q : ∀ v Bo F' H', New F H F' H' Bo → Ex F' H' → Ow K ι F' H' v (.fz d) Bo → Bo.Nodup → (∀ a ∈ Bo, F' a = none) → Q v H') (r : Rd K ι F v d) : Q v H :=
  q v [] F H New.refl x (.fz r) List.nodup_nil fun _ z => nomatch z
theorem Ow.int {K : PySem.W.Frag} {ι : List Addr} {F H : Hp} {v : V} {i : Int} {A : List Addr} (w : Ow K ι F H v (.fz (.int i)) A) : v = .int i := by
  cases w.fz_inv.1
  rfl
theorem Ow.str {K : PySem.W.Frag} {ι : List Addr} {F H : Hp} {v : V} {x : Str} {A : List Addr} (w : Ow K ι F H v (.fz (.str x)) A) : v = .str x := by
  cases w.fz_inv.1
  rfl
theorem Ow.bl {K : PySem.W.Frag} {ι : List Addr} {F H : Hp} {v : V} {b : Bool} {A : List Addr} (w : Ow K ι F H v (.fz (.bl b)) A) : v = .bl b := by
  cases w.fz_inv.1
  rfl
def intO (c : Int → Int → Bool) (g : Int → Int → D) : O → O → Option O
  | .fz (.int i), .fz (.int j) => if c i j then some (.fz (g i j)) else none
  | _, _ => none
theorem intO_inv {c : Int → Int → Bool} {g : Int → Int → D} {x y o : O} (h : intO c g x y = some o) : ∃ i j, x = .fz (.int i) ∧ y = .fz (.int j) ∧ c i j = true ∧ o = .fz (g i j) := by
  unfold intO at h
  split at h
  · rename_i i j
    split at h
    · rename_i hc
      cases h
      exact ⟨i, j, rfl, rfl, hc, rfl⟩
    · cases h
  · cases h
theorem ok_int {f : Value → Value → Sem Value} {P : Int → Int → Prop} {c : Int → Int → Bool} {gv : Int → Int → V} {g : Int → Int → D} (hr : ∀ X : Cx, OpR X f (rI P gv)) (hc : ∀ i j, c i j = true → P i j) (hd : ∀ (K : PySem.W.Frag) (ι : List Addr) (F : Hp) (i j : Int), Rd K ι F (gv i j) (g i j)) : OpOk f (intO c g) := by
  intro X n _ x y o h ι F H A B va vb Q e wa wb q
  obtain ⟨i, j, rfl, rfl, hcc, rfl⟩ := intO_inv h
  exact ⟨_, hr X, i, j, wa.int, wb.int, hc i j hcc, same_end e q (hd _ _ _ i j)⟩
theorem rI_of0 {X : Cx} {f : Value → Value → Sem Value} {gv : Int → Int → V} (h : OpR X f (rI0 gv)) : OpR X f (rI (fun _ _ => True) gv) := fun pins s σ H x y v u Q I rx ry ⟨i, j, e1, e2, _, q⟩ => h pins s σ H x y v u Q I rx ry ⟨i, j, e1, e2, q⟩
def yes2 (_ _ : Int) : Bool := true
abbrev subO := intO yes2 fun i j => .int (i - j)
theorem ok_sub : OpOk (binaryOp .Sub) subO := ok_int (fun _ => rI_of0 op_sub) (fun _ _ _ => trivial) fun _ _ _ i j => .int (i - j)
def powC (i j : Int) : Bool := decide (0 ≤ j) && decide (j ≤ 1000) && decide (i.natAbs < 18446744073709551616)
abbrev powO := intO powC fun i j => .int (i ^ j.toNat)
theorem ok_pow : OpOk (binaryOp .Pow) powO := ok_int (P := CPow) (fun _ => op_pow) (fun i j h => by
  simp only [powC, Bool.and_eq_true, decide_eq_true_eq] at h
  exact ⟨h.1.1, by omega, h.2⟩) fun _ _ _ i j => .int (i ^ j.toNat)
def divC (_ j : Int) : Bool := decide (0 < j) && decide (j.natAbs.log2 < 9000)
abbrev fdivO := intO divC fun i j => .int (i / j)
theorem ok_fdiv : OpOk (binaryOp .FloorDiv) fdivO := ok_int (P := CDivW) (fun _ => op_fdivW) (fun i j h => by
  simp only [divC, Bool.and_eq_true, decide_eq_true_eq] at h
  exact h) fun _ _ _ i j => .int (i / j)
def modC (_ j : Int) : Bool := decide (0 < j)
abbrev modO := intO modC fun i j => .int (i % j)
theorem ok_mod : OpOk (binaryOp .Mod) modO := ok_int (P := fun _ j => 0 < j) (fun _ => op_mod) (fun i j h => by
  simp only [modC, decide_eq_true_eq] at h
  exact h) fun _ _ _ i j => .int (i % j)
def mulC (i j : Int) : Bool := decide (i.natAbs.log2 + j.natAbs.log2 < 1000000)
abbrev mulIO := intO mulC fun i j => .int (i * j)
theorem ok_mulI : OpOk (binaryOp .Mult) mulIO := ok_int (P := CMulW) (fun _ => op_mulW) (fun i j h => by
  simp only [mulC, decide_eq_true_eq] at h
  exact h) fun _ _ _ i j => .int (i * j)
abbrev ltO := intO yes2 fun i j => .bl (decide (i < j))
abbrev leO := intO yes2 fun i j => .bl (decide (i ≤ j))
abbrev gtO := intO yes2 fun i j => .bl (decide (j < i))
abbrev geO := intO yes2 fun i j => .bl (decide (j ≤ i))
theorem ok_lt : OpOk (compareOp .Lt) ltO := ok_int (fun _ => rI_of0 op_lt) (fun _ _ _ => trivial) fun _ _ _ i j => .bl _
theorem ok_le : OpOk (compareOp .LtE) leO := ok_int (fun _ => rI_of0 op_le) (fun _ _ _ => trivial) fun _ _ _ i j => .bl _
theorem ok_gt : OpOk (compareOp .Gt) gtO := ok_int (fun _ => rI_of0 op_gt) (fun _ _ _ => trivial) fun _ _ _ i j => .bl _
theorem ok_ge : OpOk (compareOp .GtE) geO := ok_int (fun _ => rI_of0 op_ge) (fun _ _ _ => trivial) fun _ _ _ i j => .bl _

/-! ### lists of frozen things -/
def O.fzs : List O → Option (List D)
  | [] => some []
  | .fz d :: os => match O.fzs os with
    | some ds => some (d :: ds)
    | none => none
  | _ :: _ => none
theorem fzs_eq : ∀ {os : List O} {ds : List D}, O.fzs os = some ds → os = ds.map O.fz
  | [], _, h => by cases h; rfl
  | .fz d :: os, ds, h => by
    unfold O.fzs at h
    split at h
    · rename_i ds' h'
      cases h
      rw [List.map_cons, fzs_eq h']
    · cases h
  | .lst _ :: _, _, h => by cases h
  | .dK _ :: _, _, h => by cases h
  | .dT _ :: _, _, h => by cases h
  | .obj _ _ :: _, _, h => by cases h
@[simp] theorem fzs_map (ds : List D) : O.fzs (ds.map O.fz) = some ds := by
  induction ds with
  | nil => rfl
  | cons d ds ih => simp [O.fzs, ih]
/-- the items of a list -/
def O.items : O → Option (List D)
  | .fz (.lst ds) => some ds
  | .lst os => O.fzs os
  | _ => none
theorem items_at {K : PySem.W.Frag} {ι : List Addr} {F H : Hp} {v : V} {o : O} {A : List Addr} {ds : List D} (x : Ex F H) (w : Ow K ι F H v o A) (h : o.items = some ds) : ∃ p vs, v = .ref p ∧ H p = some (.lst vs) ∧ RdAll K ι F vs ds := by
  unfold O.items at h
  split at h
  · cases h
    cases w.fz_inv.1 with
    | lst e r => exact ⟨_, _, rfl, x _ _ e, r⟩
  · rename_i os
    cases w with
    | lst e r =>
      rw [fzs_eq h] at r
      exact ⟨_, _, rfl, e, (OwAll.to_rd r).1⟩
  · cases h
theorem tup_at {K : PySem.W.Frag} {ι : List Addr} {F H : Hp} {v : V} {A : List Addr} {ds : List D} (x : Ex F H) (w : Ow K ι F H v (.fz (.tup ds)) A) : ∃ p vs, v = .ref p ∧ H p = some (.tup vs) ∧ RdAll K ι F vs ds := by
  cases w.fz_inv.1 with
  | tup e r => exact ⟨_, _, rfl, x _ _ e, r⟩
/-- a new list of frozen things -/
theorem new_lst {K : PySem.W.Frag} {ι : List Addr} {F H : Hp} {Q : VK} {vs : List V} {ds : List D} (x : Ex F H) (q : ∀ v Bo F' H', New F H F' H' Bo → Ex F' H' → Ow K ι F' H' v (.lst (ds.map O.fz)) Bo → Bo.Nodup → (∀ a ∈ Bo, F' a = none) → Q v H') (r : RdAll K ι F vs ds) {p : Addr} (hp : H p = none) : Q (.ref p) (upd H p (.lst vs)) := by
  have n := New.owned (F := F) (u := .lst vs) hp
  refine q (.ref p) [p] F _ n (fun a u h => n.keep a u (x a u h) fun z => z) (.lst upd_same (OwAll.of_rd r)) (by simp) fun a ha => ?_
  have e : a = p := by simpa using ha
  subst e
  exact ex_none x hp
/-- a new tuple -/
theorem new_tup {K : PySem.W.Frag} {ι : List Addr} {F H : Hp} {Q : VK} {vs : List V} {ds : List D} (x : Ex F H) (q : ∀ v Bo F' H', New F H F' H' Bo → Ex F' H' → Ow K ι F' H' v (.fz (.tup ds)) Bo → Bo.Nodup → (∀ a ∈ Bo, F' a = none) → Q v H') (r : RdAll K ι F vs ds) {p : Addr} (hp : H p = none) : Q (.ref p) (upd H p (.tup vs)) := by
  have n := New.frozen (F := F) (u := .tup vs) x hp
  exact q (.ref p) [] _ _ n (upd_ex x) (.fz (.tup upd_same (r.mono n.ext (Pre.refl _)))) List.nodup_nil fun _ z => nomatch z
/-- x + y -/
def addO (x y : O) : Option O := match x, y with
  | .fz (.int i), .fz (.int j) => some (.fz (.int (i + j)))
  | .fz (.str a), .fz (.str b) => if a.length + b.length ≤ 100000 then some (.fz (.str (a ++ b))) else none
  | .fz (.tup as), .fz (.tup bs) => if as.length + bs.length ≤ 100000 then some (.fz (.tup (as ++ bs))) else none
  | x, y => match x.items with
    | some as => match y.items with
      | some bs => if as.length + bs.length ≤ 100000 then some (.lst ((as ++ bs).map O.fz)) else none
      | none => none
    | none => none
theorem le_100000 {n : Nat} (h : n ≤ 100000) : n ≤ sizeLine := Nat.le_trans h (by decide)
theorem ok_add : OpOk (binaryOp .Add) addO := by
  intro X n _ x y o h ι F H A B va vb Q e wa wb q
  unfold addO at h
  split at h
  · cases h
    exact ⟨_, op_add, _, _, wa.int, wb.int, same_end e q (.int _)⟩
  · split at h
    · rename_i hl
      cases h
      exact ⟨_, op_add_str, _, _, wa.str, wb.str, le_100000 hl, same_end e q (.str _)⟩
    · cases h
  · rename_i as bs
    split at h
    · rename_i hl
      cases h
      obtain ⟨p, vs, rfl, hp, r⟩ := tup_at e wa
      obtain ⟨p', vs', rfl, hp', r'⟩ := tup_at e wb
      refine ⟨_, op_catA, p, p', vs, vs', rfl, rfl, SqT.of hp, SqT.of hp', le_100000 (by rw [r.length, r'.length]; exact hl), fun z => ?_, fun _ z => ?_, fun _ _ a ha => new_tup e q (r.append r') ha⟩
      · subst z
        cases r with
        | nil => exact same_end e q wb.fz_inv.1
      · subst z
        cases r' with
        | nil => exact same_end e q (by rw [List.append_nil]; exact wa.fz_inv.1)
    · cases h
  · split at h
    · rename_i as has
      split at h
      · rename_i bs hbs
        split at h
        · rename_i hl
          cases h
          obtain ⟨p, vs, rfl, hp, r⟩ := items_at e wa has
          obtain ⟨p', vs', rfl, hp', r'⟩ := items_at e wb hbs
          exact ⟨_, op_cat, p, p', vs, vs', rfl, rfl, hp, hp', le_100000 (by rw [r.length, r'.length]; exact hl), fun a ha => new_lst e q (r.append r') ha⟩
        · cases h
      · cases h
    · cases h
end VL
namespace VL
open PySem PySem.Spec
open PyProof.Rows L2
/-! ### data of the library -/
mutual
def D.py : D → Option PyData
  | .non => some .none
  | .bl b => some (.bool b)
  | .int i => some (.int i)
  | .str x => some (.str x)
  | .tup ds => match D.pys ds with
    | some ps => some (.tuple ps)
    | none => none
  | .lst ds => match D.pys ds with
    | some ps => some (.list ps)
    | none => none
  | .dct _ => none
  | .obj _ _ _ => none
  | .scr _ => none
  | .raw _ => none
def D.pys : List D → Option (List PyData)
  | [] => some []
  | d :: ds => match D.py d with
    | some p => match D.pys ds with
      | some ps => some (p :: ps)
      | none => none
    | none => none
end
mutual
theorem Rd.dp {K : PySem.W.Frag} {ι : List Addr} {H : Hp} : ∀ {v : V} {d : D} {p : PyData}, Rd K ι H v d → d.py = some p → Dp K H v p
  | _, _, _, .non, e => by simp [D.py] at e; subst e; exact .non
  | _, _, _, .bl b, e => by simp [D.py] at e; subst e; exact .bl b
  | _, _, _, .int i, e => by simp [D.py] at e; subst e; exact .int i
  | _, _, _, .str x, e => by simp [D.py] at e; subst e; exact .str x
  | _, _, _, .tup (ds := ds) h r, e => by
    rw [D.py] at e
    cases q : D.pys ds with
    | none =>
            rw [q] at e; cases e
    | some ps => rw [q] at e; cases e; exact .tup (SqT.of h) (RdAll.dp r q)
  | _, _, _, .lst (ds := ds) h r, e => by
    rw [D.py] at e
    cases q : D.pys ds with
    | none =>
            rw [q] at e; cases e
    | some ps => rw [q] at e; cases e; exact .lst (SqL.of h) (RdAll.dp r q)
  | _, _, _, .dct _ _ _, e => by simp [D.py] at e
  | _, _, _, .obj _ _ _ _, e => by simp [D.py] at e
  | _, _, _, .scr _, e => by simp [D.py] at e
  | _, _, _, .raw _, e => by simp [D.py] at e
theorem RdAll.dp {K : PySem.W.Frag} {ι : List Addr} {H : Hp} : ∀ {vs : List V} {ds : List D} {ps : List PyData}, RdAll K ι H vs ds → D.pys ds = some ps → DpAll K H vs ps
  | _, _, _, .nil, e => by simp [D.pys] at e; subst e; exact .nil
  | _, _, _, .cons (d := d) (ds := ds) h r, e => by
    rw [D.pys] at e
    cases q : D.py d with
    | none =>
            rw [q] at e; cases e
    | some p =>
      cases q2 : D.pys ds with
      | none => rw [q, q2] at e; cases e
      | some ps =>
        rw [q, q2] at e
        cases e
        exact .cons (Rd.dp h q) (RdAll.dp r q2)
end
/-- what is seen of an owned tree -/
theorem Ow.seen {K : PySem.W.Frag} {ι : List Addr} {F H : Hp} {v : V} {o : O} {A : List Addr} {d : D} (e : Ex F H) (w : Ow K ι F H v o A) (h : o.frz = some d) : Rd K ι H v d := w.freeze e h fun _ _ _ q => q
/-- the data of a thing -/
def O.dat (o : O) : Option PyData := match o.frz with
  | some d => match d.py with
    | some p => if SeqAt.shaped p then some p else none
    | none => none
  | none => none
theorem dat_at {K : PySem.W.Frag} {ι : List Addr} {F H : Hp} {v : V} {o : O} {A : List Addr} {p : PyData} (e : Ex F H) (w : Ow K ι F H v o A) (h : o.dat = some p) : Dp K H v p ∧ SeqAt.shaped p = true := by
  unfold O.dat at h
  cases q : o.frz with
  | none => rw [q] at h; cases h
  | some d =>
    simp only [q] at h
    cases q2 : d.py with
    | none => rw [q2] at h; cases h
    | some p' =>
      simp only [q2] at h
      split at h
      · rename_i hs
        cases h
        exact ⟨(w.seen e q).dp q2, hs⟩
      · cases h
/-! ### ==, != of data; is -/
def eqDO (x y : O) : Option O := match x.dat with
  | some p => match y.dat with
    | some q => some (.fz (.bl (PyData.eqv p q)))
    | none => none
  | none => none
def neDO (x y : O) : Option O := match x.dat with
  | some p => match y.dat with
    | some q => some (.fz (.bl (!PyData.eqv p q)))
    | none => none
  | none => none
theorem ok_eqD : OpOk (compareOp .Eq) eqDO := by
  intro X n hr x y o h ι F H A B va vb Q e wa wb q
  unfold eqDO at h
  cases h1 : x.dat with
  | none => simp only [h1] at h; cases h
  | some p =>
    cases h2 : y.dat with
    | none => simp only [h1, h2] at h; cases h
    | some r =>
      simp only [h1, h2] at h
      cases h
      obtain ⟨d1, s1⟩ := dat_at e wa h1
      obtain ⟨d2, s2⟩ := dat_at e wb h2
      exact ⟨_, op_eqD hr.units, p, r, d1, d2, s1, s2, same_end e q (.bl _)⟩
theorem ok_neD : OpOk (compareOp .NotEq) neDO := by
  intro X n hr x y o h ι F H A B va vb Q e wa wb q
  unfold neDO at h
  cases h1 : x.dat with
  | none => simp only [h1] at h; cases h
  | some p =>
    cases h2 : y.dat with
    | none => simp only [h1, h2] at h; cases h
    | some r =>
      simp only [h1, h2] at h
      cases h
      obtain ⟨d1, s1⟩ := dat_at e wa h1
      obtain ⟨d2, s2⟩ := dat_at e wb h2
      exact ⟨_, op_neD hr.units, p, r, d1, d2, s1, s2, same_end e q (.bl _)⟩
/-- two texts, else data -/
def eqO (x y : O) : Option O := match x, y with
  | .fz (.str a), .fz (.str b) => some (.fz (.bl (decide (a = b))))
  | x, y => eqDO x y
def neO (x y : O) : Option O := match x, y with
  | .fz (.str a), .fz (.str b) => some (.fz (.bl (!decide (a = b))))
  | x, y => neDO x y
theorem dec_vstr {a b : Str} : decide (V.str a = V.str b) = decide (a = b) := by
  by_cases h : a = b
  · subst h
    simp
  · rw [decide_eq_false h, decide_eq_false fun z => h (by cases z; rfl)]
theorem ok_eq : OpOk (compareOp .Eq) eqO := by
  intro X n hr x y o h ι F H A B va vb Q e wa wb q
  unfold eqO at h
  split at h
  · rename_i a b
    cases h
    have e1 : va = .str a := by
      cases wa with
      | fz r => cases r; rfl
    have e2 : vb = .str b := by
      cases wb with
      | fz r => cases r; rfl
    subst e1
    subst e2
    exact ⟨_, op_eq, rfl, by rw [dec_vstr]; exact q _ [] F H New.refl e (.fz (.bl _)) List.nodup_nil fun _ z => nomatch z⟩
  · exact ok_eqD X n hr x y o h ι F H A B va vb Q e wa wb q
theorem ok_ne : OpOk (compareOp .NotEq) neO := by
  intro X n hr x y o h ι F H A B va vb Q e wa wb q
  unfold neO at h
  split at h
  · rename_i a b
    cases h
    have e1 : va = .str a := by
      cases wa with
      | fz r => cases r; rfl
    have e2 : vb = .str b := by
      cases wb with
      | fz r => cases r; rfl
    subst e1
    subst e2
    exact ⟨_, op_ne, rfl, by rw [dec_vstr]; exact q _ [] F H New.refl e (.fz (.bl _)) List.nodup_nil fun _ z => nomatch z⟩
  · exact ok_neD X n hr x y o h ι F H A B va vb Q e wa wb q
def isO (n : Bool) (x y : O) : Option O := match x, y with
  | .fz (.bl a), .fz (.bl b) => some (.fz (.bl (n != decide (a = b))))
  | .fz .non, .fz .non => some (.fz (.bl (!n)))
  | .fz (.bl _), .fz .non => some (.fz (.bl n))
  | .fz (.int _), .fz .non => some (.fz (.bl n))
  | .fz (.str _), .fz .non => some (.fz (.bl n))
  | .fz (.tup _), .fz .non => some (.fz (.bl n))
  | .fz (.lst _), .fz .non => some (.fz (.bl n))
  | .lst _, .fz .non => some (.fz (.bl n))
  | _, _ => none
theorem non_of {K : PySem.W.Frag} {ι : List Addr} {F H : Hp} {v : V} {A : List Addr} (w : Ow K ι F H v (.fz .non) A) : v = .non := by
  cases w.fz_inv.1
  rfl
theorem isO_non {n : Bool} {K : PySem.W.Frag} {ι : List Addr} {F H : Hp} {va vb : V} {x y o : O} {A B : List Addr} (h : isO n x y = some o) (wa : Ow K ι F H va x A) (wb : Ow K ι F H vb y B) :
    (∃ a b, va = .bl a ∧ vb = .bl b ∧ o = .fz (.bl (n != decide (a = b)))) ∨ (vb = .non ∧ o = .fz (.bl (n != decide (va = .non)))) := by
  unfold isO at h
  split at h
  · cases h
    exact .inl ⟨_, _, wa.bl, wb.bl, rfl⟩
  · cases h
    refine .inr ⟨non_of wb, ?_⟩
    rw [non_of wa]
    cases n <;> rfl
  · cases h
    refine .inr ⟨non_of wb, ?_⟩
    rw [wa.bl]
    cases n <;> rfl
  · cases h
    refine .inr ⟨non_of wb, ?_⟩
    rw [wa.int]
    cases n <;> rfl
  · cases h
    refine .inr ⟨non_of wb, ?_⟩
    rw [wa.str]
    cases n <;> rfl
  · cases h
    refine .inr ⟨non_of wb, ?_⟩
    cases wa.fz_inv.1
    cases n <;> rfl
  · cases h
    refine .inr ⟨non_of wb, ?_⟩
    cases wa.fz_inv.1
    cases n <;> rfl
  · cases h
    refine .inr ⟨non_of wb, ?_⟩
    cases wa
    cases n <;> rfl
  · cases h
theorem ok_is : OpOk (compareOp .Is) (isO false) := by
  intro X k hr x y o h ι F H A B va vb Q e wa wb q
  rcases isO_non h wa wb with ⟨a, b, e1, e2, e3⟩ | ⟨e2, e3⟩
  · subst e3
    exact ⟨_, op_is_bl, a, b, e1, e2, by rw [← Bool.false_bne (decide (a = b))]; exact same_end e q (.bl _)⟩
  · subst e3
    exact ⟨_, op_isN, e2, by rw [← Bool.false_bne (decide (va = V.non))]; exact same_end e q (.bl _)⟩
theorem ok_isnot : OpOk (compareOp .IsNot) (isO true) := by
  intro X k hr x y o h ι F H A B va vb Q e wa wb q
  rcases isO_non h wa wb with ⟨a, b, e1, e2, e3⟩ | ⟨e2, e3⟩
  · subst e3
    exact ⟨_, op_isnot_bl, a, b, e1, e2, by rw [← Bool.true_bne (decide (a = b))]; exact same_end e q (.bl _)⟩
  · subst e3
    exact ⟨_, op_notN, e2, by rw [← Bool.true_bne (decide (va = V.non))]; exact same_end e q (.bl _)⟩
/-! ### subscripts -/
def idxO (x y : O) : Option O := match x, y with
  | .fz (.tup ds), .fz (.int i) => match atI ds i with
    | some d => some (.fz d)
    | none => none
  | .fz (.scr ns), .fz (.int i) => match atI ns i with
    | some n => some (.fz (.int n))
    | none => none
  | x, .fz (.int i) => match x.items with
    | some ds => match atI ds i with
      | some d => some (.fz d)
      | none => none
    | none => none
  | _, _ => none
def ixW (X : Cx) : R2 := fun x y H Q => ∃ r, IxR X r ∧ r x y H Q
theorem ixW_ok {X : Cx} : IxR X (ixW X) := by
  intro e1 e2 pins s σ H x i v u Q I rx ri ⟨r, h, q⟩ hs
  exact h e1 e2 pins s σ H x i v u Q I rx ri q hs
theorem atI_rd {K : PySem.W.Frag} {ι : List Addr} {F : Hp} {vs : List V} {ds : List D} {i : Int} {d : D} (r : RdAll K ι F vs ds) (h : atI ds i = some d) : ∃ v, atI vs i = some v ∧ Rd K ι F v d := by
  unfold atI at h ⊢
  rw [r.length]
  cases q : ixN ds.length i with
  | none => rw [q] at h; cases h
  | some j =>
    rw [q] at h
    exact r.get h
theorem idx_run {X : Cx} {x y o : O} (h : idxO x y = some o) {ι : List Addr} {F H : Hp} {A B : List Addr} {va vb : V} {Q : VK} (e : Ex F H) (wa : Ow X.K ι F H va x A) (wb : Ow X.K ι F H vb y B)
    (q : ∀ v Bo F' H', New F H F' H' Bo → Ex F' H' → Ow X.K ι F' H' v o Bo → Bo.Nodup → (∀ a ∈ Bo, F' a = none) → Q v H') : ixW X va vb H Q := by
  unfold idxO at h
  split at h
  · rename_i ds i
    split at h
    · rename_i d hd
      cases h
      obtain ⟨p, vs, rfl, hp, r⟩ := tup_at e wa
      obtain ⟨v, h1, h2⟩ := atI_rd r hd
      exact ⟨_, ix_tup, p, vs, i, v, rfl, wb.int, SqT.of hp, h1, same_end e q h2⟩
    · cases h
  · rename_i ns i
    split at h
    · rename_i n hn
      cases h
      cases wa.fz_inv.1 with
      | scr hs =>
        refine ⟨_, ix_list, _, _, i, .int n, rfl, wb.int, sqL_mono e hs, ?_, same_end e q (.int n)⟩
        unfold atI at hn ⊢
        rw [List.length_map]
        cases q : ixN ns.length i with
        | none => rw [q] at hn; cases hn
        | some j =>
          rw [q] at hn
          show (ns.map V.int)[j]? = some (.int n)
          rw [List.getElem?_map, show ns[j]? = some n from hn]
          rfl
    · cases h
  · rename_i i _ _
    split at h
    · rename_i ds hds
      split at h
      · rename_i d hd
        cases h
        obtain ⟨p, vs, rfl, hp, r⟩ := items_at e wa hds
        obtain ⟨v, h1, h2⟩ := atI_rd r hd
        exact ⟨_, ix_list, p, vs, i, v, rfl, wb.int, SqL.of hp, h1, same_end e q h2⟩
      · cases h
    · cases h
  · cases h
section
variable {C : Ctx}
theorem de_ix {a b : Expr} {fa fb : M Opnd} {pos : Pos} (ha : DO C a fa) (hb : DO C b fb) (hs : PlainIx b := by exact fun _ _ => rfl) : DE C (.Subscript a b pos) (mOp2 idxO fa fb) := by
  intro X hX ι As F H σ s m Q W tk p
  refine tW_of (pe_ix ixW_ok pe_W pe_W hs) (two hX ha hb m tk p fun ι As F H s x y va vb m ra rb p => ?_)
  unfold op2 at p
  cases e1 : opv x s with
  | none => rw [e1] at p; exact p.elim
  | some x' =>
    rw [e1] at p
    cases e2 : opv y s with
    | none => simp only [e2] at p; exact p.elim
    | some y' =>
      simp only [e2] at p
      cases e3 : idxO x' y' with
      | none => simp only [e3] at p; exact p.elim
      | some o =>
        simp only [e3] at p
        obtain ⟨A, wa⟩ := opv_ow m ra e1
        obtain ⟨B, wb⟩ := opv_ow m rb e2
        exact idx_run e3 m.ext wa wb fun v Bo F' H' n x' w nd fr => post_new m p n x' w nd fr
end
/-! ### built-ins -/
theorem OwVs.one {K : PySem.W.Frag} {ι : List Addr} {F H : Hp} {vs : List V} {x : O} (h : OwVs K ι F H vs [x]) : ∃ v A, vs = [v] ∧ Ow K ι F H v x A := by
  cases h with
  | cons A w r => cases r; exact ⟨_, A, rfl, w⟩
theorem OwVs.two {K : PySem.W.Frag} {ι : List Addr} {F H : Hp} {vs : List V} {x y : O} (h : OwVs K ι F H vs [x, y]) : ∃ v w A B, vs = [v, w] ∧ Ow K ι F H v x A ∧ Ow K ι F H w y B := by
  cases h with
  | cons A w r =>
    obtain ⟨v', B, rfl, w'⟩ := r.one
    exact ⟨_, _, A, B, rfl, w, w'⟩
def lenO : List O → Option O
  | [.fz (.tup ds)] => some (.fz (.int ds.length))
  | [.fz (.scr ns)] => some (.fz (.int ns.length))
  | [.fz (.str x)] => if x.length ≤ 100000 then some (.fz (.int x.length)) else none
  | [x] => match x.items with
    | some ds => some (.fz (.int ds.length))
    | none => none
  | _ => none
theorem ok_len : CbOk (.builtin "len") lenO := by
  intro X k hr _ hc xs o h ι F H vs Q e w q
  unfold lenO at h
  split at h
  · cases h
    obtain ⟨v, A, rfl, wv⟩ := w.one
    obtain ⟨p, vs, rfl, hp, r⟩ := tup_at e wv
    exact ⟨_, call_len, _, _, rfl, .inr ⟨vs, SqT.of hp, rfl⟩, by rw [r.length]; exact same_end e q (.int _)⟩
  · cases h
    obtain ⟨v, A, rfl, wv⟩ := w.one
    cases wv.fz_inv.1 with
    | scr hs => exact ⟨_, call_len, _, _, rfl, .inl ⟨_, sqL_mono e hs, rfl⟩, by rw [List.length_map]; exact same_end e q (.int _)⟩
  · split at h
    · rename_i hl
      cases h
      obtain ⟨v, A, rfl, wv⟩ := w.one
      exact ⟨_, call_len, _, _, rfl, by rw [wv.str]; exact ⟨le_100000 hl, rfl⟩, same_end e q (.int _)⟩
    · cases h
  · split at h
    · rename_i ds hds
      cases h
      obtain ⟨v, A, rfl, wv⟩ := w.one
      obtain ⟨p, vs, rfl, hp, r⟩ := items_at e wv hds
      exact ⟨_, call_len, _, _, rfl, .inl ⟨vs, SqL.of hp, rfl⟩, by rw [r.length]; exact same_end e q (.int _)⟩
    · cases h
  · cases h
def tupleO : List O → Option O
  | [.fz (.tup ds)] => some (.fz (.tup ds))
  | [x] => match x.items with
    | some ds => some (.fz (.tup ds))
    | none => none
  | _ => none
theorem ok_tuple : CbOk (.type "tuple") tupleO := by
  intro X k hr _ hc xs o h ι F H vs Q e w q
  unfold tupleO at h
  split at h
  · cases h
    obtain ⟨v, A, rfl, wv⟩ := w.one
    obtain ⟨p, vs, rfl, hp, r⟩ := tup_at e wv
    exact ⟨_, call_tuple_of, p, vs, rfl, .inr ⟨SqT.of hp, same_end e q wv.fz_inv.1⟩⟩
  · split at h
    · rename_i ds hds
      cases h
      obtain ⟨v, A, rfl, wv⟩ := w.one
      obtain ⟨p, vs, rfl, hp, r⟩ := items_at e wv hds
      exact ⟨_, call_tuple_of, p, vs, rfl, .inl ⟨SqL.of hp, fun a ha => new_tup e q r ha⟩⟩
    · cases h
  · cases h
def listO : List O → Option O
  | [.fz (.tup ds)] => some (.lst (ds.map O.fz))
  | [.fz (.scr ns)] => some (.lst (ns.map fun n => O.fz (.int n)))
  | [x] => match x.items with
    | some ds => some (.lst (ds.map O.fz))
    | none => none
  | _ => none
theorem rd_ints {K : PySem.W.Frag} {ι : List Addr} {F : Hp} : ∀ (ns : List Int), RdAll K ι F (ns.map V.int) (ns.map D.int)
  | [] => .nil
  | n :: ns => .cons (.int n) (rd_ints ns)
theorem ok_list : CbOk (.type "list") listO := by
  intro X k hr _ hc xs o h ι F H vs Q e w q
  unfold listO at h
  split at h
  · cases h
    obtain ⟨v, A, rfl, wv⟩ := w.one
    obtain ⟨p, vs, rfl, hp, r⟩ := tup_at e wv
    exact ⟨_, call_list_of, p, vs, rfl, .inr (SqT.of hp), fun a ha => new_lst e q r ha⟩
  · rename_i ns
    cases h
    obtain ⟨v, A, rfl, wv⟩ := w.one
    cases wv.fz_inv.1 with
    | scr hs =>
      have eq : (ns.map fun n => O.fz (.int n)) = (ns.map D.int).map O.fz := by rw [List.map_map]; rfl
      rw [eq] at q
      exact ⟨_, call_list_of, _, _, rfl, .inl (sqL_mono e hs), fun a ha => new_lst e q (rd_ints ns) ha⟩
  · split at h
    · rename_i ds hds
      cases h
      obtain ⟨v, A, rfl, wv⟩ := w.one
      obtain ⟨p, vs, rfl, hp, r⟩ := items_at e wv hds
      exact ⟨_, call_list_of, p, vs, rfl, .inl (SqL.of hp), fun a ha => new_lst e q r ha⟩
    · cases h
  · cases h
def intCO : List O → Option O
  | [.fz (.int i)] => some (.fz (.int i))
  | [.fz (.bl b)] => some (.fz (.int (if b then 1 else 0)))
  | _ => none
theorem ok_intC : CbOk (.type "int") intCO := by
  intro X k hr _ hc xs o h ι F H vs Q e w q
  unfold intCO at h
  split at h
  · cases h
    obtain ⟨v, A, rfl, wv⟩ := w.one
    exact ⟨_, call_int1, .inl ⟨_, by rw [wv.int], same_end e q (.int _)⟩⟩
  · cases h
    obtain ⟨v, A, rfl, wv⟩ := w.one
    exact ⟨_, call_int1, .inr ⟨_, by rw [wv.bl], same_end e q (.int _)⟩⟩
  · cases h
/-- a row of bools -/
def D.bls : List D → Option (List Bool)
  | [] => some []
  | .bl b :: ds => match D.bls ds with
    | some bs => some (b :: bs)
    | none => none
  | _ :: _ => none
theorem rd_bls {K : PySem.W.Frag} {ι : List Addr} {F : Hp} : ∀ {ds : List D} {vs : List V} {bs : List Bool}, RdAll K ι F vs ds → D.bls ds = some bs → vs = bs.map V.bl
  | [], _, _, .nil, h => by cases h; rfl
  | .bl b :: ds, _, _, .cons r rr, h => by
    unfold D.bls at h
    split at h
    · rename_i bs hbs
      cases h
      cases r
      rw [rd_bls rr hbs]
      rfl
    · cases h
  | .non :: _, _, _, .cons _ _, h => by cases h
  | .int _ :: _, _, _, .cons _ _, h => by cases h
  | .str _ :: _, _, _, .cons _ _, h => by cases h
  | .tup _ :: _, _, _, .cons _ _, h => by cases h
  | .lst _ :: _, _, _, .cons _ _, h => by cases h
  | .dct _ :: _, _, _, .cons _ _, h => by cases h
  | .obj _ _ _ :: _, _, _, .cons _ _, h => by cases h
  | .scr _ :: _, _, _, .cons _ _, h => by cases h
  | .raw _ :: _, _, _, .cons _ _, h => by cases h
def allO (f : List Bool → Bool) : List O → Option O
  | [x] => match x.items with
    | some ds => match D.bls ds with
      | some bs => some (.fz (.bl (f bs)))
      | none => none
    | none => none
  | _ => none
theorem allO_inv {f : List Bool → Bool} {xs : List O} {o : O} (h : allO f xs = some o) : ∃ x ds bs, xs = [x] ∧ x.items = some ds ∧ D.bls ds = some bs ∧ o = .fz (.bl (f bs)) := by
  unfold allO at h
  split at h
  · split at h
    · rename_i ds hds
      split at h
      · rename_i bs hbs
        cases h
        exact ⟨_, ds, bs, rfl, hds, hbs, rfl⟩
      · cases h
    · cases h
  · cases h
theorem ok_all : CbOk (.builtin "all") (allO fun bs => bs.all id) := by
  intro X k hr _ hc xs o h ι F H vs Q e w q
  obtain ⟨x, ds, bs, rfl, h1, h2, rfl⟩ := allO_inv h
  obtain ⟨v, A, rfl, wv⟩ := w.one
  obtain ⟨p, vs, rfl, hp, r⟩ := items_at e wv h1
  exact ⟨_, cr_all hc, p, bs, rfl, by rw [← rd_bls r h2]; exact SqL.of hp, same_end e q (.bl _)⟩
theorem ok_any : CbOk (.builtin "any") (allO fun bs => bs.any id) := by
  intro X k hr _ hc xs o h ι F H vs Q e w q
  obtain ⟨x, ds, bs, rfl, h1, h2, rfl⟩ := allO_inv h
  obtain ⟨v, A, rfl, wv⟩ := w.one
  obtain ⟨p, vs, rfl, hp, r⟩ := items_at e wv h1
  exact ⟨_, cr_any hc, p, bs, rfl, by rw [← rd_bls r h2]; exact SqL.of hp, same_end e q (.bl _)⟩
/-- a row of ints -/
def D.nums : List D → Option (List Int)
  | [] => some []
  | .int b :: ds => match D.nums ds with
    | some bs => some (b :: bs)
    | none => none
  | _ :: _ => none
theorem rd_nums {K : PySem.W.Frag} {ι : List Addr} {F : Hp} : ∀ {ds : List D} {vs : List V} {bs : List Int}, RdAll K ι F vs ds → D.nums ds = some bs → vs = bs.map V.int
  | [], _, _, .nil, h => by cases h; rfl
  | .int b :: ds, _, _, .cons r rr, h => by
    unfold D.nums at h
    split at h
    · rename_i bs hbs
      cases h
      cases r
      rw [rd_nums rr hbs]
      rfl
    · cases h
  | .non :: _, _, _, .cons _ _, h => by cases h
  | .bl _ :: _, _, _, .cons _ _, h => by cases h
  | .str _ :: _, _, _, .cons _ _, h => by cases h
  | .tup _ :: _, _, _, .cons _ _, h => by cases h
  | .lst _ :: _, _, _, .cons _ _, h => by cases h
  | .dct _ :: _, _, _, .cons _ _, h => by cases h
  | .obj _ _ _ :: _, _, _, .cons _ _, h => by cases h
  | .scr _ :: _, _, _, .cons _ _, h => by cases h
  | .raw _ :: _, _, _, .cons _ _, h => by cases h
def maxL : List Int → Int
  | [] => 0
  | [x] => x
  | x :: y :: r => let m := maxL (y :: r); if x ≤ m then m else x
theorem maxL_mem : ∀ {l : List Int}, l ≠ [] → maxL l ∈ l
  | [x], _ => List.mem_cons_self
  | x :: y :: r, _ => by
    have ih := maxL_mem (l := y :: r) (fun z => nomatch z)
    unfold maxL
    simp only
    split
    · exact List.mem_cons_of_mem _ ih
    · exact List.mem_cons_self
theorem maxL_le : ∀ {l : List Int} {x : Int}, x ∈ l → x ≤ maxL l
  | [y], x, h => by
    have e : x = y := by simpa using h
    subst e
    exact Int.le_refl _
  | y :: z :: r, x, h => by
    unfold maxL
    simp only
    rcases
            List.mem_cons.mp h with e | e
    · subst e
      split
      · assumption
      · exact Int.le_refl _
    · have ih := maxL_le (l := z :: r) e
      split
      · exact ih
      · rename_i hh; omega
def maxO : List O → Option O
  | [x] => match x.items with
    | some ds => match D.nums ds with
      | some (n :: ns) => some (.fz (.int (maxL (n :: ns))))
      | _ => none
    | none => none
  | _ => none
theorem ok_max : CbOk (.builtin "max") maxO := by
  intro X k hr _ hc xs o h ι F H vs Q e w q
  unfold maxO at h
  split at h
  · split at h
    · rename_i ds hds
      split at h
      · rename_i n ns hns
        cases h
        obtain ⟨v, A, rfl, wv⟩ := w.one
        obtain ⟨p, vs, rfl, hp, r⟩ := items_at e wv hds
        refine ⟨_, cr_max hc, p, n :: ns, rfl, by rw [← rd_nums r hns]; exact SqL.of hp, by simp, fun m hm hle => ?_⟩
        have e1 : m = maxL (n :: ns) := Int.le_antisymm (maxL_le hm) (hle _ (maxL_mem (fun z => nomatch z)))
        subst e1
        exact same_end e q (.int _)
      · cases h
    · cases h
  · cases h
end VL
namespace VL
open PySem PySem.Spec
open PyProof.Rows L2
/-! ### dicts as lists of pairs -/
section
variable
        {κ : Type} [DecidableEq κ]
def getD (m : List (κ × D)) (k : κ) : Option D := (m.find? fun q => decide (q.1 = k)).map (·.2)
def putD (m : List (κ × D)) (k : κ) (d : D) : List (κ × D) := if (m.any fun q => decide (q.1 = k)) = true then m.map (fun q => if q.1 = k then (q.1, d) else q) else m ++ [(k, d)]
inductive RdK (K : PySem.W.Frag) (ι : List Addr) (F : Hp) : List (κ × V) → List (κ × D) → Prop
  | nil : RdK K ι F [] []
  | cons {k : κ} {v : V} {d : D} {m : List (κ × V)} {n : List (κ × D)} : Rd K ι F v d → RdK K ι F m n → RdK K ι F ((k, v) :: m) ((k, d) :: n)
variable {K : PySem.W.Frag} {ι : List Addr} {F : Hp}
theorem rdK_zip : ∀ {ks : List κ} {vs : List V} {ds : List D}, ks.length = vs.length → RdAll K ι F vs ds → RdK K ι F (ks.zip vs) (ks.zip ds)
  | [], _, _, _, _ => .nil
  | k :: ks, _, _, l, .nil => by simp at l
  | k :: ks, _, _, l, .cons h r => .cons h (rdK_zip (by simpa using l) r)
theorem RdK.unzip : ∀ {m : List (κ × V)} {n : List (κ × D)}, RdK K ι F m n → ∃ (ks : List κ) (vs : List V) (ds : List D), m = ks.zip vs ∧ n = ks.zip ds ∧ ks.length = vs.length ∧ RdAll K ι F vs ds
  | _, _, .nil => ⟨[], [], [], rfl, rfl, rfl, .nil⟩
  | _, _, .cons (k := k) (v := v) (d := d) h r => by
    obtain ⟨ks, vs, ds, rfl, rfl, l, rr⟩ := r.unzip
    exact ⟨k :: ks, v :: vs, d :: ds, rfl, rfl, by simp [l], .cons h rr⟩
theorem RdK.mono {ι' : List Addr} {F' : Hp} (e : Ex F F') (p : Pre ι ι') : ∀ {m : List (κ × V)} {n : List (κ × D)}, RdK K ι F m n → RdK K ι' F' m n
  | _, _, .nil => .nil
  | _, _, .cons h r => .cons (h.mono e p) (RdK.mono e p r)
theorem RdK.length : ∀ {m : List (κ × V)} {n : List (κ × D)}, RdK K ι F m n → m.length = n.length
  | _, _, .nil => rfl
  | _, _, .cons _ r => by rw [List.length_cons, List.length_cons, r.length]
theorem RdK.get (j : κ) : ∀ {m : List (κ × V)} {n : List (κ × D)} {d : D}, RdK K ι F m n → getD n j = some d → ∃ v, valV m j = some v ∧ Rd K ι F v d
  | _, _, _, .nil, h => by simp [getD] at h
  | _, _, _, .cons (k := k) (v := v) (d := d) h r, q => by
    by_cases e : k = j
    · simp only [getD, List.find?_cons, e, decide_true, Option.map_some, Option.some.injEq] at q
      subst q
      exact ⟨v, valV_pos e, h⟩
    · obtain ⟨u, h1, h2⟩ := r.get j (by simpa [getD, e] using q)
      exact ⟨u, by rw [valV_neg e]; exact h1, h2⟩
theorem RdK.none (j : κ) : ∀ {m : List (κ × V)} {n : List (κ × D)}, RdK K ι F m n → getD n j = Option.none → valV m j = Option.none
  | _, _, .nil, h => rfl
  | _, _, .cons (k := k) (v := v) (d := d) h r, q => by
    by_cases e : k = j
    · simp [getD, e] at q
    · rw [valV_neg e]
      exact r.none j (by simpa [getD, e] using q)
theorem RdK.any (j : κ) : ∀ {m : List (κ × V)} {n : List (κ × D)}, RdK K ι F m n → (m.any fun q => decide (q.1 = j)) = (n.any fun q => decide (q.1 = j))
  | _, _, .nil => rfl
  | _, _, .cons h r => by rw [List.any_cons, List.any_cons, r.any j]
theorem RdK.sets (j : κ) {w : V} {e : D} (rw' : Rd K ι F w e) : ∀ {m : List (κ × V)} {n : List (κ × D)}, RdK K ι F m n → RdK K ι F (m.map fun q => if q.1 = j then (q.1, w) else q) (n.map fun q => if q.1 = j then (q.1, e) else q)
  | _, _, .nil => .nil
  | _, _, .cons (k := k) h r => by
    rw
            [List.map_cons, List.map_cons]
    by_cases q : k = j
    · simp only [q, if_true]
      exact .cons rw' (r.sets j rw')
    · simp only [q, if_false]
      exact .cons h (r.sets j rw')
theorem RdK.snoc (j : κ) {w : V} {e : D} (rw' : Rd K ι F w e) : ∀ {m : List (κ × V)} {n : List (κ × D)}, RdK K ι F m n → RdK K ι F (m ++ [(j, w)]) (n ++ [(j, e)])
  | _, _, .nil => .cons rw' .nil
  | _, _, .cons h r => .cons h (r.snoc j rw')
theorem RdK.put (j : κ) {w : V} {e : D} (rw' : Rd K ι F w e) {m : List (κ × V)} {n : List (κ × D)} (r : RdK K ι F m n) : RdK K ι F (putK m j w) (putD n j e) := by
  unfold putK putD
  rw [r.any j]
  split
  · exact r.sets j rw'
  · exact r.snoc j rw'
end
theorem Ow.dK_of {K : PySem.W.Frag} {ι : List Addr} {F H : Hp} {p : Addr} {m : List (Key × V)} {n : List (Key × D)} (h : H p = some (.dK m)) (r : RdK K ι F m n) : Ow K ι F H (.ref p) (.dK n) [p] := by
  obtain ⟨ks, vs, ds, rfl, rfl, l, rr⟩ := r.unzip
  exact .dK h l rr
theorem Ow.dT_of {K : PySem.W.Frag} {ι : List Addr} {F H : Hp} {p : Addr} {m : List (List Key × V)} {n : List (List Key × D)} (h : H p = some (.dT m)) (r : RdK K ι F m n) : Ow K ι F H (.ref p) (.dT n) [p] := by
  obtain ⟨ks, vs, ds, rfl, rfl, l, rr⟩ := r.unzip
  exact .dT h l rr
theorem Ow.dK_inv {K : PySem.W.Frag} {ι : List Addr} {F H : Hp} {v : V} {n : List (Key × D)} {A : List Addr} (w : Ow K ι F H v (.dK n) A) : ∃ p m, v = .ref p ∧ A = [p] ∧ H p = some (.dK m) ∧ RdK K ι F m n := by
  cases w with
  | dK h l r => exact ⟨_, _, rfl, rfl, h, rdK_zip l r⟩
theorem Ow.dT_inv {K : PySem.W.Frag} {ι : List Addr} {F H : Hp} {v : V} {n : List (List Key × D)} {A : List Addr} (w : Ow K ι F H v (.dT n) A) : ∃ p m, v = .ref p ∧ A = [p] ∧ H p = some (.dT m) ∧ RdK K ι F m n := by
  cases w with
  | dT h l r => exact ⟨_, _, rfl, rfl, h, rdK_zip l r⟩
theorem Rd.dct_inv {K : PySem.W.Frag} {ι : List Addr} {F : Hp} {v : V} {n : List (Key × D)} (w : Rd K ι F v (.dct n)) : ∃ p m, v = .ref p ∧ F p = some (.dK m) ∧ RdK K ι F m n := by
  cases w with
  | dct h l r => exact ⟨_, _, rfl, h, rdK_zip l r⟩
/-- keys -/
def D.key : D → Option Key
  | .int i => some (.inl i)
  | .str x => some (.inr x)
  | _ => none
def D.keys : List D → Option (List Key)
  | [] => some []
  | d :: ds => match D.key d with
    | some k => match D.keys ds with
      | some ks => some (k :: ks)
      | none => none
    | none => none
theorem Rd.key {K : PySem.W.Frag} {ι : List Addr} {F : Hp} {v : V} {d : D} {k : Key} (r : Rd K ι F v d) (h : d.key = some k) : v = kV k := by
  cases d <;> first | (cases h; done) | (cases h; cases r; rfl)
theorem RdAll.keys {K : PySem.W.Frag} {ι : List Addr} {F : Hp} : ∀ {vs : List V} {ds : List D} {ks : List Key}, RdAll K ι F vs ds → D.keys ds = some ks → vs = ks.map kV
  | _, _, _, .nil, h => by cases h; rfl
  | _, _, _, .cons (d := d) (ds := ds) r rr, h => by
    unfold D.keys at h
    split at h
    · rename_i k hk
      split at h
      · rename_i ks hks
        cases h
        rw [r.key hk, rr.keys hks]
        rfl
      · cases h
    · cases h
/-! ### d[k] -/
def dgetO (x y : O) : Option O := match x, y with
  | .dK m, .fz d => match d.key with
    | some k => (getD m k).map O.fz
    | none => none
  | .fz (.dct m), .fz d => match d.key with
    | some k => (getD m k).map O.fz
    | none => none
  | .dT m, .fz (.tup ds) => match D.keys ds with
    | some ks => (getD m ks).map O.fz
    | none => none
  | _, _ => none
theorem dget_run {K : PySem.W.Frag} {ι : List Addr} {F H : Hp} {va vb : V} {x y o : O} {A B : List Addr} (e : Ex F H) (h : dgetO x y = some o) (wa : Ow K ι F H va x A) (wb : Ow K ι F H vb y B) :
    ∃ a v d, va = .ref a ∧ DGet H a vb (some v) ∧ o = .fz d ∧ Rd K ι F v d := by
  unfold dgetO at h
  split at h
  · rename_i m d
    split at h
    · rename_i k hk
      obtain ⟨z, h1, h2⟩ := Option.map_eq_some_iff.mp h
      obtain ⟨p, m', rfl, rfl, hp, r⟩ := wa.dK_inv
      obtain ⟨v, h3, h4⟩ := r.get k h1
      refine ⟨p, v, z, rfl, ?_, h2.symm, h4⟩
      rw [wb.fz_inv.1.key hk, ← h3]
      exact DGet.k hp
    · cases h
  · rename_i m d
    split at h
    · rename_i k hk
      obtain ⟨z, h1, h2⟩ := Option.map_eq_some_iff.mp h
      obtain ⟨p, m', rfl, hp, r⟩ := wa.fz_inv.1.dct_inv
      obtain ⟨v, h3, h4⟩ := r.get k h1
      refine ⟨p, v, z, rfl, ?_, h2.symm, h4⟩
      rw [wb.fz_inv.1.key hk, ← h3]
      exact DGet.k (e _ _ hp)
    · cases h
  · rename_i m ds
    split at h
    · rename_i ks hks
      obtain ⟨z, h1, h2⟩ := Option.map_eq_some_iff.mp h
      obtain ⟨p, m', rfl, rfl, hp, r⟩ := wa.dT_inv
      obtain ⟨v, h3, h4⟩ := r.get ks h1
      refine ⟨p, v, z, rfl, ?_, h2.symm, h4⟩
      obtain ⟨b, vs, rfl, hb, rr⟩ := tup_at e wb
      rw [← h3]
      exact DGet.t hp (by rw [hb, rr.keys hks])
    · cases h
  · cases h
/-- x[y], whatever x is -/
def sbO (x y : O) : Option O := match dgetO x y with
  | some o => some o
  | none => idxO x y
section
variable {C : Ctx}
/-- the two operands, seen -/
theorem two' {X : Cx} {a b : Expr} {fa fb : M Opnd} {g : Opnd → Opnd → M O} (hX : At C X) (ha : DO C a fa) (hb : DO C b fb) {ι : List Addr} {As : Foot} {F H : Hp} {σ : L2.St} {s : S} (m : Mem X.K ι As F H σ s) {Q : VK} {W : WX} {r : R2}
    (tk : IsX ((fa.bind fun x => fb.bind fun y => g x y) s) → Takes X W) (p : PostV X ι As F H σ ((fa.bind fun x => fb.bind fun y => g x y) s) Q W)
    (k : ∀ ι As F H s1 s2 x y va vb, fa s = .ok x s1 → fb s1 = .ok y s2 → Mem X.K ι As F H σ s2 → OpRd X.K ι F σ va x → OpRd X.K ι F σ vb y → PostV X ι As F H σ (g x y s2) Q W → r va vb H Q) : tOp r (tW X a) (tW X b) σ H Q := by
  refine ha X hX ι As F H σ s m _ W (fun z => tk (isX_bind z)) ?_
  rw [M.bind_def] at p tk
  cases q : fa s with
  | st => rw [q] at p; exact p.elim
  | ex c fs s1 => rw [q] at p; exact p
  | ok x s1 =>
    rw [q] at p tk
    intro va ι1 As1 F1 H1 ev pr m1 ra
    simp only [R.bind_ok, M.bind_def] at p tk
    refine hb X hX ι1 As1 F1 H1 σ s1 m1 _ W (fun z => tk (isX_bind z)) ?_
    cases q2 : fb s1 with
    | st => rw [q2] at p; exact p.elim
    | ex c fs s2 =>
      rw [q2] at p
      exact PostX.step p ev pr fun _ z => z
    | ok y s2 =>
      rw [q2] at p
      intro vb ι2 As2 F2 H2 ev2 pr2 m2 rb
      exact k ι2 As2 F2 H2 s1 s2 x y va vb q q2 m2 (ra.mono ev2.ext pr2) rb (PostV.step (PostV.step p ev pr fun _ z => z) ev2 pr2 fun _ z => z)
/-- does it end in a dict's reading? -/
def isDG (fa fb : M Opnd) (s : S) : Bool := match fa s with
  | .ok x s1 => match fb s1 with
    | .ok y s2 => match opv x s2 with
      | some x' => match opv y s2 with
        | some y' => (dgetO x' y').isSome
        | none => false
      | none => false
    | _ => false
  | _ => false
theorem de_sub {a b : Expr} {fa fb : M Opnd} {pos : Pos} (ha : DO C a fa) (hb : DO C b fb) (hs : PlainIx b := by exact fun _ _ => rfl) (hn : NoSl b := by exact fun _ _ => rfl) : DE C (.Subscript a b pos) (mOp2 sbO fa fb) := by
  intro X hX ι As F H σ s m Q W tk p
  by_cases hd : isDG fa fb s = true
  · refine tW_of (pe_dget (by have := hX.room.units; omega) pe_W pe_W hn) (two' (r := fun x y H Q => ∃ a v, x = .ref a ∧ DGet H a y (some v) ∧ Q v H) hX ha hb m tk p fun ι As F H s1 s2 x y va vb e1 e2 m ra rb p => ?_)
    unfold isDG at hd
    simp only [e1, e2] at hd
    unfold op2 at p
    cases h1 : opv x s2 with
    | none => simp [h1] at hd
    | some x' =>
      cases h2 : opv y s2 with
      | none => simp [h1, h2] at hd
      | some y' =>
        simp only [h1, h2] at hd p
        obtain ⟨o, ho⟩ := Option.isSome_iff_exists.mp hd
        simp only [sbO, ho] at p
        obtain ⟨A, wa⟩ := opv_ow m ra h1
        obtain ⟨B, wb⟩ := opv_ow m rb h2
        obtain ⟨c, v, d, q1, q2, q3, q4⟩ := dget_run m.ext ho wa wb
        subst q3
        exact ⟨c, v, q1, q2, post_new m p New.refl m.ext (.fz q4) List.nodup_nil fun _ z => nomatch z⟩
  · refine tW_of (pe_ix ixW_ok pe_W pe_W hs) (two' hX ha hb m tk p fun ι As F H s1 s2 x y va vb e1 e2 m ra rb p => ?_)
    unfold isDG at hd
    simp only [e1, e2] at hd
    unfold op2 at p
    cases h1 : opv x s2 with
    | none => rw [h1] at p; exact p.elim
    | some x' =>
      rw [h1] at p
      cases h2 : opv y s2 with
      | none => simp only [h2] at p; exact p.elim
      | some y' =>
        simp only [h1, h2] at p hd
        cases hz : dgetO x' y' with
        | some o => rw [hz] at hd; exact (hd rfl).elim
        | none =>
          simp only [sbO, hz] at p
          cases e3 : idxO x' y' with
          | none => simp only [e3] at p; exact p.elim
          | some o =>
            simp only [e3] at p
            obtain ⟨A, wa⟩ := opv_ow m ra h1
            obtain ⟨B, wb⟩ := opv_ow m rb h2
            exact idx_run e3 m.ext wa wb fun v Bo F' H' n x' w nd fr => post_new m p n x' w nd fr
end
end VL
namespace VL
open PySem PySem.Spec
open PyProof.Rows L2
section
variable {C : Ctx}
/-! ### a value that is made is frozen -/
def fzM (f : M O) : M O := f.bind fun o s => match o.frz with
  | some d => .ok (.fz d) s
  | none => .ok o s
/-- what is owned freezes -/
theorem freeze1 {K : PySem.W.Frag} {ι : List Addr} {As : Foot} {P : Addr → Prop} {F0 H0 F H : Hp} {σ : L2.St} {s : S} {v : V} {o : O} {d : D} {B : List Addr} (m : Mem K ι As F H σ s) (ev : Evo P (fun a => own As a ∨ a ∈ B) F0 H0 F H)
    (w : Ow K ι F H v o B) (fr : ∀ a ∈ B, F a = none ∧ ¬ own As a) (e : o.frz = some d) :
    ∃ F', Evo P (own As) F0 H0 F' H ∧ Mem K ι As F' H σ s ∧ Rd K ι F' v d := by
  have je : Ex F (join F H B) := join_ext fun a ha => (fr a ha).1
  refine ⟨join F H B, ⟨Same.trans ev.ext je, ev.keep, fun a u q => ?_, fun a q => ev.foot a (.inl q), ev.there⟩, m.keepN je (join_in m.ext) (fun _ _ _ q => q) (fun a q => join_none (m.own_none q) fun z => (fr a z).2 q), w.freeze je e join_at⟩
  rcases join_of q with q | q
  · exact ev.grow a u q
  · rcases ev.foot a (.inr q) with z | z
    · exact .inr (.inl z)
    · exact .inr (.inr z)
theorem de_fz {e : Expr} {f : M O} (h : DE C e f) : DE C e (fzM f) := by
  intro X hX ι As F H σ s m Q W tk p
  unfold fzM at p tk
  refine h X hX ι As F H σ s m Q W (isX_of tk) ?_
  simp only [M.bind_def] at p
  cases q : f s with
  | st => rw [q] at p; exact p.elim
  | ex c fs s1 => rw [q] at p; exact p
  | ok o s1 =>
    rw [q] at p
    simp only [R.bind_ok] at p
    cases hz : o.frz with
    | none => rw [hz] at p; exact p
    | some d =>
      rw [hz] at p
      intro v B ι1 As1 F1 H1 ev pr m1 w nd fr
      obtain ⟨F2, ev2, m2, r⟩ := freeze1 m1 ev w fr hz
      exact p v [] ι1 As1 F2 H1 (ev2.post fun a z => by
        rcases z with z | z
        · exact z
        · cases z) pr m2 (.fz r) List.nodup_nil fun _ z => nomatch z
/-! ### a thing that a name holds changes -/
theorem Mem.rewr {K : PySem.W.Frag} {ι : List Addr} {As : Foot} {F H : Hp} {σ : L2.St} {s : S} (m : Mem K ι As F H σ s) {i : Nat} {v : V} {o o' : O} {p : Addr} {u : HO} {B : List Addr} (hi : s.ρ[i]? = some (some o)) (hv : σ[i]? = some (some v)) (hp : p ∈ As i)
    (hB : ∀ a ∈ B, a ∈ As i ∨ (F a = none ∧ ¬ own As a)) (nd : B.Nodup) (w : Ow K ι F (upd H p u) v o' B) : Mem K ι (setF As i B) F (upd H p u) σ { s with ρ := s.ρ.set i (some o') } := by
  have hlt := m.lt hi
  have fp : F p = none := m.fr i p hp
  have nj : ∀ j, j ≠ i → ∀ a ∈ As j, a ≠ p := fun j hj a ha e => m.ap j i a hj ha (e ▸ hp)
  refine ⟨fun a x h => ?_, m.num, m.ij, by simp [m.len], fun j o1 h => ?_, fun j => ?_, fun j k a ne hj hk => ?_, fun j a h => ?_, fun j a h => ?_⟩
  · rw [upd_ne (fun e => by rw [e, fp] at h; cases h)]
    exact m.ext a x h
  · by_cases e : j = i
    · subst e
      simp only at h
      rw [List.getElem?_set_self hlt] at h
      cases h
      exact ⟨v, hv, by rw [setF_same]; exact w⟩
    · simp only at h
      rw [List.getElem?_set_ne (Ne.symm e)] at h
      obtain ⟨v1, h1, w1⟩ := m.at_ j o1 h
      refine ⟨v1, h1, ?_⟩
      rw [setF_ne e]
      exact w1.mono (Same.refl _) (Pre.refl _) fun a ha x hx => by
        rw [upd_ne (nj j e a ha)]
        exact hx
  · by_cases e : j = i
    · subst e; rw [setF_same]; exact nd
    · rw [setF_ne e]; exact m.nd j
  · by_cases e : j = i
    · subst e
      rw [setF_same] at hj
      rw [setF_ne (Ne.symm ne)] at hk
      rcases hB a hj with z | z
      · exact m.ap j k a ne z hk
      · exact z.2 ⟨k, hk⟩
    · rw [setF_ne e] at hj
      by_cases e2 : k = i
      · subst e2
        rw [setF_same] at hk
        rcases hB a hk with z | z
        · exact m.ap j k a ne hj z
        · exact z.2 ⟨j, hj⟩
      · rw [setF_ne e2] at hk
        exact m.ap j k a ne hj hk
  · by_cases e : j = i
    · subst e
      rw [setF_same] at h
      rcases hB a h with z | z
      · exact m.fr j a z
      · exact z.1
    · rw [setF_ne e] at h; exact m.fr j a h
  · by_cases e : j = i
    · subst e
      rw [setF_same] at h
      exact w.there a h
    · rw [setF_ne e] at h
      rw [upd_ne (nj j e a h)]
      exact m.th j a h
theorem evo_rewr {K : PySem.W.Frag} {ι : List Addr} {As : Foot} {F H : Hp} {σ : L2.St} {s : S} (m : Mem K ι As F H σ s) {i : Nat} {p : Addr} {u : HO} (hp : p ∈ As i) {P P' : Addr → Prop} {F0 H0 : Hp} (ev : Evo P (fun a => own As a) F0 H0 F H) (h : ∀ a, P' a → own As a) : Evo P P' F0 H0 F (upd H p u) where
  ext := ev.ext
  keep := fun a x q n => by
    rw [upd_ne (fun e => by
      rcases ev.foot a ⟨i, by rw [e]; exact hp⟩ with z | z
      · exact n z
      · rw [z] at q; cases q)]
    exact ev.keep a x q n
  grow := ev.grow
  foot := fun a q => ev.foot a (h a q)
  there := fun a q => ev.there a (by
    by_cases e : a = p
    · subst e; rw [upd_same] at q; cases q
    · rw [upd_ne e] at q; exact q)
/-! ### d[k] = v -/
def putO (x y : O) (d : D) : Option O := match x, y with
  | .dK m, .fz k => match k.key with
    | some k => if m.length < 100000 then some (.dK (putD m k d)) else none
    | none => none
  | .dT m, .fz (.tup ds) => match D.keys ds with
    | some ks => if m.length < 100000 then some (.dT (putD m ks d)) else none
    | none => none
  | _, _ => none
theorem lt_100000 {n : Nat} (h : n < 100000) : n < sizeLine := Nat.lt_of_lt_of_le h (by decide)
theorem put_run {K : PySem.W.Frag} {ι : List Addr} {F H : Hp} {va vb v : V} {x y o : O} {d : D} {A B : List Addr} (e : Ex F H) (h : putO x y d = some o) (wa : Ow K ι F H va x A) (wb : Ow K ι F H vb y B) (r : Rd K ι F v d) :
    ∃ a u, va = .ref a ∧ A = [a] ∧ DPut H a vb v (upd H a u) ∧ Ow K ι F (upd H a u) va o [a] := by
  unfold putO at h
  split at h
  · rename_i m kd
    split at h
    · rename_i k hk
      split at h
      · rename_i hl
        cases h
        obtain ⟨p, m', rfl, rfl, hp, rr⟩ := wa.dK_inv
        refine ⟨p, _, rfl, rfl, ?_, Ow.dK_of upd_same (rr.put k r)⟩
        rw [wb.fz_inv.1.key hk]
        exact DPut.k hp (by rw [rr.length]; exact lt_100000 hl)
      · cases h
    · cases h
  · rename_i m ds
    split at h
    · rename_i ks hks
      split at h
      · rename_i hl
        cases h
        obtain ⟨p, m', rfl, rfl, hp, rr⟩ := wa.dT_inv
        obtain ⟨b, vs, rfl, hb, rk⟩ := tup_at e wb
        refine ⟨p, _, rfl, rfl, ?_, Ow.dT_of upd_same (rr.put ks r)⟩
        exact DPut.t hp (by rw [hb, rk.keys hks]) (by rw [rr.length]; exact lt_100000 hl)
      · cases h
    · cases h
  · cases h
/-- the name at i, y, d -/
def putAt (i : Nat) (y : Opnd) (d : D) : MT := fun s => match s.ρ[i]? with
  | some (some x) => match opv y s with
    | some z => match putO x z d with
      | some o => .nx { s with ρ := s.ρ.set i (some o) }
      | none => .st
    | none => .st
  | _ => .st
def mPut (fv : M O) (i : Nat) (fi : M Opnd) : MT := fun s => (fv s).toT fun o s1 => match o.frz with
  | some d => match s1.ρ[i]? with
    | some (some _) => (fi s1).toT fun y => putAt i y d
    | _ => .st
  | none => .st
theorem ds_put {i : Nat} {x : Str} {ix value : Expr} {fv : M O} {fi : M Opnd} {px pos' pos : Pos} (hv : DE C value fv) (hi : DO C ix fi) (hN : C.N[i]? = some x := by rfl) (hvis : visB C.sc x = true := by rfl) (hd : (x == ("__debug__" : Str)) = false := by decide) (hcd : (x == ("__classdict__" : Str)) = false := by decide)
    (hs : ∀ env : Env, swapsWith value (some (.Subscript (.Name x px) ix pos')) pos.line env = pure false := by intro _; rfl) : DS C (.Assign [.Subscript (.Name x px) ix pos'] value pos) (mPut fv i fi) := by
  intro X hX ι As F H σ s m D W tk p
  unfold mPut at p tk
  refine ⟨_, ps_dput (by have := hX.room.units; omega) (pe_var (i := i) (by rw [hX.N]; exact hN) (by rw [hX.sc]; exact vis_of hvis) hd hcd) pe_W pe_W (hs _), hv X hX ι As F H σ s m _ W (isX_toT tk) (val_post p fun o s1 v B ι1 As1 F1 H1 e0 ev pr m1 w nd fr p => ?_)⟩
  rw [e0] at tk
  simp only [R.toT_ok] at tk
  cases hz : o.frz with
  | none => rw [hz] at p; exact p.elim
  | some d =>
    simp only [hz] at p tk
    obtain ⟨F2, ev2, m2, r⟩ := freeze1 m1 ev w fr hz
    cases h1 : s1.ρ[i]? with
    | none => simp only [h1] at p; exact p.elim
    | some y =>
      cases y with
      | none => simp only [h1] at p; exact p.elim
      | some x0 =>
        simp only [h1] at p tk
        obtain ⟨va, hva, _⟩ := m2.at_ i x0 h1
        refine ⟨va, hva, hi X hX ι1 As1 F2 H1 σ s1 m2 _ W (isX_toT tk) ?_⟩
        cases q : fi s1 with
        | st => rw [q] at p; exact p.elim
        | ex c fs s2 =>
          rw [q] at p
          exact PostX.step (p σ prot_refl) ev2 pr fun _ z => z
        | ok yo s2 =>
          rw [q] at p
          simp only [R.toT_ok] at p
          intro vb ι3 As3 F3 H3 ev3 pr3 m3 rb
          unfold putAt at p
          cases h2 : s2.ρ[i]? with
          | none => simp only [h2] at p; exact p.elim
          | some y2 =>
            cases y2 with
            | none => simp only [h2] at p; exact p.elim
            | some x2 =>
              simp only [h2] at p
              cases h3 : opv yo s2 with
              | none => simp only [h3] at p; exact p.elim
              | some z =>
                simp only [h3] at p
                cases h4 : putO x2 z d with
                | none => simp only [h4] at p; exact p.elim
                | some o' =>
                  simp only [h4] at p
                  obtain ⟨va', hva', wa⟩ := m3.at_ i x2 h2
                  rw [hva] at hva'
                  cases hva'
                  obtain ⟨B', wb⟩ := opv_ow m3 rb h3
                  obtain ⟨a, u, e1, e2, e3, e4⟩ := put_run m3.ext h4 wa wb (r.mono ev3.ext pr3)
                  have ha : a ∈ As3 i := by rw [e2]; exact List.mem_cons_self
                  refine ⟨a, _, e1, e3, p σ ι3 (setF As3 i [a]) F3 _ (evo_rewr m3 ha (ev2.trans ev3) fun b z => ?_) (pr.trans pr3) (m3.rewr h2 hva ha (fun b hb => .inl ?_) (by simp) e4) prot_refl⟩
                  · rcases own_setF z with z | z
                    · exact ⟨i, by rw [e2]; exact z⟩
                    · exact z
                  · rw [e2]; exact hb
end
end VL
namespace VL
open PySem PySem.Spec
open PyProof.Rows L2
/-! ### {k: v, ..} -/
theorem mergeK_new : ∀ (more acc : List (Key × V)), (more.map (·.1)).Nodup → (∀ q ∈ more, valV acc q.1 = none) → mergeK acc more = acc ++ more
  | [], acc, _, _ => (List.append_nil acc).symm
  | q :: more, acc, nd, h => by
    have e1 : putK acc q.1 q.2 = acc ++ [(q.1, q.2)] := putK_new q.2 (h q List.mem_cons_self)
    show mergeK (putK acc q.1 q.2) more = _
    rw
            [List.map_cons, List.nodup_cons] at nd
    rw [mergeK_new more _ nd.2 fun r hr => by
      rw [valV_put, if_neg (fun e => nd.1 (by rw [← e]; exact List.mem_map_of_mem hr))]
      exact h r (List.mem_cons_of_mem _ hr), e1, List.append_assoc]
    rfl
def prs (X : Cx) : List (Option Expr) → List Expr → List (TE × TE)
  | some k :: ks, v :: vs => (tW X k, tW X v) :: prs X ks vs
  | _, _ => []
section
variable {C : Ctx}
/-- keys that are texts, and their values -/
inductive DPs (C : Ctx) : List (Option Expr) → List Expr → List Key → M (List D) → Prop
  | nil : DPs C [] [] [] (M.pure [])
  | cons {x : Str} {j : Nat} {p : Pos} {v : Expr} {ks : List (Option Expr)} {vs : List Expr} {js : List Key} {f : M O} {g : M (List D)} : DE C v f → DPs C ks vs js g →
      DPs C (some (.Constant (.str x) j p) :: ks) (v :: vs) (.inr x :: js) (f.bind fun o => match o.frz with
        | some d => g.bind fun ds => M.pure (d :: ds)
        | none => M.st)
theorem DPs.pps {X : Cx} {pos : Pos} {keys : List (Option Expr)} {vals : List Expr} {ks : List Key} {f : M (List D)} (h : DPs C keys vals ks f) : PPs X pos keys vals (prs X keys vals) := by
  induction h with
  | nil => exact pps_nil
  | cons h r ih => exact pps_cons pe_W pe_W ih
theorem DPs.shape {keys : List (Option Expr)} {vals : List Expr} {ks : List Key} {f : M (List D)} (h : DPs C keys vals ks f) : keys.all (·.isSome) = true ∧ keys.length = vals.length ∧ keys.length = ks.length := by
  induction h with
  | nil => exact ⟨rfl, rfl, rfl⟩
  | cons h r ih => exact ⟨by rw [List.all_cons, ih.1]; rfl, by rw [List.length_cons, List.length_cons, ih.2.1], by rw [List.length_cons, List.length_cons, ih.2.2]⟩
def PostPs (X : Cx) (ι : List Addr) (As : Foot) (F H : Hp) (σ : L2.St) (ks : List Key) (r : R (List D)) (Q : List (V × V) → Hp → Prop) (W : WX) : Prop := match r with
  | .ok ds s' => ∀ (vs : List V) (ι' : List Addr) (As' : Foot) (F' H' : Hp), Evo (own As) (own As') F H F' H' → Pre ι ι' → Mem X.K ι' As' F' H' σ s' → ks.length = vs.length → RdAll X.K ι' F' vs ds → Q ((ks.zip vs).map fun kv => (kV kv.1, kv.2)) H'
  | .ex c fs s' => PostX X ι As F H σ c fs s' W
  | .st => False
theorem DPs.run {keys : List (Option Expr)} {vals : List Expr} {ks : List Key} {f : M (List D)} (h : DPs C keys vals ks f) : ∀ (X : Cx), At C X → ∀ (ι : List Addr) (As : Foot) (F H : Hp) (σ : L2.St) (s : S), Mem X.K ι As F H σ s → ∀ (Q : List (V × V) → Hp → Prop) (W : WX),
    (IsX (f s) → Takes X W) → PostPs X ι As F H σ ks (f s) Q W → tPairs (prs X keys vals) σ H Q := by
  induction h with
  | nil =>
    intro X hX ι As F H σ s m Q W tk p
    exact p [] ι As F H (Evo.refl fun _ z => z) (Pre.refl _) m rfl .nil
  | @cons x j pk v ks vs js f g hv r ih =>
    intro X hX ι As F H σ s m Q W tk p
    refine tW_of pe_str ?_
    refine hv X hX ι As F H σ s m _ W (isX_of tk) ?_
    simp only [M.bind_def] at p tk
    cases q : f s with
    | st => rw [q] at p; exact p.elim
    | ex c fs s1 => rw [q] at p; exact p
    | ok o s1 =>
      rw [q] at p tk
      simp only [R.bind_ok] at p tk
      intro y B ι1 As1 F1 H1 ev pr m1 w nd fr
      cases hz : o.frz with
      | none => rw [hz] at p; exact p.elim
      | some d =>
        simp only [hz, M.bind_def] at p tk
        obtain ⟨F2, ev2, m2, rd⟩ := freeze1 m1 ev w fr hz
        refine ih X hX ι1 As1 F2 H1 σ s1 m2 _ W (isX_of tk) ?_
        cases q2 : g s1 with
        | st => rw [q2] at p; exact p.elim
        | ex c fs s2 =>
          rw [q2] at p
          exact PostX.step p ev2 pr fun _ z => z
        | ok ds s2 =>
          rw [q2] at p
          simp only [R.bind_ok] at p
          intro ws ι3 As3 F3 H3 ev3 pr3 m3 l3 r3
          exact p (y :: ws) ι3 As3 F3 H3 (ev2.trans ev3) (pr.trans pr3) m3 (by simp [l3]) (.cons (rd.mono ev3.ext pr3) r3)
def mDict (ks : List Key) (f : M (List D)) : M O := f.bind fun ds s => .ok (.dK (ks.zip ds)) s
theorem de_dict {keys : List (Option Expr)} {vals : List Expr} {ks : List Key} {f : M (List D)} {pos : Pos} (h : DPs C keys vals ks f) (nd : ks.Nodup := by decide +kernel) (h0 : keys ≠ [] := by exact fun z => nomatch z) (h15 : keys.length ≤ 15 := by decide) : DE C (.Dict keys vals pos) (mDict ks f) := by
  intro X hX ι As F H σ s m Q W tk p
  unfold mDict at p tk
  obtain ⟨s1, s2, s3⟩ := h.shape
  refine tW_of (pe_disp h.pps s1 s2 h0 h15) fun a ha => ?_
  have n0 := New.owned (F := F) (u := .dK []) ha
  have m0 : Mem X.K ι As F (upd H a (.dK [])) σ s := m.keepN (Same.refl _) (fun b u z => n0.keep b u (m.ext b u z) fun y => y) (fun b _ u z => n0.keep b u z fun y => y) fun b z => m.own_none z
  have oa : ¬ own As a := fun z => m.own_there z ha
  have ev0 : Evo (own As) (own As) F H F (upd H a (.dK [])) := ⟨Same.refl _, fun b u z _ => n0.keep b u z fun y => y, fun b u z => .inl ⟨u, z⟩, fun b z => .inl z, n0.there⟩
  refine h.run X hX ι As F _ σ s m0 _ W (isX_of tk) ?_
  simp only [M.bind_def] at p
  cases q : f s with
  | st => rw [q] at p; exact p.elim
  | ex c fs s1 =>
    rw [q] at p
    exact PostX.step p ev0 (Pre.refl _) fun _ z => z
  | ok ds s4 =>
    rw [q] at p
    simp only [R.bind_ok] at p
    intro vs ι1 As1 F1 H1 ev pr m1 l1 r1
    have hH : H1 a = some (.dK []) := ev.keep a _ upd_same oa
    have ev1 := ev0.trans ev
    have oa1 : ¬ own As1 a := fun z => by
      rcases ev1.foot a z with z | z
      · exact oa z
      · rcases ev.foot a ‹_› with y | y
        · exact oa y
        · rw [upd_same] at y; cases y
    have fa : F1 a = none := by
      cases e : F1 a with
      | none => rfl
      | some u =>
        rcases ev.grow a u e with ⟨w, z⟩ | z | z
        · rw [ex_none m.ext ha] at z; cases z
        · exact (oa z).elim
        · rw [upd_same] at z; cases z
    refine ⟨hH, ks.zip vs, rfl, ?_, ?_⟩
    · rw [List.length_zip]; omega
    · have em : mergeK [] (ks.zip vs) = ks.zip vs := by
        rw [mergeK_new _ [] (by rw [List.map_fst_zip (by omega)]; exact nd) fun _ _ => rfl, List.nil_append]
      rw [em]
      refine p (.ref a) [a] ι1 As1 F1 _ ⟨ev1.ext, fun b u z n => ?_, ev1.grow, fun b z => ?_, fun b z => ?_⟩ pr (m1.keepN (Same.refl _) (fun b u z => ?_) (fun b hb u z => ?_) fun b z => m1.own_none z) (Ow.dK_of upd_same (rdK_zip l1 r1)) (by simp) fun b z => ?_
      · rw [upd_ne (ne_of_none z ha)]
        exact ev1.keep b u z n
      · rcases z with z | z
        · exact ev1.foot b z
        · have e : b = a := by simpa using z
          subst e
          exact .inr ha
      · refine ev1.there b ?_
        by_cases e : b = a
        · subst e; rw [upd_same] at z; cases z
        · rw [upd_ne e] at z; exact z
      · rw [upd_ne (fun e => by rw [e, fa] at z; cases z)]
        exact m1.ext b u z
      · rw [upd_ne (fun e => oa1 (by rw [← e]; exact hb))]
        exact z
      · have e : b = a := by simpa using z
        subst e
        exact ⟨fa, oa1⟩
/-- {} -/
theorem de_dictK {pos : Pos} : DE C (.Dict [] [] pos) (M.pure (.dK [])) := by
  intro X hX ι As F H σ s m Q W tk p
  refine tW_of pe_dnewK fun a ha => ?_
  have n0 := New.owned (F := F) (u := .dK []) ha
  exact post_new m p n0 (fun b u z => n0.keep b u (m.ext b u z) fun y => y) (Ow.dK_of upd_same .nil) (by simp) fun b z => by
    have e : b = a := by simpa using z
    subst e
    exact ex_none m.ext ha
theorem de_dictT {pos : Pos} : DE C (.Dict [] [] pos) (M.pure (.dT [])) := by
  intro X hX ι As F H σ s m Q W tk p
  refine tW_of pe_dnewT fun a ha => ?_
  have n0 := New.owned (F := F) (u := .dT []) ha
  exact post_new m p n0 (fun b u z => n0.keep b u (m.ext b u z) fun y => y) (Ow.dT_of upd_same .nil) (by simp) fun b z => by
    have e : b = a := by simpa using z
    subst e
    exact ex_none m.ext ha
/-! ### xs.append(x) -/
def mApp (i : Nat) (f : M O) : M O := fun s => match s.ρ[i]? with
  | some (some (.lst _)) => (f s).bind fun o s1 => match s1.ρ[i]? with
    | some (some (.lst os)) => if os.length < 100000 then .ok (.fz .non) { s1 with ρ := s1.ρ.set i (some (.lst (os ++ [o]))) } else .st
    | _ => .st
  | _ => .st
theorem lst_inv {K : PySem.W.Frag} {ι : List Addr} {F H : Hp} {v : V} {os : List O} {A : List Addr} (w : Ow K ι F H v (.lst os) A) : ∃ p vs A0, v = .ref p ∧ A = p :: A0 ∧ H p = some (.lst vs) ∧ OwAll K ι F H vs os A0 := by
  cases w with
  | lst h r => exact ⟨_, _, _, rfl, rfl, h, r⟩
theorem de_append {i : Nat} {x : Str} {e : Expr} {f : M O} {px apos cpos : Pos} (h : DE C e f) (hN : C.N[i]? = some x := by rfl) (hvis : visB C.sc x = true := by rfl) (hd : (x == ("__debug__" : Str)) = false := by decide) (hcd : (x == ("__classdict__" : Str)) = false := by decide)
    (hbase : ∀ env : Env, attributeBase (.Name x px) "append" env (eval (.Name x px) env) = eval (.Name x px) env := by intro _; rfl) (hline : (apos.endLine == cpos.line) = true := by rfl)
    (hfew : ∀ env : Env, ((backTo cpos (starEach [e] env)).all (fun x => !x.1) && (backToKw cpos (keywordEach [] env)).all (fun x => x.1.isSome) && decide (([e] : List Expr).length + ([] : List Keyword).length + (if ([] : List Keyword).isEmpty then 0 else 1) < 30)) = true := by intro _; rfl)
    (hs : ∀ env : Env, starEach [e] env = (false, eval e env) :: starEach [] env := by intro _; rfl) : DE C (.Call (.Attribute (.Name x px) "append" apos) [e] [] cpos) (mApp i f) := by
  intro X hX ι As F H σ s m Q W tk p
  unfold mApp at p tk
  refine tW_of (pe_bm PySem.F.plainAttrs_list PySem.F.slot_list_append PySem.F.type_list_append mt_append (pe_var (i := i) (by rw [hX.N]; exact hN) (by rw [hX.sc]; exact vis_of hvis) hd hcd) (pa_cons pe_W pa_nil (hs _)) (hbase _) (hfew _) hline (hs _) rfl) ?_
  cases h1 : s.ρ[i]? with
  | none => simp only [h1] at p; exact p.elim
  | some y =>
    cases y with
    | none => simp only [h1] at p; exact p.elim
    | some x0 =>
      cases x0 with
      | lst os0 =>
        simp only [h1] at p tk
        obtain ⟨v, hv, w0⟩ := m.at_ i _ h1
        obtain ⟨l, vs0, A0, rfl, eA, hl, _⟩ := lst_inv w0
        refine ⟨.ref l, hv, .inl ⟨rfl, vs0, SqL.of hl⟩, h X hX ι As F H σ s m _ W (isX_of tk) ?_⟩
        cases q : f s with
        | st => rw [q] at p; exact p.elim
        | ex c fs s1 => rw [q] at p; exact p
        | ok o s1 =>
          rw [q] at p
          simp only [R.bind_ok] at p
          intro y B ι1 As1 F1 H1 ev pr m1 w nd fr
          cases h2 : s1.ρ[i]? with
          | none => simp only [h2] at p; exact p.elim
          | some y2 =>
            cases y2 with
            | none => simp only [h2] at p; exact p.elim
            | some x2 =>
              cases x2 with
              | lst os =>
                simp only [h2] at p
                by_cases hlen : os.length < 100000
                case neg => rw [if_neg hlen] at p; exact p.elim
                rw [if_pos hlen] at p
                obtain ⟨v', hv', w1⟩ := m1.at_ i _ h2
                rw [hv] at hv'
                cases hv'
                obtain ⟨l', vs, A1, e1, e2, hl1, r1⟩ := lst_inv w1
                cases e1
                have ha : l ∈ As1 i := by rw [e2]; exact List.mem_cons_self
                have nd1 : (l :: A1).Nodup := by rw [← e2]; exact m1.nd i
                have lB : l ∉ B := fun z => (fr l z).2 ⟨i, ha⟩
                have lA : l ∉ A1 := (List.nodup_cons.mp nd1).1
                have kp : ∀ b, b ≠ l → ∀ u, H1 b = some u → upd H1 l (.lst (vs ++ [y])) b = some u := fun b hb u z => by
                  rw [upd_ne hb]; exact z
                refine ⟨l, vs, y, rfl, rfl, hl1, by rw [r1.length]; exact lt_100000 hlen, ?_⟩
                have nw : Ow X.K ι1 F1 (upd H1 l (.lst (vs ++ [y]))) (.ref l) (.lst (os ++ [o])) (l :: (A1 ++ B)) :=
                  .lst upd_same (OwAll.append (r1.mono (Same.refl _) (Pre.refl _) fun b hb u z => kp b (fun e => lA (e ▸ hb)) u z) (OwAll.one (w.mono (Same.refl _) (Pre.refl _) fun b hb u z => kp b (fun e => lB (e ▸ hb)) u z)))
                refine p .non [] ι1 (setF As1 i (l :: (A1 ++ B))) F1 _ ⟨ev.ext, fun b u z n => ?_, ev.grow, fun b z => ?_, fun b z => ?_⟩ pr (m1.rewr h2 hv ha (fun b hb => ?_) ?_ nw) (.fz .non) List.nodup_nil fun _ z => nomatch z
                · rw [upd_ne (fun e => by
                    rcases ev.foot b (.inl ⟨i, by rw [e]; exact ha⟩) with y | y
                    · exact n y
                    · rw [y] at z; cases z)]
                  exact ev.keep b u z n
                · rcases z with z | z
                  · rcases own_setF z with z | z
                    · rcases
                            List.mem_cons.mp z with z | z
                      · exact ev.foot b (.inl ⟨i, by rw [z]; exact ha⟩)
                      · rcases List.mem_append.mp z with z | z
                        · exact ev.foot b (.inl ⟨i, by rw [e2]; exact List.mem_cons_of_mem _ z⟩)
                        · exact ev.foot b (.inr z)
                    · exact ev.foot b (.inl z)
                  · cases z
                · exact ev.there b (by
                    by_cases e : b = l
                    · subst e; rw [upd_same] at z; cases z
                    · rw [upd_ne e] at z; exact z)
                · rcases List.mem_cons.mp hb with z | z
                  · exact .inl (by rw [z]; exact ha)
                  · rcases List.mem_append.mp z with z | z
                    · exact .inl (by rw [e2]; exact List.mem_cons_of_mem _ z)
                    · exact .inr (fr b z)
                · refine List.nodup_cons.mpr ⟨fun z => (List.mem_append.mp z).elim lA lB, List.nodup_append.mpr ⟨(List.nodup_cons.mp nd1).2, nd, fun b hb c hc e => ?_⟩⟩
                  exact (fr c hc).2 ⟨i, by rw [e2, ← e]; exact List.mem_cons_of_mem _ hb⟩
              | _ => simp only [h2] at p; exact p.elim
      | _ => simp only [h1] at p; exact p.elim
/-! ### xs.pop(i) -/
theorem OwAll.erase {K : PySem.W.Frag} {ι : List Addr} {F H : Hp} : ∀ {os : List O} {vs : List V} {A : List Addr} {k : Nat} {d : D}, OwAll K ι F H vs os A → os[k]? = some (.fz d) → ∃ v, vs[k]? = some v ∧ Rd K ι F v d ∧ OwAll K ι F H (vs.eraseIdx k) (os.eraseIdx k) A
  | [], _, _, _, _, _, h => by simp at h
  | o :: os, _, _, 0, d, .cons w r, h => by
    have e : o = .fz d := by simpa using h
    subst e
    cases w with
    | fz w => exact ⟨_, rfl, w, r⟩
  | o :: os, _, _, k + 1, d, .cons w r, h => by
    obtain ⟨v, h1, h2, h3⟩ := r.erase (k := k) (d := d) (by simpa using h)
    exact ⟨v, by simpa using h1, h2, .cons w h3⟩
def popAt (i : Nat) (y : Opnd) : M O := fun s => match s.ρ[i]? with
  | some (some (.lst os)) => match opv y s with
    | some (.fz (.int j)) => if -(2 ^ 63) ≤ j ∧ j < 2 ^ 63 then match seqIndex? j os.length with
      | some k => match os[k]? with
        | some (.fz d) => .ok (.fz d) { s with ρ := s.ρ.set i (some (.lst (os.eraseIdx k))) }
        | _ => .st
      | none => .st
      else .st
    | _ => .st
  | _ => .st
def mPopAt (i : Nat) (f : M Opnd) : M O := fun s => match s.ρ[i]? with
  | some (some (.lst _)) => (f s).bind fun y => popAt i y
  | _ => .st
theorem de_popAt {i : Nat} {x : Str} {e : Expr} {f : M Opnd} {px apos cpos : Pos} (h : DO C e f) (hN : C.N[i]? = some x := by rfl) (hvis : visB C.sc x = true := by rfl) (hd : (x == ("__debug__" : Str)) = false := by decide) (hcd : (x == ("__classdict__" : Str)) = false := by decide)
    (hbase : ∀ env : Env, attributeBase (.Name x px) "pop" env (eval (.Name x px) env) = eval (.Name x px) env := by intro _; rfl) (hline : (apos.endLine == cpos.line) = true := by rfl)
    (hfew : ∀ env : Env, ((backTo cpos (starEach [e] env)).all (fun x => !x.1) && (backToKw cpos (keywordEach [] env)).all (fun x => x.1.isSome) && decide (([e] : List Expr).length + ([] : List Keyword).length + (if ([] : List Keyword).isEmpty then 0 else 1) < 30)) = true := by intro _; rfl)
    (hs : ∀ env : Env, starEach [e] env = (false, eval e env) :: starEach [] env := by intro _; rfl) : DE C (.Call (.Attribute (.Name x px) "pop" apos) [e] [] cpos) (mPopAt i f) := by
  intro X hX ι As F H σ s m Q W tk p
  unfold mPopAt at p tk
  refine tW_of (pe_bm PySem.F.plainAttrs_list PySem.F.slot_list_pop PySem.F.type_list_pop mt_popAt (pe_var (i := i) (by rw [hX.N]; exact hN) (by rw [hX.sc]; exact vis_of hvis) hd hcd) (pa_cons pe_W pa_nil (hs _)) (hbase _) (hfew _) hline (hs _) rfl) ?_
  cases h1 : s.ρ[i]? with
  | none => simp only [h1] at p; exact p.elim
  | some y =>
    cases y with
    | none => simp only [h1] at p; exact p.elim
    | some x0 =>
      cases x0 with
      | lst os0 =>
        simp only [h1] at p tk
        obtain ⟨v, hv, w0⟩ := m.at_ i _ h1
        obtain ⟨l, vs0, A0, rfl, eA, hl, _⟩ := lst_inv w0
        refine ⟨.ref l, hv, .inl ⟨rfl, vs0, SqL.of hl⟩, h X hX ι As F H σ s m _ W (isX_of tk) ?_⟩
        cases q : f s with
        | st => rw [q] at p; exact p.elim
        | ex c fs s1 => rw [q] at p; exact p
        | ok yo s1 =>
          rw [q] at p
          simp only [R.bind_ok] at p
          intro vb ι1 As1 F1 H1 ev pr m1 rb
          unfold popAt at p
          split at p
          · rename_i os h2
            split at p
            · rename_i j h3
              split at p
              · rename_i hj
                split at p
                · rename_i k hk
                  split at p
                  · rename_i d h4
                    obtain ⟨v', hv', w1⟩ := m1.at_ i _ h2
                    rw [hv] at hv'
                    cases hv'
                    obtain ⟨l', vs, A1, e1, e2, hl1, r1⟩ := lst_inv w1
                    cases e1
                    obtain ⟨B, wb⟩ := opv_ow m1 rb h3
                    obtain ⟨z, hz, rz, rr⟩ := r1.erase h4
                    have ha : l ∈ As1 i := by rw [e2]; exact List.mem_cons_self
                    have nd1 : (l :: A1).Nodup := by rw [← e2]; exact m1.nd i
                    have lA : l ∉ A1 := (List.nodup_cons.mp nd1).1
                    refine ⟨l, vs, j, k, z, rfl, by rw [wb.int], hl1, hj.1, hj.2, by rw [r1.length]; exact hk, hz, ?_⟩
                    have nw : Ow X.K ι1 F1 (upd H1 l (.lst (vs.eraseIdx k))) (.ref l) (.lst (os.eraseIdx k)) (l :: A1) :=
                      .lst upd_same (rr.mono (Same.refl _) (Pre.refl _) fun b hb u q => by
                        rw [upd_ne (fun e => lA (by rw [← e]; exact hb))]; exact q)
                    refine p z [] ι1 (setF As1 i (l :: A1)) F1 _ (evo_rewr m1 ha ev fun b q => ?_) pr (m1.rewr h2 hv ha (fun b hb => .inl (by rw [e2]; exact hb)) nd1 nw) (.fz rz) List.nodup_nil fun _ q => nomatch q
                    rcases q with q | q
                    · rcases own_setF q with q | q
                      · exact ⟨i, by rw [e2]; exact q⟩
                      · exact q
                    · cases q
                  · exact p.elim
                · exact p.elim
              · exact p.elim
            · exact p.elim
          · exact p.elim
      | _ => simp only [h1] at p; exact p.elim
end
end VL
namespace VL
open PySem PySem.Spec
open PyProof.Rows L2
/-! ### a, b = .. of a list -/
def gLstD (n : Nat) (g : List D → S → Option S) : D → S → Option S
  | .lst ds, s => if ds.length = n then g ds s else none
  | .tup ds, s => if ds.length = n then g ds s else none
  | _, _ => none
section
variable {C : Ctx}
theorem dg_seq {es : List Expr} {k : Nat} {pos : Pos} {tl : List Nat} {g : List D → S → Option S} {n : Nat} (h : DGs C es tl g) (hn : ∀ env : Env, (assignEach es env).length = n := by intro _; rfl) (hst : ∀ env : Env, (assignEach es env).findIdx? (·.1) = none := by intro _; rfl) : DG C (.Tuple es k pos) tl (gLstD n g) := by
  intro X hX ι As F H σ s s' v d m r e Q q
  cases d with
  | lst ds =>
    cases r with
    | lst hq rr =>
      rename_i a vs
      simp only [gLstD] at e
      by_cases hl : ds.length = n
      · rw [if_pos hl] at e
        exact ⟨_, pg_lst hX.calm pgs_W (hn _) (hst _), a, vs, rfl, SqL.of (m.ext _ _ hq), by rw [rr.length]; exact hl, h X hX ι As F H σ s s' vs ds m rr e Q q⟩
      · rw [if_neg hl] at e; cases e
  | tup ds =>
    cases r with
    | tup hq rr =>
      rename_i a vs
      simp only [gLstD] at e
      by_cases hl : ds.length = n
      · rw [if_pos hl] at e
        exact ⟨_, pg_tup hX.calm pgs_W (hn _) (hst _), a, vs, rfl, SqT.of (m.ext _ _ hq), by rw [rr.length]; exact hl, h X hX ι As F H σ s s' vs ds m rr e Q q⟩
      · rw [if_neg hl] at e; cases e
  | _ => cases e
/-- targets = value, the value frozen -/
def mAsg (f : M O) (g : D → S → Option S) : MT := fun s => (f s).toT fun o s1 => match o.frz with
  | some d => match g d s1 with
    | some s2 => .nx s2
    | none => .st
  | none => .st
theorem ds_asg {tg e : Expr} {f : M O} {g : D → S → Option S} {tl : List Nat} {pos : Pos} (h : DE C e f) (hg : DG C tg tl g) (hioB : (tl.all fun i => !C.io.contains i) = true := by rfl) (hs : ∀ env : Env, swapsWithSole [tg] e pos.line env = pure false := by intro _; rfl) (hw : ∀ env : Env, swappedStores [tg] e env = pure none := by intro _; rfl)
    (h1 : ∀ env : Env, (assignEach [tg] env).map (·.2) = [assign tg env] := by intro _; rfl) : DS C (.Assign [tg] e pos) (mAsg f g) := by
  intro X hX ι As F H σ s m D W tk p
  have hio : ∀ i ∈ tl, i ∉ C.io := ios_of hioB
  unfold mAsg at p tk
  refine ⟨_, ps_asg pe_W pg_W (hs _) (hw _) (h1 _), h X hX ι As F H σ s m _ W (isX_toT tk) (val_post p fun o s1 v B ι1 As1 F1 H1 _ ev pr m1 w nd fr p => ?_)⟩
  cases hz : o.frz with
  | none => rw [hz] at p; exact p.elim
  | some d =>
    simp only [hz] at p
    obtain ⟨F2, ev2, m2, r⟩ := freeze1 m1 ev w fr hz
    cases eg : g d s1 with
    | none => rw [eg] at p; exact p.elim
    | some s2 =>
      rw [eg] at p
      exact hg X hX ι1 As1 F2 H1 σ s1 s2 v d m2 r eg _ fun σ3 As3 o3 m3 c3 l3 => p σ3 ι1 As3 F2 H1 (ev2.post o3) pr m3 fun j hj => c3 j fun z => hio j z hj
/-! ### a, b = x, y -/
def set2 (i j : Nat) : List O → MT
  | [a, b], s => if i < s.ρ.length ∧ j < s.ρ.length then .nx { s with ρ := (s.ρ.set i (some a)).set j (some b) } else .st
  | _, _ => .st
def mPar (i j : Nat) (f : M (List O)) : MT := fun s => (f s).toT fun os => set2 i j os
theorem set2_step {K : PySem.W.Frag} {ι : List Addr} {As : Foot} {F H : Hp} {σ : L2.St} {s : S} {i j : Nat} {v w : V} {a b : O} {A B : List Addr} (m : Mem K ι As F H σ s) (hij : i ≠ j) (hi : i < s.ρ.length) (hj : j < s.ρ.length) (wa : Ow K ι F H v a A) (wb : Ow K ι F H w b B) (nd : (A ++ B).Nodup) (fr : ∀ c ∈ A ++ B, F c = none ∧ ¬ own As c) :
    Mem K ι (setF (setF As i A) j B) F H ((σ.set i (some v)).set j (some w)) { s with ρ := (s.ρ.set i (some a)).set j (some b) } := by
  obtain ⟨n1, n2, n3⟩ := List.nodup_append.mp nd
  have m1 := m.set hi wa n1 fun c hc => ⟨(fr c (List.mem_append_left _ hc)).1, fun k _ z => (fr c (List.mem_append_left _ hc)).2 ⟨k, z⟩⟩
  refine m1.set (by simpa using hj) wb n2 fun c hc => ⟨(fr c (List.mem_append_right _ hc)).1, fun k hk z => ?_⟩
  by_cases e : k = i
  · subst e
    rw [setF_same] at z
    exact n3 c z c hc rfl
  · rw [setF_ne e] at z
    exact (fr c (List.mem_append_right _ hc)).2 ⟨k, z⟩
theorem OwAll.two {K : PySem.W.Frag} {ι : List Addr} {F H : Hp} {vs : List V} {a b : O} {A : List Addr} (h : OwAll K ι F H vs [a, b] A) : ∃ v w A1 B1, vs = [v, w] ∧ A = A1 ++ B1 ∧ Ow K ι F H v a A1 ∧ Ow K ι F H w b B1 := by
  cases h with
  | cons h r =>
    cases r with
    | cons h2 r2 =>
      cases r2
      exact ⟨_, _, _, _, rfl, by rw [List.append_nil], h, h2⟩
theorem ds_par {i j : Nat} {x y : Str} {a b : Expr} {f : M (List O)} {px py pt pos : Pos} {kt : Nat} {k2 : Nat} {pt2 : Pos} (h : DA C [a, b] f) (hNi : C.N[i]? = some x := by rfl) (hNj : C.N[j]? = some y := by rfl) (hij : i ≠ j := by decide) (hx : C.sc.names.lookup x = some .local := by rfl) (hy : C.sc.names.lookup y = some .local := by rfl) (hiiB : C.io.contains i = false := by rfl) (hjjB : C.io.contains j = false := by rfl)
    (hw : ∀ X : Cx, At C X → swappedStores [.Tuple [.Name x px, .Name y py] kt pt] (.Tuple [a, b] k2 pt2) X.env = pure (some [x, y])) (hs : ∀ env : Env, swapsWithSole [.Tuple [.Name x px, .Name y py] kt pt] (.Tuple [a, b] k2 pt2) pos.line env = pure false := by intro _; rfl) :
    DS C (.Assign [.Tuple [.Name x px, .Name y py] kt pt] (.Tuple [a, b] k2 pt2) pos) (mPar i j f) := by
  intro X hX ι As F H σ s m D W tk p
  have hii : i ∉ C.io := io_of hiiB
  have hjj : j ∉ C.io := io_of hjjB
  unfold mPar at p tk
  refine ⟨_, ps_par (i := i) (j := j) hX.calm hX.nd (by rw [hX.N]; exact hNi) (by rw [hX.N]; exact hNj) hij (by rw [hX.sc]; exact hx) (by rw [hX.sc]; exact hy) pa_W (hw X hX) (hs _), h X hX ι As F H σ s m _ W (isX_toT tk) ?_⟩
  cases q : f s with
  | st => rw [q] at p; exact p.elim
  | ex c fs s1 => rw [q] at p; exact p σ prot_refl
  | ok os s1 =>
    rw [q] at p
    simp only [R.toT_ok] at p
    intro vs B ι1 As1 F1 H1 ev pr m1 w nd fr
    unfold set2 at p
    split at p
    · rename_i oa ob
      split at p
      · rename_i hl
        obtain ⟨v1, v2, A1, B1, rfl, rfl, wa, wb⟩ := w.two
        refine ⟨v1, v2, rfl, p _ ι1 _ F1 H1 (ev.post fun c z => ?_) pr (set2_step m1 hij hl.1 hl.2 wa wb nd fr) fun k hk => ?_⟩
        · rcases own_setF z with z | z
          · exact .inr (List.mem_append_right _ z)
          · rcases own_setF z with z | z
            · exact .inr (List.mem_append_left _ z)
            · exact .inl z
        · rw [List.getElem?_set_ne (fun e : j = k => hjj (e ▸ hk)), List.getElem?_set_ne (fun e : i = k => hii (e ▸ hk))]
      · exact p.elim
    · exact p.elim
/-- the same where a name is a cell: the tuple is unpacked from the left -/
theorem ds_tup2 {i j : Nat} {x y : Str} {a b : Expr} {f : M (List O)} {px py pt pos : Pos} {kt : Nat} {k2 : Nat} {pt2 : Pos} (h : DA C [a, b] f) (hNi : C.N[i]? = some x := by rfl) (hNj : C.N[j]? = some y := by rfl) (hij : i ≠ j := by decide) (hx : storB C.sc C.cel x = true := by rfl) (hy : storB C.sc C.cel y = true := by rfl) (hiiB : C.io.contains i = false := by rfl) (hjjB : C.io.contains j = false := by rfl)
    (hw : ∀ X : Cx, At C X → swappedStores [.Tuple [.Name x px, .Name y py] kt pt] (.Tuple [a, b] k2 pt2) X.env = pure none) (hs : ∀ env : Env, swapsWithSole [.Tuple [.Name x px, .Name y py] kt pt] (.Tuple [a, b] k2 pt2) pos.line env = pure false := by intro _; rfl) :
    DS C (.Assign [.Tuple [.Name x px, .Name y py] kt pt] (.Tuple [a, b] k2 pt2) pos) (mPar i j f) := by
  intro X hX ι As F H σ s m D W tk p
  have hii : i ∉ C.io := io_of hiiB
  have hjj : j ∉ C.io := io_of hjjB
  unfold mPar at p tk
  refine ⟨_, ps_asg (pe_tup pa_W) (pg_tup (n := 2) hX.calm (pgs_cons (pg_name (i := i) hX.nd (by rw [hX.N]; exact hNi) (by rw [hX.sc]; exact stor_loc hx) (hX.stores hx)) (pgs_cons (pg_name (i := j) hX.nd (by rw [hX.N]; exact hNj) (by rw [hX.sc]; exact stor_loc hy) (hX.stores hy)) pgs_nil rfl) rfl) rfl rfl) (hs _) (hw X hX) rfl, h X hX ι As F H σ s m _ W (isX_toT tk) ?_⟩
  cases q : f s with
  | st => rw [q] at p; exact p.elim
  | ex c fs s1 => rw [q] at p; exact p σ prot_refl
  | ok os s1 =>
    rw [q] at p
    simp only [R.toT_ok] at p
    intro vs B ι1 As1 F1 H1 ev pr m1 w nd fr
    unfold set2 at p
    split at p
    · rename_i oa ob
      split at p
      · rename_i hl
        obtain ⟨v1, v2, A1, B1, rfl, rfl, wa, wb⟩ := w.two
        refine ⟨le_line (n := 2) (by decide), fun t ht => ?_⟩
        have n0 := New.owned (F := F1) (u := .tup [v1, v2]) ht
        have nt : ∀ c ∈ A1 ++ B1, c ≠ t := fun c hc e => w.there c hc (by rw [e]; exact ht)
        have m2 := m1.keepN (Same.refl _) (fun b u z => n0.keep b u (m1.ext b u z) fun y => y) (fun b _ u z => n0.keep b u z fun y => y) fun b z => m1.own_none z
        have k2 : ∀ c, ∀ u, H1 c = some u → upd H1 t (.tup [v1, v2]) c = some u := fun c u z => n0.keep c u z fun y => y
        refine ⟨t, [v1, v2], rfl, SqT.of upd_same, rfl, v1, [v2], rfl, v2, [], rfl, rfl, ?_⟩
        refine p _ ι1 _ F1 _ ⟨ev.ext, fun c u z n => k2 c u (ev.keep c u z n), ev.grow, fun c z => ?_, fun c z => ev.there c (n0.there c z)⟩ pr (set2_step m2 hij hl.1 hl.2 (wa.mono (Same.refl _) (Pre.refl _) fun c _ u z => k2 c u z) (wb.mono (Same.refl _) (Pre.refl _) fun c _ u z => k2 c u z) nd fr) fun k hk => ?_
        · rcases own_setF z with z | z
          · exact ev.foot c (.inr (List.mem_append_right _ z))
          · rcases own_setF z with z | z
            · exact ev.foot c (.inr (List.mem_append_left _ z))
            · exact ev.foot c (.inl z)
        · rw [List.getElem?_set_ne (fun e : j = k => hjj (e ▸ hk)), List.getElem?_set_ne (fun e : i = k => hii (e ▸ hk))]
      · exact p.elim
    · exact p.elim
/-! ### what is walked -/
def D.its : D → Option (List D)
  | .tup ds => some ds
  | .lst ds => some ds
  | .scr ns => some (ns.map D.int)
  | _ => none
def mIts (f : M O) : M (List D) := f.bind fun o s => match o.frz with
  | some d => match d.its with
    | some ds => .ok ds s
    | none => .st
  | none => .st
theorem it_list {K : PySem.W.Frag} {ι : List Addr} {F : Hp} {a : Addr} {vs : List V} {ds : List D} (h : ∀ F1 H1, Ex F F1 → Ex F1 H1 → SqL K H1 a vs) (r : RdAll K ι F vs ds) : ItOk K ι F (Itl K a) ds := by
  intro ι1 F1 H1 i pr e x
  have hq := h F1 H1 e x
  refine ⟨fun d hd => ?_, fun hn => ⟨vs, hq, by rw [r.length]; exact List.getElem?_eq_none_iff.mp hn⟩⟩
  obtain ⟨v, h1, h2⟩ := r.get hd
  refine ⟨⟨vs, v, hq, h1⟩, fun y H2 hy => ?_⟩
  obtain ⟨rfl, hy⟩ := hy
  have h3 := hy vs hq
  rw [h1] at h3
  cases h3
  exact ⟨F1, New.refl, x, h2.mono e pr⟩
theorem it_tup {K : PySem.W.Frag} {ι : List Addr} {F : Hp} {a : Addr} {vs : List V} {ds : List D} (h : F a = some (.tup vs)) (r : RdAll K ι F vs ds) : ItOk K ι F (Itt K a) ds := by
  intro ι1 F1 H1 i pr e x
  have hq : SqT K H1 a vs := SqT.of (x _ _ (e _ _ h))
  refine ⟨fun d hd => ?_, fun hn => ⟨vs, hq, by rw [r.length]; exact List.getElem?_eq_none_iff.mp hn⟩⟩
  obtain ⟨v, h1, h2⟩ := r.get hd
  refine ⟨⟨vs, v, hq, h1⟩, fun y H2 hy => ?_⟩
  obtain ⟨rfl, hy⟩ := hy
  have h3 := hy vs hq
  rw [h1] at h3
  cases h3
  exact ⟨F1, New.refl, x, h2.mono e pr⟩
end
end VL
namespace VL
open PySem PySem.Spec
open PyProof.Rows L2
section
variable {C : Ctx}
def tupB (f : M O) (s : S) : Bool := match f s with
  | .ok o _ => match o with
    | .fz (.tup _) => true
    | _ => false
  | _ => false
/-- for .. in a tuple, a list, the script -/
theorem di_val {tg e : Expr} {f : M O} (h : DE C e f) : DI C tg e (mIts f) := by
  intro X hX ι As F H σ s m Rr W tk p
  unfold mIts at p tk
  by_cases ht : tupB f s = true
  · refine ⟨_, pi_tup pe_W, h X hX ι As F H σ s m _ W (isX_of tk) ?_⟩
    simp only [M.bind_def] at p
    unfold tupB at ht
    cases q : f s with
    | st => rw [q] at p; exact p.elim
    | ex c fs s1 => rw [q] at p; exact p
    | ok o s1 =>
      simp only [q] at p ht
      simp only [R.bind_ok] at p
      split at ht
      · rename_i ds
        simp only [frz_fz, D.its] at p
        intro v B ι1 As1 F1 H1 ev pr m1 w nd fr
        obtain ⟨r, hB⟩ := w.fz_inv
        cases r with
        | tup hq rr => exact ⟨_, rfl, ⟨_, SqT.of (m1.ext _ _ hq)⟩, p _ ι1 As1 F1 H1 (ev.post fun a z => .inl z) pr m1 (it_tup hq rr)⟩
      · cases ht
  · refine ⟨_, pi_list pe_W, h X hX ι As F H σ s m _ W (isX_of tk) ?_⟩
    simp only [M.bind_def] at p
    unfold tupB at ht
    cases q : f s with
    | st => rw [q] at p; exact p.elim
    | ex c fs s1 => rw [q] at p; exact p
    | ok o s1 =>
      simp only [q] at p ht
      simp only [R.bind_ok] at p
      intro v B ι1 As1 F1 H1 ev pr m1 w nd fr
      cases hz : o.frz with
      | none => rw [hz] at p; exact p.elim
      | some d =>
        simp only [hz] at p
        obtain ⟨F2, ev2, m2, r⟩ := freeze1 m1 ev w fr hz
        cases hi : d.its with
        | none => rw [hi] at p; exact p.elim
        | some ds =>
          rw [hi] at p
          unfold D.its at hi
          split at hi
          · cases o <;> first | (simp only [frz_fz, Option.some.injEq] at hz; subst hz; exact (ht rfl).elim) | skip
            · rename_i os
              rw [frz_lst] at hz
              cases e1 : O.frzAll os with
              | none => rw [e1] at hz; cases hz
              | some _ => rw [e1] at hz; cases hz
            · cases hz
            · rw [O.frz] at hz; cases hz
            · rw [O.frz] at hz; cases hz
          · cases hi
            cases r with
            | lst hq rr => exact ⟨_, rfl, ⟨_, SqL.of (m2.ext _ _ hq)⟩, p _ ι1 As1 F2 H1 ev2 pr m2 (it_list (fun F1 H1 e x => SqL.of (x _ _ (e _ _ hq))) rr)⟩
          · cases hi
            cases r with
            | scr hs => exact ⟨_, rfl, ⟨_, sqL_mono m2.ext hs⟩, p _ ι1 As1 F2 H1 ev2 pr m2 (it_list (fun F1 H1 e x => sqL_mono x (sqL_mono e hs)) (rd_ints _))⟩
          · cases hi
/-! ### range -/
def rngD (lo : Int) (n : Nat) : List D := (List.range n).map fun (i : Nat) => D.int (lo + (i : Int))
theorem it_rng {K : PySem.W.Frag} {ι : List Addr} {F : Hp} {lo : Int} {n : Nat} : ItOk K ι F (Itr lo n) (rngD lo n) := by
  intro ι1 F1 H1 i pr e x
  refine ⟨fun d hd => ?_, fun hn => ?_⟩
  · unfold rngD at hd
    rw [List.getElem?_map] at hd
    by_cases hi : i < n
    · rw [List.getElem?_range hi] at hd
      cases hd
      refine ⟨hi, fun y H2 hy => ?_⟩
      obtain ⟨rfl, rfl⟩ := hy
      exact ⟨F1, New.refl, x, .int _⟩
    · rw [List.getElem?_eq_none (by simpa using hi)] at hd
      cases hd
  · unfold rngD at hn
    rw [List.getElem?_eq_none_iff, List.length_map, List.length_range] at hn
    exact hn
def smallI (j : Int) : Bool := decide (-(2 ^ 62) ≤ j) && decide (j < 2 ^ 62)
theorem smallI_of {j : Int} (h : smallI j = true) : -(2 ^ 62) ≤ j ∧ j < 2 ^ 62 := by
  simp only [smallI, Bool.and_eq_true, decide_eq_true_eq] at h
  exact h
def mRng1 (f : M O) : M (List D) := f.bind fun o s => match o with
  | .fz (.int j) => if smallI j then .ok (rngD 0 j.toNat) s else .st
  | _ => .st
theorem di_rng1 {tg a : Expr} {f : M O} {p pos : Pos} (h : DE C a f) (hg : glB C.sc "range" = true := by rfl) (hm : C.mg "range" = none) (hs : ∀ env : Env, starEach [a] env = [(false, eval a env)] := by intro _; rfl) : DI C tg (.Call (.Name "range" p) [a] [] pos) (mRng1 f) := by
  intro X hX ι As F H σ s m Rr W tk p
  unfold mRng1 at p tk
  refine ⟨_, pi_range1 (gl_of hX.sc hg) (by rw [hX.mg]; exact hm) (pa_cons pe_W pa_nil (hs _)) (hs _), h X hX ι As F H σ s m _ W (isX_of tk) ?_⟩
  simp only [M.bind_def] at p
  cases q : f s with
  | st => rw [q] at p; exact p.elim
  | ex c fs s1 => rw [q] at p; exact p
  | ok o s1 =>
    rw [q] at p
    simp only [R.bind_ok] at p
    intro v B ι1 As1 F1 H1 ev pr m1 w nd fr
    split at p
    · rename_i j
      split at p
      · rename_i hj
        have e : v = .int j := w.int
        subst e
        exact ⟨j, rfl, (smallI_of hj).1, (smallI_of hj).2, p _ ι1 As1 F1 H1 (ev.post fun a z => .inl z) pr m1 it_rng⟩
      · exact p.elim
    · exact p.elim
def mRng2 (f g : M O) : M (List D) := f.bind fun x => g.bind fun y s => match x, y with
  | .fz (.int i), .fz (.int j) => if smallI i && smallI j then .ok (rngD i (j - i).toNat) s else .st
  | _, _ => .st
theorem di_rng2 {tg a b : Expr} {f g : M O} {p pos : Pos} (h : DE C a f) (h' : DE C b g) (hm : C.mg "range" = none) (hg : glB C.sc "range" = true := by rfl) (hs : ∀ env : Env, starEach [a, b] env = [(false, eval a env), (false, eval b env)] := by intro _; rfl) (hs2 : ∀ env : Env, starEach [b] env = [(false, eval b env)] := by intro _; rfl) :
    DI C tg (.Call (.Name "range" p) [a, b] [] pos) (mRng2 f g) := by
  intro X hX ι As F H σ s m Rr W tk p
  unfold mRng2 at p tk
  refine ⟨_, pi_range2 (gl_of hX.sc hg) (by rw [hX.mg]; exact hm) (pa_cons pe_W (pa_cons pe_W pa_nil (hs2 _)) (by rw [hs, hs2])) (hs _) (hs2 _), h X hX ι As F H σ s m _ W (isX_of tk) ?_⟩
  simp only [M.bind_def] at p tk
  cases q : f s with
  | st => rw [q] at p; exact p.elim
  | ex c fs s1 => rw [q] at p; exact p
  | ok x s1 =>
    rw [q] at p tk
    simp only [R.bind_ok] at p tk
    intro v B ι1 As1 F1 H1 ev pr m1 w nd fr
    refine h' X hX ι1 As1 F1 H1 σ s1 m1 _ W (isX_of tk) ?_
    cases q2 : g s1 with
    | st => rw [q2] at p; exact p.elim
    | ex c fs s2 =>
      rw [q2] at p
      exact PostX.step p ev pr fun _ z => .inl z
    | ok y s2 =>
      rw [q2] at p
      simp only [R.bind_ok] at p
      intro v2 B2 ι2 As2 F2 H2 ev2 pr2 m2 w2 nd2 fr2
      split at p
      · rename_i i j
        split at p
        · rename_i hj
          simp only [Bool.and_eq_true] at hj
          obtain ⟨a1, a2⟩ := smallI_of hj.1
          obtain ⟨b1, b2⟩ := smallI_of hj.2
          have e1 : v = .int i := w.int
          have e2 : v2 = .int j := w2.int
          subst e1
          subst e2
          exact ⟨i, j, rfl, ⟨a1, a2, b1, b2⟩, p _ ι2 As2 F2 H2 ((ev.trans (ev2.pre fun a z => .inl z)).post fun a z => .inl z) (pr.trans pr2) m2 it_rng⟩
        · exact p.elim
      · exact p.elim
/-! ### isinstance, built-in types -/
inductive Ty where
  | non | bl | int | str | tup | lst | dct
  deriving
          DecidableEq, Inhabited
def Ty.nm : Ty → String
  | .non => "NoneType" | .bl => "bool" | .int => "int" | .str => "str" | .tup => "tuple" | .lst => "list" | .dct => "dict"
def Ty.sub (a b : Ty) : Bool := decide (a = b) || (decide (a = .bl) && decide (b = .int))
theorem kitB_eq : ∀ a b : Ty, kitB a.nm b.nm = some (a.sub b) := by
  have h : ([Ty.non, .bl, .int, .str, .tup, .lst, .dct].all fun a => [Ty.non, .bl, .int, .str, .tup, .lst, .dct].all fun b => decide (kitB a.nm b.nm = some (a.sub b))) = true := by decide +kernel
  intro a b
  have m : ∀ x : Ty, x ∈ [Ty.non, .bl, .int, .str, .tup, .lst, .dct] := fun x => by cases x <;> decide
  exact of_decide_eq_true (List.all_eq_true.mp (List.all_eq_true.mp h a (m a)) b (m b))
def O.ty : O → Option Ty
  | .fz .non => some .non
  | .fz (.bl _) => some .bl
  | .fz (.int _) => some .int
  | .fz (.str _) => some .str
  | .fz (.tup _) => some .tup
  | .fz (.lst _) => some .lst
  | .fz (.dct _) => some .dct
  | .lst _ => some .lst
  | .dK _ => some .dct
  | .dT _ => some .dct
  | _ => none
theorem ty_at {K : PySem.W.Frag} {ι : List Addr} {F H : Hp} {v : V} {o : O} {A : List Addr} {t : Ty} (e : Ex F H) (w : Ow K ι F H v o A) (h : o.ty = some t) : TyX K H v (.type t.nm) := by
  unfold O.ty at h
  split at h <;> first | (cases h; done) | skip
  · cases h; cases w.fz_inv.1; exact .base .non
  · cases h; cases w.fz_inv.1; exact .base (.bl _)
  · cases h; cases w.fz_inv.1; exact .base (.int _)
  · cases h; cases w.fz_inv.1; exact .base (.str _)
  · cases h
    cases w.fz_inv.1 with
    | tup q r => exact .base (.tup (e _ _ q))
  · cases h
    cases w.fz_inv.1 with
    | lst q r => exact .base (.lst (e _ _ q))
  · cases h
    cases w.fz_inv.1 with
    | dct q l r => exact .base (.dK (e _ _ q))
  · cases h
    cases w with
    | lst q r => exact .base (.lst q)
  · cases h
    cases w with
    | dK q l r => exact .base (.dK q)
  · cases h
    cases w with
    | dT q l r => exact .base (.dT q)
def isiO (ts : List Ty) (x : O) : Option O := match x.ty with
  | some t => some (.fz (.bl (ts.any fun b => t.sub b)))
  | none => none
def mIsi (ts : List Ty) (f : M Opnd) : M O := f.bind fun y s => match opv y s with
  | some x => match isiO ts x with
    | some o => .ok o s
    | none => .st
  | none => .st
theorem kitAny_ty {K : PySem.W.Frag} {t : Ty} : ∀ ts : List Ty, PySem.W.kitAny K (.type t.nm) (ts.map fun b => Value.type b.nm) = some (ts.any fun b => t.sub b)
  | [] => rfl
  | b :: ts => by
    refine kitAny_cons (kit_ty (kitB_eq t b)) (fun h => ?_) fun h => ?_
    · rw [List.any_cons, h, Bool.false_or]
      exact kitAny_ty ts
    · rw [List.any_cons, h, Bool.true_or]
theorem boot_ty : ∀ b : Ty, b ≠ .non → bootBuiltins (Str.ofString b.nm) = some (.type b.nm) := by
  have h : ([Ty.bl, .int, .str, .tup, .lst, .dct].all fun b => decide (bootBuiltins (Str.ofString b.nm) = some (.type b.nm))) = true := by decide +kernel
  intro b hb
  exact of_decide_eq_true (List.all_eq_true.mp h b (by cases b <;> first | exact (hb rfl).elim | decide))
theorem isi_post {X : Cx} {ι : List Addr} {As : Foot} {F H : Hp} {σ : L2.St} {s : S} {y : Opnd} {ts : List Ty} {v : V} {Q : VK} {W : WX} (m : Mem X.K ι As F H σ s) (r : OpRd X.K ι F σ v y) (p : PostV X ι As F H σ ((fun y s => match opv y s with
  | some x => match isiO ts x with
    | some o => .ok o s
    | none => .st
  | none => .st : Opnd → M O) y s) Q W) : ∃ (t : Ty) (x : O) (A : List Addr), x.ty = some t ∧ Ow X.K ι F H v x A ∧ PostE X ι As F H σ (.fz (.bl (ts.any fun b => t.sub b))) s Q := by
  cases h : opv y s with
  | none => simp only [h] at p; exact p.elim
  | some x =>
    simp only [h] at p
    unfold isiO at p
    cases ht : x.ty with
    | none => rw [ht] at p; exact p.elim
    | some t =>
      simp only [ht] at p
      obtain ⟨A, w⟩ := opv_ow m r h
      exact ⟨t, x, A, ht, w, p⟩
/-- isinstance(e, T) -/
theorem de_isi {e : Expr} {x : Str} {f : M Opnd} {p p2 pos : Pos} (T : Ty) (hT : T ≠ .non := by decide) (h : DO C e f) (hm : C.mg "isinstance" = none) (hmx : C.mg x = none) (hx : x = Str.ofString T.nm := by rfl) (hg : glB C.sc "isinstance" = true := by rfl) (hgx : glB C.sc x = true := by rfl)
    (hn : x ≠ "__name__" := by decide) (hdb : (x == ("__debug__" : Str)) = false := by decide) (hs : ∀ env : Env, starEach [e, .Name x p2] env = (false, eval e env) :: starEach [.Name x p2] env := by intro _; rfl) (hpl : ∀ env : Env, (backTo pos (starEach [.Name x p2] env)).any (·.1) = false := by intro _; rfl) :
    DE C (.Call (.Name "isinstance" p) [e, .Name x p2] [] pos) (mIsi [T] f) := by
  intro X hX ι As F H σ s m Q W tk p
  unfold mIsi at p tk
  refine tW_of (pe_callB call_isi (gl_of hX.sc hg) (by rw [hX.mg]; exact hm) (by decide +kernel) (pa_cons pe_W (pa_cons (pe_bltn (v := .ty T.nm) (gl_of hX.sc hgx) (by rw [hX.mg]; exact hmx) (by rw [hx]; exact boot_ty T hT) rfl hn hdb) pa_nil rfl) (hs _)) (by decide) (by decide) (hs _) (hpl _)) ?_
  refine h X hX ι As F H σ s m _ W (isX_of tk) ?_
  simp only [M.bind_def] at p
  cases q : f s with
  | st => rw [q] at p; exact p.elim
  | ex c fs s1 => rw [q] at p; exact p
  | ok y s1 =>
    rw [q] at p
    simp only [R.bind_ok] at p
    intro v ι1 As1 F1 H1 ev pr m1 ro
    obtain ⟨t, x0, A0, ht, w0, h2⟩ := isi_post (W := W) m1 ro (PostV.step p ev pr fun _ z => z)
    refine ⟨v, .ty T.nm, _, _, t.sub T, rfl, .ty _, ty_at m1.ext w0 ht, kit_ty (kitB_eq t T), ?_⟩
    have e3 : ([T].any fun b => t.sub b) = t.sub T := by simp
    rw [e3] at h2
    exact post_new m1 h2 New.refl m1.ext (.fz (.bl _)) List.nodup_nil fun _ z => nomatch z
/-- isinstance(e, (T, U)) -/
theorem de_isi2 {e : Expr} {x y : Str} {f : M Opnd} {p p2 p3 pt pos : Pos} {kt : Nat} (T U : Ty) (hT : T ≠ .non := by decide) (hU : U ≠ .non := by decide) (h : DO C e f) (hm : C.mg "isinstance" = none) (hmx : C.mg x = none) (hmy : C.mg y = none) (hx : x = Str.ofString T.nm := by rfl) (hy : y = Str.ofString U.nm := by rfl) (hg : glB C.sc "isinstance" = true := by rfl) (hgx : glB C.sc x = true := by rfl) (hgy : glB C.sc y = true := by rfl)
    (hn : x ≠ "__name__" := by decide) (hdb : (x == ("__debug__" : Str)) = false := by decide) (hny : y ≠ "__name__" := by decide) (hdby : (y == ("__debug__" : Str)) = false := by decide)
    (hs : ∀ env : Env, starEach [e, .Tuple [.Name x p2, .Name y p3] kt pt] env = (false, eval e env) :: starEach [.Tuple [.Name x p2, .Name y p3] kt pt] env := by intro _; rfl) :
    DE C (.Call (.Name "isinstance" p) [e, .Tuple [.Name x p2, .Name y p3] kt pt] [] pos) (mIsi [T, U] f) := by
  intro X hX ι As F H σ s m Q W tk p
  unfold mIsi at p tk
  refine tW_of (pe_callB call_isiT (gl_of hX.sc hg) (by rw [hX.mg]; exact hm) (by decide +kernel) (pa_cons pe_W (pa_cons (pe_tup (pa_cons (pe_bltn (v := .ty T.nm) (gl_of hX.sc hgx) (by rw [hX.mg]; exact hmx) (by rw [hx]; exact boot_ty T hT) rfl hn hdb) (pa_cons (pe_bltn (v := .ty U.nm) (gl_of hX.sc hgy) (by rw [hX.mg]; exact hmy) (by rw [hy]; exact boot_ty U hU) rfl hny hdby) pa_nil rfl) rfl)) pa_nil rfl) (hs _)) (by decide) (by decide) (hs _) rfl) ?_
  refine h X hX ι As F H σ s m _ W (isX_of tk) ?_
  simp only [M.bind_def] at p
  cases q : f s with
  | st => rw [q] at p; exact p.elim
  | ex c fs s1 => rw [q] at p; exact p
  | ok y s1 =>
    rw [q] at p
    simp only [R.bind_ok] at p
    intro v ι1 As1 F1 H1 ev pr m1 ro
    obtain ⟨t, x0, A0, ht, w0, h2⟩ := isi_post (W := W) m1 ro (PostV.step p ev pr fun _ z => z)
    refine ⟨le_line (n := 2) (by decide), fun a ha => ?_⟩
    have n0 := New.owned (F := F1) (u := .tup [.ty T.nm, .ty U.nm]) ha
    have n1 : New F1 H1 F1 (upd H1 a (.tup [.ty T.nm, .ty U.nm])) [] := n0.post fun c z => nomatch z
    have x1 : Ex F1 (upd H1 a (.tup [.ty T.nm, .ty U.nm])) := fun b u z => n0.keep b u (m1.ext b u z) fun y => y
    have w1 := w0.mono (Same.refl _) (Pre.refl _) fun b _ u z => n0.keep b u z fun y => y
    exact ⟨v, a, [.ty T.nm, .ty U.nm], _, [.type T.nm, .type U.nm], _, rfl, upd_same, .cons (.ty _) (.cons (.ty _) .nil), ty_at x1 w1 ht, kitAny_ty [T, U], post_new m1 h2 n1 x1 (.fz (.bl _)) List.nodup_nil fun _ z => nomatch z⟩
end
end VL
namespace VL
open PySem PySem.Spec
open PyProof.Rows L2
/-! ### repr -/
def keyR : Key → Option PyData
  | .inl i => if i.natAbs.log2 < 1920 then some (PyData.int i) else none
  | .inr x => some (PyData.str x)
mutual
/-- the library's data of a thing, dicts among them; ints not too long -/
def D.pyR : D → Option PyData
  | .non => some .none
  | .bl b => some (.bool b)
  | .int i => if i.natAbs.log2 < 1920 then some (.int i) else none
  | .str x => some (.str x)
  | .tup ds => match D.pyRs ds with
    | some ps => some (.tuple ps)
    | none => none
  | .lst ds => match D.pyRs ds with
    | some ps => some (.list ps)
    | none => none
  | .dct kvs => match D.pyRk kvs with
    | some ps => some (.dict ps)
    | none => none
  | .obj _ _ _ => none
  | .scr _ => none
  | .raw _ => none
def D.pyRs : List D → Option (List PyData)
  | [] => some []
  | d :: ds => match D.pyR d with
    | some p => match D.pyRs ds with
      | some ps => some (p :: ps)
      | none => none
    | none => none
def D.pyRk : List (Key × D) → Option (List (PyData × PyData))
  | [] => some []
  | (k, d) :: r => match keyR k with
    | some q => match D.pyR d with
      | some p => match D.pyRk r with
        | some ps => some ((q, p) :: ps)
        | none => none
      | none => none
    | none => none
end
theorem pyRk_split : ∀ {ks : List Key} {ds : List D} {ps : List (PyData × PyData)}, ks.length = ds.length → D.pyRk (ks.zip ds) = some ps → D.pyRs ds = some (ps.map (·.2)) ∧ ks.map keyR = ps.map (fun q => some q.1)
  | [], [], ps, _, h => by
    simp [D.pyRk] at h
    subst h
    exact ⟨rfl, rfl⟩
  | [], _ :: _, _, l, _ => by simp at l
  | _ :: _, [], _, l, _ => by simp at l
  | k :: ks, d :: ds, ps, l, h => by
    rw [List.zip_cons_cons, D.pyRk] at h
    cases h1 : keyR k with
    | none =>
            rw [h1] at h; cases h
    | some q =>
      simp only [h1] at h
      cases h2 : D.pyR d with
      | none => rw [h2] at h; cases h
      | some p =>
        simp only [h2] at h
        cases h3 : D.pyRk (ks.zip ds) with
        | none => rw [h3] at h; cases h
        | some ps' =>
          rw [h3] at h
          cases h
          obtain ⟨a, b⟩ := pyRk_split (by simpa using l) h3
          exact ⟨by rw [D.pyRs, h2, a]; rfl, by simp [h1, b]⟩
/-- the table of the modules is a dict -/
def SysD (K : PySem.W.Frag) : Prop := ∃ o, K.lookup sysModules = some o ∧ o.cls = .type "dict"
section
variable {X : Cx} {pins : List (Addr × Obj)} {σ : L2.St} {H F : Hp} {s : Shared} {ι : List Addr}
theorem notSys (I : Inv X pins σ H s) (hs : SysD X.K) {a : Addr} {o : Obj} (h : s.heap.get? a = some o) (hc : o.cls = .type "list") : a ≠ sysModules := fun e => by
  obtain ⟨o', h1, h2⟩ := hs
  have h3 := I.kIn _ _ h1
  rw [e, h3] at h
  cases h
  rw [h2] at hc
  exact absurd hc (by decide)
theorem keys_reads {P : Program} {w : World} {h : Heap} : ∀ {es : List DictEntry} {vs : List (Key × Value)} {qs : List PyData}, Pairs (mixKind P w) es vs → (vs.map (·.1)).map keyR = qs.map some → ReadsAll h (es.map (·.key)) qs []
  | _, _, [], .nil, _ => .nil
  | _, _, _ :: _, .nil, h => by cases h
  | _, _, [], .cons _ _ _, h => by cases h
  | _, _, q :: qs, .cons (kv := kv) hk hv hr, h => by
    simp
            only [List.map_cons, List.cons.injEq] at h
    have h1 : keyIs kv.1 _ = true := hk
    have r := keys_reads (h := ‹Heap›) hr h.2
    rcases keyIs_shape h1 with ⟨i, t, e1, e2⟩ | ⟨x, t, e1, e2⟩
    · rw [e1] at h
      unfold keyR at h
      split at h
      · rename_i hz
        rw [List.map_cons, e2]
        simp only [Sum.inl.injEq] at hz
        obtain ⟨h, _⟩ := h
        split at h
        · cases h
          subst hz
          exact .cons (.int _ _) r
        · cases h
      · rename_i hz; cases hz
    · rw [e1] at h
      unfold keyR at h
      split at h
      · rename_i hz; cases hz
      · rename_i hz
        cases hz
        obtain ⟨h, _⟩ := h
        cases h
        rw [List.map_cons, e2]
        exact .cons (.str _ _) r
theorem vals_pairs {P : Program} {w : World} : ∀ {es : List DictEntry} {vs : List (Key × Value)}, Pairs (mixKind P w) es vs → es.map (·.val) = vs.map (·.2)
  | _, _, .nil => rfl
  | _, _, .cons _ hv r => by rw [List.map_cons, List.map_cons, hv, vals_pairs r]
theorem kv_split : ∀ {ks : List Key} {vs : List V} {ws : List (Key × Value)}, ks.length = vs.length → KV (ks.zip vs) ws → ws.map (·.1) = ks ∧ Vals vs (ws.map (·.2))
  | [], [], _, _, h => by
    cases h
    exact ⟨rfl, .nil⟩
  | [], _ :: _, _, l, _ => by simp at l
  | _ :: _, [], _, l, _ => by simp at l
  | k :: ks, v :: vs, _, l, h => by
    rw [List.zip_cons_cons] at h
    cases h with
    | cons h r =>
      obtain ⟨a, b⟩ := kv_split (by simpa using l) r
      exact ⟨by rw [List.map_cons, a, ← h.1], .cons h.2 b⟩
mutual
theorem Rd.reads (I : Inv X pins σ H s) (hs : SysD X.K) (e : Ex F H) : ∀ {v : V} {d : D} {p : PyData} {u : Value}, VL.Rd X.K ι F v d → d.pyR = some p → RelV v u → ∃ as, Reads s.heap u p as ∧ sysModules ∉ as
  | _, _, _, _, .non, h, r => by
    simp [D.pyR] at h
    subst h
    cases r
    exact ⟨_, .none, List.not_mem_nil⟩
  | _, _, _, _, .bl b, h, r => by
    simp [D.pyR] at h
    subst h
    cases r
    exact ⟨_, .bool b, List.not_mem_nil⟩
  | _, _, _, _, .int i, h, r => by
    rw [D.pyR] at h
    split at h
    · cases h
      obtain ⟨t, rfl⟩ := r
      exact ⟨_, .int i t, List.not_mem_nil⟩
    · cases h
  | _, _, _, _, .str x, h, r => by
    simp [D.pyR] at h
    subst h
    obtain ⟨t, rfl⟩ := r
    exact ⟨_, .str x t, List.not_mem_nil⟩
  | _, _, _, _, .tup (ds := ds) hf rr, h, r => by
    rw [D.pyR] at h
    cases q : D.pyRs ds with
    | none => rw [q] at h; cases h
    | some ps =>
      rw [q] at h
      cases h
      cases r
      obtain ⟨its, rv, ⟨o, ho, hc, n, hd⟩, _⟩ := I.tuple (SqT.of (e _ _ hf))
      obtain ⟨as, h1, h2⟩ := RdAll.reads I hs e rr q rv
      exact ⟨_, .tuple ho hc hd h1, h2⟩
  | _, _, _, _, .lst (ds := ds) hf rr, h, r => by
    rw [D.pyR] at h
    cases q : D.pyRs ds with
    | none => rw [q] at h; cases h
    | some ps =>
      rw [q] at h
      cases h
      cases r
      obtain ⟨its, rv, ⟨o, n, ho, hc, _, hd⟩, _⟩ := I.list (SqL.of (e _ _ hf))
      obtain ⟨as, h1, h2⟩ := RdAll.reads I hs e rr q rv
      exact ⟨_, .list ho hc hd h1, fun z => (List.mem_cons.mp z).elim (fun z => notSys I hs ho hc z.symm) h2⟩
  | _, _, _, _, .dct (ks := ks) (vs := vs) (ds := ds) hf hl rr, h, r => by
    rw [D.pyR] at h
    cases q : D.pyRk (ks.zip ds) with
    | none => rw [q] at h; cases h
    | some ps =>
      rw [q] at h
      cases h
      cases r
      obtain ⟨q1, q2⟩ := pyRk_split (by rw [← rr.length]; exact hl) q
      obtain ⟨_, hz, ws, kv, o, es, ep, ho, hx, hd, _, hp, _⟩ := dk_rd I.hok (.inl (e _ _ hf))
      obtain ⟨k1, k2⟩ := kv_split hl kv
      obtain ⟨bs, h1, h2⟩ := RdAll.reads I hs e rr q1 k2
      refine ⟨_, .dict ho hx.1 hd (keys_reads hp (by rw [k1, q2, List.map_map]; rfl)) (by rw [vals_pairs hp]; exact h1), fun z => ?_⟩
      rcases List.mem_append.mp z with z | z
      · rcases
              List.mem_cons.mp z with z | z
        · rw [← z] at hz
          simp at hz
        · cases z
      · exact h2 z
  | _, _, _, _, .obj _ _ _ _, h, _ => by simp [D.pyR] at h
  | _, _, _, _, .scr _, h, _ => by simp [D.pyR] at h
  | _, _, _, _, .raw _, h, _ => by simp [D.pyR] at h
theorem RdAll.reads (I : Inv X pins σ H s) (hs : SysD X.K) (e : Ex F H) : ∀ {vs : List V} {ds : List D} {ps : List PyData} {us : List Value}, VL.RdAll X.K ι F vs ds → D.pyRs ds = some ps → Vals vs us → ∃ as, ReadsAll s.heap us ps as ∧ sysModules ∉ as
  | _, _, _, _, .nil, h, r => by
    simp [D.pyRs] at h
    subst h
    cases r
    exact ⟨_, .nil, List.not_mem_nil⟩
  | _, _, _, _, .cons (d := d) (ds := ds) h1 h2, h, r => by
    rw [D.pyRs] at h
    cases q : D.pyR d with
    | none => rw [q] at h; cases h
    | some p =>
      cases q2 : D.pyRs ds with
      | none => simp only [q, q2] at h; cases h
      | some ps =>
        simp only [q, q2] at h
        cases h
        cases r with
        | cons r1 r2 =>
          obtain ⟨as, a1, a2⟩ := Rd.reads I hs e h1 q r1
          obtain ⟨bs, b1, b2⟩ := RdAll.reads I hs e h2 q2 r2
          exact ⟨_, .cons a1 b1, fun z => (List.mem_append.mp z).elim a2 b2⟩
end
end
mutual
theorem pyR_show : ∀ {d : D} {p : PyData}, d.pyR = some p → p.showable = true
  | .non, _, h => by simp [D.pyR] at h; subst h; rfl
  | .bl b, _, h => by simp [D.pyR] at h; subst h; rfl
  | .int i, _, h => by
    rw [D.pyR] at h
    split at h
    · rename_i hi
      cases h
      simpa [PyData.showable] using hi
    · cases h
  | .str x, _, h => by simp [D.pyR] at h; subst h; rfl
  | .tup ds, _, h => by
    rw [D.pyR] at h
    cases q : D.pyRs ds with
    | none => rw [q] at h; cases h
    | some ps => rw [q] at h; cases h; simpa [PyData.showable] using pyRs_show q
  | .lst ds, _, h => by
    rw [D.pyR] at h
    cases q : D.pyRs ds with
    | none => rw [q] at h; cases h
    | some ps => rw [q] at h; cases h; simpa [PyData.showable] using pyRs_show q
  | .dct kvs, _, h => by
    rw [D.pyR] at h
    cases q : D.pyRk kvs with
    | none => rw [q] at h; cases h
    | some ps => rw [q] at h; cases h; simpa [PyData.showable] using pyRk_show q
  | .obj _ _ _, _, h => by simp [D.pyR] at h
  | .scr _, _, h => by simp [D.pyR] at h
  | .raw _, _, h => by simp [D.pyR] at h
theorem pyRs_show : ∀ {ds : List D} {ps : List PyData}, D.pyRs ds = some ps → PyData.showableAll ps = true
  | [], _, h => by simp [D.pyRs] at h; subst h; rfl
  | d :: ds, _, h => by
    rw [D.pyRs] at h
    cases q : D.pyR d with
    | none => rw [q] at h; cases h
    | some p =>
      cases q2 : D.pyRs ds with
      | none => simp only [q, q2] at h; cases h
      | some ps =>
        simp only [q, q2] at h
        cases h
        simp [PyData.showableAll, pyR_show q, pyRs_show q2]
theorem pyRk_show : ∀ {ds : List (Key × D)} {ps : List (PyData × PyData)}, D.pyRk ds = some ps → PyData.showableKv ps = true
  | [], _, h => by simp [D.pyRk] at h; subst h; rfl
  | (k, d) :: ds, _, h => by
    rw [D.pyRk] at h
    cases h1 : keyR k with
    | none =>
            rw [h1] at h; cases h
    | some q =>
      simp only [h1] at h
      cases h2 : D.pyR d with
      | none => rw [h2] at h; cases h
      | some p =>
        simp only [h2] at h
        cases h3 : D.pyRk ds with
        | none => rw [h3] at h; cases h
        | some ps' =>
          rw [h3] at h
          cases h
          have hq : q.showable = true := by
            unfold keyR at h1
            split at h1
            · split at h1
              · rename_i hi
                cases h1
                simpa [PyData.showable] using hi
              · cases h1
            · cases h1; rfl
          simp [PyData.showableKv, hq, pyR_show h2, pyRk_show h3]
end
/-- the text of a thing, if it is short enough -/
def D.text (d : D) : Option Str := match d.pyR with
  | some p => if p.depth ≤ 50 ∧ p.shown.length ≤ 1000000 then some p.shown else none
  | none => none
def reprO : List O → Option O
  | [x] => match x.frz with
    | some d => d.text.map fun t => .fz (.str t)
    | none => none
  | _ => none
def rRepr (K : PySem.W.Frag) : List V → Hp → VK → Prop := fun vs H Q => ∃ (v : V) (d : D) (ι : List Addr) (t : Str), vs = [v] ∧ VL.Rd K ι H v d ∧ d.text = some t ∧ Q (.str t) H
theorem le_million {n : Nat} (h : n ≤ 1000000) : n ≤ sizeLine := Nat.le_trans h (by decide)
theorem call_reprD {X : Cx} {k : Nat} (hr : Room k X.A) (hg : X.A.guards = some []) (hs : SysD X.K) : CallR X (.builtin "repr") (rRepr X.K) := by
  intro
          pins s σ H xs us Q I rv h
  obtain ⟨v, d, ι, t, rfl, r, ht, q⟩ := h
  obtain ⟨u, rfl, ru⟩ := rv.one
  unfold D.text at ht
  cases hp : d.pyR with
  | none => rw [hp] at ht; cases ht
  | some p =>
    simp only [hp] at ht
    split at ht
    · rename_i hc
      cases ht
      obtain ⟨as, ra, hsys⟩ := Rd.reads I hs (Same.refl _) r hp ru
      have sh := pyR_show hp
      have hl := le_million hc.2
      have hu := hr.units
      cases ra with
      | none => exact PySem.P.repr_of_none ⟨.str _, H, I.tok _, ⟨_, rfl⟩, by simpa [PyData.shown] using q⟩
      | bool b =>
        refine PySem.P.repr_of_bool ⟨.str _, H, I.tok _, ⟨_, rfl⟩, ?_⟩
        simp only [PyData.shown] at q
        cases b <;> exact q
      | int i t => exact PySem.P.repr_of_int (by simpa [PyData.showable] using sh) ⟨.str _, H, I.tok _, ⟨_, rfl⟩, by simpa [PyData.shown] using q⟩
      | str x t => exact PySem.P.repr_of_str ⟨.str _, H, I.tok _, ⟨_, rfl⟩, by simpa [PyData.shown] using q⟩ (by simpa [PyData.shown] using hl)
      | list a b c e => exact repr_of_reads' (.list a b c e) sh (fun _ => hsys) hg (by omega) (fun _ _ z => z) (fun h' u tk hk => ⟨.str _, H, I.kept hk, ⟨_, rfl⟩, q⟩) hl
      | tuple a b c e => exact repr_of_reads' (.tuple a b c e) sh (fun _ => hsys) hg (by omega) (fun _ _ z => z) (fun h' u tk hk => ⟨.str _, H, I.kept hk, ⟨_, rfl⟩, q⟩) hl
      | dict a b c e f => exact repr_of_reads' (.dict a b c e f) sh (fun _ => hsys) hg (by omega) (fun _ _ z => z) (fun h' u tk hk => ⟨.str _, H, I.kept hk, ⟨_, rfl⟩, q⟩) hl
    · cases ht
/-- the built-in, where K is known -/
def CbK (K : PySem.W.Frag) (f : Value) (h : List O → Option O) : Prop := ∀ (X : Cx) (k : Nat), X.K = K → Room k X.A → X.A.guards = some [] → X.calm = true → ∀ (xs : List O) (o : O), h xs = some o → ∀ (ι : List Addr) (F H : Hp) (vs : List V) (Q : VK), Ex F H → OwVs X.K ι F H vs xs →
  (∀ v Bo F' H', New F H F' H' Bo → Ex F' H' → Ow X.K ι F' H' v o Bo → Bo.Nodup → (∀ a ∈ Bo, F' a = none) → Q v H') → cW X f vs H Q
theorem ok_repr {K : PySem.W.Frag} (hs : SysD K) : CbK K (.builtin "repr") reprO := by
  intro X k hK hr hg hc xs o h ι F H vs Q e w q
  subst hK
  unfold reprO at h
  split at h
  · rename_i x
    cases hz : x.frz with
    | none => rw [hz] at h; cases h
    | some d =>
      simp only [hz] at h
      obtain ⟨t, h1, rfl⟩ := Option.map_eq_some_iff.mp h
      obtain ⟨v, A, rfl, wv⟩ := w.one
      exact ⟨_, call_reprD hr hg hs, v, d, ι, t, rfl, wv.seen e hz, h1, same_end e q (.str _)⟩
  · cases h
section
variable {C : Ctx}
theorem opK_post {X : Cx} {f : Value} {h : List O → Option O} (ho : CbK C.K f h) (hX : At C X) {ι : List Addr} {As : Foot} {F H : Hp} {σ : L2.St} {s : S} {Q : VK} {W : WX} {os : List Opnd} {vs : List V}
    (m : Mem X.K ι As F H σ s) (r : OpAll X.K ι F σ vs os) (p : PostV X ι As F H σ (opN h os s) Q W) : cW X f vs H Q := by
  unfold opN at p
  cases e1 : opvs os s with
  | none => rw [e1] at p; exact p.elim
  | some xs =>
    rw [e1] at p
    cases e3 : h xs with
    | none => simp only [e3] at p; exact p.elim
    | some o =>
      simp only [e3] at p
      exact ho X _ hX.K hX.room hX.gd hX.calm xs o e3 ι F H vs Q m.ext (opvs_ow m r e1) fun v Bo F' H' n x' w nd fr => post_new m p n x' w nd fr
theorem de_callK {x : Str} {id : String} {h : List O → Option O} {e : Expr} {es : List Expr} {f : M (List Opnd)} {p pos : Pos} (ho : CbK C.K (.builtin id) h) (ha : DOs C (e :: es) f) (hm : C.mg x = none) (hv : bootBuiltins x = some (.builtin id)) (hg : glB C.sc x = true := by rfl)
    (hn : x ≠ "__name__" := by decide) (hdb : (x == ("__debug__" : Str)) = false := by decide)
    (he : ∀ env : Env, starEach (e :: es) env = (false, eval e env) :: starEach es env := by intro _; rfl) (hpl : ∀ env : Env, (backTo pos (starEach es env)).any (·.1) = false := by intro _; rfl) : DE C (.Call (.Name x p) (e :: es) [] pos) (f.bind (opN h)) := by
  intro X hX ι As F H σ s m Q W tk p
  exact tW_of (pe_callB cW_ok (gl_of hX.sc hg) (by rw [hX.mg]; exact hm) hv pa_W hn hdb (he _) (hpl _)) (row hX ha m tk p fun ι As F H s os vs m r p => opK_post ho hX m r p)
end
end VL
namespace VL
open PySem PySem.Spec
open PyProof.Rows L2
/-! ### own classes -/
theorem guard_make {A : Around} {args : Args} : (A.under (.builtin "type.__call__" args)).guards = A.guards := by
  first | rfl | simp [Around.under, Code.weight, Code.isCreation]
/-- C(..) where its __init__ keeps a promise, nothing raised -/
theorem make_at {X : Cx} {pins : List (Addr × Obj)} {σ : L2.St} {H : Hp} {s : Shared} {Q : VK} {us ws : List Value} {vs zs : List V} {k n : Nat} {C f : Addr} {fd : FuncData} {ps ks : List Str} {sp : Sp} {g : List Value → List Value → List Value} {gV : List V → List V → List V}
    (M : Mk X.K C f) (F : FnG X.prog X.w X.K X.mg X.base k f fd ps sp) (hr : Room (k + 1) X.A) (hgd : X.A.guards = some []) (hb : KBn X.K fd ps (n + 1) ks g gV) (I : Inv X pins σ H s) (r : Vals vs us) (rz : Vals zs ws) (l1 : vs.length = n) (l2 : zs.length = ks.length)
    (h : ∀ x dx, H x = none → H dx = none → dx ≠ x → sp (gV (.ref x :: vs) zs) (upd (upd H dx (.own x)) x (.ins C dx [])) (fun v H2 => v = .non ∧ Q (.ref x) H2) (fun _ _ _ => False)) : wpAny (model X.prog X.w) X.A (call (.ref C) us (ks.zip ws)) (EP X pins σ Q) X.xe s := by
  have z0 : H (s.heap.objs.size + 1) = none := I.hok.fresh (Nat.le_succ _)
  have z1 : H s.heap.objs.size = none := I.hok.fresh (Nat.le_refl _)
  have hq := h _ _ z0 z1 (Nat.ne_of_lt (Nat.lt_succ_self _))
  have J := Inv.made (C := C) I
  have rr : Vals (V.ref (s.heap.objs.size + 1) :: vs) (Value.ref (s.heap.objs.size + 1) :: us) := .cons rfl r
  have lu : (Value.ref (s.heap.objs.size + 1) :: us).length = n + 1 := by
    have e := rr.length
    simp only [List.length_cons] at e ⊢
    omega
  have lw : ws.length = ks.length := by rw [← l2]; exact rz.length.symm
  have run := F.run (X.A.under (.builtin "type.__call__" ⟨.ref C :: us, ks.zip ws⟩)) X.stack _ _ ⟨Value.ref (s.heap.objs.size + 1) :: us, ks.zip ws⟩ _ _ _ (fun _ _ _ => False) (hr.make C us (ks.zip ws)) (by rw [guard_make]; exact hgd) (J.env0.make C us (ks.zip ws)) (hb.to _ _ ws J.kIn lu lw) (hb.rel rr rz) hq
  refine wpAny_call (make_map (f := f) I.kIn M.makes M.init (beq_iff_eq.mp M.fn) (codeAny_mono run fun res s' hq' => ?_))
  match res, hq' with
  | .error e, hq' => exact passF σ pins _ _ e s' J hq'
  | .ok (.ret u), hq' =>
    obtain ⟨v, H', J2, rv, ev, q3⟩ := J.after hq'
    subst ev
    exact ⟨rv, V.ref (s.heap.objs.size + 1), H', J2, rfl, q3⟩
  | .ok .next, hq' => exact (show False from hq').elim
  | .ok .brk, hq' => exact (show False from hq').elim
  | .ok .cont, hq' => exact (show False from hq').elim
section
variable {X : Cx} {k n : Nat} {f C : Addr} {fd : FuncData} {ps ks : List Str} {sp : Sp} {x : Str} {p pos : Pos} {e : Expr} {es : List Expr} {kws : List Keyword} {t tk : TA} {g : List Value → List Value → List Value} {gV : List V → List V → List V}
/-- C(e, ..) -/
theorem pe_mk0 (M : Mk X.K C f) (F : FnG X.prog X.w X.K X.mg X.base k f fd ps sp) (hr : Room (k + 1) X.A) (hgd : X.A.guards = some []) (hg : Gl X x) (hm : X.mg x = some (.ref C)) (hb : KBn X.K fd ps (n + 1) [] g gV) (ha : PA X (e :: es) t) (hdb : (x == ("__debug__" : Str)) = false)
    (he : starEach (e :: es) X.env = (false, eval e X.env) :: starEach es X.env) (hpl : (backTo pos (starEach es X.env)).any (·.1) = false) : PE X (.Call (.Name x p) (e :: es) [] pos) (tMakeN C n 0 sp gV (fun _ _ _ => False) t tNil) := by
  refine ⟨fun pins s σ H Q I h => wpAny_Call_Name_kw (ld_glob I hg hm ?_ hdb)⟩
  refine
          PySem.W.callWith_K (h₀ := X.base) I.ok.mod.kin M.kp (thn (ha.run pos pins s σ H _ I h) fun us s1 ⟨vs, H1, I1, r, q⟩ => ⟨I1.kIn, ?_⟩) he hpl
  exact make_at (ws := []) (zs := []) M F hr hgd hb I1 r .nil q.1 rfl q.2.2
/-- C(k = e, ..) -/
theorem pe_mkK (M : Mk X.K C f) (F : FnG X.prog X.w X.K X.mg X.base k f fd ps sp) (hr : Room (k + 1) X.A) (hgd : X.A.guards = some []) (hg : Gl X x) (hm : X.mg x = some (.ref C)) (hb : KBn X.K fd ps 1 ks g gV) (hkw : PK X kws tk) (hdb : (x == ("__debug__" : Str)) = false)
    (hall : (backToKw pos (keywordEach kws X.env)).all (·.1.isSome) = true) (hks : (backToKw pos (keywordEach kws X.env)).filterMap (·.1) = ks)
    (hpl : ((backTo pos (starEach [] X.env)).any (·.1) || (backToKw pos (keywordEach kws X.env)).any (·.1.isNone)) = false) : PE X (.Call (.Name x p) [] kws pos) (tMakeN C 0 ks.length sp gV (fun _ _ _ => False) tNil tk) := by
  refine ⟨fun pins s σ H Q I h => wpAny_Call_Name_kw (ld_glob I hg hm ?_ hdb)⟩
  refine
          PySem.W.callWith_KW0 (h₀ := X.base) I.ok.mod.kin M.kp hall ?_ hpl
  refine thn (hkw.run pos pins s σ H _ I h) fun ws s1 ⟨zs, H1, I1, rz, q⟩ => ⟨I1.kIn, ?_⟩
  rw [hks]
  exact make_at (us := []) (vs := []) M F hr hgd hb I1 .nil rz rfl q.2.1 q.2.2
end
/-- the def __init__ of the class c denotes g -/
structure ID (P : Program) (w : World) (K : PySem.W.Frag) (mg : Str → Option Value) (base : Heap) (c : Str) (k : Nat) (params : Arguments) (ps : List Str) (g : FnM) : Prop where
  at_ : mg c = some (.ref (He.ga K c))
  ok : ∃ (f : Addr) (fd : FuncData) (qual : Str) (body : List Stmt) (scope : Scope), Mk K (He.ga K c) f ∧ FunD K "__init__" qual params body scope [] [] f fd ∧ Binds K fd ps [] ∧ FnG P w K mg base k f fd ps (spOf K ps.length g)
theorem fnG_init {P : Program} {w : World} {K : PySem.W.Frag} {mg : Str → Option Value} {base : Heap} {nm qual : Str} {params : Arguments} {body : List Stmt} {scope : Scope} {f : Addr} {fd : FuncData} {N ps : List Str} {k : Nat} {io : List Nat} {g : MT}
    (F : FunD K nm qual params body scope [] [] f fd) (S : FnScope N ps scope) (h : DSs ⟨P, w, K, mg, base, N, scope, k, io, cellsOf scope⟩ body g) :
    FnG P w K mg base (k + 1) f fd ps (spOf K ps.length fun os n => (g (VL.entry N.length os n)).toFR io ps.length) := by
  have hpl : ps.length ≤ N.length :=
          by have := congrArg List.length S.pre; rw [List.length_take] at this; omega
  obtain ⟨oc, od, dV, kV, doc, pm, an, cdv, ct, osl, e0, lk, hcd, _, _⟩ := F.ex
  subst e0
  refine fnG_of lk hcd S (fun vs H Q E ⟨_, _, _, _, hl, _⟩ => hl) fun A outer s H vs Q E hr hgd ⟨ι, As, F0, os, hl, hl2, m, p⟩ => ?_
  have hat : At ⟨P, w, K, mg, base, N, scope, k, io, cellsOf scope⟩ (cxOf (L2.CX P w) P w K mg base N qual scope f cdv A outer s H E) := ⟨rfl, rfl, rfl, rfl, rfl, rfl, rfl, rfl, S.nd, hr, hgd, fun _ _ => rfl, passes_of rfl⟩
  have m1 : Mem K ι (fun i => if i < os.length then As i else []) F0 H (L2.start N vs) (VL.entry N.length os ι.length) := m.entry (by omega) (by omega)
  have tk : Takes (cxOf (L2.CX P w) P w K mg base N qual scope f cdv A outer s H E) (fun cls d _ H => E cls d H) := L2.takes_of rfl rfl rfl rfl
  have ev0 : Evo (own As) (own fun i => if i < os.length then As i else []) F0 H F0 H := Evo.refl fun a z => own_entry z
  have hs : ∀ {σ' : L2.St}, Prot io (L2.start N vs) σ' → ∀ i ∈ io, i < ps.length → σ'[i]? = (vs.map some)[i]? := fun {σ'} hp i hi hlt => by
    rw [hp i hi]; exact start_at (by omega)
  refine h _ hat ι _ F0 H (L2.start N vs) (VL.entry N.length os ι.length) m1 _ _ (fun _ => tk) ?_
  cases q : g (VL.entry N.length os ι.length) with
  | nx s1 =>
    simp only [q, T.toFR] at p
    intro σ' ι' As' F' H' ev pr m' hp
    exact p .non [] ι' _ F' H' ((ev0.trans ev).post' (R := fun _ => False) (fun a z => by
      rcases z with z | z
      · exact .inl (own_handed z)
      · cases z) fun a z => z.elim) pr (m'.handed hl (hs hp)) (.fz .non) List.nodup_nil fun _ z => nomatch z
  | rt o s1 =>
    simp only [q, T.toFR] at p
    intro σ' hp v B ι' As' F' H' ev pr m' w' nd fr
    exact p v B ι' _ F' H' ((ev0.trans ev).post' (R := fun _ => False) (fun a z => by
      rcases z with z | z
      · exact .inl (.inl (own_handed z))
      · exact .inl (.inr z)) fun a z => z.elim) pr (m'.handed hl (hs hp)) w' nd fun a ha => ⟨(fr a ha).1, fun z => (fr a ha).2 (own_handed z)⟩
  | ex c fs s1 =>
    simp only [q, T.toFR] at p
    intro σ' hp d ι' As' F' H' ev pr m' x
    exact p d ι' _ F' H' ((ev0.trans ev).post fun a z => own_handed z) pr (m'.handed hl (hs hp)) x
  | bk s1 => simp only [q, T.toFR] at p; exact p.elim
  | ct s1 => simp only [q, T.toFR] at p; exact p.elim
  | st => simp only [q, T.toFR] at p; exact p.elim
/-- what is handed in: frozen things -/
def frzs : List Opnd → S → Option (List D)
  | [], _ => some []
  | o :: os, s => match opv o s with
    | some (.fz d) => match frzs os s with
      | some ds => some (d :: ds)
      | none => none
    | _ => none
theorem frzs_rd {K : PySem.W.Frag} {ι : List Addr} {As : Foot} {F H : Hp} {σ : L2.St} {s : S} (m : Mem K ι As F H σ s) : ∀ {os : List Opnd} {vs : List V} {ds : List D}, OpAll K ι F σ vs os → frzs os s = some ds → RdAll K ι F vs ds
  | [], _, _, .nil, h => by
    cases h
    exact .nil
  | o :: os, _, _, .cons r rr, h => by
    unfold frzs at h
    split at h
    · rename_i d h1
      split at h
      · rename_i ds h2
        cases h
        obtain ⟨A, w⟩ := opv_ow m r h1
        exact .cons w.fz_inv.1 (frzs_rd m rr h2)
      · cases h
    · cases h
theorem frzs_len {s : S} : ∀ {os : List Opnd} {ds : List D}, frzs os s = some ds → ds.length = os.length
  | [], _, h => by cases h; rfl
  | o :: os, _, h => by
    unfold frzs at h
    split at h
    · split at h
      · rename_i h2
        cases h
        simp [frzs_len h2]
      · cases h
    · cases h
/-- in another order -/
def perm {α : Type} (js : List Nat) (l : List α) : List α := js.filterMap fun j => l[j]?
theorem perm_id {α : Type} (l : List α) : perm (List.range l.length) l = l := by
  have key : ∀ (n : Nat) (k : List α), n ≤ k.length → (List.range n).filterMap (fun j => k[j]?) = k.take n := by
    intro n
    induction n with
    | zero => intro k _; rfl
    | succ n ih =>
      intro k hk
      rw [List.range_succ, List.filterMap_append, ih k (by omega), List.take_succ]
      have hlt : n < k.length := hk
      simp [hlt]
  unfold perm
  rw [key _ l (Nat.le_refl _), List.take_length]
theorem perm_rd {K : PySem.W.Frag} {ι : List Addr} {F : Hp} {vs : List V} {ds : List D} (r : RdAll K ι F vs ds) : ∀ js : List Nat, RdAll K ι F (perm js vs) (perm js ds)
  | [] => .nil
  | j :: js => by
    have ih := perm_rd r js
    unfold perm at ih ⊢
    cases h : ds[j]? with
    | none =>
      have h2 : vs[j]? = none := by rw [List.getElem?_eq_none_iff, r.length]; exact List.getElem?_eq_none_iff.mp h
      rw [List.filterMap_cons, List.filterMap_cons, h, h2]
      exact ih
    | some d =>
      obtain ⟨v, h1, h2⟩ := r.get h
      rw [List.filterMap_cons, List.filterMap_cons, h, h1]
      exact .cons h2 ih
theorem perm_vals {xs : List V} {us : List Value} (r : Vals xs us) : ∀ js : List Nat, Vals (perm js xs) (perm js us)
  | [] => .nil
  | j :: js => by
    have ih := perm_vals r js
    unfold perm at ih ⊢
    cases h : xs[j]? with
    | none =>
      have h2 : us[j]? = none := by rw [List.getElem?_eq_none_iff, ← r.length]; exact List.getElem?_eq_none_iff.mp h
      rw [List.filterMap_cons, List.filterMap_cons, h, h2]
      exact ih
    | some d =>
      obtain ⟨v, h1, h2⟩ := r.get h
      rw [List.filterMap_cons, List.filterMap_cons, h, h1]
      exact .cons h2 ih
/-- a new object -/
def mMake (c : Str) (g : FnM) (js : List Nat) (os : List Opnd) : M O := fun s => match frzs os s with
  | some ds => match g (.obj c [] :: (perm js ds).map O.fz) s.n with
    | .ok (.fz .non) (some (.obj c' fs) :: _) n => if c' = c then .ok (.fz (.obj n c fs)) { s with n := n + 1 } else .st
    | _ => .st
  | none => .st
theorem ow_obj_inv {K : PySem.W.Frag} {ι : List Addr} {F H : Hp} {v : V} {c : Str} {fs : List (Str × D)} {A : List Addr} (w : Ow K ι F H v (.obj c fs) A) : ∃ (p dx : Addr) (ns : List Str) (vs : List V) (ds : List D), v = .ref p ∧ A = [p, dx] ∧ fs = ns.zip ds ∧ H p = some (.ins (He.ga K c) dx (ns.zip vs)) ∧ H dx = some (.own p) ∧ ns.length = vs.length ∧ RdAll K ι F vs ds := by
  cases w with
  | obj h g l r => exact ⟨_, _, _, _, _, rfl, rfl, rfl, h, g, l, r⟩
theorem ow_fzs {K : PySem.W.Frag} {ι : List Addr} {F H : Hp} {vs : List V} {ds : List D} (r : RdAll K ι F vs ds) {i : Nat} {o : O} (h : (ds.map O.fz)[i]? = some o) : ∃ v, vs[i]? = some v ∧ Ow K ι F H v o [] := by
  rw [List.getElem?_map] at h
  obtain ⟨d, h1, rfl⟩ := Option.map_eq_some_iff.mp h
  obtain ⟨v, h2, h3⟩ := r.get h1
  exact ⟨v, h2, .fz h3⟩
/-- the new object, as its __init__ leaves it, is frozen -/
theorem make_sp {X : Cx} {ι : List Addr} {As : Foot} {F H : Hp} {σ : L2.St} {s : S} {Q : VK} {c : Str} {g : FnM} {np : Nat} {vs : List V} {ds : List D} {fs : List (Str × D)} {rest : List (Option O)} {n : Nat} (m : Mem X.K ι As F H σ s) (r : RdAll X.K ι F vs ds) (hl : np = ds.length + 1)
    (hg : g (.obj c [] :: ds.map O.fz) s.n = .ok (.fz .non) (some (.obj c fs) :: rest) n) (p : PostE X ι As F H σ (.fz (.obj n c fs)) { s with n := n + 1 } Q) {x dx : Addr} (hx : H x = none) (hdx : H dx = none) (hne : dx ≠ x) :
    spOf X.K np g (.ref x :: vs) (upd (upd H dx (.own x)) x (.ins (He.ga X.K c) dx [])) (fun v H2 => v = .non ∧ Q (.ref x) H2) (fun _ _ _ => False) := by
  have al : Evo (fun _ => False) (fun a => a = x ∨ a = dx) F H F (upd (upd H dx (.own x)) x (.ins (He.ga X.K c) dx [])) := by
    refine ⟨Same.refl _, fun a u h _ => ?_, fun a u h => .inl ⟨u, h⟩, fun a h => .inr ?_, fun a h => ?_⟩
    · rw [upd_ne (ne_of_none h hx), upd_ne (ne_of_none h hdx)]
      exact h
    · rcases h with h | h
      · rw [h]; exact hx
      · rw [h]; exact hdx
    · by_cases e : a = x
      · rw [e]; exact hx
      · rw [upd_ne e] at h
        by_cases e2 : a = dx
        · rw [e2]; exact hdx
        · rw [upd_ne e2] at h; exact h
  have oc : ∀ a, own (fun i => if i = 0 then [x, dx] else []) a → a = x ∨ a = dx := fun a h => by
    obtain ⟨i, h⟩ := h
    by_cases e : i = 0
    · simp only [e, if_true] at h
      simpa using h
    · simp only [e, if_false] at h
      cases h
  refine ⟨ι, fun i => if i = 0 then [x, dx] else [], F, .obj c [] :: ds.map O.fz, by rw [hl, List.length_cons, r.length], by rw [hl]; simp, ?_, ?_⟩
  · refine ⟨fun a u h => al.keep a u (m.ext a u h) fun z => z, rfl, m.ij, by simp [r.length], fun i o h => ?_, fun i => ?_, fun i j a ne hi hj => ?_, fun i a h => ?_, fun i a h => ?_⟩
    · cases i with
      | zero =>
        have e : o = .obj c [] := by simpa using h.symm
        subst e
        refine ⟨.ref x, rfl, ?_⟩
        exact Ow.obj (ns := []) (vs := []) (ds := []) upd_same (by rw [upd_ne hne]; exact upd_same) rfl .nil
      | succ i =>
        have h : ((ds.map O.fz).map some)[i]? = some (some o) := h
        rw [List.getElem?_map] at h
        obtain ⟨o', h1, h2⟩ := Option.map_eq_some_iff.mp h
        cases h2
        obtain ⟨v, h3, h4⟩ := ow_fzs (H := upd (upd H dx (.own x)) x (.ins (He.ga X.K c) dx [])) r h1
        exact ⟨v, by show (vs.map some)[i]? = _; rw [List.getElem?_map, h3]; rfl, by rw [if_neg (Nat.succ_ne_zero i)]; exact h4⟩
    · by_cases e : i = 0
      · simp only [e, if_true]
        simpa using Ne.symm hne
      · simp only [e, if_false]
        exact List.nodup_nil
    · by_cases e : i = 0
      · by_cases e2 : j = 0
        · exact ne (e.trans e2.symm)
        · simp only [e2, if_false] at hj; cases hj
      · simp only [e, if_false] at hi; cases hi
    · rcases oc a ⟨i, h⟩ with z | z
      · rw [z]; exact ex_none m.ext hx
      · rw [z]; exact ex_none m.ext hdx
    · rcases oc a ⟨i, h⟩ with z | z
      · rw [z, upd_same]; exact fun z => nomatch z
      · rw [z, upd_ne hne, upd_same]; exact fun z => nomatch z
  · rw [m.num, hg]
    intro v B ι1 As1 F1 H1 ev pr m1 w nd fr
    have ev1 := al.trans (ev.pre oc)
    obtain ⟨v', hv', w1⟩ := m1.at_ 0 (.obj c fs) rfl
    have e : v' = .ref x := by simpa using hv'.symm
    subst e
    obtain ⟨q, d1, ns, us, es, e1, e2, rfl, h1, h2, h3, h4⟩ := ow_obj_inv w1
    cases e1
    have frA : ∀ a ∈ As1 0, F1 a = none := fun a ha => m1.fr 0 a ha
    have je : Ex F1 (join F1 H1 (As1 0)) := join_ext frA
    have xA : x ∈ As1 0 := by rw [e2]; exact List.mem_cons_self
    have hx1 : join F1 H1 (As1 0) x = some (.ins (He.ga X.K c) d1 (ns.zip us)) := join_at x xA _ h1
    have xi : x ∉ ι1 := fun z => m1.ij.2 x z (frA x xA)
    have n1 : New F H (join F1 H1 (As1 0)) H1 [] := by
      refine ⟨Same.trans ev1.ext je, ev1.keep, fun a u h => ?_, (fun a h => nomatch h), ev1.there⟩
      rcases join_of h with h | h
      · exact ev1.grow a u h
      · rcases ev1.foot a (.inl ⟨0, h⟩) with z | z
        · exact z.elim
        · exact .inr (.inr z)
    have pr1 : Pre ι (ι1 ++ [x]) := fun i a h => by
      have h5 := pr i a h
      rw [List.getElem?_append_left (List.getElem?_eq_some_iff.mp h5).1]
      exact h5
    have pr2 : Pre ι1 (ι1 ++ [x]) := fun i a h => by
      rw [List.getElem?_append_left (List.getElem?_eq_some_iff.mp h).1]
      exact h
    have ij : IJ (ι1 ++ [x]) (join F1 H1 (As1 0)) := by
      refine ⟨List.nodup_append.mpr ⟨m1.ij.1, by simp, fun a ha b hb e => xi ?_⟩, fun a ha => ?_⟩
      · have e3 : b = x := by simpa using hb
        rw [← e3, ← e]; exact ha
      · rcases List.mem_append.mp ha with z | z
        · exact (m1.ij.mono je).2 a z
        · have e3 : a = x := by simpa using z
          rw [e3, hx1]; exact fun z => nomatch z
    have m2 := m.evo n1 (join_in m1.ext) pr1 ij fun _ _ z => z
    have hn : (ι1 ++ [x]).length = n + 1 := by rw [List.length_append, m1.num]; rfl
    rw [hn] at m2
    have ew : v = .non ∧ B = [] := by
      obtain ⟨z1, z2⟩ := w.fz_inv
      cases z1
      exact ⟨rfl, z2⟩
    refine ⟨ew.1, p (.ref x) [] (ι1 ++ [x]) As _ H1 ⟨n1.ext, fun a u h _ => n1.keep a u h fun z => z, fun a u h => ?_, fun a h => ?_, n1.there⟩ pr1 m2 (.fz ?_) List.nodup_nil fun _ z => nomatch z⟩
    · rcases n1.grow a u h with z | z | z
      · exact .inl z
      · exact z.elim
      · exact .inr (.inr z)
    · rcases h with h | h
      · exact .inl h
      · cases h
    · refine .obj ?_ hx1 h3 (h4.mono je pr2)
      have hn1 : ι1.length = n := m1.num
      rw [← hn1, List.getElem?_append_right (Nat.le_refl _)]
      simp
section
variable {C : Ctx}
/-- rows of keywords -/
def kW (X : Cx) (kws : List Keyword) : TA := fun σ H Q => ∃ t, PK X kws t ∧ t σ H Q
theorem pk_W {X : Cx} {kws : List Keyword} : PK X kws (kW X kws) := ⟨fun pos pins s σ H Q I ⟨t, h, q⟩ => h.run pos pins s σ H Q I q⟩
def DKs (C : Ctx) (kws : List Keyword) (f : M (List Opnd)) : Prop := ∀ (X : Cx), At C X → ∀ (ι : List Addr) (As : Foot) (F H : Hp) (σ : L2.St) (s : S), Mem X.K ι As F H σ s → ∀ (Q : List V → Hp → Prop) (W : WX),
  (IsX (f s) → Takes X W) → PostOs X ι As F H σ (f s) Q W → kW X kws σ H Q
theorem dks_nil : DKs C [] (M.pure []) := fun X hX ι As F H σ s m Q W tk p => ⟨_, pk_nil, p [] ι As F H (Evo.refl fun _ z => z) (Pre.refl _) m .nil⟩
theorem dks_cons {nm : Option Str} {e : Expr} {kpos : Pos} {kws : List Keyword} {f : M Opnd} {g : M (List Opnd)} (h : DO C e f) (hr : DKs C kws g) : DKs C (⟨nm, e, kpos⟩ :: kws) (f.bind fun o => g.bind fun os => M.pure (o :: os)) := by
  intro X hX ι As F H σ s m Q W tk p
  refine ⟨_, pk_cons pe_W pk_W, h X hX ι As F H σ s m _ W (isX_of tk) ?_⟩
  simp only [M.bind_def] at p tk
  cases q : f s with
  | st => rw [q] at p; exact p.elim
  | ex c fs s1 => rw [q] at p; exact p
  | ok o s1 =>
    rw [q] at p tk
    simp only [R.bind_ok] at p tk
    intro v ι1 As1 F1 H1 ev pr m1 ro
    refine hr X hX ι1 As1 F1 H1 σ s1 m1 _ W (isX_of tk) ?_
    cases q2 : g s1 with
    | st => rw [q2] at p; exact p.elim
    | ex c fs s2 =>
      rw [q2] at p
      exact PostX.step p ev pr fun _ z => z
    | ok os s2 =>
      rw [q2] at p
      simp only [R.bind_ok] at p
      intro vs ι2 As2 F2 H2 ev2 pr2 m2 ros
      exact p (v :: vs) ι2 As2 F2 H2 (ev.trans ev2) (pr.trans pr2) m2 (.cons (ro.mono ev2.ext pr2) ros)
/-- the end of C(..) -/
theorem make_end {X : Cx} {ι : List Addr} {As : Foot} {F H : Hp} {σ : L2.St} {s : S} {Q : VK} {W : WX} {c : Str} {g : FnM} {np : Nat} {js : List Nat} {os : List Opnd} {vs : List V} (m : Mem X.K ι As F H σ s) (r : OpAll X.K ι F σ vs os) (hl : ∀ ds : List D, ds.length = os.length → np = (perm js ds).length + 1)
    (p : PostV X ι As F H σ (mMake c g js os s) Q W) {x dx : Addr} (hx : H x = none) (hdx : H dx = none) (hne : dx ≠ x) :
    spOf X.K np g (.ref x :: perm js vs) (upd (upd H dx (.own x)) x (.ins (He.ga X.K c) dx [])) (fun v H2 => v = .non ∧ Q (.ref x) H2) (fun _ _ _ => False) := by
  unfold mMake at p
  cases h1 : frzs os s with
  | none => simp only [h1] at p; exact p.elim
  | some ds =>
    simp only [h1] at p
    split at p
    · rename_i c' fs rest n hg
      split at p
      · rename_i e
        subst e
        exact make_sp m (perm_rd (frzs_rd m r h1) js) (hl ds (frzs_len h1)) hg p hx hdx hne
      · exact p.elim
    · exact p.elim
theorem de_make {c : Str} {params : Arguments} {ps : List Str} {k : Nat} {g : FnM} {e : Expr} {es : List Expr} {f : M (List Opnd)} {p pos : Pos} (D : ID C.P C.w C.K C.mg C.base c k params ps g) (ha : DOs C (e :: es) f) (hkB : Nat.ble (k + 1) C.lv = true := by rfl) (hl : ps.length = (e :: es).length + 1 := by rfl) (hg : glB C.sc c = true := by rfl)
    (hdb : (c == ("__debug__" : Str)) = false := by decide) (he : ∀ env : Env, starEach (e :: es) env = (false, eval e env) :: starEach es env := by intro _; rfl) (hpl : ∀ env : Env, (backTo pos (starEach es env)).any (·.1) = false := by intro _; rfl) :
    DE C (.Call (.Name c p) (e :: es) [] pos) (f.bind fun os => if os.length + 1 = ps.length then mMake c g (List.range os.length) os else M.st) := by
  intro X hX ι As F H σ s m Q W tk p
  have hk : k + 1 ≤ C.lv := Nat.le_of_ble_eq_true hkB
  obtain ⟨fa, fd, qual, body, scope, hM, hF, hB, hG⟩ := D.ok
  have hM' : Mk X.K (He.ga C.K c) fa := by rw [hX.K]; exact hM
  have hG' : FnG X.prog X.w X.K X.mg X.base k fa fd ps (spOf X.K ps.length g) := by
    rw [hX.prog, hX.w, hX.K, hX.mg, hX.base]
    exact hG
  have hB' : KBn X.K fd ps (es.length + 1 + 1) [] (fun us _ => us) (fun vs _ => vs) := by
    refine ⟨fun s us ws kin l1 l2 => ?_, fun r _ => r⟩
    have b := hB s us (by rw [← hX.K]; exact kin) (by rw [List.append_nil, l1, hl]; rfl)
    rw [List.append_nil] at b
    exact b
  refine tW_of (pe_mk0 hM' hG' (hX.room.mono hk) hX.gd (gl_of hX.sc hg) (by rw [hX.mg]; exact D.at_) hB' pa_W hdb (he _) (hpl _)) ?_
  refine ha X hX ι As F H σ s m _ W (isX_of tk) ?_
  simp only [M.bind_def] at p
  cases q : f s with
  | st => rw [q] at p; exact p.elim
  | ex cc fs s1 => rw [q] at p; exact p
  | ok os s1 =>
    rw [q] at p
    simp only [R.bind_ok] at p
    intro vs ι1 As1 F1 H1 ev pr m1 r
    by_cases hlen : os.length + 1 = ps.length
    · rw [if_pos hlen] at p
      have lo : os.length = es.length + 1 := by rw [hl] at hlen; simpa using hlen
      have p1 := PostV.step p ev pr fun _ z => z
      refine ⟨by rw [r.length, lo], rfl, fun x dx hx hdx hne => ?_⟩
      have pid : ∀ {α : Type} (l : List α), perm (List.range l.length) l = l := fun l => perm_id l
      have z := make_end (np := ps.length) (W := W) (js := List.range os.length) m1 r (fun ds hd => by rw [← hd, pid, ← hlen, hd]) p1 hx hdx hne
      rw [show List.range os.length = List.range vs.length by rw [r.length], pid] at z
      rw [hX.K] at z ⊢
      exact z
    · rw [if_neg hlen] at p; exact p.elim
/-- C(k = v, ..); js: where each parameter's value stands among the keywords -/
theorem de_makeK {c : Str} {params : Arguments} {ps ks : List Str} {k : Nat} {g : FnM} {kws : List Keyword} {f : M (List Opnd)} {p pos : Pos} (js : List Nat) (hD : ID C.P C.w C.K C.mg C.base c k params ps g) (ha : DKs C kws f) (hkB : Nat.ble (k + 1) C.lv = true := by rfl)
    (hbind : ∀ (qual : Str) (body : List Stmt) (scope : Scope) (kV doc pm : Value) (an : Option Addr) (cdv ct : Value) (u : Value) (ws : List Value), ws.length = ks.length → bindArgs (PySem.W.fnOf "__init__" qual params body scope .none kV doc pm an cdv ct) ⟨[u], ks.zip ws⟩ = pure (ps.zip (u :: perm js ws)))
    (hl : ∀ ds : List D, ds.length = ks.length → ps.length = (perm js ds).length + 1) (hg : glB C.sc c = true := by rfl)
    (hall : ∀ env : Env, (backToKw pos (keywordEach kws env)).all (·.1.isSome) = true := by intro _; rfl) (hks : ∀ env : Env, (backToKw pos (keywordEach kws env)).filterMap (·.1) = ks := by intro _; rfl)
    (hdb : (c == ("__debug__" : Str)) = false := by decide) (hpl : ∀ env : Env, ((backTo pos (starEach [] env)).any (·.1) || (backToKw pos (keywordEach kws env)).any (·.1.isNone)) = false := by intro _; rfl) :
    DE C (.Call (.Name c p) [] kws pos) (f.bind fun os => if os.length = ks.length then mMake c g js os else M.st) := by
  intro X hX ι As F H σ s m Q W tk p
  have hk : k + 1 ≤ C.lv := Nat.le_of_ble_eq_true hkB
  obtain ⟨fa, fd, qual, body, scope, hM, hF, hB, hG⟩ := hD.ok
  have hM' : Mk X.K (He.ga C.K c) fa := by rw [hX.K]; exact hM
  have hG' : FnG X.prog X.w X.K X.mg X.base k fa fd ps (spOf X.K ps.length g) := by
    rw [hX.prog, hX.w, hX.K, hX.mg, hX.base]
    exact hG
  have hB' : KBn X.K fd ps 1 ks (fun us ws => us ++ perm js ws) (fun vs zs => vs ++ perm js zs) := by
    refine ⟨fun s us ws kin l1 l2 => ?_, fun r rz => r.append (perm_vals rz js)⟩
    obtain ⟨oc, od, dV, kV, doc, pm, an, cdv, ct, osl, rfl, lk, hcd, hD, hK⟩ := hF.ex
    obtain ⟨u, rfl⟩ : ∃ u, us = [u] := by
      match us, l1 with
      | [u], _ => exact ⟨u, rfl⟩
    rcases
            hD with ⟨_, rfl⟩ | ⟨e, _⟩
    · exact BindsTo.of_eq (hbind qual body scope kV doc pm an cdv ct u ws l2)
    · exact absurd rfl e
  refine tW_of (pe_mkK hM' hG' (hX.room.mono hk) hX.gd (gl_of hX.sc hg) (by rw [hX.mg]; exact hD.at_) hB' pk_W hdb (hall _) (hks _) (hpl _)) ?_
  refine ha X hX ι As F H σ s m _ W (isX_of tk) ?_
  simp only [M.bind_def] at p
  cases q : f s with
  | st => rw [q] at p; exact p.elim
  | ex cc fs s1 => rw [q] at p; exact p
  | ok os s1 =>
    rw [q] at p
    simp only [R.bind_ok] at p
    intro vs ι1 As1 F1 H1 ev pr m1 r
    by_cases hlen : os.length = ks.length
    · rw [if_pos hlen] at p
      have p1 := PostV.step p ev pr fun _ z => z
      refine ⟨rfl, by rw [r.length, hlen], fun x dx hx hdx hne => ?_⟩
      have z := make_end (np := ps.length) (W := W) (js := js) m1 r (fun ds hd => hl ds (hd.trans hlen)) p1 hx hdx hne
      rw [hX.K] at z ⊢
      exact z
    · rw [if_neg hlen] at p; exact p.elim
end
end VL
namespace VL
open PySem PySem.Spec
open PyProof.Rows L2
/-! ### == of own objects -/
section
variable {prog : Program} {w : World} {A : Around} {E : Value → Shared → Prop} {s : Shared} {K : PySem.W.Frag} {x y C D : Addr} {ox oy : Obj} {od oe : Option Obj}
theorem ref_bne {x y : Addr} (h : x ≠ y) : (Value.ref x != Value.ref y) = true := by
  simpa using h
theorem ref_bne_self {x : Addr} : (Value.ref x != Value.ref x) = false := by
  simp
theorem inst_noTup (I : PySem.W.InstAt s.heap x ox C od) : ox.cls ≠ .type "tuple" := by
  rw [I.cls]
  exact fun z => nomatch z
theorem obj_eq_call {b : Bool} {Q : Value → Shared → Prop} (X : K.In s.heap) (I : PySem.W.InstAt s.heap x ox C od) (J : PySem.W.InstAt s.heap y oy D oe) (hm : PySem.W.mroIn K C (.type "object") = some true) (hb : b = decide (x = y)) (hq : Q (if b then .bool true else .notImplemented) s) :
    wpAny (model prog w) A (call (.builtin "object.__eq__") [.ref x, .ref y]) Q E s := by
  refine wpAny_call (codeAny_call_builtin F.cmp_object.eq.plain F.cmpEntry_eq (PySem.W.check_slot F.cmpKind_eq F.cmpSplit_eq (I.type.andThen (PySem.W.looks_mroIn X hm)) (F.cmpArgs_eq _ _) ?_))
  by_cases e : x = y
  · subst e
    rw [hb, decide_eq_true rfl, if_pos rfl] at hq
    exact objEq_entry_same hq
  · rw [hb, decide_eq_false e, if_neg Bool.false_ne_true] at hq
    exact objEq_entry_other e I.at_ J.at_ (inst_noTup I) hq
theorem obj_try {b : Bool} {Q : Option Value → Shared → Prop} (X : K.In s.heap) (I : PySem.W.InstAt s.heap x ox C od) (J : PySem.W.InstAt s.heap y oy D oe) (hm : PySem.W.mroIn K C (.type "object") = some true) (hs : PySem.W.findIn K (.ref C) "__eq__" = some (some (.builtin "object.__eq__")))
    (hb : b = decide (x = y)) (hq : Q (if b then some (.bool true) else none) s) : wpAny (model prog w) A (tryCompare (.ref x) "__eq__" (.ref y)) Q E s := by
  unfold tryCompare
  refine wpAny_bind (HN.ifBound_objEq X I hs (obj_eq_call X I J hm hb ?_))
  cases b with
  | true => exact wpAny_pure hq
  | false => exact wpAny_pure hq
/-- what is known of a class whose == is object's -/
structure EqC (K : PySem.W.Frag) (C : Addr) : Prop where
  mro : PySem.W.mroIn K C (.type "object") = some true
  eq : PySem.W.findIn K (.ref C) "__eq__" = some (some (.builtin "object.__eq__"))
  ne : PySem.W.findIn K (.ref C) "__ne__" = some (some (.builtin "object.__ne__"))
theorem obj_rc {Q : Value → Shared → Prop} (hu : A.units < cLine) (X : K.In s.heap) (I : PySem.W.InstAt s.heap x ox C od) (J : PySem.W.InstAt s.heap y oy D oe) (e1 : EqC K C) (e2 : EqC K D) (hs : C ≠ D → PySem.W.subIn K (.ref D) (.ref C) = some false) (hq : Q (.bool (decide (x = y))) s) :
    wpAny (model prog w) A (richCompare .Eq (.ref x) (.ref y)) Q E s := by
  simp
          only [richCompare, cmpInfo_Eq, oneThing_ref]
  refine
          wpAny_holding (wpAny_bind (wpAny_cRoomFor hu ?_))
  refine
          wpAny_bind (I.type.here ?_)
  refine
          wpAny_bind (J.type.here ?_)
  have fin : wpAny (model prog w) A (do
      if let some v ← tryCompare (.ref x) "__eq__" (.ref y) then return v
      if !false then
        if let some v ← tryCompare (.ref y) "__eq__" (.ref x) then return v
      rule "compare.eq-identity"; return .bool (← isSame (.ref x) (.ref y))) Q E s := by
    refine wpAny_bind (obj_try X I J e1.mro e1.eq rfl ?_)
    by_cases e : x = y
    · subst e
      rw [decide_eq_true rfl] at hq ⊢
      exact wpAny_pure hq
    · rw [decide_eq_false e] at hq ⊢
      simp
              only [Bool.false_eq_true, if_false, Bool.not_false, if_true]
      refine wpAny_bind (obj_try X J I e2.mro e2.eq rfl ?_)
      rw [decide_eq_false (Ne.symm e)]
      simp
              only [Bool.false_eq_true, if_false]
      exact wpAny_bind (wpAny_rule (wpAny_bind (wpAny_isSame_ref_other e I.at_ J.at_ (inst_noTup I) (wpAny_pure hq))))
  by_cases e : C = D
  · subst e
    rw [ref_bne_self]
    simp
            only [Bool.false_eq_true, if_false]
    exact wpAny_bind (wpAny_pure fin)
  · rw [ref_bne e]
    simp only [if_true]
    refine wpAny_bind ((PySem.W.looks_subIn X (hs e)).here ?_)
    exact fin
theorem bound_ne {args : List Value} {Q : Option Value → Shared → Prop} {M : Model} (X : K.In s.heap) (I : PySem.W.InstAt s.heap x ox C od) (hn : PySem.W.findIn K (.ref C) "__ne__" = some (some (.builtin "object.__ne__")))
    (h : wpAny M A (call (.builtin "object.__ne__") (.ref x :: args)) (fun v => Q (some v)) E s) : wpAny M A (callSpecialIfBound? (.ref x) "__ne__" args) Q E s := by
  simp only [bindSpecialIfBound?, callSpecialIfBound?]
  refine wpAny_holding (wpAny_bind (wpAny_bind (wpAny_bind (I.type.here ((PySem.W.looks_findIn X hn).here ?_)))))
  refine
          wpAny_bind (wpAny_askSetting (wpAny_ite ?_))
  have last : wpAny M A (call (.builtin "object.__ne__") ([.ref x] ++ args) >>= fun v => pure (some v)) Q E s := wpAny_bind (wpAny_mono h (fun v t z => wpAny_pure z) fun _ _ z => z)
  split
  · exact wpAny_bind (wpAny_of_eq (F.cmp_object.ne.bind _) (wpAny_pure (by exact last)))
  · exact wpAny_tryCatch (wpAny_bind (wpAny_of_eq (F.cmp_object.ne.bind _) (wpAny_pure (by exact last))))
theorem obj_ne_call {b : Bool} {Q : Value → Shared → Prop} (hu : A.units + 1 < cLine) (X : K.In s.heap) (I : PySem.W.InstAt s.heap x ox C od) (J : PySem.W.InstAt s.heap y oy D oe) (e1 : EqC K C) (hb : b = decide (x = y)) (hq : Q (if b then .bool false else .notImplemented) s) :
    wpAny (model prog w) A (call (.builtin "object.__ne__") [.ref x, .ref y]) Q E s := by
  refine wpAny_call (codeAny_call_builtin F.cmp_object.ne.plain F.cmpEntry_ne (PySem.W.check_slot F.cmpKind_ne F.cmpSplit_ne (I.type.andThen (PySem.W.looks_mroIn X e1.mro)) (F.cmpArgs_ne _ _) ?_))
  have hu1 : A.in1.units < cLine := hu
  unfold
          Builtin.«object.__ne__»
  cases b with
  | true =>
    have sp : ∀ {Q' : Option Value → Shared → Prop} {E' : Value → Shared → Prop} {A' : Around}, Q' (some (.bool true)) s → wpAny (model prog w) A' (callSpecialIfBound? (.ref x) "__eq__" [.ref y]) Q' E' s := fun z => HN.ifBound_objEq X I e1.eq (obj_eq_call X I J e1.mro hb z)
    repeat (first | with_reducible refine wpAny_cRoomFor hu1 ?_ | with_reducible refine sp ?_ | wp_step)
    exact hq
  | false =>
    have sp : ∀ {Q' : Option Value → Shared → Prop} {E' : Value → Shared → Prop} {A' : Around}, Q' (some .notImplemented) s → wpAny (model prog w) A' (callSpecialIfBound? (.ref x) "__eq__" [.ref y]) Q' E' s := fun z => HN.ifBound_objEq X I e1.eq (obj_eq_call X I J e1.mro hb z)
    repeat (first | with_reducible refine wpAny_cRoomFor hu1 ?_ | with_reducible refine sp ?_ | wp_step)
    exact hq
theorem obj_try_ne {b : Bool} {Q : Option Value → Shared → Prop} (hu : A.units + 1 < cLine) (X : K.In s.heap) (I : PySem.W.InstAt s.heap x ox C od) (J : PySem.W.InstAt s.heap y oy D oe) (e1 : EqC K C) (hb : b = decide (x = y)) (hq : Q (if b then some (.bool false) else none) s) :
    wpAny (model prog w) A (tryCompare (.ref x) "__ne__" (.ref y)) Q E s := by
  unfold tryCompare
  refine wpAny_bind (bound_ne X I e1.ne (obj_ne_call hu X I J e1 hb ?_))
  cases b with
  | true => exact wpAny_pure hq
  | false => exact wpAny_pure hq
theorem obj_rc_ne {Q : Value → Shared → Prop} (hu : A.units + 1 < cLine) (X : K.In s.heap) (I : PySem.W.InstAt s.heap x ox C od) (J : PySem.W.InstAt s.heap y oy D oe) (e1 : EqC K C) (e2 : EqC K D) (hs : C ≠ D → PySem.W.subIn K (.ref D) (.ref C) = some false) (hq : Q (.bool (!decide (x = y))) s) :
    wpAny (model prog w) A (richCompare .NotEq (.ref x) (.ref y)) Q E s := by
  have hu0 : A.units < cLine := by omega
  simp
          only [richCompare, cmpInfo_NotEq, oneThing_ref]
  refine wpAny_holding (wpAny_bind (wpAny_cRoomFor hu0 ?_))
  refine
          wpAny_bind (I.type.here ?_)
  refine
          wpAny_bind (J.type.here ?_)
  have fin : wpAny (model prog w) A (do
      if let some v ← tryCompare (.ref x) "__ne__" (.ref y) then return v
      if !false then
        if let some v ← tryCompare (.ref y) "__ne__" (.ref x) then return v
      rule "compare.ne-identity"; return .bool (!(← isSame (.ref x) (.ref y)))) Q E s := by
    refine wpAny_bind (obj_try_ne hu X I J e1 rfl ?_)
    by_cases e : x = y
    · subst e
      rw [decide_eq_true rfl] at hq ⊢
      exact wpAny_pure hq
    · rw [decide_eq_false e] at hq ⊢
      simp
              only [Bool.false_eq_true, if_false, Bool.not_false, if_true]
      refine wpAny_bind (obj_try_ne hu X J I e2 rfl ?_)
      rw [decide_eq_false (Ne.symm e)]
      simp
              only [Bool.false_eq_true, if_false]
      exact wpAny_bind (wpAny_rule (wpAny_bind (wpAny_isSame_ref_other e I.at_ J.at_ (inst_noTup I) (wpAny_pure hq))))
  by_cases e : C = D
  · subst e
    rw [ref_bne_self]
    simp
            only [Bool.false_eq_true, if_false]
    exact wpAny_bind (wpAny_pure fin)
  · rw [ref_bne e]
    simp only [if_true]
    refine wpAny_bind ((PySem.W.looks_subIn X (hs e)).here ?_)
    exact fin
end
/-- two objects, their classes known -/
def rObj (K : PySem.W.Frag) (n : Bool) : R2 := fun x y H Q => ∃ (a b C D da db : Addr) (fa fb : List (Str × V)), x = .ref a ∧ y = .ref b ∧ H a = some (.ins C da fa) ∧ H b = some (.ins D db fb) ∧ EqC K C ∧ EqC K D ∧ (C ≠ D → PySem.W.subIn K (.ref D) (.ref C) = some false) ∧ Q (.bl (n != decide (a = b))) H
theorem op_objEq {X : Cx} {k : Nat} (hr : Room k X.A) : OpR X (compareOp .Eq) (rObj X.K false) := by
  intro pins s σ H x y v u Q I rx ry ⟨a, b, C, D, da, db, fa, fb, e1, e2, ha, hb, c1, c2, hs, q⟩
  subst e1
  subst e2
  cases rx
  cases ry
  obtain
          ⟨mA, O, _⟩ := ins_get I.hok ha
  obtain ⟨mB, O', _⟩ := ins_get I.hok hb
  obtain ⟨_, J, _⟩ := O.look
  obtain ⟨_, J', _⟩ := O'.look
  exact obj_rc (by have := hr.units; omega) I.kIn J J' c1 c2 hs ⟨.bl _, H, I, rfl, by simpa using q⟩
theorem op_objNe {X : Cx} {k : Nat} (hr : Room k X.A) : OpR X (compareOp .NotEq) (rObj X.K true) := by
  intro pins s σ H x y v u Q I rx ry ⟨a, b, C, D, da, db, fa, fb, e1, e2, ha, hb, c1, c2, hs, q⟩
  subst e1
  subst e2
  cases rx
  cases ry
  obtain
          ⟨mA, O, _⟩ := ins_get I.hok ha
  obtain ⟨mB, O', _⟩ := ins_get I.hok hb
  obtain ⟨_, J, _⟩ := O.look
  obtain ⟨_, J', _⟩ := O'.look
  exact obj_rc_ne (by have := hr.units; omega) I.kIn J J' c1 c2 hs ⟨.bl _, H, I, rfl, by simpa using q⟩
end VL
namespace VL
open PySem PySem.Spec
open PyProof.Rows L2
/-! ### operations where K is known -/
def OpK (K : PySem.W.Frag) (f : Value → Value → Sem Value) (h : O → O → Option O) : Prop := ∀ (X : Cx) (k : Nat), X.K = K → Room k X.A → ∀ (x y o : O), h x y = some o → ∀ (ι : List Addr) (F H : Hp) (A B : List Addr) (va vb : V) (Q : VK), Ex F H → IJ ι F → Ow X.K ι F H va x A → Ow X.K ι F H vb y B →
  (∀ v Bo F' H', New F H F' H' Bo → Ex F' H' → Ow X.K ι F' H' v o Bo → Bo.Nodup → (∀ a ∈ Bo, F' a = none) → Q v H') → rW X f va vb H Q
theorem OpOk.k {K : PySem.W.Frag} {f : Value → Value → Sem Value} {h : O → O → Option O} (ho : OpOk f h) : OpK K f h := fun X k _ hr x y o e ι F H A B va vb Q x1 _ wa wb q => ho X k hr x y o e ι F H A B va vb Q x1 wa wb q
section
variable {C : Ctx}
theorem op2K_post {X : Cx} {f : Value → Value → Sem Value} {h : O → O → Option O} (ho : OpK C.K f h) (hX : At C X) {ι : List Addr} {As : Foot} {F H : Hp} {σ : L2.St} {s : S} {Q : VK} {W : WX} {a b : Opnd} {va vb : V}
    (m : Mem X.K ι As F H σ s) (ra : OpRd X.K ι F σ va a) (rb : OpRd X.K ι F σ vb b) (p : PostV X ι As F H σ (op2 h a b s) Q W) : rW X f va vb H Q := by
  unfold op2 at p
  cases e1 : opv a s with
  | none => rw [e1] at p; exact p.elim
  | some x =>
    rw [e1] at p
    cases e2 : opv b s with
    | none => simp only [e2] at p; exact p.elim
    | some y =>
      simp only [e2] at p
      cases e3 : h x y with
      | none => simp only [e3] at p; exact p.elim
      | some o =>
        simp only [e3] at p
        obtain ⟨A, wa⟩ := opv_ow m ra e1
        obtain ⟨B, wb⟩ := opv_ow m rb e2
        exact ho X _ hX.K hX.room x y o e3 ι F H A B va vb Q m.ext m.ij wa wb fun v Bo F' H' n x' w nd fr => post_new m p n x' w nd fr
theorem de_cmpK {op : CmpOp} {h : O → O → Option O} {a b : Expr} {fa fb : M Opnd} {pos : Pos} (ho : OpK C.K (compareOp op) h) (ha : DO C a fa) (hb : DO C b fb) (hm : behindInMarks op b = false := by first | exact nomark _ | rfl) : DE C (.Compare a [op] [b] pos) (mOp2 h fa fb) := by
  intro X hX ι As F H σ s m Q W tk p
  exact tW_of (pe_cmpR rW_ok pe_W pe_W hm) (two hX ha hb m tk p fun ι As F H s x y va vb m ra rb p => op2K_post ho hX m ra rb p)
theorem dt_cmpK {op : CmpOp} {h : O → O → Option O} {a b : Expr} {fa fb : M Opnd} {pos : Pos} (ho : OpK C.K (compareOp op) h) (ha : DO C a fa) (hb : DO C b fb) (hm : behindInMarks op b = false := by first | exact nomark _ | rfl) : DT C (.Compare a [op] [b] pos) (mTest (mOp2 h fa fb)) := by
  intro X hX ι As F H σ s m Q W tk p
  exact ⟨_, pt_cmpR rW_ok pe_W pe_W hm, two hX ha hb m (isX_of tk) (test_post p) fun ι As F H s x y va vb m ra rb p => op2K_post ho hX m ra rb p⟩
end
/-- the classes of the text whose == is object's -/
def EqCs (K : PySem.W.Frag) (cs : List Str) : Prop := (∀ c ∈ cs, EqC K (He.ga K c)) ∧ ∀ c ∈ cs, ∀ d ∈ cs, c ≠ d → PySem.W.subIn K (.ref (He.ga K d)) (.ref (He.ga K c)) = some false
/-- ==, != of objects (n: !=), else of data -/
def eqX (cs : List Str) (n : Bool) (x y : O) : Option O := match x, y with
  | .fz (.obj i c _), .fz (.obj j d _) => if c ∈ cs ∧ d ∈ cs then some (.fz (.bl (n != decide (i = j)))) else none
  | x, y => if n then neO x y else eqO x y
theorem obj_of {K : PySem.W.Frag} {ι : List Addr} {F H : Hp} {v : V} {A : List Addr} {i : Nat} {c : Str} {fs : List (Str × D)} (e : Ex F H) (w : Ow K ι F H v (.fz (.obj i c fs)) A) : ∃ (a dx : Addr) (gs : List (Str × V)), v = .ref a ∧ ι[i]? = some a ∧ H a = some (.ins (He.ga K c) dx gs) ∧ RdK K ι F gs fs := by
  cases w.fz_inv.1 with
  | obj h1 h2 h3 h4 => exact ⟨_, _, _, rfl, h1, e _ _ h2, rdK_zip h3 h4⟩
theorem ij_eq {ι : List Addr} {F : Hp} (h : IJ ι F) {i j : Nat} {a b : Addr} (h1 : ι[i]? = some a) (h2 : ι[j]? = some b) : decide (a = b) = decide (i = j) := by
  by_cases e : i = j
  · subst e
    rw [h1] at h2
    cases h2
    rw [decide_eq_true rfl, decide_eq_true rfl]
  · rw [decide_eq_false e, decide_eq_false]
    intro z
    subst z
    obtain ⟨l1, g1⟩ := List.getElem?_eq_some_iff.mp h1
    obtain ⟨l2, g2⟩ := List.getElem?_eq_some_iff.mp h2
    have hp := List.pairwise_iff_getElem.mp h.1
    rcases Nat.lt_or_gt_of_ne e with z | z
    · exact hp i j l1 l2 z (g1.trans g2.symm)
    · exact hp j i l2 l1 z (g2.trans g1.symm)
theorem eqX_run {K : PySem.W.Frag} {cs : List Str} (hc : EqCs K cs) {n : Bool} {op : CmpOp} (hop : op = if n then .NotEq else .Eq) : OpK K (compareOp op) (eqX cs n) := by
  intro X k hK hr x y o h ι F H A B va vb Q e ij wa wb q
  subst hK
  unfold eqX at h
  split at h
  · rename_i i c fs j d gs
    split at h
    · rename_i hm
      cases h
      obtain ⟨a, dx, f1, rfl, i1, h1, _⟩ := obj_of e wa
      obtain ⟨b, dy, f2, rfl, i2, h2, _⟩ := obj_of e wb
      have hr1 : rObj X.K n (.ref a) (.ref b) H Q := ⟨a, b, _, _, dx, dy, f1, f2, rfl, rfl, h1, h2, hc.1 c hm.1, hc.1 d hm.2, fun ne => hc.2 c hm.1 d hm.2 fun z => ne (by rw [z]), by rw [ij_eq ij i1 i2]; exact same_end e q (.bl _)⟩
      subst hop
      cases n with
      | true => exact ⟨_, op_objNe hr, hr1⟩
      | false => exact ⟨_, op_objEq hr, hr1⟩
    · cases h
  · subst hop
    cases n with
    | true => exact ok_ne X k hr x y o h ι F H A B va vb Q e wa wb q
    | false => exact ok_eq X k hr x y o h ι F H A B va vb Q e wa wb q
theorem okx_eq {K : PySem.W.Frag} {cs : List Str} (hc : EqCs K cs) : OpK K (compareOp .Eq) (eqX cs false) := eqX_run hc rfl
theorem okx_ne {K : PySem.W.Frag} {cs : List Str} (hc : EqCs K cs) : OpK K (compareOp .NotEq) (eqX cs true) := eqX_run hc rfl
/-! ### fields -/
def fldD (fs : List (Str × D)) (f : Str) : Option D := fs.lookup f
theorem RdK.look {K : PySem.W.Frag} {ι : List Addr} {F : Hp} (f : Str) : ∀ {m : List (Str × V)} {n : List (Str × D)} {d : D}, RdK K ι F m n → n.lookup f = some d → ∃ v, m.lookup f = some v ∧ Rd K ι F v d
  | _, _, _, .nil, h => by cases h
  | _, _, _, .cons (k := k) h r, q => by
    rw [List.lookup_cons] at q
    rw [List.lookup_cons]
    cases e : (f == k) with
    | true =>
      rw [e] at q
      cases q
      exact ⟨_, rfl, h⟩
    | false =>
      rw [e] at q
      exact r.look f q
def putFD (f : Str) (d : D) : List (Str × D) → List (Str × D)
  | [] => [(f, d)]
  | (g, x) :: r => if g = f then (g, d) :: r else (g, x) :: putFD f d r
theorem RdK.putF {K : PySem.W.Frag} {ι : List Addr} {F : Hp} (f : Str) {v : V} {d : D} (rv : Rd K ι F v d) : ∀ {m : List (Str × V)} {n : List (Str × D)}, RdK K ι F m n → RdK K ι F (L2.putF f v m) (putFD f d n)
  | _, _, .nil => .cons rv .nil
  | _, _, .cons (k := k) h r => by
    unfold L2.putF putFD
    by_cases e : k = f
    · rw [if_pos e, if_pos e]
      exact .cons rv r
    · rw [if_neg e, if_neg e]
      exact .cons h (r.putF f rv)
/-- the fields of a thing, of which class it is -/
def O.flds : O → Option (Str × List (Str × D))
  | .fz (.obj _ c fs) => some (c, fs)
  | .obj c fs => some (c, fs)
  | _ => none
theorem flds_at {K : PySem.W.Frag} {ι : List Addr} {F H : Hp} {v : V} {o : O} {A : List Addr} {c : Str} {fs : List (Str × D)} (e : Ex F H) (w : Ow K ι F H v o A) (h : o.flds = some (c, fs)) : ∃ (a dx : Addr) (gs : List (Str × V)), v = .ref a ∧ H a = some (.ins (He.ga K c) dx gs) ∧ RdK K ι F gs fs := by
  unfold O.flds at h
  split at h
  · cases h
    obtain ⟨a, dx, gs, h1, _, h2, h3⟩ := obj_of e w
    exact ⟨a, dx, gs, h1, h2, h3⟩
  · cases h
    cases w with
    | obj h1 h2 h3 h4 => exact ⟨_, _, _, rfl, h1, rdK_zip h3 h4⟩
  · cases h
def mFld (cs : List Str) (f : Str) (fo : M Opnd) : M O := fo.bind fun y s => match opv y s with
  | some x => match x.flds with
    | some (c, fs) => if c ∈ cs then match fs.lookup f with
      | some d => .ok (.fz d) s
      | none => .st
      else .st
    | none => .st
  | none => .st
section
variable {C : Ctx}
/-- e.f -/
theorem de_fld {e : Expr} {f : Str} {fo : M Opnd} {pos : Pos} (cs : List Str) (h : DO C e fo) (hc : ∀ c ∈ cs, Cls C.K (He.ga C.K c) ∧ NoAttr C.K (He.ga C.K c) f) (hb : ∀ env : Env, attributeBase e f env (eval e env) = eval e env := by intro _; rfl) : DE C (.Attribute e f pos) (mFld cs f fo) := by
  intro X hX ι As F H σ s m Q W tk p
  unfold mFld at p tk
  refine tW_of (pe_fld pe_W (hb _)) (h X hX ι As F H σ s m _ W (isX_of tk) ?_)
  simp only [M.bind_def] at p
  cases q : fo s with
  | st => rw [q] at p; exact p.elim
  | ex c fs s1 => rw [q] at p; exact p
  | ok y s1 =>
    rw [q] at p
    simp only [R.bind_ok] at p
    intro v ι1 As1 F1 H1 ev pr m1 ro
    have p1 := PostV.step p ev pr fun _ z => z
    cases h1 : opv y s1 with
    | none => simp only [h1] at p1; exact p1.elim
    | some x =>
      simp only [h1] at p1
      cases h2 : x.flds with
      | none => simp only [h2] at p1; exact p1.elim
      | some cf =>
        obtain ⟨c, fs⟩ := cf
        simp only [h2] at p1
        split at p1
        · rename_i hm
          cases h3 : fs.lookup f with
          | none => simp only [h3] at p1; exact p1.elim
          | some d =>
            simp only [h3] at p1
            obtain ⟨A, w⟩ := opv_ow m1 ro h1
            obtain ⟨a, dx, gs, rfl, ha, rk⟩ := flds_at m1.ext w h2
            obtain ⟨u, hu, ru⟩ := rk.look f h3
            obtain ⟨c1, c2⟩ := hc c hm
            exact ⟨a, _, dx, gs, u, rfl, ha, by rw [hX.K]; exact c1, by rw [hX.K]; exact c2, hu, post_new m1 p1 New.refl m1.ext (.fz ru) List.nodup_nil fun _ z => nomatch z⟩
        · exact p1.elim
/-- x.f = value, the object held by x alone -/
def mAttr (c f : Str) (i : Nat) (fv : M O) : MT := fun s => (fv s).toT fun o s1 => match o.frz with
  | some d => match s1.ρ[i]? with
    | some (some (.obj c' fs)) => if c' = c ∧ fs.length < 1000 then .nx { s1 with ρ := s1.ρ.set i (some (.obj c (putFD f d fs))) } else .st
    | _ => .st
  | none => .st
theorem ds_attr {i : Nat} {c x f : Str} {value : Expr} {fv : M O} {px pos' pos : Pos} (hv : DE C value fv) (hc : Cls C.K (He.ga C.K c)) (hna : NoAttr C.K (He.ga C.K c) f) (hN : C.N[i]? = some x := by rfl) (hvis : visB C.sc x = true := by rfl) (hd : (x == ("__debug__" : Str)) = false := by decide) (hcd : (x == ("__classdict__" : Str)) = false := by decide)
    (hs : ∀ env : Env, swapsWith value (some (.Attribute (.Name x px) f pos')) pos.line env = pure false := by intro _; rfl) : DS C (.Assign [.Attribute (.Name x px) f pos'] value pos) (mAttr c f i fv) := by
  intro X hX ι As F H σ s m D W tk p
  unfold mAttr at p tk
  refine ⟨_, ps_fld (pe_var (i := i) (by rw [hX.N]; exact hN) (by rw [hX.sc]; exact vis_of hvis) hd hcd) pe_W (hs _), hv X hX ι As F H σ s m _ W (isX_toT tk) (val_post p fun o s1 v B ι1 As1 F1 H1 e0 ev pr m1 w nd fr p => ?_)⟩
  cases hz : o.frz with
  | none => rw [hz] at p; exact p.elim
  | some d =>
    simp only [hz] at p
    obtain ⟨F2, ev2, m2, r⟩ := freeze1 m1 ev w fr hz
    split at p
    · rename_i c' fs h1
      split at p
      · rename_i hcc
        obtain ⟨rfl, hl⟩ := hcc
        obtain ⟨va, hva, wa⟩ := m2.at_ i _ h1
        obtain ⟨a, dx, ns, us, es, rfl, eA, rfl, g1, g2, g3, g4⟩ := ow_obj_inv wa
        have ha : a ∈ As1 i := by rw [eA]; exact List.mem_cons_self
        have nda : a ≠ dx := by
          have z := m2.nd i
          rw [eA] at z
          simpa using z
        refine ⟨.ref a, hva, a, _, dx, _, rfl, g1, by rw [hX.K]; exact hc, by rw [hX.K]; exact hna, ?_, ?_⟩
        · rw [List.length_zip] at hl ⊢
          rw [← g4.length] at hl
          exact hl
        · obtain ⟨ms, ws, fs', e1, e2, l3, r3⟩ := ((rdK_zip g3 g4).putF f r).unzip
          rw [e1]
          rw [e2] at p
          refine p σ ι1 (setF As1 i [a, dx]) F2 _ (evo_rewr m2 ha ev2 fun b z => ?_) pr (m2.rewr h1 hva ha (fun b hb => .inl (by rw [eA]; exact hb)) (by simpa using nda) (.obj upd_same ?_ l3 r3)) prot_refl
          · rcases own_setF z with z | z
            · exact ⟨i, by rw [eA]; exact z⟩
            · exact z
          · rw [upd_ne (Ne.symm nda)]
            exact g2
      · exact p.elim
    · exact p.elim
/-! ### isinstance of own classes -/
structure IsC (K : PySem.W.Frag) (c : Str) : Prop where
  cls : Cls K (He.ga K c)
  cl : PySem.W.findIn K (.ref (He.ga K c)) "__class__" = some (some (.builtin "object.__class__"))
  gt : PySem.W.specialIn K (.builtin "object.__class__") "__get__" = some (some (.builtin "getset_descriptor.__get__"))
  tk : PySem.W.takesIn K (.builtin "object.__class__") = some true
  mro : PySem.W.mroIn K (He.ga K c) (.type "object") = some true
/-- is x of the class c? its own one, or a built-in thing -/
def isC (c : Str) (x : O) : Option O := match x with
  | .fz (.obj _ c' _) => if c' = c then some (.fz (.bl true)) else none
  | _ => none
def mIsC (c : Str) (f : M Opnd) : M O := f.bind fun y s => match opv y s with
  | some x => match isC c x with
    | some o => .ok o s
    | none => .st
  | none => .st
theorem de_isC {e : Expr} {c : Str} {f : M Opnd} {p p2 pos : Pos} (h : DO C e f) (hc : IsC C.K c) (hm : C.mg "isinstance" = none) (hmc : C.mg c = some (.ref (He.ga C.K c))) (hg : glB C.sc "isinstance" = true := by rfl) (hgc : glB C.sc c = true := by rfl)
    (hdb : (c == ("__debug__" : Str)) = false := by decide) (hs : ∀ env : Env, starEach [e, .Name c p2] env = (false, eval e env) :: starEach [.Name c p2] env := by intro _; rfl) (hpl : ∀ env : Env, (backTo pos (starEach [.Name c p2] env)).any (·.1) = false := by intro _; rfl) :
    DE C (.Call (.Name "isinstance" p) [e, .Name c p2] [] pos) (mIsC c f) := by
  intro X hX ι As F H σ s m Q W tk p
  unfold mIsC at p tk
  refine tW_of (pe_callB call_isi (gl_of hX.sc hg) (by rw [hX.mg]; exact hm) (by decide +kernel) (pa_cons pe_W (pa_cons (pe_glob (v := .ref (He.ga C.K c)) (gl_of hX.sc hgc) (by rw [hX.mg]; exact hmc) rfl hdb) pa_nil rfl) (hs _)) (by decide) (by decide) (hs _) (hpl _)) ?_
  refine h X hX ι As F H σ s m _ W (isX_of tk) ?_
  simp only [M.bind_def] at p
  cases q : f s with
  | st => rw [q] at p; exact p.elim
  | ex cc fs s1 => rw [q] at p; exact p
  | ok y s1 =>
    rw [q] at p
    simp only [R.bind_ok] at p
    intro v ι1 As1 F1 H1 ev pr m1 ro
    have p1 := PostV.step p ev pr fun _ z => z
    cases h1 : opv y s1 with
    | none => simp only [h1] at p1; exact p1.elim
    | some x =>
      simp only [h1] at p1
      unfold isC at p1
      split at p1
      · rename_i o heq
        split at heq
        · rename_i i c' fs
          split at heq
          · rename_i ec
            subst ec
            cases heq
            obtain ⟨A, w⟩ := opv_ow m1 ro h1
            obtain ⟨a, dx, gs, rfl, _, ha, _⟩ := obj_of m1.ext w
            refine ⟨.ref a, .ref (He.ga C.K c'), .ref (He.ga C.K c'), .ref (He.ga C.K c'), true, rfl, .own _, .base ?_, ?_, post_new m1 p1 New.refl m1.ext (.fz (.bl true)) List.nodup_nil fun _ z => nomatch z⟩
            · rw [hX.K] at ha ⊢
              exact .ins ha hc.cls hc.cl hc.gt hc.tk hc.mro
            · unfold PySem.W.kitOne
              rw [if_pos (by simp)]
          · cases heq
        · cases heq
      · exact p1.elim
end
end VL
namespace VL
open PySem PySem.Spec
open PyProof.Rows L2
section
variable {C : Ctx}
def mNeg (f : M O) : M O := f.bind fun o s => match o with
  | .fz (.int i) => .ok (.fz (.int (-i))) s
  | _ => .st
theorem de_neg {e : Expr} {f : M O} {pos : Pos} (h : DE C e f) : DE C (.UnaryOp .USub e pos) (mNeg f) := by
  intro X hX ι As F H σ s m Q W tk p
  unfold mNeg at p tk
  refine tW_of (pe_un un_neg pe_W) (h X hX ι As F H σ s m _ W (isX_of tk) ?_)
  simp only [M.bind_def] at p
  cases q : f s with
  | st => rw [q] at p; exact p.elim
  | ex c fs s1 => rw [q] at p; exact p
  | ok o s1 =>
    rw [q] at p
    simp only [R.bind_ok] at p
    intro v B ι1 As1 F1 H1 ev pr m1 w nd fr
    split at p
    · rename_i i
      exact ⟨i, w.int, post_new m1 (PostE.step p ev pr fun a z => .inl z) New.refl m1.ext (.fz (.int _)) List.nodup_nil fun _ z => nomatch z⟩
    · exact p.elim
end
theorem bb_len : bootBuiltins "len" = some (.builtin "len") := by decide +kernel
theorem bb_all : bootBuiltins "all" = some (.builtin "all") := by decide +kernel
theorem bb_any : bootBuiltins "any" = some (.builtin "any") := by decide +kernel
theorem bb_max : bootBuiltins "max" = some (.builtin "max") := by decide +kernel
theorem bb_repr : bootBuiltins "repr" = some (.builtin "repr") := by decide +kernel
theorem bb_int : bootBuiltins "int" = some (.type "int") := by decide +kernel
theorem bb_list : bootBuiltins "list" = some (.type "list") := by decide +kernel
theorem bb_tuple : bootBuiltins "tuple" = some (.type "tuple") := by decide +kernel
end VL
namespace VL
open PySem PySem.Spec
open PyProof.Rows L2
/-! ### the head's facts, and more of them -/
def sysB (K : PySem.W.Frag) : Bool := match K.lookup sysModules with
  | some o => decide (o.cls = .type "dict")
  | none => false
theorem sysB_ok {K : PySem.W.Frag} (h : sysB K = true) : SysD K := by
  unfold sysB at h
  split at h
  · rename_i o ho
    exact ⟨o, ho, of_decide_eq_true h⟩
  · cases h
/-- a class without bases of its own, == object's -/
def clsB (K : PySem.W.Frag) (c : Str) : Bool :=
  decide ((PySem.W.clsIn K (He.ga K c)).map (·.name) = some c) && (decide ((PySem.W.clsIn K (He.ga K c)).map (·.mro) = some [.ref (He.ga K c), .type "object"]) && (He.eqO (PySem.W.findIn K (.ref (He.ga K c)) "__class__") (some (some (.builtin "object.__class__"))) &&
  (He.eqO (PySem.W.findIn K (.ref (He.ga K c)) "__eq__") (some (some (.builtin "object.__eq__"))) && He.eqO (PySem.W.findIn K (.ref (He.ga K c)) "__ne__") (some (some (.builtin "object.__ne__"))))))
def objB (K : PySem.W.Frag) : Bool := He.eqO (PySem.W.specialIn K (.builtin "object.__class__") "__get__") (some (some (.builtin "getset_descriptor.__get__"))) && decide (PySem.W.takesIn K (.builtin "object.__class__") = some true)
def moB (cs : List Str) (K : PySem.W.Frag) : Bool := sysB K && (objB K && cs.all (clsB K))
theorem mro_in {K : PySem.W.Frag} {C : Addr} {base : Value} {l : List Value} (h : (PySem.W.clsIn K C).map (·.mro) = some l) (hl : l.isEmpty = false) : PySem.W.mroIn K C base = some (l.contains base) := by
  obtain ⟨cd, h1, h2⟩ := Option.map_eq_some_iff.mp h
  unfold PySem.W.mroIn
  rw [h1]
  show (if cd.mro.isEmpty then none else some (cd.mro.contains base)) = _
  rw [h2, hl]
  rfl
structure ClsF (K : PySem.W.Frag) (c : Str) : Prop where
  name : (PySem.W.clsIn K (He.ga K c)).map (·.name) = some c
  mro : (PySem.W.clsIn K (He.ga K c)).map (·.mro) = some [.ref (He.ga K c), .type "object"]
  cl : PySem.W.findIn K (.ref (He.ga K c)) "__class__" = some (some (.builtin "object.__class__"))
  eq : PySem.W.findIn K (.ref (He.ga K c)) "__eq__" = some (some (.builtin "object.__eq__"))
  ne : PySem.W.findIn K (.ref (He.ga K c)) "__ne__" = some (some (.builtin "object.__ne__"))
theorem clsB_ok {K : PySem.W.Frag} {c : Str} (h : clsB K c = true) : ClsF K c := by
  obtain ⟨h0, h⟩ := He.ba h
  obtain ⟨h1, h⟩ := He.ba h
  obtain ⟨h2, h⟩ := He.ba h
  obtain ⟨h3, h4⟩ := He.ba h
  exact ⟨of_decide_eq_true h0, of_decide_eq_true h1, He.eqO_ok h2, He.eqO_ok h3, He.eqO_ok h4⟩
theorem ClsF.eqc {K : PySem.W.Frag} {c : Str} (h : ClsF K c) : EqC K (He.ga K c) := ⟨by rw [mro_in h.mro rfl]; simp, h.eq, h.ne⟩
structure MoF (K : PySem.W.Frag) (cs : List Str) : Prop where
  sys : SysD K
  gt : PySem.W.specialIn K (.builtin "object.__class__") "__get__" = some (some (.builtin "getset_descriptor.__get__"))
  tk : PySem.W.takesIn K (.builtin "object.__class__") = some true
  cls : ∀ c ∈ cs, ClsF K c
theorem moB_ok {K : PySem.W.Frag} {cs : List Str} (h : moB cs K = true) : MoF K cs := by
  obtain ⟨h1, h⟩ := He.ba h
  obtain ⟨h2, h3⟩ := He.ba h
  obtain ⟨h4, h5⟩ := He.ba h2
  exact ⟨sysB_ok h1, He.eqO_ok h4, of_decide_eq_true h5, fun c hc => clsB_ok (List.all_eq_true.mp h3 c hc)⟩
theorem MoF.eqs {K : PySem.W.Frag} {cs : List Str} (h : MoF K cs) : EqCs K cs := by
  refine ⟨fun c hc => (h.cls c hc).eqc, fun c hc d hd' ne => ?_⟩
  show PySem.W.mroIn K (He.ga K d) (.ref (He.ga K c)) = some false
  rw [mro_in (h.cls d hd').mro rfl]
  have z : He.ga K c ≠ He.ga K d := fun e => by
    have z1 := (h.cls c hc).name
    rw [e, (h.cls d hd').name] at z1
    exact ne (Option.some.inj z1).symm
  simp [z]
theorem MoF.isc {K : PySem.W.Frag} {cs : List Str} (h : MoF K cs) (hcl : ∀ c ∈ cs, Cls K (He.ga K c)) : ∀ c ∈ cs, IsC K c := fun c hc =>
  ⟨hcl c hc, (h.cls c hc).cl, h.gt, h.tk, (h.cls c hc).eqc.mro⟩
/-! ### the hook -/
def frX (g : Addr → Option Obj) (n : Nat) : PySem.W.Frag := He.frG g (sysModules :: He.asD g n)
def obsX (n : Nat) (fa : List He.Fa) (fn : List He.DefD) (mo : PySem.W.Frag → Bool) (g : Addr → Option Obj) : He.AlD := ((He.obsD fa fn (frX g n)).1 && mo (frX g n), (He.obsD fa fn (frX g n)).2)
def hookX (n : Nat) (fa : List He.Fa) (fn : List He.DefD) (mo : PySem.W.Frag → Bool) : PySem.W.Hook where
  α := He.AlD
  obs := fun s => obsX n fa fn mo s.heap.get?
  val := fun _ => He.valD fn
  says := fun _ h => ∃ K : PySem.W.Frag, K.In h ∧ He.SaysD fa fn K ∧ mo K = true
  of := fun w s e => by
    have e1 : ((He.obsD fa fn (frX s.heap.get? n)).1 && mo (frX s.heap.get? n)) = true := congrArg (fun z : He.AlD => z.1) e
    have e2 : (He.obsD fa fn (frX s.heap.get? n)).2 = fn.map He.DefD.val := congrArg (fun z : He.AlD => z.2) e
    obtain ⟨h1, h2⟩ := He.ba e1
    exact ⟨frX s.heap.get? n, He.frG_in, Prod.ext h1 e2, h2⟩
  keeps :=
          fun _ _ _ ⟨K, hK, c⟩ k => ⟨K, PySem.W.Frag.In.keeps hK k, c⟩
theorem obsX_eq {n : Nat} {fa : List He.Fa} {fn : List He.DefD} {mo : PySem.W.Frag → Bool} {g : Addr → Option Obj} {s : Shared} (h : ∀ a, g a = s.heap.get? a) : obsX n fa fn mo g = (hookX n fa fn mo).obs s := by
  have e : g = s.heap.get? :=
          funext h
  rw [e]
  rfl
/-! ### the law's call, where no repr runs -/
theorem core_call {P : Program} {w : World} {K : PySem.W.Frag} {mg mb : Str → Option Value} {k : Nat} {fa a : Addr} {fd : FuncData} {x : Str} {sp : Sp} {s1 : Shared} {vs : List Value} {ns : List Int}
    (kin : K.In s1.heap) (gn : s1.heap.Ns mainGlobals mg) (bn : s1.heap.Ns builtinsNs mb) (bb : ∀ y : Str, y ≠ "__name__" → mb y = bootBuiltins y) (lim : s1.heap.NoLimit) (gs : s1.gens = #[])
    (at_ : s1.heap.get? a = some { cls := .type "list", data := .seq vs.toArray }) (room : Room k callerA)
    (F : ∀ base : Heap, K.In base → base.Ns mainGlobals mg → FnG P w K mg base k fa fd [x] sp) (bind : ∀ (s : Shared) (u : Value), BindsTo s fd ⟨[u], []⟩ [(x, u)])
    (H : Hp) (only : Only H) (sq : SqL K H a (ns.map V.int)) (ok : HOk P w H s1.heap) (ha : ∀ b, H b ≠ none → b = a) (hk : H a ≠ none → K.lookup a = none) (pro : sp [.ref a] H (fun v _ => v = .bl true) fun _ _ _ => False) :
    codeAny (model P w) callerA (.call (.ref fa) ⟨[.ref a], []⟩) (fun r s' => r = .ok (.ret (.bool true)) ∧ OldK s1.heap s'.heap ∧ s'.os = s1.os ∧ AllBare s'.gens) s1 := by
  have free : ∀ {b : Addr} {o : Obj} {es : Array DictEntry} {ep : Nat}, s1.heap.get? b = some o → o.data = .dict es ep → H b = none := by
    intro b o es ep e d
    by_cases z : H b = none
    · exact z
    · have eb := ha b z
      subst eb
      rw [at_] at e
      cases e
      cases d
  have spaces : ∀ {b : Addr} {m : Str → Option Value}, s1.heap.Ns b m → (hidT s1.heap H).Ns b m := by
    rintro b m ⟨o, es, ep, e, d, r⟩
    exact ⟨o, es, ep, hidT_get e (free e d), d, r⟩
  have kin' : K.In (hidT s1.heap H) := by
    intro b o e
    refine hidT_get (kin b o e) ?_
    by_cases z : H b = none
    · exact z
    · have eb := ha b z
      subst eb
      rw [hk z] at e
      cases e
  have lim' : (hidT s1.heap H).NoLimit := by
    obtain ⟨mc, l1, l2⟩ := lim
    exact ⟨mc, spaces l1, l2⟩
  have env : Env0 P w K mg (hidT s1.heap H) callerA [] s1 H := ⟨rfl, ⟨kin', spaces gn, ⟨mb, spaces bn, bb⟩, lim'⟩, fun _ _ e => of_hidT e, Nat.le_of_eq (hidT_size _ _), trivial, fun b z => (List.not_mem_nil z).elim, ok, .of_eq gs⟩
  have run := (F _ kin' (spaces gn)).run callerA [] s1 H ⟨[.ref a], []⟩ [.ref a] [.ref a] _ _ room rfl env (bind s1 (.ref a)) (.cons rfl .nil) pro
  refine codeAny_mono run fun res s' z => ?_
  match res, z with
  | .error e, z =>
    obtain ⟨_, _, _, _, _, _, _, _, _, _, _, _, y⟩ := z
    exact y.elim
  | .ok .next, z => exact (show False from z).elim
  | .ok .brk, z => exact (show False from z).elim
  | .ok .cont, z => exact (show False from z).elim
  | .ok (.ret u), z =>
    obtain ⟨v, H', os, bare, un, ok', rel, qv⟩ := z
    have qv : v = .bl true := qv
    subst qv
    cases (show u = Value.bool true from rel)
    refine ⟨rfl, OldK.of_keep (fun b o e => ?_), os, bare⟩
    rcases only b with y | ⟨ob, xs, y⟩
    · exact un.keep b o e y (fun y => (List.not_mem_nil y).elim) (by simp)
    · have y2 := un.frzs b ob _ y
      have e1 := (ok b _ y).1
      rw [e] at e1
      cases e1
      exact (ok' b _ y2).1
theorem callG {P : Program} {w : World} {K : PySem.W.Frag} {mg mb : Str → Option Value} {k : Nat} {fa a : Addr} {fd : FuncData} {x : Str} {sp : Sp} {s1 : Shared} {vs : List Value} {ns : List Int}
    (kin : K.In s1.heap) (gn : s1.heap.Ns mainGlobals mg) (bn : s1.heap.Ns builtinsNs mb) (bb : ∀ y : Str, y ≠ "__name__" → mb y = bootBuiltins y) (lim : s1.heap.NoLimit) (gs : s1.gens = #[])
    (at_ : s1.heap.get? a = some { cls := .type "list", data := .seq vs.toArray }) (inz : IntsAre vs ns) (len : ns.length ≤ sizeLine) (room : Room k callerA)
    (F : ∀ base : Heap, K.In base → base.Ns mainGlobals mg → FnG P w K mg base k fa fd [x] sp) (bind : ∀ (s : Shared) (u : Value), BindsTo s fd ⟨[u], []⟩ [(x, u)])
    (pro : ∀ H : Hp, Only H → SqL K H a (ns.map V.int) → sp [.ref a] H (fun v _ => v = .bl true) fun _ _ _ => False) :
    codeAny (model P w) callerA (.call (.ref fa) ⟨[.ref a], []⟩) (fun r s' => r = .ok (.ret (.bool true)) ∧ OldK s1.heap s'.heap ∧ s'.os = s1.os ∧ AllBare s'.gens) s1 := by
  have vals := vals_ints inz
  have szs : vs.toArray.size ≤ sizeLine := by
    rw [List.size_toArray, inz.length] at *
    exact len
  by_cases hk : K.lookup a = none
  · have hold : (fun b => if b = a then some (HO.frz { cls := .type "list", data := .seq vs.toArray } (.lst (ns.map V.int))) else none : Hp) a = some (.frz { cls := .type "list", data := .seq vs.toArray } (.lst (ns.map V.int))) := if_pos rfl
    have only : Only (fun b => if b = a then some (HO.frz { cls := .type "list", data := .seq vs.toArray } (.lst (ns.map V.int))) else none) := fun b => by
      by_cases e : b = a
      · exact .inr ⟨_, _, if_pos e⟩
      · exact .inl (if_neg e)
    have sq : SqL K (fun b => if b = a then some (HO.frz { cls := .type "list", data := .seq vs.toArray } (.lst (ns.map V.int))) else none) a (ns.map V.int) := .inl (.inr ⟨_, hold⟩)
    refine core_call kin gn bn bb lim gs at_ room F bind _ only sq (fun b u z => ?_) (fun b z => ?_) (fun _ => hk) (pro _ only sq)
    · by_cases e : b = a
      · subst e
        have z1 := hold.symm.trans z
        cases z1
        exact ⟨at_, by rw [List.length_map]; exact len, vs, _, vals, at_⟩
      · have z1 := (if_neg e).symm.trans z
        cases z1
    · by_cases e : b = a
      · exact e
      · exact (z (if_neg e)).elim
  · obtain ⟨o, ho⟩ := Option.ne_none_iff_exists'.mp hk
    have e := kin a o ho
    rw [at_] at e
    cases e
    have sq : SqL K (fun _ => none) a (ns.map V.int) := .inr ⟨_, vs.toArray, _, ho, rfl, rfl, rfl, szs, by simpa using vals⟩
    have only : Only (fun _ => none) := fun _ => .inl rfl
    exact core_call kin gn bn bb lim gs at_ room F bind _ only sq (fun b u z => nomatch (show (none : Option HO) = some u from z)) (fun b z => (z rfl).elim) (fun z => (z rfl).elim) (pro _ only sq)
/-- a law's end -/
theorem walkG {l : PySem.W.OpenLaw} {n k : Nat} {q : Program} {loose : List Str} {XP : (Str → Option Value) → Heap → Prop} {YP : World → Heap → Prop} {d : DefRec} {x : Str} (hn : l.most = some n) (hn2 : n ≤ sizeLine) (hdf : d.params.defaults = []) (room : Room k callerA)
    (F : ∀ (w : World) (mg : Str → Option Value) (fa : Addr) (h : Heap), YP w h → h.Ns mainGlobals mg → mg d.name = some (.ref fa) → ∃ (K : PySem.W.Frag) (fd : FuncData) (sp : Sp), K.In h ∧ (∀ (s : Shared) (u : Value), BindsTo s fd ⟨[u], []⟩ [(x, u)]) ∧
      (∀ (H : Hp) (a : Addr) (ns : List Int), ns.length ≤ n → Only H → SqL K H a (ns.map V.int) → sp [.ref a] H (fun v _ => v = .bl true) fun _ _ _ => False) ∧ ∀ base : Heap, K.In base → base.Ns mainGlobals mg → FnG l.prog w K mg base k fa fd [x] sp) :
    PySem.W.WalkO q loose XP YP l.row.toRowW d []
      (fun f us => PySem.call f us) := by
  refine Att.attach_call hn hdf fun w s0 s1 mg mb fa o pm cd doc a vs ns G Y ho hd hcd hmg hobj hints hlen hg => ?_
  obtain ⟨K, fd, sp, kin, bind, pro, run⟩ := F w mg fa _ Y G.T.g hmg
  exact callG kin G.T.g G.T.b G.T.builtins G.T.nolimit hg hobj hints (Nat.le_trans hlen hn2) room run bind fun H only sq => pro H a ns hlen only sq
/-- the promise of a law's def, told by what it denotes -/
theorem law_sp {K : PySem.W.Frag} {g : FnM} {H : Hp} {a : Addr} {ns : List Int} (sq : SqL K H a (ns.map V.int)) (hg : ∃ outs n, g [.fz (.scr ns)] 0 = .ok (.fz (.bl true)) outs n) : spOf K 1 g [.ref a] H (fun v _ => v = .bl true) fun _ _ _ => False := by
  obtain ⟨outs, n, hg⟩ := hg
  refine ⟨[], fun _ => [], H, [.fz (.scr ns)], rfl, rfl, ⟨Same.refl _, rfl, ⟨List.nodup_nil, (fun _ h => nomatch h)⟩, rfl, fun i o h => ?_, fun _ => List.nodup_nil, (fun _ _ _ _ h => nomatch h), (fun _ _ h => nomatch h), (fun _ _ h => nomatch h)⟩, ?_⟩
  · cases i with
    | zero =>
      have e : o = .fz (.scr ns) := by simpa using h.symm
      subst e
      exact ⟨.ref a, rfl, .fz (.scr sq)⟩
    | succ i => simp at h
  · show PostF K [] (fun _ => []) H H [.ref a] (g [.fz (.scr ns)] 0) _ _
    rw [hg]
    intro v B ι' As' F' H' ev pr m' w nd fr
    exact w.bl
/-- what hangs on a frame's scope alone -/
theorem swp {X : Cx} {sc : Scope} {t v : List Expr} {p1 p2 : Pos} {k1 k2 : Nat} {r : Option (List Str)} (h : ∀ l g c q f cd fr b, swappedStores [.Tuple t k1 p1] (.Tuple v k2 p2) ⟨sc, l, g, c, q, f, cd, fr, b⟩ = pure r) (e : X.env.scope = sc) : swappedStores [.Tuple t k1 p1] (.Tuple v k2 p2) X.env = pure r := by
  cases hz : X.env with
  | mk s0 l g c q f cd fr b =>
    rw [hz] at e
    have e : s0 = sc := e
    subst e
    exact h l g c q f cd fr b
theorem says_mem {fa : List He.Fa} {fn : List He.DefD} {K : PySem.W.Frag} (c : He.SaysD fa fn K) {f : He.Fa} (h : f ∈ fa) : f.ok K = true := by
  have c1 := (He.ba (show ((fa.all fun f => f.ok K) && fn.all fun d => d.ok K) = true from congrArg (fun z : He.AlD => z.1) c)).1
  exact (List.all_eq_true.mp c1) f h
theorem in_flat {fas : List (List He.Fa)} {l : List He.Fa} {f : He.Fa} (j : Nat) (hj : fas[j]? = some l) (hf : f ∈ l) : f ∈ fas.flatten := List.mem_flatten.mpr ⟨l, List.mem_of_getElem? hj, hf⟩
end VL
namespace VL
open PySem PySem.Spec
open PyProof.Rows L2
/-! ### the words of mirrors -/
abbrev kN : M O := M.pure (.fz .non)
abbrev kB (b : Bool) : M O := M.pure (.fz (.bl b))
abbrev kI (i : Int) : M O := M.pure (.fz (.int i))
abbrev kS (x : Str) : M O := M.pure (.fz (.str x))
abbrev op0 : M (List Opnd) := M.pure []
abbrev opC (f : M Opnd) (g : M (List Opnd)) : M (List Opnd) := f.bind fun o => g.bind fun os => M.pure (o :: os)
abbrev row0 : M (List O) := M.pure []
abbrev rowC (f : M O) (g : M (List O)) : M (List O) := f.bind fun o => g.bind fun os => M.pure (o :: os)
abbrev dct0 : M (List D) := M.pure []
abbrev dctC (f : M O) (g : M (List D)) : M (List D) := f.bind fun o => match o.frz with
  | some d => g.bind fun ds => M.pure (d :: ds)
  | none => M.st
abbrev notV (f : M O) : M O := (mTest f).bind fun b => M.pure (.fz (.bl (!b)))
abbrev notT (f : M Bool) : M Bool := f.bind fun b => M.pure (!b)
abbrev ifV (c : M Bool) (a b : M O) : M O := c.bind fun k => if k then a else b
abbrev callM (f : M (List Opnd)) (ps : List Str) (j0 : Option Nat) (g : FnM) : M O := f.bind fun os => if os.length = ps.length then mCall j0 g os else M.st
abbrev makeM (f : M (List Opnd)) (ps : List Str) (c : Str) (g : FnM) : M O := f.bind fun os => if os.length + 1 = ps.length then mMake c g (List.range os.length) os else M.st
abbrev makeKM (f : M (List Opnd)) (ks : List Str) (c : Str) (g : FnM) (js : List Nat) : M O := f.bind fun os => if os.length = ks.length then mMake c g js os else M.st
abbrev bltM (h : List O → Option O) (f : M (List Opnd)) : M O := f.bind (opN h)
abbrev ttM : M Bool := M.pure true
abbrev seqS (a b : MT) : MT := fun s => (a s).seq b
abbrev retS (f : M O) : MT := fun s => (f s).toT T.rt
abbrev exprS (f : M O) : MT := fun s => (f s).toT fun _ => T.nx
abbrev ifS (c : M Bool) (a b : MT) : MT := fun s => (c s).toT fun k => if k then a else b
abbrev forS (i : M (List D)) (g : D → S → Option S) (b : MT) : MT := fun s => (i s).toT fun ds => forL g b ds
end VL
namespace VL
open PySem PySem.Spec
open PyProof.Rows L2
/-! ### a body whose last statements are read otherwise -/
def DTl (C : Ctx) (st rest : List Stmt) (g : MT) : Prop := ∀ (X : Cx), At C X → ∀ (ι : List Addr) (As : Foot) (F H : Hp) (σ : L2.St) (s : S), Mem X.K ι As F H σ s → ∀ (D : Ends) (W : WX),
  (IsXT (g s) → Takes X W) → PostT X C.io ι As F H σ (g s) { D with nx := ssW X rest D } W → ssW X (st ++ rest) D σ H
section
variable {C : Ctx}
theorem dtl_one {st : Stmt} {rest : List Stmt} {g : MT} (h : DS C st g) : DTl C [st] rest g := fun X hX ι As F H σ s m D W tk p => ⟨_, pss_cons ps_W pss_W, h X hX ι As F H σ s m { D with nx := ssW X rest D } W tk p⟩
theorem dtl_cons {st : Stmt} {sts rest : List Stmt} {g k : MT} (h : DS C st g) (hr : DTl C sts rest k) : DTl C (st :: sts) rest (fun s => (g s).seq k) := by
  intro X hX ι As F H σ s m D W tk p
  refine ⟨_, pss_cons ps_W pss_W, h X hX ι As F H σ s m { D with nx := ssW X (sts ++ rest) D } W (isXT_seq tk) ?_⟩
  cases q : g s with
  | nx s1 =>
    simp only [q, T.seq_nx] at p tk
    intro σ1 ι1 As1 F1 H1 ev pr m1 hp
    exact hr X hX ι1 As1 F1 H1 σ1 s1 m1 D W tk (PostT.step p ev pr (fun _ z => z) hp)
  | rt o s1 => simp only [q, T.seq_rt] at p; exact p
  | bk s1 => simp only [q, T.seq_bk] at p; exact p
  | ct s1 => simp only [q, T.seq_ct] at p; exact p
  | ex c fs s1 => simp only [q, T.seq_ex] at p; exact p
  | st => simp only [q, T.seq_st] at p; exact p.elim
end
end VL
namespace VL
open PySem PySem.Spec
open PyProof.Rows L2
/-! ### mirrors, computed step by step -/
@[simp] theorem str_inj {a b : String} : (Str.ofString a = Str.ofString b) ↔ a = b := by
  refine ⟨fun h => ?_, fun h => by rw [h]⟩
  rw [PySem.Str.ofString_eq_toList, PySem.Str.ofString_eq_toList] at h
  have h1 : (a.toList.map Char.toNat) = (b.toList.map Char.toNat) := by
    have h2 := congrArg (fun x : Str => x.cps.toList) h
    simpa using h2
  have h3 : a.toList = b.toList := (List.map_inj_right (fun x y e => Char.toNat_inj.mp e)).mp h1
  exact String.toList_inj.mp h3
@[simp] theorem str_beq {a b : String} : (Str.ofString a == Str.ofString b) = (a == b) := by
  by_cases h : a = b
  · subst h
    simp
  · rw [beq_eq_false_iff_ne.mpr h]
    exact beq_eq_false_iff_ne.mpr fun z => h (str_inj.mp z)
section
variable {α β : Type} {s : S} {ρ : List (Option O)} {n i j : Nat}
@[simp] theorem bind_ap {m : M α} {f : α → M β} : (m.bind f) s = (m s).bind fun a s' => f a s' := rfl
@[simp] theorem pure_ap {a : α} : (M.pure a : M α) s = .ok a s := rfl
@[simp] theorem st_ap : (M.st : M α) s = .st := rfl
@[simp] theorem kN_ap : kN s = .ok (.fz .non) s := rfl
@[simp] theorem kB_ap {b : Bool} : kB b s = .ok (.fz (.bl b)) s := rfl
@[simp] theorem kI_ap {b : Int} : kI b s = .ok (.fz (.int b)) s := rfl
@[simp] theorem kS_ap {b : Str} : kS b s = .ok (.fz (.str b)) s := rfl
@[simp] theorem op0_ap : op0 s = .ok [] s := rfl
@[simp] theorem row0_ap : row0 s = .ok [] s := rfl
@[simp] theorem dct0_ap : dct0 s = .ok [] s := rfl
@[simp] theorem ttM_ap : ttM s = .ok true s := rfl
@[simp] theorem opC_ap {f : M Opnd} {g : M (List Opnd)} : opC f g s = (f s).bind fun o s' => (g s').bind fun os s'' => .ok (o :: os) s'' := rfl
@[simp] theorem rowC_ap {f : M O} {g : M (List O)} : rowC f g s = (f s).bind fun o s' => (g s').bind fun os s'' => .ok (o :: os) s'' := rfl
@[simp] theorem notV_ap {f : M O} : notV f s = (mTest f s).bind fun b s' => .ok (.fz (.bl (!b))) s' := rfl
@[simp] theorem notT_ap {f : M Bool} : notT f s = (f s).bind fun b s' => .ok (!b) s' := rfl
@[simp] theorem ifV_ap {c : M Bool} {a b : M O} : ifV c a b s = (c s).bind fun k s' => (if k then a s' else b s') := by
  show (c s).bind _ = _
  congr 1
  funext k s'
  cases k <;> rfl
@[simp] theorem bltM_ap {h : List O → Option O} {f : M (List Opnd)} : bltM h f s = (f s).bind fun os s' => opN h os s' := rfl
@[simp] theorem callM_ap {f : M (List Opnd)} {ps : List Str} {j0 : Option Nat} {g : FnM} : callM f ps j0 g s = (f s).bind fun os s' => if os.length = ps.length then mCall j0 g os s' else .st := by
  show (f s).bind _ = _
  congr 1
  funext os s'
  dsimp only
  split <;> rfl
@[simp] theorem makeM_ap {f : M (List Opnd)} {ps : List Str} {c : Str} {g : FnM} : makeM f ps c g s = (f s).bind fun os s' => if os.length + 1 = ps.length then mMake c g (List.range os.length) os s' else .st := by
  show (f s).bind _ = _
  congr 1
  funext os s'
  dsimp only
  split <;> rfl
@[simp] theorem makeKM_ap {f : M (List Opnd)} {ks : List Str} {c : Str} {g : FnM} {js : List Nat} : makeKM f ks c g js s = (f s).bind fun os s' => if os.length = ks.length then mMake c g js os s' else .st := by
  show (f s).bind _ = _
  congr 1
  funext os s'
  dsimp only
  split <;> rfl
@[simp] theorem seqS_ap {a b : MT} : seqS a b s = (a s).seq b := rfl
@[simp] theorem retS_ap {f : M O} : retS f s = (f s).toT T.rt := rfl
@[simp] theorem exprS_ap {f : M O} : exprS f s = (f s).toT fun _ => T.nx := rfl
@[simp] theorem ifS_ap {c : M Bool} {a b : MT} : ifS c a b s = (c s).toT fun k s' => if k then a s' else b s' := by
  show (c s).toT _ = _
  congr 1
  funext k s'
  cases k <;> rfl
@[simp] theorem forS_ap {i : M (List D)} {g : D → S → Option S} {b : MT} : forS i g b s = (i s).toT fun ds => forL g b ds := rfl
@[simp] theorem mTest_ap {f : M O} : mTest f s = (f s).bind fun o s' => asB o s' := rfl
@[simp] theorem asB_bl {b : Bool} : asB (.fz (.bl b)) s = .ok b s := rfl
@[simp] theorem mAnd_ap {f g : M Bool} : mAnd f g s = (f s).bind fun b s' => if b then g s' else .ok false s' := by
  show (f s).bind _ = _
  congr 1
  funext k s'
  cases k <;> rfl
@[simp] theorem mOr_ap {f g : M Bool} : mOr f g s = (f s).bind fun b s' => if b then .ok true s' else g s' := by
  show (f s).bind _ = _
  congr 1
  funext k s'
  cases k <;> rfl
@[simp] theorem mAndV_ap {f g : M O} : mAndV f g s = (mTest f s).bind fun b s' => if b then g s' else .ok (.fz (.bl false)) s' := by
  show (mTest f s).bind _ = _
  congr 1
  funext k s'
  cases k <;> rfl
@[simp] theorem mOrV_ap {f g : M O} : mOrV f g s = (mTest f s).bind fun b s' => if b then .ok (.fz (.bl true)) s' else g s' := by
  show (mTest f s).bind _ = _
  congr 1
  funext k s'
  cases k <;> rfl
@[simp] theorem mVar_ap : mVar i ⟨ρ, n⟩ = match ρ[i]? with
  | some (some _) => .ok (.pl i) ⟨ρ, n⟩
  | _ => .st := rfl
@[simp] theorem mUse_ap : mUse i ⟨ρ, n⟩ = match ρ[i]? with
  | some (some o) => (match o.frz with
    | some d => .ok (.fz d) ⟨ρ.set i (some (.fz d)), n⟩
    | none => .st)
  | _ => .st := rfl
@[simp] theorem mOpnd_ap {f : M O} : mOpnd f s = (f s).bind fun o s' => match o.frz with
  | some d => .ok (.vl d) s'
  | none => .st := rfl
@[simp] theorem fzM_ap {f : M O} : fzM f s = (f s).bind fun o s' => match o.frz with
  | some d => .ok (.fz d) s'
  | none => .ok o s' := by
  show (f s).bind _ = _
  congr 1
@[simp] theorem opv_pl : opv (.pl i) ⟨ρ, n⟩ = match ρ[i]? with
  | some (some x) => some x
  | _ => none := rfl
@[simp] theorem opv_vl {d : D} : opv (.vl d) s = some (.fz d) := rfl
@[simp] theorem op2_ap {h : O → O → Option O} {a b : Opnd} : op2 h a b s = match opv a s with
  | some x => match opv b s with
    | some y => match h x y with
      | some o => .ok o s
      | none => .st
    | none => .st
  | none => .st := rfl
@[simp] theorem mOp2_ap {h : O → O → Option O} {fa fb : M Opnd} : mOp2 h fa fb s = (fa s).bind fun a s' => (fb s').bind fun b s'' => op2 h a b s'' := rfl
@[simp] theorem opN_ap {h : List O → Option O} {os : List Opnd} : opN h os s = match opvs os s with
  | some xs => match h xs with
    | some o => .ok o s
    | none => .st
  | none => .st := rfl
@[simp] theorem opvs_nil : opvs [] s = some [] := rfl
@[simp] theorem opvs_cons {o : Opnd} {os : List Opnd} : opvs (o :: os) s = match opv o s with
  | some x => match opvs os s with
    | some xs => some (x :: xs)
    | none => none
  | none => none := rfl
@[simp] theorem mSet_ap {f : M O} : mSet i f s = (f s).toT fun o s1 => if i < s1.ρ.length then .nx { s1 with ρ := s1.ρ.set i (some o) } else .st := rfl
@[simp] theorem mPar_ap {f : M (List O)} : mPar i j f s = (f s).toT fun os => set2 i j os := rfl
@[simp] theorem set2_ap {a b : O} : set2 i j [a, b] s = if i < s.ρ.length ∧ j < s.ρ.length then .nx { s with ρ := (s.ρ.set i (some a)).set j (some b) } else .st := rfl
@[simp] theorem mPut_ap {fv : M O} {fi : M Opnd} : mPut fv i fi s = (fv s).toT fun o s1 => match o.frz with
  | some d => match s1.ρ[i]? with
    | some (some _) => (fi s1).toT fun y => putAt i y d
    | _ => .st
  | none => .st := rfl
@[simp] theorem putAt_ap {y : Opnd} {d : D} : putAt i y d ⟨ρ, n⟩ = match ρ[i]? with
  | some (some x) => match opv y ⟨ρ, n⟩ with
    | some z => match putO x z d with
      | some o => .nx ⟨ρ.set i (some o), n⟩
      | none => .st
    | none => .st
  | _ => .st := rfl
@[simp] theorem mTup_ap {f : M (List O)} : mTup f s = (f s).bind fun os s' => match O.frzAll os with
  | some ds => if ds.length ≤ 1000 then .ok (.fz (.tup ds)) s' else .st
  | none => .st := by
  show (f s).bind _ = _
  congr 1
  funext os s'
  dsimp only
  cases O.frzAll os <;> rfl
@[simp] theorem mLst_ap {f : M (List O)} : mLst f s = (f s).bind fun os s' => if os.length ≤ 1000 then .ok (.lst os) s' else .st := rfl
@[simp] theorem mNeg_int {f : M O} : mNeg f s = (f s).bind fun o s' => match o with
  | .fz (.int i) => .ok (.fz (.int (-i))) s'
  | _ => .st := rfl
@[simp] theorem mIsi_ap {ts : List Ty} {f : M Opnd} : mIsi ts f s = (f s).bind fun y s' => match opv y s' with
  | some x => match isiO ts x with
    | some o => .ok o s'
    | none => .st
  | none => .st := rfl
@[simp] theorem mIsC_ap {c : Str} {f : M Opnd} : mIsC c f s = (f s).bind fun y s' => match opv y s' with
  | some x => match isC c x with
    | some o => .ok o s'
    | none => .st
  | none => .st := rfl
@[simp] theorem mFld_ap {cs : List Str} {x : Str} {f : M Opnd} : mFld cs x f s = (f s).bind fun y s' => match opv y s' with
  | some o => match o.flds with
    | some (c, fs) => if c ∈ cs then match fs.lookup x with
      | some d => .ok (.fz d) s'
      | none => .st
      else .st
    | none => .st
  | none => .st := rfl
@[simp] theorem mAttr_ap {c x : Str} {fv : M O} : mAttr c x i fv s = (fv s).toT fun o s1 => match o.frz with
  | some d => match s1.ρ[i]? with
    | some (some (.obj c' fs)) => if c' = c ∧ fs.length < 1000 then .nx { s1 with ρ := s1.ρ.set i (some (.obj c (putFD x d fs))) } else .st
    | _ => .st
  | none => .st := rfl
@[simp] theorem mApp_ap {f : M O} : mApp i f s = match s.ρ[i]? with
  | some (some (.lst _)) => (f s).bind fun o s1 => match s1.ρ[i]? with
    | some (some (.lst os)) => if os.length < 100000 then .ok (.fz .non) { s1 with ρ := s1.ρ.set i (some (.lst (os ++ [o]))) } else .st
    | _ => .st
  | _ => .st := rfl
@[simp] theorem frzv_vl {d : D} : frzv (.vl d) s = some (.fz d) := rfl
@[simp] theorem frzv_pl : frzv (.pl i) ⟨ρ, n⟩ = match ρ[i]? with
  | some (some (.fz d)) => some (.fz d)
  | _ => none := by
  have e : opv (.pl i) ⟨ρ, n⟩ = match ρ[i]? with
    | some (some x) => some x
    | _ => none := rfl
  unfold frzv
  rw [e]
  cases ρ[i]? with
  | none => rfl
  | some y =>
    cases y with
    | none => rfl
    | some x => cases x <;> rfl
@[simp] theorem args_nil {j0 : Option Nat} : args j0 j [] s = some [] := rfl
@[simp] theorem args_cons {j0 : Option Nat} {o : Opnd} {os : List Opnd} : args j0 j (o :: os) s = match (if some j = j0 then opv o s else frzv o s) with
  | some x => match args j0 (j + 1) os s with
    | some xs => some (x :: xs)
    | none => none
  | none => none := rfl
@[simp] theorem frzs_nil : frzs [] s = some [] := rfl
@[simp] theorem frzs_cons {o : Opnd} {os : List Opnd} : frzs (o :: os) s = match opv o s with
  | some (.fz d) => (match frzs os s with
    | some ds => some (d :: ds)
    | none => none)
  | _ => none := rfl
@[simp] theorem mCall_none {g : FnM} {os : List Opnd} : mCall none g os s = match args none 0 os s with
  | none => .st
  | some xs => match g xs s.n with
    | .ok o _ n => .ok o { s with n := n }
    | .ex c fs _ n => .ex c fs { s with n := n }
    | .st => .st := by
  unfold mCall
  cases args none 0 os s <;> rfl
@[simp] theorem mCall_some {g : FnM} {os : List Opnd} : mCall (some j) g os s = match args (some j) 0 os s with
  | none => .st
  | some xs => match os[j]? with
    | some (.pl i) => (match g xs s.n with
      | .ok o outs n => .ok o ⟨s.ρ.set i (match outs[j]? with | some x => x | none => none), n⟩
      | .ex c fs outs n => .ex c fs ⟨s.ρ.set i (match outs[j]? with | some x => x | none => none), n⟩
      | .st => .st)
    | _ => .st := by
  unfold mCall
  cases args (some j) 0 os s <;> rfl
@[simp] theorem mMake_ap {c : Str} {g : FnM} {js : List Nat} {os : List Opnd} : mMake c g js os s = match frzs os s with
  | some ds => match g (.obj c [] :: (perm js ds).map O.fz) s.n with
    | .ok (.fz .non) (some (.obj c' fs) :: _) n => if c' = c then .ok (.fz (.obj n c fs)) { s with n := n + 1 } else .st
    | _ => .st
  | none => .st := rfl
@[simp] theorem mIts_ap {f : M O} : mIts f s = (f s).bind fun o s' => match o.frz with
  | some d => match d.its with
    | some ds => .ok ds s'
    | none => .st
  | none => .st := rfl
@[simp] theorem gSet_ap {d : D} : gSet i d s = if i < s.ρ.length then some { s with ρ := s.ρ.set i (some (.fz d)) } else none := rfl
@[simp] theorem mDict_ap {ks : List Key} {f : M (List D)} : mDict ks f s = (f s).bind fun ds s' => .ok (.dK (ks.zip ds)) s' := rfl
@[simp] theorem dctC_ap {f : M O} {g : M (List D)} : dctC f g s = (f s).bind fun o s' => match o.frz with
  | some d => (g s').bind fun ds s'' => .ok (d :: ds) s''
  | none => .st := by
  show (f s).bind _ = _
  congr 1
  funext o s'
  dsimp only
  cases o.frz <;> rfl
@[simp] theorem toFR_nx {io : List Nat} {np : Nat} : (T.nx s).toFR io np = .ok (.fz .non) (VL.handed io np s) s.n := rfl
@[simp] theorem toFR_rt {io : List Nat} {np : Nat} {o : O} : (T.rt o s).toFR io np = .ok o (VL.handed io np s) s.n := rfl
@[simp] theorem forL_nil {g : D → S → Option S} {b : MT} : forL g b [] s = .nx s := rfl
theorem forL_cons {g : D → S → Option S} {b : MT} {d : D} {ds : List D} : forL g b (d :: ds) s = match g d s with
  | none => .st
  | some s1 => match b s1 with
    | .nx s2 => forL g b ds s2
    | .ct s2 => forL g b ds s2
    | .bk s2 => .nx s2
    | t => t := rfl
@[simp] theorem perm_nil {l : List α} : perm [] l = [] := rfl
@[simp] theorem perm_cons {l : List α} {js : List Nat} : perm (j :: js) l = match l[j]? with
  | some x => x :: perm js l
  | none => perm js l := by
  unfold perm
  rw [List.filterMap_cons]
  cases l[j]? <;> rfl
end
end VL
namespace VL
open PySem PySem.Spec
open PyProof.Rows L2
/-! ### operations on data, computed -/
@[simp] theorem dat_int {i : Int} : (O.fz (.int i)).dat = some (.int i) := by simp [O.dat, D.py, SeqAt.shaped, PyData.canLay0, PyData.depth]
@[simp] theorem dat_bl {b : Bool} : (O.fz (.bl b)).dat = some (.bool b) := by simp [O.dat, D.py, SeqAt.shaped, PyData.canLay0, PyData.depth]
@[simp] theorem dat_non : (O.fz .non).dat = some .none := by simp [O.dat, D.py, SeqAt.shaped, PyData.canLay0, PyData.depth]
@[simp] theorem eqO_int {i j : Int} : eqO (.fz (.int i)) (.fz (.int j)) = some (.fz (.bl (decide (i = j)))) := by
  simp [eqO, eqDO, PyData.eqv]
  rfl
@[simp] theorem eqO_str {i j : Str} : eqO (.fz (.str i)) (.fz (.str j)) = some (.fz (.bl (decide (i = j)))) := rfl
@[simp] theorem neO_int {i j : Int} : neO (.fz (.int i)) (.fz (.int j)) = some (.fz (.bl (!decide (i = j)))) := by
  simp [neO, neDO, PyData.eqv]
  rfl
@[simp] theorem neO_str {i j : Str} : neO (.fz (.str i)) (.fz (.str j)) = some (.fz (.bl (!decide (i = j)))) := rfl
@[simp] theorem eqX_int {cs : List Str} {i j : Int} : eqX cs false (.fz (.int i)) (.fz (.int j)) = some (.fz (.bl (decide (i = j)))) := eqO_int
@[simp] theorem eqX_str {cs : List Str} {i j : Str} : eqX cs false (.fz (.str i)) (.fz (.str j)) = some (.fz (.bl (decide (i = j)))) := eqO_str
@[simp] theorem neX_int {cs : List Str} {i j : Int} : eqX cs true (.fz (.int i)) (.fz (.int j)) = some (.fz (.bl (!decide (i = j)))) := neO_int
@[simp] theorem neX_str {cs : List Str} {i j : Str} : eqX cs true (.fz (.str i)) (.fz (.str j)) = some (.fz (.bl (!decide (i = j)))) := neO_str
@[simp] theorem eqX_obj {cs : List Str} {n : Bool} {i j : Nat} {c d : Str} {fs gs : List (Str × D)} : eqX cs n (.fz (.obj i c fs)) (.fz (.obj j d gs)) = if c ∈ cs ∧ d ∈ cs then some (.fz (.bl (n != decide (i = j)))) else none := rfl
@[simp] theorem intO_ap {c : Int → Int → Bool} {g : Int → Int → D} {i j : Int} : intO c g (.fz (.int i)) (.fz (.int j)) = if c i j then some (.fz (g i j)) else none := rfl
@[simp] theorem yes2_ap {i j : Int} : yes2 i j = true := rfl
@[simp] theorem addO_int {i j : Int} : addO (.fz (.int i)) (.fz (.int j)) = some (.fz (.int (i + j))) := rfl
@[simp] theorem intCO_int {i : Int} : intCO [.fz (.int i)] = some (.fz (.int i)) := rfl
@[simp] theorem lenO_lst {ds : List D} : lenO [.fz (.lst ds)] = some (.fz (.int ds.length)) := rfl
@[simp] theorem lenO_own {ds : List D} : lenO [.lst (ds.map O.fz)] = some (.fz (.int ds.length)) := by
  simp [lenO, O.items]
@[simp] theorem isO_bl {n a b : Bool} : isO n (.fz (.bl a)) (.fz (.bl b)) = some (.fz (.bl (n != decide (a = b)))) := rfl
theorem log_lt {n k : Nat} (h : n < 2 ^ k) (hk : 0 < k) : n.log2 < k := by
  by_cases e : n = 0
  · subst e
    simpa using hk
  · exact (Nat.log2_lt e).mpr h
theorem mul_ok {i j : Int} (hi : i.natAbs < 2 ^ 100) (hj : j.natAbs < 2 ^ 100) : mulC i j = true := by
  have h1 := log_lt hi (by decide)
  have h2 := log_lt hj (by decide)
  simp only [mulC, decide_eq_true_eq]
  omega
theorem div_ok {i j : Int} (h0 : 0 < j) (hj : j.natAbs < 2 ^ 100) : divC i j = true := by
  have h2 := log_lt hj (by decide)
  simp only [divC, Bool.and_eq_true, decide_eq_true_eq]
  omega
theorem mod_ok {i j : Int} (h0 : 0 < j) : modC i j = true := by
  simpa [modC] using h0
theorem pow_ok {i j : Int} (h0 : 0 ≤ j) (h1 : j ≤ 1000) (hi : i.natAbs < 18446744073709551616) : powC i j = true := by
  simp only [powC, Bool.and_eq_true, decide_eq_true_eq]
  exact ⟨⟨h0, h1⟩, hi⟩
theorem sb_at {ds : List D} {i : Int} (h0 : 0 ≤ i) (h1 : i < ds.length) : sbO (.fz (.lst ds)) (.fz (.int i)) = (ds[i.toNat]?).map O.fz := by
  have e : sbO (.fz (.lst ds)) (.fz (.int i)) = match atI ds i with
    | some d => some (.fz d)
    | none => none := rfl
  have e2 : atI ds i = ds[i.toNat]? := by
    unfold atI ixN
    rw [if_pos h0, if_pos h1]
    rfl
  rw [e, e2]
  cases ds[i.toNat]? <;> rfl
theorem sb_at_own {ds : List D} {i : Int} (h0 : 0 ≤ i) (h1 : i < ds.length) : sbO (.lst (ds.map O.fz)) (.fz (.int i)) = (ds[i.toNat]?).map O.fz := by
  have e2 : atI ds i = ds[i.toNat]? := by
    unfold atI ixN
    rw [if_pos h0, if_pos h1]
    rfl
  have e : sbO (.lst (ds.map O.fz)) (.fz (.int i)) = idxO (.lst (ds.map O.fz)) (.fz (.int i)) := rfl
  rw [e]
  simp only [idxO, O.items, fzs_map, e2]
  cases ds[i.toNat]? <;> rfl
/-! ### the pen -/
def penD (cs : List Int) (at_ dg ct fo : Int) : List (Key × D) := [(.inr "cells", .lst (cs.map .int)), (.inr "at", .int at_), (.inr "digits", .int dg), (.inr "count", .int ct), (.inr "fold", .int fo)]
section
variable {cs : List Int} {a dg ct fo v : Int}
@[simp] theorem pen_cells : sbO (.dK (penD cs a dg ct fo)) (.fz (.str "cells")) = some (.fz (.lst (cs.map .int))) := by simp [sbO, dgetO, D.key, getD, penD]
@[simp] theorem pen_at : sbO (.dK (penD cs a dg ct fo)) (.fz (.str "at")) = some (.fz (.int a)) := by simp [sbO, dgetO, D.key, getD, penD]
@[simp] theorem pen_digits : sbO (.dK (penD cs a dg ct fo)) (.fz (.str "digits")) = some (.fz (.int dg)) := by simp [sbO, dgetO, D.key, getD, penD]
@[simp] theorem pen_count : sbO (.dK (penD cs a dg ct fo)) (.fz (.str "count")) = some (.fz (.int ct)) := by simp [sbO, dgetO, D.key, getD, penD]
@[simp] theorem pen_fold : sbO (.dK (penD cs a dg ct fo)) (.fz (.str "fold")) = some (.fz (.int fo)) := by simp [sbO, dgetO, D.key, getD, penD]
@[simp] theorem put_at : putO (.dK (penD cs a dg ct fo)) (.fz (.str "at")) (.int v) = some (.dK (penD cs v dg ct fo)) := by simp [putO, D.key, putD, penD]
@[simp] theorem put_digits : putO (.dK (penD cs a dg ct fo)) (.fz (.str "digits")) (.int v) = some (.dK (penD cs a v ct fo)) := by simp [putO, D.key, putD, penD]
@[simp] theorem put_count : putO (.dK (penD cs a dg ct fo)) (.fz (.str "count")) (.int v) = some (.dK (penD cs a dg v fo)) := by simp [putO, D.key, putD, penD]
@[simp] theorem put_fold : putO (.dK (penD cs a dg ct fo)) (.fz (.str "fold")) (.int v) = some (.dK (penD cs a dg ct v)) := by simp [putO, D.key, putD, penD]
end
/-- a pen behind k draws -/
def isPen (k : Nat) (o : O) : Prop := ∃ (cs : List Int) (a dg fo : Int), o = .dK (penD cs a dg k fo) ∧ 0 ≤ a ∧ 0 ≤ dg ∧ 0 ≤ fo ∧ fo < 2 ^ 40
end VL
namespace Hd
open PySem PySem.Spec
open PyProof.Rows L2
def top (i : Nat) : Stmt := PySem.Challenge.pw_shelltrees_k82_classes_made_by_hand.main.body.getD i (.Pass ⟨0, 0, 0, 0⟩)
abbrev s_copied : Stmt := top 1
def d_copied : He.DefD := ⟨("copied", none), "copied", "copied", defArgs s_copied, defBody s_copied, defScope s_copied, [], []⟩
abbrev s__law_pen : Stmt := top 41
def d__law_pen : He.DefD := ⟨("_law_pen", none), "_law_pen", "_law_pen", defArgs s__law_pen, defBody s__law_pen, defScope s__law_pen, [], []⟩
abbrev s__law_draw : Stmt := top 42
def d__law_draw : He.DefD := ⟨("_law_draw", none), "_law_draw", "_law_draw", defArgs s__law_draw, defBody s__law_draw, defScope s__law_draw, [], []⟩
abbrev s__law_pick : Stmt := top 43
def d__law_pick : He.DefD := ⟨("_law_pick", none), "_law_pick", "_law_pick", defArgs s__law_pick, defBody s__law_pick, defScope s__law_pick, [], []⟩
abbrev s__law_made_a : Stmt := top 44
def d__law_made_a : He.DefD := ⟨("_law_made_a", none), "_law_made_a", "_law_made_a", defArgs s__law_made_a, defBody s__law_made_a, defScope s__law_made_a, [], []⟩
abbrev s__law_made_b : Stmt := top 45
def d__law_made_b : He.DefD := ⟨("_law_made_b", none), "_law_made_b", "_law_made_b", defArgs s__law_made_b, defBody s__law_made_b, defScope s__law_made_b, [], []⟩
abbrev s__law_made_c : Stmt := top 46
def d__law_made_c : He.DefD := ⟨("_law_made_c", none), "_law_made_c", "_law_made_c", defArgs s__law_made_c, defBody s__law_made_c, defScope s__law_made_c, [], []⟩
abbrev s__law_value : Stmt := top 47
def d__law_value : He.DefD := ⟨("_law_value", none), "_law_value", "_law_value", defArgs s__law_value, defBody s__law_value, defScope s__law_value, [], []⟩
abbrev s__law_copy : Stmt := top 48
def d__law_copy : He.DefD := ⟨("_law_copy", none), "_law_copy", "_law_copy", defArgs s__law_copy, defBody s__law_copy, defScope s__law_copy, [], []⟩
abbrev s_law : Stmt := top 49
def d_law : He.DefD := ⟨("law", none), "law", "law", defArgs s_law, defBody s_law, defScope s_law, [], []⟩
abbrev s_Smith___init__ : Stmt := inClass (top 3) 0
def d_Smith___init__ : He.DefD := ⟨("Smith", some "__init__"), "__init__", "Smith.__init__", defArgs s_Smith___init__, defBody s_Smith___init__, defScope s_Smith___init__, [], []⟩
abbrev s_Solved___init__ : Stmt := inClass (top 4) 0
def d_Solved___init__ : He.DefD := ⟨("Solved", some "__init__"), "__init__", "Solved.__init__", defArgs s_Solved___init__, defBody s_Solved___init__, defScope s_Solved___init__, [], []⟩
abbrev s_Clash___init__ : Stmt := inClass (top 5) 0
def d_Clash___init__ : He.DefD := ⟨("Clash", some "__init__"), "__init__", "Clash.__init__", defArgs s_Clash___init__, defBody s_Clash___init__, defScope s_Clash___init__, [], []⟩
abbrev s_Met___init__ : Stmt := inClass (top 7) 0
def d_Met___init__ : He.DefD := ⟨("Met", some "__init__"), "__init__", "Met.__init__", defArgs s_Met___init__, defBody s_Met___init__, defScope s_Met___init__, [], []⟩
abbrev s_Barred___init__ : Stmt := inClass (top 8) 0
def d_Barred___init__ : He.DefD := ⟨("Barred", some "__init__"), "__init__", "Barred.__init__", defArgs s_Barred___init__, defBody s_Barred___init__, defScope s_Barred___init__, [], []⟩
abbrev s_Led___init__ : Stmt := inClass (top 10) 0
def d_Led___init__ : He.DefD := ⟨("Led", some "__init__"), "__init__", "Led.__init__", defArgs s_Led___init__, defBody s_Led___init__, defScope s_Led___init__, [], []⟩
abbrev s_Apart___init__ : Stmt := inClass (top 11) 0
def d_Apart___init__ : He.DefD := ⟨("Apart", some "__init__"), "__init__", "Apart.__init__", defArgs s_Apart___init__, defBody s_Apart___init__, defScope s_Apart___init__, [], []⟩
abbrev s_Group___init__ : Stmt := inClass (top 12) 0
def d_Group___init__ : He.DefD := ⟨("Group", some "__init__"), "__init__", "Group.__init__", defArgs s_Group___init__, defBody s_Group___init__, defScope s_Group___init__, [], []⟩
abbrev s_Holes___init__ : Stmt := inClass (top 14) 0
def d_Holes___init__ : He.DefD := ⟨("Holes", some "__init__"), "__init__", "Holes.__init__", defArgs s_Holes___init__, defBody s_Holes___init__, defScope s_Holes___init__, [], []⟩
abbrev s_Filled___init__ : Stmt := inClass (top 15) 0
def d_Filled___init__ : He.DefD := ⟨("Filled", some "__init__"), "__init__", "Filled.__init__", defArgs s_Filled___init__, defBody s_Filled___init__, defScope s_Filled___init__, [], []⟩
abbrev s_Open___init__ : Stmt := inClass (top 16) 0
def d_Open___init__ : He.DefD := ⟨("Open", some "__init__"), "__init__", "Open.__init__", defArgs s_Open___init__, defBody s_Open___init__, defScope s_Open___init__, [], []⟩
abbrev s_Split___init__ : Stmt := inClass (top 18) 0
def d_Split___init__ : He.DefD := ⟨("Split", some "__init__"), "__init__", "Split.__init__", defArgs s_Split___init__, defBody s_Split___init__, defScope s_Split___init__, [], []⟩
abbrev s_Nearest___init__ : Stmt := inClass (top 19) 0
def d_Nearest___init__ : He.DefD := ⟨("Nearest", some "__init__"), "__init__", "Nearest.__init__", defArgs s_Nearest___init__, defBody s_Nearest___init__, defScope s_Nearest___init__, [], []⟩
abbrev s_Homotopy___init__ : Stmt := inClass (top 21) 0
def d_Homotopy___init__ : He.DefD := ⟨("Homotopy", some "__init__"), "__init__", "Homotopy.__init__", defArgs s_Homotopy___init__, defBody s_Homotopy___init__, defScope s_Homotopy___init__, [], []⟩
abbrev s_Clocks___init__ : Stmt := inClass (top 22) 0
def d_Clocks___init__ : He.DefD := ⟨("Clocks", some "__init__"), "__init__", "Clocks.__init__", defArgs s_Clocks___init__, defBody s_Clocks___init__, defScope s_Clocks___init__, [], []⟩
abbrev s_Reduction___init__ : Stmt := inClass (top 24) 0
def d_Reduction___init__ : He.DefD := ⟨("Reduction", some "__init__"), "__init__", "Reduction.__init__", defArgs s_Reduction___init__, defBody s_Reduction___init__, defScope s_Reduction___init__, [], []⟩
abbrev s_Least___init__ : Stmt := inClass (top 26) 0
def d_Least___init__ : He.DefD := ⟨("Least", some "__init__"), "__init__", "Least.__init__", defArgs s_Least___init__, defBody s_Least___init__, defScope s_Least___init__, [], []⟩
abbrev s_Unfilled___init__ : Stmt := inClass (top 27) 0
def d_Unfilled___init__ : He.DefD := ⟨("Unfilled", some "__init__"), "__init__", "Unfilled.__init__", defArgs s_Unfilled___init__, defBody s_Unfilled___init__, defScope s_Unfilled___init__, [], []⟩
abbrev s_Whole___init__ : Stmt := inClass (top 28) 0
def d_Whole___init__ : He.DefD := ⟨("Whole", some "__init__"), "__init__", "Whole.__init__", defArgs s_Whole___init__, defBody s_Whole___init__, defScope s_Whole___init__, [], []⟩
abbrev s_Straight___init__ : Stmt := inClass (top 29) 0
def d_Straight___init__ : He.DefD := ⟨("Straight", some "__init__"), "__init__", "Straight.__init__", defArgs s_Straight___init__, defBody s_Straight___init__, defScope s_Straight___init__, [], []⟩
abbrev s_Twisted___init__ : Stmt := inClass (top 30) 0
def d_Twisted___init__ : He.DefD := ⟨("Twisted", some "__init__"), "__init__", "Twisted.__init__", defArgs s_Twisted___init__, defBody s_Twisted___init__, defScope s_Twisted___init__, [], []⟩
abbrev s_Alike___init__ : Stmt := inClass (top 31) 0
def d_Alike___init__ : He.DefD := ⟨("Alike", some "__init__"), "__init__", "Alike.__init__", defArgs s_Alike___init__, defBody s_Alike___init__, defScope s_Alike___init__, [], []⟩
abbrev s_Free___init__ : Stmt := inClass (top 33) 0
def d_Free___init__ : He.DefD := ⟨("Free", some "__init__"), "__init__", "Free.__init__", defArgs s_Free___init__, defBody s_Free___init__, defScope s_Free___init__, [], []⟩
abbrev s_Round___init__ : Stmt := inClass (top 34) 0
def d_Round___init__ : He.DefD := ⟨("Round", some "__init__"), "__init__", "Round.__init__", defArgs s_Round___init__, defBody s_Round___init__, defScope s_Round___init__, [], []⟩
abbrev s_Joins___init__ : Stmt := inClass (top 35) 0
def d_Joins___init__ : He.DefD := ⟨("Joins", some "__init__"), "__init__", "Joins.__init__", defArgs s_Joins___init__, defBody s_Joins___init__, defScope s_Joins___init__, [], []⟩
abbrev s_Gap___init__ : Stmt := inClass (top 36) 0
def d_Gap___init__ : He.DefD := ⟨("Gap", some "__init__"), "__init__", "Gap.__init__", defArgs s_Gap___init__, defBody s_Gap___init__, defScope s_Gap___init__, [], []⟩
abbrev s_Greatest___init__ : Stmt := inClass (top 37) 0
def d_Greatest___init__ : He.DefD := ⟨("Greatest", some "__init__"), "__init__", "Greatest.__init__", defArgs s_Greatest___init__, defBody s_Greatest___init__, defScope s_Greatest___init__, [], []⟩
abbrev s_Reduced___init__ : Stmt := inClass (top 39) 0
def d_Reduced___init__ : He.DefD := ⟨("Reduced", some "__init__"), "__init__", "Reduced.__init__", defArgs s_Reduced___init__, defBody s_Reduced___init__, defScope s_Reduced___init__, [], []⟩
def fn : List He.DefD := [d_copied, d__law_pen, d__law_draw, d__law_pick, d__law_made_a, d__law_made_b, d__law_made_c, d__law_value, d__law_copy, d_law, d_Smith___init__, d_Solved___init__, d_Clash___init__, d_Met___init__, d_Barred___init__, d_Led___init__, d_Apart___init__, d_Group___init__, d_Holes___init__, d_Filled___init__, d_Open___init__, d_Split___init__, d_Nearest___init__, d_Homotopy___init__, d_Clocks___init__, d_Reduction___init__, d_Least___init__, d_Unfilled___init__, d_Whole___init__, d_Straight___init__, d_Twisted___init__, d_Alike___init__, d_Free___init__, d_Round___init__, d_Joins___init__, d_Gap___init__, d_Greatest___init__, d_Reduced___init__]
def clss : List Str := (["Smith", "Solved", "Clash", "Met", "Barred", "Led", "Apart", "Group", "Holes", "Filled", "Open", "Split", "Nearest", "Homotopy", "Clocks", "Reduction", "Least", "Unfilled", "Whole", "Straight", "Twisted", "Alike", "Free", "Round", "Joins"] : List Str) ++ (["Gap", "Greatest", "Reduced"] : List Str)
def cs_left : List Str := ["Smith"]
def cs_numbers : List Str := ["Smith"]
def cs_right : List Str := ["Smith"]
def cs_row : List Str := ["Solved", "Least", "Twisted", "Alike"]
def cs_weights : List Str := ["Clash"]
def cs_current : List Str := ["Met"]
def cs_heights : List Str := ["Met"]
def cs_measure : List Str := ["Barred", "Open", "Least", "Unfilled", "Alike", "Gap"]
def cs_firing : List Str := ["Led", "Reduced"]
def cs_clock : List Str := ["Apart"]
def cs_free : List Str := ["Group", "Holes"]
def cs_twists : List Str := ["Group", "Holes"]
def cs_chain : List Str := ["Filled", "Whole", "Round"]
def cs_above : List Str := ["Split"]
def cs_below : List Str := ["Split"]
def cs_rest : List Str := ["Split"]
def cs_near : List Str := ["Nearest"]
def cs_square : List Str := ["Nearest"]
def cs_tables : List Str := ["Homotopy", "Clocks"]
def cs_shell : List Str := ["Reduction"]
def cs_down : List Str := ["Reduction"]
def cs_up : List Str := ["Reduction"]
def cs_fill : List Str := ["Reduction"]
def cs_many : List Str := ["Straight"]
def cs_lot : List Str := ["Twisted"]
def cs_filling : List Str := ["Alike"]
def cs_rows : List Str := ["Free"]
def cs_chains : List Str := ["Joins"]
def cs_tree : List Str := ["Greatest"]
def cs_rounds : List Str := ["Greatest"]
def cs_heap : List Str := ["Reduced"]
def glos : List Str := (["copied", "_law_pen", "_law_draw", "_law_pick", "_law_made_a", "_law_made_b", "_law_made_c", "_law_value", "_law_copy", "law", "Smith", "Solved", "Clash", "Met", "Barred", "Led", "Apart", "Group", "Holes", "Filled", "Open", "Split", "Nearest", "Homotopy", "Clocks"] : List Str) ++ (["Reduction", "Least", "Unfilled", "Whole", "Straight", "Twisted", "Alike", "Free", "Round", "Joins", "Gap", "Greatest", "Reduced"] : List Str)
def frees : List Str := ["int", "isinstance", "len", "list", "range", "repr", "tuple"]
def fas : List (List He.Fa) := [glos.map He.Fa.glo, frees.map He.Fa.free, [], clss.map He.Fa.cls, clss.map He.Fa.mkr, cs_left.map fun c => .noat c "left", cs_numbers.map fun c => .noat c "numbers", cs_right.map fun c => .noat c "right", cs_row.map fun c => .noat c "row", cs_weights.map fun c => .noat c "weights", cs_current.map fun c => .noat c "current", cs_heights.map fun c => .noat c "heights", cs_measure.map fun c => .noat c "measure", cs_firing.map fun c => .noat c "firing", cs_clock.map fun c => .noat c "clock", cs_free.map fun c => .noat c "free", cs_twists.map fun c => .noat c "twists", cs_chain.map fun c => .noat c "chain", cs_above.map fun c => .noat c "above", cs_below.map fun c => .noat c "below", cs_rest.map fun c => .noat c "rest", cs_near.map fun c => .noat c "near", cs_square.map fun c => .noat c "square", cs_tables.map fun c => .noat c "tables", cs_shell.map fun c => .noat c "shell", cs_down.map fun c => .noat c "down", cs_up.map fun c => .noat c "up", cs_fill.map fun c => .noat c "fill", cs_many.map fun c => .noat c "many", cs_lot.map fun c => .noat c "lot", cs_filling.map fun c => .noat c "filling", cs_rows.map fun c => .noat c "rows", cs_chains.map fun c => .noat c "chains", cs_tree.map fun c => .noat c "tree", cs_rounds.map fun c => .noat c "rounds", cs_heap.map fun c => .noat c "heap"]
def fa : List He.Fa := fas.flatten
def loose0 : List PySem.Str := ["copied", "Smith", "Solved", "Clash", "Met", "Barred", "Led", "Apart", "Group", "Holes", "Filled", "Open", "Split", "Nearest", "Homotopy", "Clocks", "Reduction", "Least", "Unfilled", "Whole", "Straight", "Twisted", "Alike", "Free", "Round", "Joins", "Gap", "Greatest", "Reduced", "_law_pen"]
def loose1 : List PySem.Str := ["_law_draw", "_law_pick", "_law_made_a", "_law_made_b", "_law_made_c", "_law_value", "_law_copy"]
def loose : List PySem.Str := loose0 ++ loose1
abbrev R : PySem.W.OpenRow := PySem.W.OpenLaw.row PySem.Challenge.rw_shelltrees_k82_classes_made_by_hand
abbrev mo : PySem.W.Frag → Bool := VL.moB clss
abbrev hk : PySem.W.Hook := VL.hookX 4 fa fn mo
def ob (s : PySem.W.SharedT) : He.AlD := VL.obsX 4 fa fn mo (HandSHeadRun.getT s)
theorem ob_eq (s : PySem.W.SharedT) : ob s = hk.obs s.abs := VL.obsX_eq (HandSHeadRun.getT_eq s)
theorem run (w : World) : HandSHeadRun.RunEq R (PySem.W.view R.prog [49]) hk ob 40000 loose w := by
  intro os
  kernel_rfl
structure Hy (K : PySem.W.Frag) (mg : Str → Option Value) : Prop where
  says : He.SaysD fa fn K
  mof : VL.MoF K clss
  glo : ∀ x ∈ glos, mg x = some (.ref (He.ga K x))
  fre : ∀ x ∈ frees, mg x = none
namespace Hy
variable {K : PySem.W.Frag} {mg : Str → Option Value}
theorem g_copied (h : Hy K mg) : mg "copied" = some (.ref (He.ga K "copied")) := h.glo _ (by decide +kernel)
theorem g__law_pen (h : Hy K mg) : mg "_law_pen" = some (.ref (He.ga K "_law_pen")) := h.glo _ (by decide +kernel)
theorem g__law_draw (h : Hy K mg) : mg "_law_draw" = some (.ref (He.ga K "_law_draw")) := h.glo _ (by decide +kernel)
theorem g__law_pick (h : Hy K mg) : mg "_law_pick" = some (.ref (He.ga K "_law_pick")) := h.glo _ (by decide +kernel)
theorem g__law_made_a (h : Hy K mg) : mg "_law_made_a" = some (.ref (He.ga K "_law_made_a")) := h.glo _ (by decide +kernel)
theorem g__law_made_b (h : Hy K mg) : mg "_law_made_b" = some (.ref (He.ga K "_law_made_b")) := h.glo _ (by decide +kernel)
theorem g__law_made_c (h : Hy K mg) : mg "_law_made_c" = some (.ref (He.ga K "_law_made_c")) := h.glo _ (by decide +kernel)
theorem g__law_value (h : Hy K mg) : mg "_law_value" = some (.ref (He.ga K "_law_value")) := h.glo _ (by decide +kernel)
theorem g__law_copy (h : Hy K mg) : mg "_law_copy" = some (.ref (He.ga K "_law_copy")) := h.glo _ (by decide +kernel)
theorem g_law (h : Hy K mg) : mg "law" = some (.ref (He.ga K "law")) := h.glo _ (by decide +kernel)
theorem g_Smith (h : Hy K mg) : mg "Smith" = some (.ref (He.ga K "Smith")) := h.glo _ (by decide +kernel)
theorem g_Solved (h : Hy K mg) : mg "Solved" = some (.ref (He.ga K "Solved")) := h.glo _ (by decide +kernel)
theorem g_Clash (h : Hy K mg) : mg "Clash" = some (.ref (He.ga K "Clash")) := h.glo _ (by decide +kernel)
theorem g_Met (h : Hy K mg) : mg "Met" = some (.ref (He.ga K "Met")) := h.glo _ (by decide +kernel)
theorem g_Barred (h : Hy K mg) : mg "Barred" = some (.ref (He.ga K "Barred")) := h.glo _ (by decide +kernel)
theorem g_Led (h : Hy K mg) : mg "Led" = some (.ref (He.ga K "Led")) := h.glo _ (by decide +kernel)
theorem g_Apart (h : Hy K mg) : mg "Apart" = some (.ref (He.ga K "Apart")) := h.glo _ (by decide +kernel)
theorem g_Group (h : Hy K mg) : mg "Group" = some (.ref (He.ga K "Group")) := h.glo _ (by decide +kernel)
theorem g_Holes (h : Hy K mg) : mg "Holes" = some (.ref (He.ga K "Holes")) := h.glo _ (by decide +kernel)
theorem g_Filled (h : Hy K mg) : mg "Filled" = some (.ref (He.ga K "Filled")) := h.glo _ (by decide +kernel)
theorem g_Open (h : Hy K mg) : mg "Open" = some (.ref (He.ga K "Open")) := h.glo _ (by decide +kernel)
theorem g_Split (h : Hy K mg) : mg "Split" = some (.ref (He.ga K "Split")) := h.glo _ (by decide +kernel)
theorem g_Nearest (h : Hy K mg) : mg "Nearest" = some (.ref (He.ga K "Nearest")) := h.glo _ (by decide +kernel)
theorem g_Homotopy (h : Hy K mg) : mg "Homotopy" = some (.ref (He.ga K "Homotopy")) := h.glo _ (by decide +kernel)
theorem g_Clocks (h : Hy K mg) : mg "Clocks" = some (.ref (He.ga K "Clocks")) := h.glo _ (by decide +kernel)
theorem g_Reduction (h : Hy K mg) : mg "Reduction" = some (.ref (He.ga K "Reduction")) := h.glo _ (by decide +kernel)
theorem g_Least (h : Hy K mg) : mg "Least" = some (.ref (He.ga K "Least")) := h.glo _ (by decide +kernel)
theorem g_Unfilled (h : Hy K mg) : mg "Unfilled" = some (.ref (He.ga K "Unfilled")) := h.glo _ (by decide +kernel)
theorem g_Whole (h : Hy K mg) : mg "Whole" = some (.ref (He.ga K "Whole")) := h.glo _ (by decide +kernel)
theorem g_Straight (h : Hy K mg) : mg "Straight" = some (.ref (He.ga K "Straight")) := h.glo _ (by decide +kernel)
theorem g_Twisted (h : Hy K mg) : mg "Twisted" = some (.ref (He.ga K "Twisted")) := h.glo _ (by decide +kernel)
theorem g_Alike (h : Hy K mg) : mg "Alike" = some (.ref (He.ga K "Alike")) := h.glo _ (by decide +kernel)
theorem g_Free (h : Hy K mg) : mg "Free" = some (.ref (He.ga K "Free")) := h.glo _ (by decide +kernel)
theorem g_Round (h : Hy K mg) : mg "Round" = some (.ref (He.ga K "Round")) := h.glo _ (by decide +kernel)
theorem g_Joins (h : Hy K mg) : mg "Joins" = some (.ref (He.ga K "Joins")) := h.glo _ (by decide +kernel)
theorem g_Gap (h : Hy K mg) : mg "Gap" = some (.ref (He.ga K "Gap")) := h.glo _ (by decide +kernel)
theorem g_Greatest (h : Hy K mg) : mg "Greatest" = some (.ref (He.ga K "Greatest")) := h.glo _ (by decide +kernel)
theorem g_Reduced (h : Hy K mg) : mg "Reduced" = some (.ref (He.ga K "Reduced")) := h.glo _ (by decide +kernel)
theorem f_int (h : Hy K mg) : mg "int" = none := h.fre _ (by decide +kernel)
theorem f_isinstance (h : Hy K mg) : mg "isinstance" = none := h.fre _ (by decide +kernel)
theorem f_len (h : Hy K mg) : mg "len" = none := h.fre _ (by decide +kernel)
theorem f_list (h : Hy K mg) : mg "list" = none := h.fre _ (by decide +kernel)
theorem f_range (h : Hy K mg) : mg "range" = none := h.fre _ (by decide +kernel)
theorem f_repr (h : Hy K mg) : mg "repr" = none := h.fre _ (by decide +kernel)
theorem f_tuple (h : Hy K mg) : mg "tuple" = none := h.fre _ (by decide +kernel)
theorem sys (h : Hy K mg) : VL.SysD K := h.mof.sys
theorem eqs (h : Hy K mg) : VL.EqCs K clss := h.mof.eqs
theorem isc (h : Hy K mg) : ∀ c ∈ clss, VL.IsC K c := h.mof.isc fun c hc => He.cls_ok (VL.says_mem h.says (VL.in_flat 3 rfl (List.mem_map_of_mem hc)))
theorem mkc (h : Hy K mg) : ∀ c ∈ clss, Mk K (He.ga K c) (He.ma K (He.ga K c) "__init__") := fun c hc => He.mkr_ok (VL.says_mem h.says (VL.in_flat 4 rfl (List.mem_map_of_mem hc)))
theorem n_left (h : Hy K mg) : ∀ c ∈ cs_left, NoAttr K (He.ga K c) "left" := fun c hc => He.noat_ok (VL.says_mem h.says (VL.in_flat 5 rfl (List.mem_map_of_mem (f := fun c => He.Fa.noat c "left") hc)))
theorem a_left (h : Hy K mg) : ∀ c ∈ cs_left, Cls K (He.ga K c) ∧ NoAttr K (He.ga K c) "left" := fun c hc => ⟨(h.isc c ((by decide +kernel : ∀ c ∈ cs_left, c ∈ clss) c hc)).cls, h.n_left c hc⟩
theorem n_numbers (h : Hy K mg) : ∀ c ∈ cs_numbers, NoAttr K (He.ga K c) "numbers" := fun c hc => He.noat_ok (VL.says_mem h.says (VL.in_flat 6 rfl (List.mem_map_of_mem (f := fun c => He.Fa.noat c "numbers") hc)))
theorem a_numbers (h : Hy K mg) : ∀ c ∈ cs_numbers, Cls K (He.ga K c) ∧ NoAttr K (He.ga K c) "numbers" := fun c hc => ⟨(h.isc c ((by decide +kernel : ∀ c ∈ cs_numbers, c ∈ clss) c hc)).cls, h.n_numbers c hc⟩
theorem n_right (h : Hy K mg) : ∀ c ∈ cs_right, NoAttr K (He.ga K c) "right" := fun c hc => He.noat_ok (VL.says_mem h.says (VL.in_flat 7 rfl (List.mem_map_of_mem (f := fun c => He.Fa.noat c "right") hc)))
theorem a_right (h : Hy K mg) : ∀ c ∈ cs_right, Cls K (He.ga K c) ∧ NoAttr K (He.ga K c) "right" := fun c hc => ⟨(h.isc c ((by decide +kernel : ∀ c ∈ cs_right, c ∈ clss) c hc)).cls, h.n_right c hc⟩
theorem n_row (h : Hy K mg) : ∀ c ∈ cs_row, NoAttr K (He.ga K c) "row" := fun c hc => He.noat_ok (VL.says_mem h.says (VL.in_flat 8 rfl (List.mem_map_of_mem (f := fun c => He.Fa.noat c "row") hc)))
theorem a_row (h : Hy K mg) : ∀ c ∈ cs_row, Cls K (He.ga K c) ∧ NoAttr K (He.ga K c) "row" := fun c hc => ⟨(h.isc c ((by decide +kernel : ∀ c ∈ cs_row, c ∈ clss) c hc)).cls, h.n_row c hc⟩
theorem n_weights (h : Hy K mg) : ∀ c ∈ cs_weights, NoAttr K (He.ga K c) "weights" := fun c hc => He.noat_ok (VL.says_mem h.says (VL.in_flat 9 rfl (List.mem_map_of_mem (f := fun c => He.Fa.noat c "weights") hc)))
theorem a_weights (h : Hy K mg) : ∀ c ∈ cs_weights, Cls K (He.ga K c) ∧ NoAttr K (He.ga K c) "weights" := fun c hc => ⟨(h.isc c ((by decide +kernel : ∀ c ∈ cs_weights, c ∈ clss) c hc)).cls, h.n_weights c hc⟩
theorem n_current (h : Hy K mg) : ∀ c ∈ cs_current, NoAttr K (He.ga K c) "current" := fun c hc => He.noat_ok (VL.says_mem h.says (VL.in_flat 10 rfl (List.mem_map_of_mem (f := fun c => He.Fa.noat c "current") hc)))
theorem a_current (h : Hy K mg) : ∀ c ∈ cs_current, Cls K (He.ga K c) ∧ NoAttr K (He.ga K c) "current" := fun c hc => ⟨(h.isc c ((by decide +kernel : ∀ c ∈ cs_current, c ∈ clss) c hc)).cls, h.n_current c hc⟩
theorem n_heights (h : Hy K mg) : ∀ c ∈ cs_heights, NoAttr K (He.ga K c) "heights" := fun c hc => He.noat_ok (VL.says_mem h.says (VL.in_flat 11 rfl (List.mem_map_of_mem (f := fun c => He.Fa.noat c "heights") hc)))
theorem a_heights (h : Hy K mg) : ∀ c ∈ cs_heights, Cls K (He.ga K c) ∧ NoAttr K (He.ga K c) "heights" := fun c hc => ⟨(h.isc c ((by decide +kernel : ∀ c ∈ cs_heights, c ∈ clss) c hc)).cls, h.n_heights c hc⟩
theorem n_measure (h : Hy K mg) : ∀ c ∈ cs_measure, NoAttr K (He.ga K c) "measure" := fun c hc => He.noat_ok (VL.says_mem h.says (VL.in_flat 12 rfl (List.mem_map_of_mem (f := fun c => He.Fa.noat c "measure") hc)))
theorem a_measure (h : Hy K mg) : ∀ c ∈ cs_measure, Cls K (He.ga K c) ∧ NoAttr K (He.ga K c) "measure" := fun c hc => ⟨(h.isc c ((by decide +kernel : ∀ c ∈ cs_measure, c ∈ clss) c hc)).cls, h.n_measure c hc⟩
theorem n_firing (h : Hy K mg) : ∀ c ∈ cs_firing, NoAttr K (He.ga K c) "firing" := fun c hc => He.noat_ok (VL.says_mem h.says (VL.in_flat 13 rfl (List.mem_map_of_mem (f := fun c => He.Fa.noat c "firing") hc)))
theorem a_firing (h : Hy K mg) : ∀ c ∈ cs_firing, Cls K (He.ga K c) ∧ NoAttr K (He.ga K c) "firing" := fun c hc => ⟨(h.isc c ((by decide +kernel : ∀ c ∈ cs_firing, c ∈ clss) c hc)).cls, h.n_firing c hc⟩
theorem n_clock (h : Hy K mg) : ∀ c ∈ cs_clock, NoAttr K (He.ga K c) "clock" := fun c hc => He.noat_ok (VL.says_mem h.says (VL.in_flat 14 rfl (List.mem_map_of_mem (f := fun c => He.Fa.noat c "clock") hc)))
theorem a_clock (h : Hy K mg) : ∀ c ∈ cs_clock, Cls K (He.ga K c) ∧ NoAttr K (He.ga K c) "clock" := fun c hc => ⟨(h.isc c ((by decide +kernel : ∀ c ∈ cs_clock, c ∈ clss) c hc)).cls, h.n_clock c hc⟩
theorem n_free (h : Hy K mg) : ∀ c ∈ cs_free, NoAttr K (He.ga K c) "free" := fun c hc => He.noat_ok (VL.says_mem h.says (VL.in_flat 15 rfl (List.mem_map_of_mem (f := fun c => He.Fa.noat c "free") hc)))
theorem a_free (h : Hy K mg) : ∀ c ∈ cs_free, Cls K (He.ga K c) ∧ NoAttr K (He.ga K c) "free" := fun c hc => ⟨(h.isc c ((by decide +kernel : ∀ c ∈ cs_free, c ∈ clss) c hc)).cls, h.n_free c hc⟩
theorem n_twists (h : Hy K mg) : ∀ c ∈ cs_twists, NoAttr K (He.ga K c) "twists" := fun c hc => He.noat_ok (VL.says_mem h.says (VL.in_flat 16 rfl (List.mem_map_of_mem (f := fun c => He.Fa.noat c "twists") hc)))
theorem a_twists (h : Hy K mg) : ∀ c ∈ cs_twists, Cls K (He.ga K c) ∧ NoAttr K (He.ga K c) "twists" := fun c hc => ⟨(h.isc c ((by decide +kernel : ∀ c ∈ cs_twists, c ∈ clss) c hc)).cls, h.n_twists c hc⟩
theorem n_chain (h : Hy K mg) : ∀ c ∈ cs_chain, NoAttr K (He.ga K c) "chain" := fun c hc => He.noat_ok (VL.says_mem h.says (VL.in_flat 17 rfl (List.mem_map_of_mem (f := fun c => He.Fa.noat c "chain") hc)))
theorem a_chain (h : Hy K mg) : ∀ c ∈ cs_chain, Cls K (He.ga K c) ∧ NoAttr K (He.ga K c) "chain" := fun c hc => ⟨(h.isc c ((by decide +kernel : ∀ c ∈ cs_chain, c ∈ clss) c hc)).cls, h.n_chain c hc⟩
theorem n_above (h : Hy K mg) : ∀ c ∈ cs_above, NoAttr K (He.ga K c) "above" := fun c hc => He.noat_ok (VL.says_mem h.says (VL.in_flat 18 rfl (List.mem_map_of_mem (f := fun c => He.Fa.noat c "above") hc)))
theorem a_above (h : Hy K mg) : ∀ c ∈ cs_above, Cls K (He.ga K c) ∧ NoAttr K (He.ga K c) "above" := fun c hc => ⟨(h.isc c ((by decide +kernel : ∀ c ∈ cs_above, c ∈ clss) c hc)).cls, h.n_above c hc⟩
theorem n_below (h : Hy K mg) : ∀ c ∈ cs_below, NoAttr K (He.ga K c) "below" := fun c hc => He.noat_ok (VL.says_mem h.says (VL.in_flat 19 rfl (List.mem_map_of_mem (f := fun c => He.Fa.noat c "below") hc)))
theorem a_below (h : Hy K mg) : ∀ c ∈ cs_below, Cls K (He.ga K c) ∧ NoAttr K (He.ga K c) "below" := fun c hc => ⟨(h.isc c ((by decide +kernel : ∀ c ∈ cs_below, c ∈ clss) c hc)).cls, h.n_below c hc⟩
theorem n_rest (h : Hy K mg) : ∀ c ∈ cs_rest, NoAttr K (He.ga K c) "rest" := fun c hc => He.noat_ok (VL.says_mem h.says (VL.in_flat 20 rfl (List.mem_map_of_mem (f := fun c => He.Fa.noat c "rest") hc)))
theorem a_rest (h : Hy K mg) : ∀ c ∈ cs_rest, Cls K (He.ga K c) ∧ NoAttr K (He.ga K c) "rest" := fun c hc => ⟨(h.isc c ((by decide +kernel : ∀ c ∈ cs_rest, c ∈ clss) c hc)).cls, h.n_rest c hc⟩
theorem n_near (h : Hy K mg) : ∀ c ∈ cs_near, NoAttr K (He.ga K c) "near" := fun c hc => He.noat_ok (VL.says_mem h.says (VL.in_flat 21 rfl (List.mem_map_of_mem (f := fun c => He.Fa.noat c "near") hc)))
theorem a_near (h : Hy K mg) : ∀ c ∈ cs_near, Cls K (He.ga K c) ∧ NoAttr K (He.ga K c) "near" := fun c hc => ⟨(h.isc c ((by decide +kernel : ∀ c ∈ cs_near, c ∈ clss) c hc)).cls, h.n_near c hc⟩
theorem n_square (h : Hy K mg) : ∀ c ∈ cs_square, NoAttr K (He.ga K c) "square" := fun c hc => He.noat_ok (VL.says_mem h.says (VL.in_flat 22 rfl (List.mem_map_of_mem (f := fun c => He.Fa.noat c "square") hc)))
theorem a_square (h : Hy K mg) : ∀ c ∈ cs_square, Cls K (He.ga K c) ∧ NoAttr K (He.ga K c) "square" := fun c hc => ⟨(h.isc c ((by decide +kernel : ∀ c ∈ cs_square, c ∈ clss) c hc)).cls, h.n_square c hc⟩
theorem n_tables (h : Hy K mg) : ∀ c ∈ cs_tables, NoAttr K (He.ga K c) "tables" := fun c hc => He.noat_ok (VL.says_mem h.says (VL.in_flat 23 rfl (List.mem_map_of_mem (f := fun c => He.Fa.noat c "tables") hc)))
theorem a_tables (h : Hy K mg) : ∀ c ∈ cs_tables, Cls K (He.ga K c) ∧ NoAttr K (He.ga K c) "tables" := fun c hc => ⟨(h.isc c ((by decide +kernel : ∀ c ∈ cs_tables, c ∈ clss) c hc)).cls, h.n_tables c hc⟩
theorem n_shell (h : Hy K mg) : ∀ c ∈ cs_shell, NoAttr K (He.ga K c) "shell" := fun c hc => He.noat_ok (VL.says_mem h.says (VL.in_flat 24 rfl (List.mem_map_of_mem (f := fun c => He.Fa.noat c "shell") hc)))
theorem a_shell (h : Hy K mg) : ∀ c ∈ cs_shell, Cls K (He.ga K c) ∧ NoAttr K (He.ga K c) "shell" := fun c hc => ⟨(h.isc c ((by decide +kernel : ∀ c ∈ cs_shell, c ∈ clss) c hc)).cls, h.n_shell c hc⟩
theorem n_down (h : Hy K mg) : ∀ c ∈ cs_down, NoAttr K (He.ga K c) "down" := fun c hc => He.noat_ok (VL.says_mem h.says (VL.in_flat 25 rfl (List.mem_map_of_mem (f := fun c => He.Fa.noat c "down") hc)))
theorem a_down (h : Hy K mg) : ∀ c ∈ cs_down, Cls K (He.ga K c) ∧ NoAttr K (He.ga K c) "down" := fun c hc => ⟨(h.isc c ((by decide +kernel : ∀ c ∈ cs_down, c ∈ clss) c hc)).cls, h.n_down c hc⟩
theorem n_up (h : Hy K mg) : ∀ c ∈ cs_up, NoAttr K (He.ga K c) "up" := fun c hc => He.noat_ok (VL.says_mem h.says (VL.in_flat 26 rfl (List.mem_map_of_mem (f := fun c => He.Fa.noat c "up") hc)))
theorem a_up (h : Hy K mg) : ∀ c ∈ cs_up, Cls K (He.ga K c) ∧ NoAttr K (He.ga K c) "up" := fun c hc => ⟨(h.isc c ((by decide +kernel : ∀ c ∈ cs_up, c ∈ clss) c hc)).cls, h.n_up c hc⟩
theorem n_fill (h : Hy K mg) : ∀ c ∈ cs_fill, NoAttr K (He.ga K c) "fill" := fun c hc => He.noat_ok (VL.says_mem h.says (VL.in_flat 27 rfl (List.mem_map_of_mem (f := fun c => He.Fa.noat c "fill") hc)))
theorem a_fill (h : Hy K mg) : ∀ c ∈ cs_fill, Cls K (He.ga K c) ∧ NoAttr K (He.ga K c) "fill" := fun c hc => ⟨(h.isc c ((by decide +kernel : ∀ c ∈ cs_fill, c ∈ clss) c hc)).cls, h.n_fill c hc⟩
theorem n_many (h : Hy K mg) : ∀ c ∈ cs_many, NoAttr K (He.ga K c) "many" := fun c hc => He.noat_ok (VL.says_mem h.says (VL.in_flat 28 rfl (List.mem_map_of_mem (f := fun c => He.Fa.noat c "many") hc)))
theorem a_many (h : Hy K mg) : ∀ c ∈ cs_many, Cls K (He.ga K c) ∧ NoAttr K (He.ga K c) "many" := fun c hc => ⟨(h.isc c ((by decide +kernel : ∀ c ∈ cs_many, c ∈ clss) c hc)).cls, h.n_many c hc⟩
theorem n_lot (h : Hy K mg) : ∀ c ∈ cs_lot, NoAttr K (He.ga K c) "lot" := fun c hc => He.noat_ok (VL.says_mem h.says (VL.in_flat 29 rfl (List.mem_map_of_mem (f := fun c => He.Fa.noat c "lot") hc)))
theorem a_lot (h : Hy K mg) : ∀ c ∈ cs_lot, Cls K (He.ga K c) ∧ NoAttr K (He.ga K c) "lot" := fun c hc => ⟨(h.isc c ((by decide +kernel : ∀ c ∈ cs_lot, c ∈ clss) c hc)).cls, h.n_lot c hc⟩
theorem n_filling (h : Hy K mg) : ∀ c ∈ cs_filling, NoAttr K (He.ga K c) "filling" := fun c hc => He.noat_ok (VL.says_mem h.says (VL.in_flat 30 rfl (List.mem_map_of_mem (f := fun c => He.Fa.noat c "filling") hc)))
theorem a_filling (h : Hy K mg) : ∀ c ∈ cs_filling, Cls K (He.ga K c) ∧ NoAttr K (He.ga K c) "filling" := fun c hc => ⟨(h.isc c ((by decide +kernel : ∀ c ∈ cs_filling, c ∈ clss) c hc)).cls, h.n_filling c hc⟩
theorem n_rows (h : Hy K mg) : ∀ c ∈ cs_rows, NoAttr K (He.ga K c) "rows" := fun c hc => He.noat_ok (VL.says_mem h.says (VL.in_flat 31 rfl (List.mem_map_of_mem (f := fun c => He.Fa.noat c "rows") hc)))
theorem a_rows (h : Hy K mg) : ∀ c ∈ cs_rows, Cls K (He.ga K c) ∧ NoAttr K (He.ga K c) "rows" := fun c hc => ⟨(h.isc c ((by decide +kernel : ∀ c ∈ cs_rows, c ∈ clss) c hc)).cls, h.n_rows c hc⟩
theorem n_chains (h : Hy K mg) : ∀ c ∈ cs_chains, NoAttr K (He.ga K c) "chains" := fun c hc => He.noat_ok (VL.says_mem h.says (VL.in_flat 32 rfl (List.mem_map_of_mem (f := fun c => He.Fa.noat c "chains") hc)))
theorem a_chains (h : Hy K mg) : ∀ c ∈ cs_chains, Cls K (He.ga K c) ∧ NoAttr K (He.ga K c) "chains" := fun c hc => ⟨(h.isc c ((by decide +kernel : ∀ c ∈ cs_chains, c ∈ clss) c hc)).cls, h.n_chains c hc⟩
theorem n_tree (h : Hy K mg) : ∀ c ∈ cs_tree, NoAttr K (He.ga K c) "tree" := fun c hc => He.noat_ok (VL.says_mem h.says (VL.in_flat 33 rfl (List.mem_map_of_mem (f := fun c => He.Fa.noat c "tree") hc)))
theorem a_tree (h : Hy K mg) : ∀ c ∈ cs_tree, Cls K (He.ga K c) ∧ NoAttr K (He.ga K c) "tree" := fun c hc => ⟨(h.isc c ((by decide +kernel : ∀ c ∈ cs_tree, c ∈ clss) c hc)).cls, h.n_tree c hc⟩
theorem n_rounds (h : Hy K mg) : ∀ c ∈ cs_rounds, NoAttr K (He.ga K c) "rounds" := fun c hc => He.noat_ok (VL.says_mem h.says (VL.in_flat 34 rfl (List.mem_map_of_mem (f := fun c => He.Fa.noat c "rounds") hc)))
theorem a_rounds (h : Hy K mg) : ∀ c ∈ cs_rounds, Cls K (He.ga K c) ∧ NoAttr K (He.ga K c) "rounds" := fun c hc => ⟨(h.isc c ((by decide +kernel : ∀ c ∈ cs_rounds, c ∈ clss) c hc)).cls, h.n_rounds c hc⟩
theorem n_heap (h : Hy K mg) : ∀ c ∈ cs_heap, NoAttr K (He.ga K c) "heap" := fun c hc => He.noat_ok (VL.says_mem h.says (VL.in_flat 35 rfl (List.mem_map_of_mem (f := fun c => He.Fa.noat c "heap") hc)))
theorem a_heap (h : Hy K mg) : ∀ c ∈ cs_heap, Cls K (He.ga K c) ∧ NoAttr K (He.ga K c) "heap" := fun c hc => ⟨(h.isc c ((by decide +kernel : ∀ c ∈ cs_heap, c ∈ clss) c hc)).cls, h.n_heap c hc⟩
end Hy
theorem hy_of {K : PySem.W.Frag} {mg : Str → Option Value} {h : Heap} (X : K.In h) (G : h.Ns mainGlobals mg) (c : He.SaysD fa fn K) (m : mo K = true) : Hy K mg where
  says := c
  mof := VL.moB_ok m
  glo := fun x hx => He.glo_ok X G (VL.says_mem c (VL.in_flat 0 rfl (List.mem_map_of_mem hx)))
  fre := fun x hx => He.free_ok X G (VL.says_mem c (VL.in_flat 1 rfl (List.mem_map_of_mem hx)))
end Hd
namespace Hd
open PySem PySem.Spec
open PyProof.Rows L2 VL
abbrev N__law_pen : List Str := ["script", "fold", "cell"]
abbrev p__law_pen : List Str := ["script"]
def g__law_pen : MT :=
  (seqS (mSet 1 (kI 0))
  (seqS (forS (mIts (mUse 0)) (gSet 2) (mSet 1 (mOp2 modO (mOpnd (bltM (intCO) (opC (mOpnd (mOp2 addO (mOpnd (mOp2 mulIO (mVar 1) (mOpnd (kI 79)))) (mVar 2))) op0))) (mOpnd (kI 999999797)))))
  (retS (mDict [.inr "cells", .inr "at", .inr "digits", .inr "count", .inr "fold"] (dctC (bltM (listO) (opC (mVar 0) op0)) (dctC (kI 0) (dctC (kI 0) (dctC (kI 0) (dctC (mUse 1) dct0)))))))))
def m__law_pen : FnM := fun os n => (g__law_pen (VL.entry N__law_pen.length os n)).toFR [] p__law_pen.length
theorem sc__law_pen : FnScope N__law_pen p__law_pen Hd.d__law_pen.scope := C8.fnScope_by (by decide +kernel)
theorem ds__law_pen {P : Program} {w : World} {K : PySem.W.Frag} {mg : Str → Option Value} {base : Heap} (h : Hy K mg) : DSs ⟨P, w, K, mg, base, N__law_pen, Hd.d__law_pen.scope, 0, [], cellsOf Hd.d__law_pen.scope⟩ Hd.d__law_pen.body g__law_pen :=
  (dss_cons (ds_set (i := 1) de_int)
  (dss_cons (ds_for (di_val (de_use (i := 0))) (dg_name (i := 2)) (dss_one (ds_set (i := 1) (de_bin ok_mod (do_val (de_callT ok_intC (dos_cons (do_val (de_bin ok_add (do_val (de_bin ok_mulI (do_var (i := 1)) (do_val de_int))) (do_var (i := 2)))) dos_nil) h.f_int bb_int)) (do_val de_int)))))
  (dss_one (ds_ret (de_dict (DPs.cons (de_callT ok_list (dos_cons (do_var (i := 0)) dos_nil) h.f_list bb_list) (DPs.cons de_int (DPs.cons de_int (DPs.cons de_int (DPs.cons (de_use (i := 1)) DPs.nil))))))))))
theorem fd__law_pen {P : Program} {w : World} {K : PySem.W.Frag} {mg : Str → Option Value} {base : Heap} (h : Hy K mg) : FD P w K mg base "_law_pen" 1 p__law_pen m__law_pen := by
  obtain ⟨fd, F⟩ := h.says.def_ 1 (d := Hd.d__law_pen) rfl
  exact fd_of F h.g__law_pen sc__law_pen (F.bindsN fun _ _ _ _ _ _ us hl => match us, hl with | [_], _ => rfl) (ds__law_pen h)

abbrev N_copied : List Str := ["value"]
abbrev p_copied : List Str := ["value"]
def g_copied : MT :=
  (retS (ifV (mTest (mIsi [.lst] (mVar 0))) (bltM (tupleO) (opC (mVar 0) op0)) (mUse 0)))
def m_copied : FnM := fun os n => (g_copied (VL.entry N_copied.length os n)).toFR [] p_copied.length
theorem sc_copied : FnScope N_copied p_copied Hd.d_copied.scope := C8.fnScope_by (by decide +kernel)
theorem ds_copied {P : Program} {w : World} {K : PySem.W.Frag} {mg : Str → Option Value} {base : Heap} (h : Hy K mg) : DSs ⟨P, w, K, mg, base, N_copied, Hd.d_copied.scope, 0, [], cellsOf Hd.d_copied.scope⟩ Hd.d_copied.body g_copied :=
  (dss_one (ds_ret (de_if (dt_val (de_isi .lst (h := (do_var (i := 0))) (hm := h.f_isinstance) (hmx := h.f_list))) (de_callT ok_tuple (dos_cons (do_var (i := 0)) dos_nil) h.f_tuple bb_tuple) (de_use (i := 0)))))
theorem fd_copied {P : Program} {w : World} {K : PySem.W.Frag} {mg : Str → Option Value} {base : Heap} (h : Hy K mg) : FD P w K mg base "copied" 1 p_copied m_copied := by
  obtain ⟨fd, F⟩ := h.says.def_ 0 (d := Hd.d_copied) rfl
  exact fd_of F h.g_copied sc_copied (F.bindsN fun _ _ _ _ _ _ us hl => match us, hl with | [_], _ => rfl) (ds_copied h)

abbrev N_Solved_init : List Str := ["self", "row"]
abbrev p_Solved_init : List Str := ["self", "row"]
def g_Solved_init : MT :=
  (mAttr "Solved" "row" 0 (callM (opC (mOpnd (mUse 1)) op0) p_copied none m_copied))
def m_Solved_init : FnM := fun os n => (g_Solved_init (VL.entry N_Solved_init.length os n)).toFR [0] p_Solved_init.length
theorem sc_Solved_init : FnScope N_Solved_init p_Solved_init Hd.d_Solved___init__.scope := C8.fnScope_by (by decide +kernel)
theorem ds_Solved_init {P : Program} {w : World} {K : PySem.W.Frag} {mg : Str → Option Value} {base : Heap} (h : Hy K mg) : DSs ⟨P, w, K, mg, base, N_Solved_init, Hd.d_Solved___init__.scope, 1, [0], cellsOf Hd.d_Solved___init__.scope⟩ Hd.d_Solved___init__.body g_Solved_init :=
  (dss_one (ds_attr (i := 0) (c := "Solved") (de_call (j0 := none) (fd_copied h) (dos_cons (do_val (de_use (i := 1))) dos_nil)) (h.isc "Solved" (by decide +kernel)).cls (h.n_row "Solved" (by decide +kernel))))
theorem id_Solved {P : Program} {w : World} {K : PySem.W.Frag} {mg : Str → Option Value} {base : Heap} (h : Hy K mg) : ID P w K mg base "Solved" 2 (defArgs Hd.s_Solved___init__) p_Solved_init m_Solved_init := by
  obtain ⟨fd, F⟩ := h.says.def_ 11 (d := Hd.d_Solved___init__) rfl
  exact ⟨h.g_Solved, _, fd, _, _, _, h.mkc "Solved" (by decide +kernel), F, F.bindsN fun _ _ _ _ _ _ us hl => match us, hl with | [_, _], _ => rfl, fnG_init F sc_Solved_init (ds_Solved_init h)⟩

abbrev N__law_draw : List Str := ["pen", "many", "cell", "digit", "blend"]
abbrev p__law_draw : List Str := ["pen", "many"]
def g__law_draw : MT :=
  (seqS (mPut (mOp2 addO (mOpnd (mOp2 sbO (mVar 0) (mOpnd (kS "count")))) (mOpnd (kI 1))) 0 (mOpnd (kS "count")))
  (seqS (ifS (mAnd (mTest (mOp2 (eqX clss false) (mOpnd (mOp2 sbO (mVar 0) (mOpnd (kS "digits")))) (mOpnd (kI 0)))) (mTest (mOp2 ltO (mOpnd (mOp2 sbO (mVar 0) (mOpnd (kS "at")))) (mOpnd (bltM (lenO) (opC (mOpnd (mOp2 sbO (mVar 0) (mOpnd (kS "cells")))) op0)))))) (seqS (mSet 2 (mOp2 sbO (mOpnd (mOp2 sbO (mVar 0) (mOpnd (kS "cells")))) (mOpnd (mOp2 sbO (mVar 0) (mOpnd (kS "at"))))))
  (seqS (mPut (mOp2 addO (mOpnd (mOp2 sbO (mVar 0) (mOpnd (kS "at")))) (mOpnd (kI 1))) 0 (mOpnd (kS "at")))
  (ifS (mTest (mOp2 geO (mVar 2) (mOpnd (mOp2 powO (mOpnd (kI 10)) (mOpnd (kI 18)))))) (mPut (mOp2 subO (mVar 2) (mOpnd (mOp2 powO (mOpnd (kI 10)) (mOpnd (kI 18))))) 0 (mOpnd (kS "digits"))) (mPut (mOp2 modO (mOpnd (bltM (intCO) (opC (mOpnd (mOp2 addO (mOpnd (mOp2 mulIO (mOpnd (mOp2 sbO (mVar 0) (mOpnd (kS "fold")))) (mOpnd (kI 43669)))) (mVar 2))) op0))) (mOpnd (kI 2147483549))) 0 (mOpnd (kS "fold")))))) T.nx)
  (seqS (ifS (mTest (mOp2 gtO (mOpnd (mOp2 sbO (mVar 0) (mOpnd (kS "digits")))) (mOpnd (kI 0)))) (seqS (mSet 3 (mOp2 modO (mOpnd (bltM (intCO) (opC (mOpnd (mOp2 sbO (mVar 0) (mOpnd (kS "digits")))) op0))) (mVar 1)))
  (seqS (mPut (mOp2 fdivO (mOpnd (mOp2 sbO (mVar 0) (mOpnd (kS "digits")))) (mVar 1)) 0 (mOpnd (kS "digits")))
  (retS (mUse 3)))) T.nx)
  (seqS (mSet 4 (mOp2 addO (mOpnd (mOp2 addO (mOpnd (mOp2 sbO (mVar 0) (mOpnd (kS "fold")))) (mOpnd (mOp2 mulIO (mOpnd (mOp2 sbO (mVar 0) (mOpnd (kS "count")))) (mOpnd (kI 8123)))))) (mOpnd (kI 53))))
  (retS (mOp2 modO (mOpnd (mOp2 fdivO (mOpnd (bltM (intCO) (opC (mOpnd (mOp2 modO (mOpnd (mOp2 powO (mVar 4) (mOpnd (kI 19)))) (mOpnd (kI 2305843009213693951)))) op0))) (mOpnd (kI 1024)))) (mVar 1)))))))
def m__law_draw : FnM := fun os n => (g__law_draw (VL.entry N__law_draw.length os n)).toFR [0] p__law_draw.length
theorem sc__law_draw : FnScope N__law_draw p__law_draw Hd.d__law_draw.scope := C8.fnScope_by (by decide +kernel)
theorem ds__law_draw {P : Program} {w : World} {K : PySem.W.Frag} {mg : Str → Option Value} {base : Heap} (h : Hy K mg) : DSs ⟨P, w, K, mg, base, N__law_draw, Hd.d__law_draw.scope, 0, [0], cellsOf Hd.d__law_draw.scope⟩ Hd.d__law_draw.body g__law_draw :=
  (dss_cons (ds_put (i := 0) (de_bin ok_add (do_val (de_sub (do_var (i := 0)) (do_val de_str))) (do_val de_int)) (do_val de_str))
  (dss_cons (ds_if (dt_of_dw (dw_and (dt_cmpK (okx_eq h.eqs) (do_val (de_sub (do_var (i := 0)) (do_val de_str))) (do_val de_int)) (dw_and1 (dt_cmp ok_lt (do_val (de_sub (do_var (i := 0)) (do_val de_str))) (do_val (de_callB ok_len (dos_cons (do_val (de_sub (do_var (i := 0)) (do_val de_str))) dos_nil) h.f_len bb_len)))))) (dss_cons (ds_set (i := 2) (de_sub (do_val (de_sub (do_var (i := 0)) (do_val de_str))) (do_val (de_sub (do_var (i := 0)) (do_val de_str)))))
  (dss_cons (ds_put (i := 0) (de_bin ok_add (do_val (de_sub (do_var (i := 0)) (do_val de_str))) (do_val de_int)) (do_val de_str))
  (dss_one (ds_if (dt_cmp ok_ge (do_var (i := 2)) (do_val (de_bin ok_pow (do_val de_int) (do_val de_int)))) (dss_one (ds_put (i := 0) (de_bin ok_sub (do_var (i := 2)) (do_val (de_bin ok_pow (do_val de_int) (do_val de_int)))) (do_val de_str))) (dss_one (ds_put (i := 0) (de_bin ok_mod (do_val (de_callT ok_intC (dos_cons (do_val (de_bin ok_add (do_val (de_bin ok_mulI (do_val (de_sub (do_var (i := 0)) (do_val de_str))) (do_val de_int))) (do_var (i := 2)))) dos_nil) h.f_int bb_int)) (do_val de_int)) (do_val de_str))))))) dss_nil)
  (dss_cons (ds_if (dt_cmp ok_gt (do_val (de_sub (do_var (i := 0)) (do_val de_str))) (do_val de_int)) (dss_cons (ds_set (i := 3) (de_bin ok_mod (do_val (de_callT ok_intC (dos_cons (do_val (de_sub (do_var (i := 0)) (do_val de_str))) dos_nil) h.f_int bb_int)) (do_var (i := 1))))
  (dss_cons (ds_put (i := 0) (de_bin ok_fdiv (do_val (de_sub (do_var (i := 0)) (do_val de_str))) (do_var (i := 1))) (do_val de_str))
  (dss_one (ds_ret (de_use (i := 3)))))) dss_nil)
  (dss_cons (ds_set (i := 4) (de_bin ok_add (do_val (de_bin ok_add (do_val (de_sub (do_var (i := 0)) (do_val de_str))) (do_val (de_bin ok_mulI (do_val (de_sub (do_var (i := 0)) (do_val de_str))) (do_val de_int))))) (do_val de_int)))
  (dss_one (ds_ret (de_bin ok_mod (do_val (de_bin ok_fdiv (do_val (de_callT ok_intC (dos_cons (do_val (de_bin ok_mod (do_val (de_bin ok_pow (do_var (i := 4)) (do_val de_int))) (do_val de_int))) dos_nil) h.f_int bb_int)) (do_val de_int))) (do_var (i := 1)))))))))
theorem fd__law_draw {P : Program} {w : World} {K : PySem.W.Frag} {mg : Str → Option Value} {base : Heap} (h : Hy K mg) : FD P w K mg base "_law_draw" 1 p__law_draw m__law_draw := by
  obtain ⟨fd, F⟩ := h.says.def_ 2 (d := Hd.d__law_draw) rfl
  exact fd_of F h.g__law_draw sc__law_draw (F.bindsN fun _ _ _ _ _ _ us hl => match us, hl with | [_, _], _ => rfl) (ds__law_draw h)

abbrev N__law_pick : List Str := ["pen", "some"]
abbrev p__law_pick : List Str := ["pen", "some"]
def g__law_pick : MT :=
  (retS (mOp2 sbO (mVar 1) (mOpnd (callM (opC (mVar 0) (opC (mOpnd (bltM (lenO) (opC (mVar 1) op0))) op0)) p__law_draw (some 0) m__law_draw))))
def m__law_pick : FnM := fun os n => (g__law_pick (VL.entry N__law_pick.length os n)).toFR [0] p__law_pick.length
theorem sc__law_pick : FnScope N__law_pick p__law_pick Hd.d__law_pick.scope := C8.fnScope_by (by decide +kernel)
theorem ds__law_pick {P : Program} {w : World} {K : PySem.W.Frag} {mg : Str → Option Value} {base : Heap} (h : Hy K mg) : DSs ⟨P, w, K, mg, base, N__law_pick, Hd.d__law_pick.scope, 1, [0], cellsOf Hd.d__law_pick.scope⟩ Hd.d__law_pick.body g__law_pick :=
  (dss_one (ds_ret (de_sub (do_var (i := 1)) (do_val (de_call (j0 := (some 0)) (fd__law_draw h) (dos_cons (do_var (i := 0)) (dos_cons (do_val (de_callB ok_len (dos_cons (do_var (i := 1)) dos_nil) h.f_len bb_len)) dos_nil)))))))
theorem fd__law_pick {P : Program} {w : World} {K : PySem.W.Frag} {mg : Str → Option Value} {base : Heap} (h : Hy K mg) : FD P w K mg base "_law_pick" 2 p__law_pick m__law_pick := by
  obtain ⟨fd, F⟩ := h.says.def_ 3 (d := Hd.d__law_pick) rfl
  exact fd_of F h.g__law_pick sc__law_pick (F.bindsN fun _ _ _ _ _ _ us hl => match us, hl with | [_, _], _ => rfl) (ds__law_pick h)

abbrev N__law_value : List Str := ["pen", "some", "k"]
abbrev p__law_value : List Str := ["pen"]
def g__law_value : MT :=
  (seqS (mSet 1 (mLst (rowC (mTup (rowC (kI 1) (rowC (kI 2) row0))) (rowC (fzM (mLst (rowC (kI 1) (rowC (fzM (mLst (rowC (kI 2) row0))) row0)))) (rowC (fzM (mLst row0)) (rowC (mTup row0) (rowC (kS "web") (rowC (kI 5) (rowC kN (rowC (kB true) (rowC (mTup (rowC (mTup (rowC (kI 0) (rowC (kI 1) row0))) row0)) (rowC (fzM (mLst (rowC (fzM (mLst (rowC (kI 0) row0))) (rowC (fzM (mLst (rowC (kI 1) row0))) row0)))) (rowC (fzM (mDict [.inr "a"] (dctC (kI 1) dct0))) (rowC (fzM (mNeg (kI 3))) (rowC (kS "") (rowC (fzM (mLst (rowC kN row0))) row0))))))))))))))))
  (retS (callM (opC (mVar 0) (opC (mOpnd (mOp2 addO (mVar 1) (mOpnd (mLst (rowC (fzM (mComp [2] (mRng1 (kI 3)) (gSet 2) ttM (fzM (callM (opC (mVar 0) (opC (mOpnd (kI 9)) op0)) p__law_draw (some 0) m__law_draw)))) row0))))) op0)) p__law_pick (some 0) m__law_pick)))
def m__law_value : FnM := fun os n => (g__law_value (VL.entry N__law_value.length os n)).toFR [0] p__law_value.length
theorem sc__law_value : FnScope N__law_value p__law_value Hd.d__law_value.scope := C8.fnScope_by (by decide +kernel)
theorem ds__law_value {P : Program} {w : World} {K : PySem.W.Frag} {mg : Str → Option Value} {base : Heap} (h : Hy K mg) : DSs ⟨P, w, K, mg, base, N__law_value, Hd.d__law_value.scope, 2, [0], cellsOf Hd.d__law_value.scope⟩ Hd.d__law_value.body g__law_value :=
  (dss_cons (ds_set (i := 1) (de_lst (da_cons (de_tup (da_cons de_int (da_cons de_int da_nil))) (da_cons (de_fz (de_lst (da_cons de_int (da_cons (de_fz (de_lst (da_cons de_int da_nil))) da_nil)))) (da_cons (de_fz (de_lst da_nil)) (da_cons (de_tup da_nil) (da_cons de_str (da_cons de_int (da_cons de_non (da_cons de_bl (da_cons (de_tup (da_cons (de_tup (da_cons de_int (da_cons de_int da_nil))) da_nil)) (da_cons (de_fz (de_lst (da_cons (de_fz (de_lst (da_cons de_int da_nil))) (da_cons (de_fz (de_lst (da_cons de_int da_nil))) da_nil)))) (da_cons (de_fz (de_dict (DPs.cons de_int DPs.nil))) (da_cons (de_fz (de_neg de_int)) (da_cons de_str (da_cons (de_fz (de_lst (da_cons de_non da_nil))) da_nil))))))))))))))))
  (dss_one (ds_ret (de_call (j0 := (some 0)) (fd__law_pick h) (dos_cons (do_var (i := 0)) (dos_cons (do_val (de_bin ok_add (do_var (i := 1)) (do_val (de_lst (da_cons (de_fz (de_lc [("k", 2)] (di_rng1 de_int (hm := h.f_range)) (dg_name (i := 2)) dts_nil (de_fz (de_call (j0 := (some 0)) (fd__law_draw h) (dos_cons (do_var (i := 0)) (dos_cons (do_val de_int) dos_nil)))))) da_nil))))) dos_nil))))))
theorem fd__law_value {P : Program} {w : World} {K : PySem.W.Frag} {mg : Str → Option Value} {base : Heap} (h : Hy K mg) : FD P w K mg base "_law_value" 3 p__law_value m__law_value := by
  obtain ⟨fd, F⟩ := h.says.def_ 7 (d := Hd.d__law_value) rfl
  exact fd_of F h.g__law_value sc__law_value (F.bindsN fun _ _ _ _ _ _ us hl => match us, hl with | [_], _ => rfl) (ds__law_value h)

abbrev N_Met_init : List Str := ["self", "current", "heights"]
abbrev p_Met_init : List Str := ["self", "current", "heights"]
def g_Met_init : MT :=
  (seqS (mAttr "Met" "current" 0 (callM (opC (mOpnd (mUse 1)) op0) p_copied none m_copied))
  (mAttr "Met" "heights" 0 (callM (opC (mOpnd (mUse 2)) op0) p_copied none m_copied)))
def m_Met_init : FnM := fun os n => (g_Met_init (VL.entry N_Met_init.length os n)).toFR [0] p_Met_init.length
theorem sc_Met_init : FnScope N_Met_init p_Met_init Hd.d_Met___init__.scope := C8.fnScope_by (by decide +kernel)
theorem ds_Met_init {P : Program} {w : World} {K : PySem.W.Frag} {mg : Str → Option Value} {base : Heap} (h : Hy K mg) : DSs ⟨P, w, K, mg, base, N_Met_init, Hd.d_Met___init__.scope, 1, [0], cellsOf Hd.d_Met___init__.scope⟩ Hd.d_Met___init__.body g_Met_init :=
  (dss_cons (ds_attr (i := 0) (c := "Met") (de_call (j0 := none) (fd_copied h) (dos_cons (do_val (de_use (i := 1))) dos_nil)) (h.isc "Met" (by decide +kernel)).cls (h.n_current "Met" (by decide +kernel)))
  (dss_one (ds_attr (i := 0) (c := "Met") (de_call (j0 := none) (fd_copied h) (dos_cons (do_val (de_use (i := 2))) dos_nil)) (h.isc "Met" (by decide +kernel)).cls (h.n_heights "Met" (by decide +kernel)))))
theorem id_Met {P : Program} {w : World} {K : PySem.W.Frag} {mg : Str → Option Value} {base : Heap} (h : Hy K mg) : ID P w K mg base "Met" 2 (defArgs Hd.s_Met___init__) p_Met_init m_Met_init := by
  obtain ⟨fd, F⟩ := h.says.def_ 13 (d := Hd.d_Met___init__) rfl
  exact ⟨h.g_Met, _, fd, _, _, _, h.mkc "Met" (by decide +kernel), F, F.bindsN fun _ _ _ _ _ _ us hl => match us, hl with | [_, _, _], _ => rfl, fnG_init F sc_Met_init (ds_Met_init h)⟩

abbrev N_Barred_init : List Str := ["self", "measure"]
abbrev p_Barred_init : List Str := ["self", "measure"]
def g_Barred_init : MT :=
  (mAttr "Barred" "measure" 0 (callM (opC (mOpnd (mUse 1)) op0) p_copied none m_copied))
def m_Barred_init : FnM := fun os n => (g_Barred_init (VL.entry N_Barred_init.length os n)).toFR [0] p_Barred_init.length
theorem sc_Barred_init : FnScope N_Barred_init p_Barred_init Hd.d_Barred___init__.scope := C8.fnScope_by (by decide +kernel)
theorem ds_Barred_init {P : Program} {w : World} {K : PySem.W.Frag} {mg : Str → Option Value} {base : Heap} (h : Hy K mg) : DSs ⟨P, w, K, mg, base, N_Barred_init, Hd.d_Barred___init__.scope, 1, [0], cellsOf Hd.d_Barred___init__.scope⟩ Hd.d_Barred___init__.body g_Barred_init :=
  (dss_one (ds_attr (i := 0) (c := "Barred") (de_call (j0 := none) (fd_copied h) (dos_cons (do_val (de_use (i := 1))) dos_nil)) (h.isc "Barred" (by decide +kernel)).cls (h.n_measure "Barred" (by decide +kernel))))
theorem id_Barred {P : Program} {w : World} {K : PySem.W.Frag} {mg : Str → Option Value} {base : Heap} (h : Hy K mg) : ID P w K mg base "Barred" 2 (defArgs Hd.s_Barred___init__) p_Barred_init m_Barred_init := by
  obtain ⟨fd, F⟩ := h.says.def_ 14 (d := Hd.d_Barred___init__) rfl
  exact ⟨h.g_Barred, _, fd, _, _, _, h.mkc "Barred" (by decide +kernel), F, F.bindsN fun _ _ _ _ _ _ us hl => match us, hl with | [_, _], _ => rfl, fnG_init F sc_Barred_init (ds_Barred_init h)⟩

abbrev N_Led_init : List Str := ["self", "firing"]
abbrev p_Led_init : List Str := ["self", "firing"]
def g_Led_init : MT :=
  (mAttr "Led" "firing" 0 (callM (opC (mOpnd (mUse 1)) op0) p_copied none m_copied))
def m_Led_init : FnM := fun os n => (g_Led_init (VL.entry N_Led_init.length os n)).toFR [0] p_Led_init.length
theorem sc_Led_init : FnScope N_Led_init p_Led_init Hd.d_Led___init__.scope := C8.fnScope_by (by decide +kernel)
theorem ds_Led_init {P : Program} {w : World} {K : PySem.W.Frag} {mg : Str → Option Value} {base : Heap} (h : Hy K mg) : DSs ⟨P, w, K, mg, base, N_Led_init, Hd.d_Led___init__.scope, 1, [0], cellsOf Hd.d_Led___init__.scope⟩ Hd.d_Led___init__.body g_Led_init :=
  (dss_one (ds_attr (i := 0) (c := "Led") (de_call (j0 := none) (fd_copied h) (dos_cons (do_val (de_use (i := 1))) dos_nil)) (h.isc "Led" (by decide +kernel)).cls (h.n_firing "Led" (by decide +kernel))))
theorem id_Led {P : Program} {w : World} {K : PySem.W.Frag} {mg : Str → Option Value} {base : Heap} (h : Hy K mg) : ID P w K mg base "Led" 2 (defArgs Hd.s_Led___init__) p_Led_init m_Led_init := by
  obtain ⟨fd, F⟩ := h.says.def_ 15 (d := Hd.d_Led___init__) rfl
  exact ⟨h.g_Led, _, fd, _, _, _, h.mkc "Led" (by decide +kernel), F, F.bindsN fun _ _ _ _ _ _ us hl => match us, hl with | [_, _], _ => rfl, fnG_init F sc_Led_init (ds_Led_init h)⟩

abbrev N_Apart_init : List Str := ["self", "clock"]
abbrev p_Apart_init : List Str := ["self", "clock"]
def g_Apart_init : MT :=
  (mAttr "Apart" "clock" 0 (callM (opC (mOpnd (mUse 1)) op0) p_copied none m_copied))
def m_Apart_init : FnM := fun os n => (g_Apart_init (VL.entry N_Apart_init.length os n)).toFR [0] p_Apart_init.length
theorem sc_Apart_init : FnScope N_Apart_init p_Apart_init Hd.d_Apart___init__.scope := C8.fnScope_by (by decide +kernel)
theorem ds_Apart_init {P : Program} {w : World} {K : PySem.W.Frag} {mg : Str → Option Value} {base : Heap} (h : Hy K mg) : DSs ⟨P, w, K, mg, base, N_Apart_init, Hd.d_Apart___init__.scope, 1, [0], cellsOf Hd.d_Apart___init__.scope⟩ Hd.d_Apart___init__.body g_Apart_init :=
  (dss_one (ds_attr (i := 0) (c := "Apart") (de_call (j0 := none) (fd_copied h) (dos_cons (do_val (de_use (i := 1))) dos_nil)) (h.isc "Apart" (by decide +kernel)).cls (h.n_clock "Apart" (by decide +kernel))))
theorem id_Apart {P : Program} {w : World} {K : PySem.W.Frag} {mg : Str → Option Value} {base : Heap} (h : Hy K mg) : ID P w K mg base "Apart" 2 (defArgs Hd.s_Apart___init__) p_Apart_init m_Apart_init := by
  obtain ⟨fd, F⟩ := h.says.def_ 16 (d := Hd.d_Apart___init__) rfl
  exact ⟨h.g_Apart, _, fd, _, _, _, h.mkc "Apart" (by decide +kernel), F, F.bindsN fun _ _ _ _ _ _ us hl => match us, hl with | [_, _], _ => rfl, fnG_init F sc_Apart_init (ds_Apart_init h)⟩

abbrev N_Group_init : List Str := ["self", "free", "twists"]
abbrev p_Group_init : List Str := ["self", "free", "twists"]
def g_Group_init : MT :=
  (seqS (mAttr "Group" "free" 0 (callM (opC (mOpnd (mUse 1)) op0) p_copied none m_copied))
  (mAttr "Group" "twists" 0 (callM (opC (mOpnd (mUse 2)) op0) p_copied none m_copied)))
def m_Group_init : FnM := fun os n => (g_Group_init (VL.entry N_Group_init.length os n)).toFR [0] p_Group_init.length
theorem sc_Group_init : FnScope N_Group_init p_Group_init Hd.d_Group___init__.scope := C8.fnScope_by (by decide +kernel)
theorem ds_Group_init {P : Program} {w : World} {K : PySem.W.Frag} {mg : Str → Option Value} {base : Heap} (h : Hy K mg) : DSs ⟨P, w, K, mg, base, N_Group_init, Hd.d_Group___init__.scope, 1, [0], cellsOf Hd.d_Group___init__.scope⟩ Hd.d_Group___init__.body g_Group_init :=
  (dss_cons (ds_attr (i := 0) (c := "Group") (de_call (j0 := none) (fd_copied h) (dos_cons (do_val (de_use (i := 1))) dos_nil)) (h.isc "Group" (by decide +kernel)).cls (h.n_free "Group" (by decide +kernel)))
  (dss_one (ds_attr (i := 0) (c := "Group") (de_call (j0 := none) (fd_copied h) (dos_cons (do_val (de_use (i := 2))) dos_nil)) (h.isc "Group" (by decide +kernel)).cls (h.n_twists "Group" (by decide +kernel)))))
theorem id_Group {P : Program} {w : World} {K : PySem.W.Frag} {mg : Str → Option Value} {base : Heap} (h : Hy K mg) : ID P w K mg base "Group" 2 (defArgs Hd.s_Group___init__) p_Group_init m_Group_init := by
  obtain ⟨fd, F⟩ := h.says.def_ 17 (d := Hd.d_Group___init__) rfl
  exact ⟨h.g_Group, _, fd, _, _, _, h.mkc "Group" (by decide +kernel), F, F.bindsN fun _ _ _ _ _ _ us hl => match us, hl with | [_, _, _], _ => rfl, fnG_init F sc_Group_init (ds_Group_init h)⟩

abbrev N_Holes_init : List Str := ["self", "free", "twists"]
abbrev p_Holes_init : List Str := ["self", "free", "twists"]
def g_Holes_init : MT :=
  (seqS (mAttr "Holes" "free" 0 (callM (opC (mOpnd (mUse 1)) op0) p_copied none m_copied))
  (mAttr "Holes" "twists" 0 (callM (opC (mOpnd (mUse 2)) op0) p_copied none m_copied)))
def m_Holes_init : FnM := fun os n => (g_Holes_init (VL.entry N_Holes_init.length os n)).toFR [0] p_Holes_init.length
theorem sc_Holes_init : FnScope N_Holes_init p_Holes_init Hd.d_Holes___init__.scope := C8.fnScope_by (by decide +kernel)
theorem ds_Holes_init {P : Program} {w : World} {K : PySem.W.Frag} {mg : Str → Option Value} {base : Heap} (h : Hy K mg) : DSs ⟨P, w, K, mg, base, N_Holes_init, Hd.d_Holes___init__.scope, 1, [0], cellsOf Hd.d_Holes___init__.scope⟩ Hd.d_Holes___init__.body g_Holes_init :=
  (dss_cons (ds_attr (i := 0) (c := "Holes") (de_call (j0 := none) (fd_copied h) (dos_cons (do_val (de_use (i := 1))) dos_nil)) (h.isc "Holes" (by decide +kernel)).cls (h.n_free "Holes" (by decide +kernel)))
  (dss_one (ds_attr (i := 0) (c := "Holes") (de_call (j0 := none) (fd_copied h) (dos_cons (do_val (de_use (i := 2))) dos_nil)) (h.isc "Holes" (by decide +kernel)).cls (h.n_twists "Holes" (by decide +kernel)))))
theorem id_Holes {P : Program} {w : World} {K : PySem.W.Frag} {mg : Str → Option Value} {base : Heap} (h : Hy K mg) : ID P w K mg base "Holes" 2 (defArgs Hd.s_Holes___init__) p_Holes_init m_Holes_init := by
  obtain ⟨fd, F⟩ := h.says.def_ 18 (d := Hd.d_Holes___init__) rfl
  exact ⟨h.g_Holes, _, fd, _, _, _, h.mkc "Holes" (by decide +kernel), F, F.bindsN fun _ _ _ _ _ _ us hl => match us, hl with | [_, _, _], _ => rfl, fnG_init F sc_Holes_init (ds_Holes_init h)⟩

abbrev N_Filled_init : List Str := ["self", "chain"]
abbrev p_Filled_init : List Str := ["self", "chain"]
def g_Filled_init : MT :=
  (mAttr "Filled" "chain" 0 (callM (opC (mOpnd (mUse 1)) op0) p_copied none m_copied))
def m_Filled_init : FnM := fun os n => (g_Filled_init (VL.entry N_Filled_init.length os n)).toFR [0] p_Filled_init.length
theorem sc_Filled_init : FnScope N_Filled_init p_Filled_init Hd.d_Filled___init__.scope := C8.fnScope_by (by decide +kernel)
theorem ds_Filled_init {P : Program} {w : World} {K : PySem.W.Frag} {mg : Str → Option Value} {base : Heap} (h : Hy K mg) : DSs ⟨P, w, K, mg, base, N_Filled_init, Hd.d_Filled___init__.scope, 1, [0], cellsOf Hd.d_Filled___init__.scope⟩ Hd.d_Filled___init__.body g_Filled_init :=
  (dss_one (ds_attr (i := 0) (c := "Filled") (de_call (j0 := none) (fd_copied h) (dos_cons (do_val (de_use (i := 1))) dos_nil)) (h.isc "Filled" (by decide +kernel)).cls (h.n_chain "Filled" (by decide +kernel))))
theorem id_Filled {P : Program} {w : World} {K : PySem.W.Frag} {mg : Str → Option Value} {base : Heap} (h : Hy K mg) : ID P w K mg base "Filled" 2 (defArgs Hd.s_Filled___init__) p_Filled_init m_Filled_init := by
  obtain ⟨fd, F⟩ := h.says.def_ 19 (d := Hd.d_Filled___init__) rfl
  exact ⟨h.g_Filled, _, fd, _, _, _, h.mkc "Filled" (by decide +kernel), F, F.bindsN fun _ _ _ _ _ _ us hl => match us, hl with | [_, _], _ => rfl, fnG_init F sc_Filled_init (ds_Filled_init h)⟩

abbrev N_Open_init : List Str := ["self", "measure"]
abbrev p_Open_init : List Str := ["self", "measure"]
def g_Open_init : MT :=
  (mAttr "Open" "measure" 0 (callM (opC (mOpnd (mUse 1)) op0) p_copied none m_copied))
def m_Open_init : FnM := fun os n => (g_Open_init (VL.entry N_Open_init.length os n)).toFR [0] p_Open_init.length
theorem sc_Open_init : FnScope N_Open_init p_Open_init Hd.d_Open___init__.scope := C8.fnScope_by (by decide +kernel)
theorem ds_Open_init {P : Program} {w : World} {K : PySem.W.Frag} {mg : Str → Option Value} {base : Heap} (h : Hy K mg) : DSs ⟨P, w, K, mg, base, N_Open_init, Hd.d_Open___init__.scope, 1, [0], cellsOf Hd.d_Open___init__.scope⟩ Hd.d_Open___init__.body g_Open_init :=
  (dss_one (ds_attr (i := 0) (c := "Open") (de_call (j0 := none) (fd_copied h) (dos_cons (do_val (de_use (i := 1))) dos_nil)) (h.isc "Open" (by decide +kernel)).cls (h.n_measure "Open" (by decide +kernel))))
theorem id_Open {P : Program} {w : World} {K : PySem.W.Frag} {mg : Str → Option Value} {base : Heap} (h : Hy K mg) : ID P w K mg base "Open" 2 (defArgs Hd.s_Open___init__) p_Open_init m_Open_init := by
  obtain ⟨fd, F⟩ := h.says.def_ 20 (d := Hd.d_Open___init__) rfl
  exact ⟨h.g_Open, _, fd, _, _, _, h.mkc "Open" (by decide +kernel), F, F.bindsN fun _ _ _ _ _ _ us hl => match us, hl with | [_, _], _ => rfl, fnG_init F sc_Open_init (ds_Open_init h)⟩

abbrev N_Homotopy_init : List Str := ["self", "tables"]
abbrev p_Homotopy_init : List Str := ["self", "tables"]
def g_Homotopy_init : MT :=
  (mAttr "Homotopy" "tables" 0 (callM (opC (mOpnd (mUse 1)) op0) p_copied none m_copied))
def m_Homotopy_init : FnM := fun os n => (g_Homotopy_init (VL.entry N_Homotopy_init.length os n)).toFR [0] p_Homotopy_init.length
theorem sc_Homotopy_init : FnScope N_Homotopy_init p_Homotopy_init Hd.d_Homotopy___init__.scope := C8.fnScope_by (by decide +kernel)
theorem ds_Homotopy_init {P : Program} {w : World} {K : PySem.W.Frag} {mg : Str → Option Value} {base : Heap} (h : Hy K mg) : DSs ⟨P, w, K, mg, base, N_Homotopy_init, Hd.d_Homotopy___init__.scope, 1, [0], cellsOf Hd.d_Homotopy___init__.scope⟩ Hd.d_Homotopy___init__.body g_Homotopy_init :=
  (dss_one (ds_attr (i := 0) (c := "Homotopy") (de_call (j0 := none) (fd_copied h) (dos_cons (do_val (de_use (i := 1))) dos_nil)) (h.isc "Homotopy" (by decide +kernel)).cls (h.n_tables "Homotopy" (by decide +kernel))))
theorem id_Homotopy {P : Program} {w : World} {K : PySem.W.Frag} {mg : Str → Option Value} {base : Heap} (h : Hy K mg) : ID P w K mg base "Homotopy" 2 (defArgs Hd.s_Homotopy___init__) p_Homotopy_init m_Homotopy_init := by
  obtain ⟨fd, F⟩ := h.says.def_ 23 (d := Hd.d_Homotopy___init__) rfl
  exact ⟨h.g_Homotopy, _, fd, _, _, _, h.mkc "Homotopy" (by decide +kernel), F, F.bindsN fun _ _ _ _ _ _ us hl => match us, hl with | [_, _], _ => rfl, fnG_init F sc_Homotopy_init (ds_Homotopy_init h)⟩

abbrev N_Clocks_init : List Str := ["self", "tables"]
abbrev p_Clocks_init : List Str := ["self", "tables"]
def g_Clocks_init : MT :=
  (mAttr "Clocks" "tables" 0 (callM (opC (mOpnd (mUse 1)) op0) p_copied none m_copied))
def m_Clocks_init : FnM := fun os n => (g_Clocks_init (VL.entry N_Clocks_init.length os n)).toFR [0] p_Clocks_init.length
theorem sc_Clocks_init : FnScope N_Clocks_init p_Clocks_init Hd.d_Clocks___init__.scope := C8.fnScope_by (by decide +kernel)
theorem ds_Clocks_init {P : Program} {w : World} {K : PySem.W.Frag} {mg : Str → Option Value} {base : Heap} (h : Hy K mg) : DSs ⟨P, w, K, mg, base, N_Clocks_init, Hd.d_Clocks___init__.scope, 1, [0], cellsOf Hd.d_Clocks___init__.scope⟩ Hd.d_Clocks___init__.body g_Clocks_init :=
  (dss_one (ds_attr (i := 0) (c := "Clocks") (de_call (j0 := none) (fd_copied h) (dos_cons (do_val (de_use (i := 1))) dos_nil)) (h.isc "Clocks" (by decide +kernel)).cls (h.n_tables "Clocks" (by decide +kernel))))
theorem id_Clocks {P : Program} {w : World} {K : PySem.W.Frag} {mg : Str → Option Value} {base : Heap} (h : Hy K mg) : ID P w K mg base "Clocks" 2 (defArgs Hd.s_Clocks___init__) p_Clocks_init m_Clocks_init := by
  obtain ⟨fd, F⟩ := h.says.def_ 24 (d := Hd.d_Clocks___init__) rfl
  exact ⟨h.g_Clocks, _, fd, _, _, _, h.mkc "Clocks" (by decide +kernel), F, F.bindsN fun _ _ _ _ _ _ us hl => match us, hl with | [_, _], _ => rfl, fnG_init F sc_Clocks_init (ds_Clocks_init h)⟩

abbrev N_Reduction_init : List Str := ["self", "shell", "down", "up", "fill"]
abbrev p_Reduction_init : List Str := ["self", "shell", "down", "up", "fill"]
def g_Reduction_init : MT :=
  (seqS (mAttr "Reduction" "shell" 0 (callM (opC (mOpnd (mUse 1)) op0) p_copied none m_copied))
  (seqS (mAttr "Reduction" "down" 0 (callM (opC (mOpnd (mUse 2)) op0) p_copied none m_copied))
  (seqS (mAttr "Reduction" "up" 0 (callM (opC (mOpnd (mUse 3)) op0) p_copied none m_copied))
  (mAttr "Reduction" "fill" 0 (callM (opC (mOpnd (mUse 4)) op0) p_copied none m_copied)))))
def m_Reduction_init : FnM := fun os n => (g_Reduction_init (VL.entry N_Reduction_init.length os n)).toFR [0] p_Reduction_init.length
theorem sc_Reduction_init : FnScope N_Reduction_init p_Reduction_init Hd.d_Reduction___init__.scope := C8.fnScope_by (by decide +kernel)
theorem ds_Reduction_init {P : Program} {w : World} {K : PySem.W.Frag} {mg : Str → Option Value} {base : Heap} (h : Hy K mg) : DSs ⟨P, w, K, mg, base, N_Reduction_init, Hd.d_Reduction___init__.scope, 1, [0], cellsOf Hd.d_Reduction___init__.scope⟩ Hd.d_Reduction___init__.body g_Reduction_init :=
  (dss_cons (ds_attr (i := 0) (c := "Reduction") (de_call (j0 := none) (fd_copied h) (dos_cons (do_val (de_use (i := 1))) dos_nil)) (h.isc "Reduction" (by decide +kernel)).cls (h.n_shell "Reduction" (by decide +kernel)))
  (dss_cons (ds_attr (i := 0) (c := "Reduction") (de_call (j0 := none) (fd_copied h) (dos_cons (do_val (de_use (i := 2))) dos_nil)) (h.isc "Reduction" (by decide +kernel)).cls (h.n_down "Reduction" (by decide +kernel)))
  (dss_cons (ds_attr (i := 0) (c := "Reduction") (de_call (j0 := none) (fd_copied h) (dos_cons (do_val (de_use (i := 3))) dos_nil)) (h.isc "Reduction" (by decide +kernel)).cls (h.n_up "Reduction" (by decide +kernel)))
  (dss_one (ds_attr (i := 0) (c := "Reduction") (de_call (j0 := none) (fd_copied h) (dos_cons (do_val (de_use (i := 4))) dos_nil)) (h.isc "Reduction" (by decide +kernel)).cls (h.n_fill "Reduction" (by decide +kernel)))))))
theorem id_Reduction {P : Program} {w : World} {K : PySem.W.Frag} {mg : Str → Option Value} {base : Heap} (h : Hy K mg) : ID P w K mg base "Reduction" 2 (defArgs Hd.s_Reduction___init__) p_Reduction_init m_Reduction_init := by
  obtain ⟨fd, F⟩ := h.says.def_ 25 (d := Hd.d_Reduction___init__) rfl
  exact ⟨h.g_Reduction, _, fd, _, _, _, h.mkc "Reduction" (by decide +kernel), F, F.bindsN fun _ _ _ _ _ _ us hl => match us, hl with | [_, _, _, _, _], _ => rfl, fnG_init F sc_Reduction_init (ds_Reduction_init h)⟩

abbrev N__law_made_a : List Str := ["a", "b", "c", "d", "rows", "one", "two", "kind", "first"]
abbrev p__law_made_a : List Str := ["a", "b", "c", "d"]
def g__law_made_a : MT :=
  (seqS (mSet 4 (mLst row0))
  (seqS (mPar 5 6 (rowC (makeM (opC (mOpnd (mUse 0)) (opC (mOpnd (mUse 1)) op0)) p_Met_init "Met" m_Met_init) (rowC (makeKM (opC (mOpnd (mUse 1)) (opC (mOpnd (mUse 0)) op0)) ["heights", "current"] "Met" m_Met_init [1, 0]) row0)))
  (seqS (mPar 7 8 (rowC (mAndV (mIsC "Met" (mVar 5)) (mIsC "Met" (mVar 6))) (rowC (mLst (rowC (mFld cs_current "current" (mVar 5)) (rowC (mFld cs_heights "heights" (mVar 5)) row0))) row0)))
  (seqS (exprS (mApp 4 (mTup (rowC (mUse 5) (rowC (mUse 6) (rowC (mUse 7) (rowC (mUse 8) (rowC (mLst (rowC (mFld cs_current "current" (mVar 6)) (rowC (mFld cs_heights "heights" (mVar 6)) row0))) (rowC (mLst (rowC (mUse 0) (rowC (mUse 1) row0))) row0)))))))))
  (seqS (mPar 5 6 (rowC (makeM (opC (mOpnd (mUse 0)) op0) p_Barred_init "Barred" m_Barred_init) (rowC (makeKM (opC (mOpnd (mUse 0)) op0) ["measure"] "Barred" m_Barred_init [0]) row0)))
  (seqS (mPar 7 8 (rowC (mAndV (mIsC "Barred" (mVar 5)) (mIsC "Barred" (mVar 6))) (rowC (mLst (rowC (mFld cs_measure "measure" (mVar 5)) row0)) row0)))
  (seqS (exprS (mApp 4 (mTup (rowC (mUse 5) (rowC (mUse 6) (rowC (mUse 7) (rowC (mUse 8) (rowC (mLst (rowC (mFld cs_measure "measure" (mVar 6)) row0)) (rowC (mLst (rowC (mUse 0) row0)) row0)))))))))
  (seqS (mPar 5 6 (rowC (makeM (opC (mOpnd (mUse 0)) op0) p_Led_init "Led" m_Led_init) (rowC (makeKM (opC (mOpnd (mUse 0)) op0) ["firing"] "Led" m_Led_init [0]) row0)))
  (seqS (mPar 7 8 (rowC (mAndV (mIsC "Led" (mVar 5)) (mIsC "Led" (mVar 6))) (rowC (mLst (rowC (mFld cs_firing "firing" (mVar 5)) row0)) row0)))
  (seqS (exprS (mApp 4 (mTup (rowC (mUse 5) (rowC (mUse 6) (rowC (mUse 7) (rowC (mUse 8) (rowC (mLst (rowC (mFld cs_firing "firing" (mVar 6)) row0)) (rowC (mLst (rowC (mUse 0) row0)) row0)))))))))
  (seqS (mPar 5 6 (rowC (makeM (opC (mOpnd (mUse 0)) op0) p_Apart_init "Apart" m_Apart_init) (rowC (makeKM (opC (mOpnd (mUse 0)) op0) ["clock"] "Apart" m_Apart_init [0]) row0)))
  (seqS (mPar 7 8 (rowC (mAndV (mIsC "Apart" (mVar 5)) (mIsC "Apart" (mVar 6))) (rowC (mLst (rowC (mFld cs_clock "clock" (mVar 5)) row0)) row0)))
  (seqS (exprS (mApp 4 (mTup (rowC (mUse 5) (rowC (mUse 6) (rowC (mUse 7) (rowC (mUse 8) (rowC (mLst (rowC (mFld cs_clock "clock" (mVar 6)) row0)) (rowC (mLst (rowC (mUse 0) row0)) row0)))))))))
  (seqS (mPar 5 6 (rowC (makeM (opC (mOpnd (mUse 0)) (opC (mOpnd (mUse 1)) op0)) p_Group_init "Group" m_Group_init) (rowC (makeKM (opC (mOpnd (mUse 1)) (opC (mOpnd (mUse 0)) op0)) ["twists", "free"] "Group" m_Group_init [1, 0]) row0)))
  (seqS (mPar 7 8 (rowC (mAndV (mIsC "Group" (mVar 5)) (mIsC "Group" (mVar 6))) (rowC (mLst (rowC (mFld cs_free "free" (mVar 5)) (rowC (mFld cs_twists "twists" (mVar 5)) row0))) row0)))
  (seqS (exprS (mApp 4 (mTup (rowC (mUse 5) (rowC (mUse 6) (rowC (mUse 7) (rowC (mUse 8) (rowC (mLst (rowC (mFld cs_free "free" (mVar 6)) (rowC (mFld cs_twists "twists" (mVar 6)) row0))) (rowC (mLst (rowC (mUse 0) (rowC (mUse 1) row0))) row0)))))))))
  (seqS (mPar 5 6 (rowC (makeM (opC (mOpnd (mUse 0)) (opC (mOpnd (mUse 1)) op0)) p_Holes_init "Holes" m_Holes_init) (rowC (makeKM (opC (mOpnd (mUse 1)) (opC (mOpnd (mUse 0)) op0)) ["twists", "free"] "Holes" m_Holes_init [1, 0]) row0)))
  (seqS (mPar 7 8 (rowC (mAndV (mIsC "Holes" (mVar 5)) (mIsC "Holes" (mVar 6))) (rowC (mLst (rowC (mFld cs_free "free" (mVar 5)) (rowC (mFld cs_twists "twists" (mVar 5)) row0))) row0)))
  (seqS (exprS (mApp 4 (mTup (rowC (mUse 5) (rowC (mUse 6) (rowC (mUse 7) (rowC (mUse 8) (rowC (mLst (rowC (mFld cs_free "free" (mVar 6)) (rowC (mFld cs_twists "twists" (mVar 6)) row0))) (rowC (mLst (rowC (mUse 0) (rowC (mUse 1) row0))) row0)))))))))
  (seqS (mPar 5 6 (rowC (makeM (opC (mOpnd (mUse 0)) op0) p_Filled_init "Filled" m_Filled_init) (rowC (makeKM (opC (mOpnd (mUse 0)) op0) ["chain"] "Filled" m_Filled_init [0]) row0)))
  (seqS (mPar 7 8 (rowC (mAndV (mIsC "Filled" (mVar 5)) (mIsC "Filled" (mVar 6))) (rowC (mLst (rowC (mFld cs_chain "chain" (mVar 5)) row0)) row0)))
  (seqS (exprS (mApp 4 (mTup (rowC (mUse 5) (rowC (mUse 6) (rowC (mUse 7) (rowC (mUse 8) (rowC (mLst (rowC (mFld cs_chain "chain" (mVar 6)) row0)) (rowC (mLst (rowC (mUse 0) row0)) row0)))))))))
  (seqS (mPar 5 6 (rowC (makeM (opC (mOpnd (mUse 0)) op0) p_Open_init "Open" m_Open_init) (rowC (makeKM (opC (mOpnd (mUse 0)) op0) ["measure"] "Open" m_Open_init [0]) row0)))
  (seqS (mPar 7 8 (rowC (mAndV (mIsC "Open" (mVar 5)) (mIsC "Open" (mVar 6))) (rowC (mLst (rowC (mFld cs_measure "measure" (mVar 5)) row0)) row0)))
  (seqS (exprS (mApp 4 (mTup (rowC (mUse 5) (rowC (mUse 6) (rowC (mUse 7) (rowC (mUse 8) (rowC (mLst (rowC (mFld cs_measure "measure" (mVar 6)) row0)) (rowC (mLst (rowC (mUse 0) row0)) row0)))))))))
  (seqS (mPar 5 6 (rowC (makeM (opC (mOpnd (mUse 0)) op0) p_Homotopy_init "Homotopy" m_Homotopy_init) (rowC (makeKM (opC (mOpnd (mUse 0)) op0) ["tables"] "Homotopy" m_Homotopy_init [0]) row0)))
  (seqS (mPar 7 8 (rowC (mAndV (mIsC "Homotopy" (mVar 5)) (mIsC "Homotopy" (mVar 6))) (rowC (mLst (rowC (mFld cs_tables "tables" (mVar 5)) row0)) row0)))
  (seqS (exprS (mApp 4 (mTup (rowC (mUse 5) (rowC (mUse 6) (rowC (mUse 7) (rowC (mUse 8) (rowC (mLst (rowC (mFld cs_tables "tables" (mVar 6)) row0)) (rowC (mLst (rowC (mUse 0) row0)) row0)))))))))
  (seqS (mPar 5 6 (rowC (makeM (opC (mOpnd (mUse 0)) op0) p_Clocks_init "Clocks" m_Clocks_init) (rowC (makeKM (opC (mOpnd (mUse 0)) op0) ["tables"] "Clocks" m_Clocks_init [0]) row0)))
  (seqS (mPar 7 8 (rowC (mAndV (mIsC "Clocks" (mVar 5)) (mIsC "Clocks" (mVar 6))) (rowC (mLst (rowC (mFld cs_tables "tables" (mVar 5)) row0)) row0)))
  (seqS (exprS (mApp 4 (mTup (rowC (mUse 5) (rowC (mUse 6) (rowC (mUse 7) (rowC (mUse 8) (rowC (mLst (rowC (mFld cs_tables "tables" (mVar 6)) row0)) (rowC (mLst (rowC (mUse 0) row0)) row0)))))))))
  (seqS (mPar 5 6 (rowC (makeM (opC (mOpnd (mUse 0)) (opC (mOpnd (mUse 1)) (opC (mOpnd (mUse 2)) (opC (mOpnd (mUse 3)) op0)))) p_Reduction_init "Reduction" m_Reduction_init) (rowC (makeKM (opC (mOpnd (mUse 3)) (opC (mOpnd (mUse 2)) (opC (mOpnd (mUse 1)) (opC (mOpnd (mUse 0)) op0)))) ["fill", "up", "down", "shell"] "Reduction" m_Reduction_init [3, 2, 1, 0]) row0)))
  (seqS (mPar 7 8 (rowC (mAndV (mIsC "Reduction" (mVar 5)) (mIsC "Reduction" (mVar 6))) (rowC (mLst (rowC (mFld cs_shell "shell" (mVar 5)) (rowC (mFld cs_down "down" (mVar 5)) (rowC (mFld cs_up "up" (mVar 5)) (rowC (mFld cs_fill "fill" (mVar 5)) row0))))) row0)))
  (seqS (exprS (mApp 4 (mTup (rowC (mUse 5) (rowC (mUse 6) (rowC (mUse 7) (rowC (mUse 8) (rowC (mLst (rowC (mFld cs_shell "shell" (mVar 6)) (rowC (mFld cs_down "down" (mVar 6)) (rowC (mFld cs_up "up" (mVar 6)) (rowC (mFld cs_fill "fill" (mVar 6)) row0))))) (rowC (mLst (rowC (mUse 0) (rowC (mUse 1) (rowC (mUse 2) (rowC (mUse 3) row0))))) row0)))))))))
  (retS (mUse 4))))))))))))))))))))))))))))))))))))
def m__law_made_a : FnM := fun os n => (g__law_made_a (VL.entry N__law_made_a.length os n)).toFR [] p__law_made_a.length
theorem sc__law_made_a : FnScope N__law_made_a p__law_made_a Hd.d__law_made_a.scope := C8.fnScope_by (by decide +kernel)
theorem ds__law_made_a {P : Program} {w : World} {K : PySem.W.Frag} {mg : Str → Option Value} {base : Heap} (h : Hy K mg) : DSs ⟨P, w, K, mg, base, N__law_made_a, Hd.d__law_made_a.scope, 3, [], cellsOf Hd.d__law_made_a.scope⟩ Hd.d__law_made_a.body g__law_made_a :=
  (dss_cons (ds_set (i := 4) (de_lst da_nil))
  (dss_cons (ds_par (i := 5) (j := 6) (da_cons (de_make (id_Met h) (dos_cons (do_val (de_use (i := 0))) (dos_cons (do_val (de_use (i := 1))) dos_nil))) (da_cons (de_makeK (ks := ["heights", "current"]) [1, 0] (id_Met h) (dks_cons (do_val (de_use (i := 1))) (dks_cons (do_val (de_use (i := 0))) dks_nil)) (hbind := fun _ _ _ _ _ _ _ _ _ _ ws hl => match ws, hl with | [_, _], _ => rfl) (hl := fun ds hl => match ds, hl with | [_, _], _ => rfl)) da_nil)) (hw := fun X hX => swp (fun _ _ _ _ _ _ _ _ => rfl) hX.sc))
  (dss_cons (ds_par (i := 7) (j := 8) (da_cons (de_and (de_isC (do_var (i := 5)) (h.isc "Met" (by decide +kernel)) h.f_isinstance h.g_Met) (de_one (de_isC (do_var (i := 6)) (h.isc "Met" (by decide +kernel)) h.f_isinstance h.g_Met))) (da_cons (de_lst (da_cons (de_fld cs_current (do_var (i := 5)) h.a_current) (da_cons (de_fld cs_heights (do_var (i := 5)) h.a_heights) da_nil))) da_nil)) (hw := fun X hX => swp (fun _ _ _ _ _ _ _ _ => rfl) hX.sc))
  (dss_cons (ds_expr (de_append (i := 4) (de_tup (da_cons (de_use (i := 5)) (da_cons (de_use (i := 6)) (da_cons (de_use (i := 7)) (da_cons (de_use (i := 8)) (da_cons (de_lst (da_cons (de_fld cs_current (do_var (i := 6)) h.a_current) (da_cons (de_fld cs_heights (do_var (i := 6)) h.a_heights) da_nil))) (da_cons (de_lst (da_cons (de_use (i := 0)) (da_cons (de_use (i := 1)) da_nil))) da_nil)))))))))
  (dss_cons (ds_par (i := 5) (j := 6) (da_cons (de_make (id_Barred h) (dos_cons (do_val (de_use (i := 0))) dos_nil)) (da_cons (de_makeK (ks := ["measure"]) [0] (id_Barred h) (dks_cons (do_val (de_use (i := 0))) dks_nil) (hbind := fun _ _ _ _ _ _ _ _ _ _ ws hl => match ws, hl with | [_], _ => rfl) (hl := fun ds hl => match ds, hl with | [_], _ => rfl)) da_nil)) (hw := fun X hX => swp (fun _ _ _ _ _ _ _ _ => rfl) hX.sc))
  (dss_cons (ds_par (i := 7) (j := 8) (da_cons (de_and (de_isC (do_var (i := 5)) (h.isc "Barred" (by decide +kernel)) h.f_isinstance h.g_Barred) (de_one (de_isC (do_var (i := 6)) (h.isc "Barred" (by decide +kernel)) h.f_isinstance h.g_Barred))) (da_cons (de_lst (da_cons (de_fld cs_measure (do_var (i := 5)) h.a_measure) da_nil)) da_nil)) (hw := fun X hX => swp (fun _ _ _ _ _ _ _ _ => rfl) hX.sc))
  (dss_cons (ds_expr (de_append (i := 4) (de_tup (da_cons (de_use (i := 5)) (da_cons (de_use (i := 6)) (da_cons (de_use (i := 7)) (da_cons (de_use (i := 8)) (da_cons (de_lst (da_cons (de_fld cs_measure (do_var (i := 6)) h.a_measure) da_nil)) (da_cons (de_lst (da_cons (de_use (i := 0)) da_nil)) da_nil)))))))))
  (dss_cons (ds_par (i := 5) (j := 6) (da_cons (de_make (id_Led h) (dos_cons (do_val (de_use (i := 0))) dos_nil)) (da_cons (de_makeK (ks := ["firing"]) [0] (id_Led h) (dks_cons (do_val (de_use (i := 0))) dks_nil) (hbind := fun _ _ _ _ _ _ _ _ _ _ ws hl => match ws, hl with | [_], _ => rfl) (hl := fun ds hl => match ds, hl with | [_], _ => rfl)) da_nil)) (hw := fun X hX => swp (fun _ _ _ _ _ _ _ _ => rfl) hX.sc))
  (dss_cons (ds_par (i := 7) (j := 8) (da_cons (de_and (de_isC (do_var (i := 5)) (h.isc "Led" (by decide +kernel)) h.f_isinstance h.g_Led) (de_one (de_isC (do_var (i := 6)) (h.isc "Led" (by decide +kernel)) h.f_isinstance h.g_Led))) (da_cons (de_lst (da_cons (de_fld cs_firing (do_var (i := 5)) h.a_firing) da_nil)) da_nil)) (hw := fun X hX => swp (fun _ _ _ _ _ _ _ _ => rfl) hX.sc))
  (dss_cons (ds_expr (de_append (i := 4) (de_tup (da_cons (de_use (i := 5)) (da_cons (de_use (i := 6)) (da_cons (de_use (i := 7)) (da_cons (de_use (i := 8)) (da_cons (de_lst (da_cons (de_fld cs_firing (do_var (i := 6)) h.a_firing) da_nil)) (da_cons (de_lst (da_cons (de_use (i := 0)) da_nil)) da_nil)))))))))
  (dss_cons (ds_par (i := 5) (j := 6) (da_cons (de_make (id_Apart h) (dos_cons (do_val (de_use (i := 0))) dos_nil)) (da_cons (de_makeK (ks := ["clock"]) [0] (id_Apart h) (dks_cons (do_val (de_use (i := 0))) dks_nil) (hbind := fun _ _ _ _ _ _ _ _ _ _ ws hl => match ws, hl with | [_], _ => rfl) (hl := fun ds hl => match ds, hl with | [_], _ => rfl)) da_nil)) (hw := fun X hX => swp (fun _ _ _ _ _ _ _ _ => rfl) hX.sc))
  (dss_cons (ds_par (i := 7) (j := 8) (da_cons (de_and (de_isC (do_var (i := 5)) (h.isc "Apart" (by decide +kernel)) h.f_isinstance h.g_Apart) (de_one (de_isC (do_var (i := 6)) (h.isc "Apart" (by decide +kernel)) h.f_isinstance h.g_Apart))) (da_cons (de_lst (da_cons (de_fld cs_clock (do_var (i := 5)) h.a_clock) da_nil)) da_nil)) (hw := fun X hX => swp (fun _ _ _ _ _ _ _ _ => rfl) hX.sc))
  (dss_cons (ds_expr (de_append (i := 4) (de_tup (da_cons (de_use (i := 5)) (da_cons (de_use (i := 6)) (da_cons (de_use (i := 7)) (da_cons (de_use (i := 8)) (da_cons (de_lst (da_cons (de_fld cs_clock (do_var (i := 6)) h.a_clock) da_nil)) (da_cons (de_lst (da_cons (de_use (i := 0)) da_nil)) da_nil)))))))))
  (dss_cons (ds_par (i := 5) (j := 6) (da_cons (de_make (id_Group h) (dos_cons (do_val (de_use (i := 0))) (dos_cons (do_val (de_use (i := 1))) dos_nil))) (da_cons (de_makeK (ks := ["twists", "free"]) [1, 0] (id_Group h) (dks_cons (do_val (de_use (i := 1))) (dks_cons (do_val (de_use (i := 0))) dks_nil)) (hbind := fun _ _ _ _ _ _ _ _ _ _ ws hl => match ws, hl with | [_, _], _ => rfl) (hl := fun ds hl => match ds, hl with | [_, _], _ => rfl)) da_nil)) (hw := fun X hX => swp (fun _ _ _ _ _ _ _ _ => rfl) hX.sc))
  (dss_cons (ds_par (i := 7) (j := 8) (da_cons (de_and (de_isC (do_var (i := 5)) (h.isc "Group" (by decide +kernel)) h.f_isinstance h.g_Group) (de_one (de_isC (do_var (i := 6)) (h.isc "Group" (by decide +kernel)) h.f_isinstance h.g_Group))) (da_cons (de_lst (da_cons (de_fld cs_free (do_var (i := 5)) h.a_free) (da_cons (de_fld cs_twists (do_var (i := 5)) h.a_twists) da_nil))) da_nil)) (hw := fun X hX => swp (fun _ _ _ _ _ _ _ _ => rfl) hX.sc))
  (dss_cons (ds_expr (de_append (i := 4) (de_tup (da_cons (de_use (i := 5)) (da_cons (de_use (i := 6)) (da_cons (de_use (i := 7)) (da_cons (de_use (i := 8)) (da_cons (de_lst (da_cons (de_fld cs_free (do_var (i := 6)) h.a_free) (da_cons (de_fld cs_twists (do_var (i := 6)) h.a_twists) da_nil))) (da_cons (de_lst (da_cons (de_use (i := 0)) (da_cons (de_use (i := 1)) da_nil))) da_nil)))))))))
  (dss_cons (ds_par (i := 5) (j := 6) (da_cons (de_make (id_Holes h) (dos_cons (do_val (de_use (i := 0))) (dos_cons (do_val (de_use (i := 1))) dos_nil))) (da_cons (de_makeK (ks := ["twists", "free"]) [1, 0] (id_Holes h) (dks_cons (do_val (de_use (i := 1))) (dks_cons (do_val (de_use (i := 0))) dks_nil)) (hbind := fun _ _ _ _ _ _ _ _ _ _ ws hl => match ws, hl with | [_, _], _ => rfl) (hl := fun ds hl => match ds, hl with | [_, _], _ => rfl)) da_nil)) (hw := fun X hX => swp (fun _ _ _ _ _ _ _ _ => rfl) hX.sc))
  (dss_cons (ds_par (i := 7) (j := 8) (da_cons (de_and (de_isC (do_var (i := 5)) (h.isc "Holes" (by decide +kernel)) h.f_isinstance h.g_Holes) (de_one (de_isC (do_var (i := 6)) (h.isc "Holes" (by decide +kernel)) h.f_isinstance h.g_Holes))) (da_cons (de_lst (da_cons (de_fld cs_free (do_var (i := 5)) h.a_free) (da_cons (de_fld cs_twists (do_var (i := 5)) h.a_twists) da_nil))) da_nil)) (hw := fun X hX => swp (fun _ _ _ _ _ _ _ _ => rfl) hX.sc))
  (dss_cons (ds_expr (de_append (i := 4) (de_tup (da_cons (de_use (i := 5)) (da_cons (de_use (i := 6)) (da_cons (de_use (i := 7)) (da_cons (de_use (i := 8)) (da_cons (de_lst (da_cons (de_fld cs_free (do_var (i := 6)) h.a_free) (da_cons (de_fld cs_twists (do_var (i := 6)) h.a_twists) da_nil))) (da_cons (de_lst (da_cons (de_use (i := 0)) (da_cons (de_use (i := 1)) da_nil))) da_nil)))))))))
  (dss_cons (ds_par (i := 5) (j := 6) (da_cons (de_make (id_Filled h) (dos_cons (do_val (de_use (i := 0))) dos_nil)) (da_cons (de_makeK (ks := ["chain"]) [0] (id_Filled h) (dks_cons (do_val (de_use (i := 0))) dks_nil) (hbind := fun _ _ _ _ _ _ _ _ _ _ ws hl => match ws, hl with | [_], _ => rfl) (hl := fun ds hl => match ds, hl with | [_], _ => rfl)) da_nil)) (hw := fun X hX => swp (fun _ _ _ _ _ _ _ _ => rfl) hX.sc))
  (dss_cons (ds_par (i := 7) (j := 8) (da_cons (de_and (de_isC (do_var (i := 5)) (h.isc "Filled" (by decide +kernel)) h.f_isinstance h.g_Filled) (de_one (de_isC (do_var (i := 6)) (h.isc "Filled" (by decide +kernel)) h.f_isinstance h.g_Filled))) (da_cons (de_lst (da_cons (de_fld cs_chain (do_var (i := 5)) h.a_chain) da_nil)) da_nil)) (hw := fun X hX => swp (fun _ _ _ _ _ _ _ _ => rfl) hX.sc))
  (dss_cons (ds_expr (de_append (i := 4) (de_tup (da_cons (de_use (i := 5)) (da_cons (de_use (i := 6)) (da_cons (de_use (i := 7)) (da_cons (de_use (i := 8)) (da_cons (de_lst (da_cons (de_fld cs_chain (do_var (i := 6)) h.a_chain) da_nil)) (da_cons (de_lst (da_cons (de_use (i := 0)) da_nil)) da_nil)))))))))
  (dss_cons (ds_par (i := 5) (j := 6) (da_cons (de_make (id_Open h) (dos_cons (do_val (de_use (i := 0))) dos_nil)) (da_cons (de_makeK (ks := ["measure"]) [0] (id_Open h) (dks_cons (do_val (de_use (i := 0))) dks_nil) (hbind := fun _ _ _ _ _ _ _ _ _ _ ws hl => match ws, hl with | [_], _ => rfl) (hl := fun ds hl => match ds, hl with | [_], _ => rfl)) da_nil)) (hw := fun X hX => swp (fun _ _ _ _ _ _ _ _ => rfl) hX.sc))
  (dss_cons (ds_par (i := 7) (j := 8) (da_cons (de_and (de_isC (do_var (i := 5)) (h.isc "Open" (by decide +kernel)) h.f_isinstance h.g_Open) (de_one (de_isC (do_var (i := 6)) (h.isc "Open" (by decide +kernel)) h.f_isinstance h.g_Open))) (da_cons (de_lst (da_cons (de_fld cs_measure (do_var (i := 5)) h.a_measure) da_nil)) da_nil)) (hw := fun X hX => swp (fun _ _ _ _ _ _ _ _ => rfl) hX.sc))
  (dss_cons (ds_expr (de_append (i := 4) (de_tup (da_cons (de_use (i := 5)) (da_cons (de_use (i := 6)) (da_cons (de_use (i := 7)) (da_cons (de_use (i := 8)) (da_cons (de_lst (da_cons (de_fld cs_measure (do_var (i := 6)) h.a_measure) da_nil)) (da_cons (de_lst (da_cons (de_use (i := 0)) da_nil)) da_nil)))))))))
  (dss_cons (ds_par (i := 5) (j := 6) (da_cons (de_make (id_Homotopy h) (dos_cons (do_val (de_use (i := 0))) dos_nil)) (da_cons (de_makeK (ks := ["tables"]) [0] (id_Homotopy h) (dks_cons (do_val (de_use (i := 0))) dks_nil) (hbind := fun _ _ _ _ _ _ _ _ _ _ ws hl => match ws, hl with | [_], _ => rfl) (hl := fun ds hl => match ds, hl with | [_], _ => rfl)) da_nil)) (hw := fun X hX => swp (fun _ _ _ _ _ _ _ _ => rfl) hX.sc))
  (dss_cons (ds_par (i := 7) (j := 8) (da_cons (de_and (de_isC (do_var (i := 5)) (h.isc "Homotopy" (by decide +kernel)) h.f_isinstance h.g_Homotopy) (de_one (de_isC (do_var (i := 6)) (h.isc "Homotopy" (by decide +kernel)) h.f_isinstance h.g_Homotopy))) (da_cons (de_lst (da_cons (de_fld cs_tables (do_var (i := 5)) h.a_tables) da_nil)) da_nil)) (hw := fun X hX => swp (fun _ _ _ _ _ _ _ _ => rfl) hX.sc))
  (dss_cons (ds_expr (de_append (i := 4) (de_tup (da_cons (de_use (i := 5)) (da_cons (de_use (i := 6)) (da_cons (de_use (i := 7)) (da_cons (de_use (i := 8)) (da_cons (de_lst (da_cons (de_fld cs_tables (do_var (i := 6)) h.a_tables) da_nil)) (da_cons (de_lst (da_cons (de_use (i := 0)) da_nil)) da_nil)))))))))
  (dss_cons (ds_par (i := 5) (j := 6) (da_cons (de_make (id_Clocks h) (dos_cons (do_val (de_use (i := 0))) dos_nil)) (da_cons (de_makeK (ks := ["tables"]) [0] (id_Clocks h) (dks_cons (do_val (de_use (i := 0))) dks_nil) (hbind := fun _ _ _ _ _ _ _ _ _ _ ws hl => match ws, hl with | [_], _ => rfl) (hl := fun ds hl => match ds, hl with | [_], _ => rfl)) da_nil)) (hw := fun X hX => swp (fun _ _ _ _ _ _ _ _ => rfl) hX.sc))
  (dss_cons (ds_par (i := 7) (j := 8) (da_cons (de_and (de_isC (do_var (i := 5)) (h.isc "Clocks" (by decide +kernel)) h.f_isinstance h.g_Clocks) (de_one (de_isC (do_var (i := 6)) (h.isc "Clocks" (by decide +kernel)) h.f_isinstance h.g_Clocks))) (da_cons (de_lst (da_cons (de_fld cs_tables (do_var (i := 5)) h.a_tables) da_nil)) da_nil)) (hw := fun X hX => swp (fun _ _ _ _ _ _ _ _ => rfl) hX.sc))
  (dss_cons (ds_expr (de_append (i := 4) (de_tup (da_cons (de_use (i := 5)) (da_cons (de_use (i := 6)) (da_cons (de_use (i := 7)) (da_cons (de_use (i := 8)) (da_cons (de_lst (da_cons (de_fld cs_tables (do_var (i := 6)) h.a_tables) da_nil)) (da_cons (de_lst (da_cons (de_use (i := 0)) da_nil)) da_nil)))))))))
  (dss_cons (ds_par (i := 5) (j := 6) (da_cons (de_make (id_Reduction h) (dos_cons (do_val (de_use (i := 0))) (dos_cons (do_val (de_use (i := 1))) (dos_cons (do_val (de_use (i := 2))) (dos_cons (do_val (de_use (i := 3))) dos_nil))))) (da_cons (de_makeK (ks := ["fill", "up", "down", "shell"]) [3, 2, 1, 0] (id_Reduction h) (dks_cons (do_val (de_use (i := 3))) (dks_cons (do_val (de_use (i := 2))) (dks_cons (do_val (de_use (i := 1))) (dks_cons (do_val (de_use (i := 0))) dks_nil)))) (hbind := fun _ _ _ _ _ _ _ _ _ _ ws hl => match ws, hl with | [_, _, _, _], _ => rfl) (hl := fun ds hl => match ds, hl with | [_, _, _, _], _ => rfl)) da_nil)) (hw := fun X hX => swp (fun _ _ _ _ _ _ _ _ => rfl) hX.sc))
  (dss_cons (ds_par (i := 7) (j := 8) (da_cons (de_and (de_isC (do_var (i := 5)) (h.isc "Reduction" (by decide +kernel)) h.f_isinstance h.g_Reduction) (de_one (de_isC (do_var (i := 6)) (h.isc "Reduction" (by decide +kernel)) h.f_isinstance h.g_Reduction))) (da_cons (de_lst (da_cons (de_fld cs_shell (do_var (i := 5)) h.a_shell) (da_cons (de_fld cs_down (do_var (i := 5)) h.a_down) (da_cons (de_fld cs_up (do_var (i := 5)) h.a_up) (da_cons (de_fld cs_fill (do_var (i := 5)) h.a_fill) da_nil))))) da_nil)) (hw := fun X hX => swp (fun _ _ _ _ _ _ _ _ => rfl) hX.sc))
  (dss_cons (ds_expr (de_append (i := 4) (de_tup (da_cons (de_use (i := 5)) (da_cons (de_use (i := 6)) (da_cons (de_use (i := 7)) (da_cons (de_use (i := 8)) (da_cons (de_lst (da_cons (de_fld cs_shell (do_var (i := 6)) h.a_shell) (da_cons (de_fld cs_down (do_var (i := 6)) h.a_down) (da_cons (de_fld cs_up (do_var (i := 6)) h.a_up) (da_cons (de_fld cs_fill (do_var (i := 6)) h.a_fill) da_nil))))) (da_cons (de_lst (da_cons (de_use (i := 0)) (da_cons (de_use (i := 1)) (da_cons (de_use (i := 2)) (da_cons (de_use (i := 3)) da_nil))))) da_nil)))))))))
  (dss_one (ds_ret (de_use (i := 4))))))))))))))))))))))))))))))))))))))
theorem fd__law_made_a {P : Program} {w : World} {K : PySem.W.Frag} {mg : Str → Option Value} {base : Heap} (h : Hy K mg) : FD P w K mg base "_law_made_a" 4 p__law_made_a m__law_made_a := by
  obtain ⟨fd, F⟩ := h.says.def_ 4 (d := Hd.d__law_made_a) rfl
  exact fd_of F h.g__law_made_a sc__law_made_a (F.bindsN fun _ _ _ _ _ _ us hl => match us, hl with | [_, _, _, _], _ => rfl) (ds__law_made_a h)

abbrev N_Split_init : List Str := ["self", "above", "below", "rest"]
abbrev p_Split_init : List Str := ["self", "above", "below", "rest"]
def g_Split_init : MT :=
  (seqS (mAttr "Split" "above" 0 (callM (opC (mOpnd (mUse 1)) op0) p_copied none m_copied))
  (seqS (mAttr "Split" "below" 0 (callM (opC (mOpnd (mUse 2)) op0) p_copied none m_copied))
  (mAttr "Split" "rest" 0 (callM (opC (mOpnd (mUse 3)) op0) p_copied none m_copied))))
def m_Split_init : FnM := fun os n => (g_Split_init (VL.entry N_Split_init.length os n)).toFR [0] p_Split_init.length
theorem sc_Split_init : FnScope N_Split_init p_Split_init Hd.d_Split___init__.scope := C8.fnScope_by (by decide +kernel)
theorem ds_Split_init {P : Program} {w : World} {K : PySem.W.Frag} {mg : Str → Option Value} {base : Heap} (h : Hy K mg) : DSs ⟨P, w, K, mg, base, N_Split_init, Hd.d_Split___init__.scope, 1, [0], cellsOf Hd.d_Split___init__.scope⟩ Hd.d_Split___init__.body g_Split_init :=
  (dss_cons (ds_attr (i := 0) (c := "Split") (de_call (j0 := none) (fd_copied h) (dos_cons (do_val (de_use (i := 1))) dos_nil)) (h.isc "Split" (by decide +kernel)).cls (h.n_above "Split" (by decide +kernel)))
  (dss_cons (ds_attr (i := 0) (c := "Split") (de_call (j0 := none) (fd_copied h) (dos_cons (do_val (de_use (i := 2))) dos_nil)) (h.isc "Split" (by decide +kernel)).cls (h.n_below "Split" (by decide +kernel)))
  (dss_one (ds_attr (i := 0) (c := "Split") (de_call (j0 := none) (fd_copied h) (dos_cons (do_val (de_use (i := 3))) dos_nil)) (h.isc "Split" (by decide +kernel)).cls (h.n_rest "Split" (by decide +kernel))))))
theorem id_Split {P : Program} {w : World} {K : PySem.W.Frag} {mg : Str → Option Value} {base : Heap} (h : Hy K mg) : ID P w K mg base "Split" 2 (defArgs Hd.s_Split___init__) p_Split_init m_Split_init := by
  obtain ⟨fd, F⟩ := h.says.def_ 21 (d := Hd.d_Split___init__) rfl
  exact ⟨h.g_Split, _, fd, _, _, _, h.mkc "Split" (by decide +kernel), F, F.bindsN fun _ _ _ _ _ _ us hl => match us, hl with | [_, _, _, _], _ => rfl, fnG_init F sc_Split_init (ds_Split_init h)⟩

abbrev N_Nearest_init : List Str := ["self", "near", "square"]
abbrev p_Nearest_init : List Str := ["self", "near", "square"]
def g_Nearest_init : MT :=
  (seqS (mAttr "Nearest" "near" 0 (callM (opC (mOpnd (mUse 1)) op0) p_copied none m_copied))
  (mAttr "Nearest" "square" 0 (callM (opC (mOpnd (mUse 2)) op0) p_copied none m_copied)))
def m_Nearest_init : FnM := fun os n => (g_Nearest_init (VL.entry N_Nearest_init.length os n)).toFR [0] p_Nearest_init.length
theorem sc_Nearest_init : FnScope N_Nearest_init p_Nearest_init Hd.d_Nearest___init__.scope := C8.fnScope_by (by decide +kernel)
theorem ds_Nearest_init {P : Program} {w : World} {K : PySem.W.Frag} {mg : Str → Option Value} {base : Heap} (h : Hy K mg) : DSs ⟨P, w, K, mg, base, N_Nearest_init, Hd.d_Nearest___init__.scope, 1, [0], cellsOf Hd.d_Nearest___init__.scope⟩ Hd.d_Nearest___init__.body g_Nearest_init :=
  (dss_cons (ds_attr (i := 0) (c := "Nearest") (de_call (j0 := none) (fd_copied h) (dos_cons (do_val (de_use (i := 1))) dos_nil)) (h.isc "Nearest" (by decide +kernel)).cls (h.n_near "Nearest" (by decide +kernel)))
  (dss_one (ds_attr (i := 0) (c := "Nearest") (de_call (j0 := none) (fd_copied h) (dos_cons (do_val (de_use (i := 2))) dos_nil)) (h.isc "Nearest" (by decide +kernel)).cls (h.n_square "Nearest" (by decide +kernel)))))
theorem id_Nearest {P : Program} {w : World} {K : PySem.W.Frag} {mg : Str → Option Value} {base : Heap} (h : Hy K mg) : ID P w K mg base "Nearest" 2 (defArgs Hd.s_Nearest___init__) p_Nearest_init m_Nearest_init := by
  obtain ⟨fd, F⟩ := h.says.def_ 22 (d := Hd.d_Nearest___init__) rfl
  exact ⟨h.g_Nearest, _, fd, _, _, _, h.mkc "Nearest" (by decide +kernel), F, F.bindsN fun _ _ _ _ _ _ us hl => match us, hl with | [_, _, _], _ => rfl, fnG_init F sc_Nearest_init (ds_Nearest_init h)⟩

abbrev N_Least_init : List Str := ["self", "row", "measure"]
abbrev p_Least_init : List Str := ["self", "row", "measure"]
def g_Least_init : MT :=
  (seqS (mAttr "Least" "row" 0 (callM (opC (mOpnd (mUse 1)) op0) p_copied none m_copied))
  (mAttr "Least" "measure" 0 (callM (opC (mOpnd (mUse 2)) op0) p_copied none m_copied)))
def m_Least_init : FnM := fun os n => (g_Least_init (VL.entry N_Least_init.length os n)).toFR [0] p_Least_init.length
theorem sc_Least_init : FnScope N_Least_init p_Least_init Hd.d_Least___init__.scope := C8.fnScope_by (by decide +kernel)
theorem ds_Least_init {P : Program} {w : World} {K : PySem.W.Frag} {mg : Str → Option Value} {base : Heap} (h : Hy K mg) : DSs ⟨P, w, K, mg, base, N_Least_init, Hd.d_Least___init__.scope, 1, [0], cellsOf Hd.d_Least___init__.scope⟩ Hd.d_Least___init__.body g_Least_init :=
  (dss_cons (ds_attr (i := 0) (c := "Least") (de_call (j0 := none) (fd_copied h) (dos_cons (do_val (de_use (i := 1))) dos_nil)) (h.isc "Least" (by decide +kernel)).cls (h.n_row "Least" (by decide +kernel)))
  (dss_one (ds_attr (i := 0) (c := "Least") (de_call (j0 := none) (fd_copied h) (dos_cons (do_val (de_use (i := 2))) dos_nil)) (h.isc "Least" (by decide +kernel)).cls (h.n_measure "Least" (by decide +kernel)))))
theorem id_Least {P : Program} {w : World} {K : PySem.W.Frag} {mg : Str → Option Value} {base : Heap} (h : Hy K mg) : ID P w K mg base "Least" 2 (defArgs Hd.s_Least___init__) p_Least_init m_Least_init := by
  obtain ⟨fd, F⟩ := h.says.def_ 26 (d := Hd.d_Least___init__) rfl
  exact ⟨h.g_Least, _, fd, _, _, _, h.mkc "Least" (by decide +kernel), F, F.bindsN fun _ _ _ _ _ _ us hl => match us, hl with | [_, _, _], _ => rfl, fnG_init F sc_Least_init (ds_Least_init h)⟩

abbrev N_Unfilled_init : List Str := ["self", "measure"]
abbrev p_Unfilled_init : List Str := ["self", "measure"]
def g_Unfilled_init : MT :=
  (mAttr "Unfilled" "measure" 0 (callM (opC (mOpnd (mUse 1)) op0) p_copied none m_copied))
def m_Unfilled_init : FnM := fun os n => (g_Unfilled_init (VL.entry N_Unfilled_init.length os n)).toFR [0] p_Unfilled_init.length
theorem sc_Unfilled_init : FnScope N_Unfilled_init p_Unfilled_init Hd.d_Unfilled___init__.scope := C8.fnScope_by (by decide +kernel)
theorem ds_Unfilled_init {P : Program} {w : World} {K : PySem.W.Frag} {mg : Str → Option Value} {base : Heap} (h : Hy K mg) : DSs ⟨P, w, K, mg, base, N_Unfilled_init, Hd.d_Unfilled___init__.scope, 1, [0], cellsOf Hd.d_Unfilled___init__.scope⟩ Hd.d_Unfilled___init__.body g_Unfilled_init :=
  (dss_one (ds_attr (i := 0) (c := "Unfilled") (de_call (j0 := none) (fd_copied h) (dos_cons (do_val (de_use (i := 1))) dos_nil)) (h.isc "Unfilled" (by decide +kernel)).cls (h.n_measure "Unfilled" (by decide +kernel))))
theorem id_Unfilled {P : Program} {w : World} {K : PySem.W.Frag} {mg : Str → Option Value} {base : Heap} (h : Hy K mg) : ID P w K mg base "Unfilled" 2 (defArgs Hd.s_Unfilled___init__) p_Unfilled_init m_Unfilled_init := by
  obtain ⟨fd, F⟩ := h.says.def_ 27 (d := Hd.d_Unfilled___init__) rfl
  exact ⟨h.g_Unfilled, _, fd, _, _, _, h.mkc "Unfilled" (by decide +kernel), F, F.bindsN fun _ _ _ _ _ _ us hl => match us, hl with | [_, _], _ => rfl, fnG_init F sc_Unfilled_init (ds_Unfilled_init h)⟩

abbrev N_Whole_init : List Str := ["self", "chain"]
abbrev p_Whole_init : List Str := ["self", "chain"]
def g_Whole_init : MT :=
  (mAttr "Whole" "chain" 0 (callM (opC (mOpnd (mUse 1)) op0) p_copied none m_copied))
def m_Whole_init : FnM := fun os n => (g_Whole_init (VL.entry N_Whole_init.length os n)).toFR [0] p_Whole_init.length
theorem sc_Whole_init : FnScope N_Whole_init p_Whole_init Hd.d_Whole___init__.scope := C8.fnScope_by (by decide +kernel)
theorem ds_Whole_init {P : Program} {w : World} {K : PySem.W.Frag} {mg : Str → Option Value} {base : Heap} (h : Hy K mg) : DSs ⟨P, w, K, mg, base, N_Whole_init, Hd.d_Whole___init__.scope, 1, [0], cellsOf Hd.d_Whole___init__.scope⟩ Hd.d_Whole___init__.body g_Whole_init :=
  (dss_one (ds_attr (i := 0) (c := "Whole") (de_call (j0 := none) (fd_copied h) (dos_cons (do_val (de_use (i := 1))) dos_nil)) (h.isc "Whole" (by decide +kernel)).cls (h.n_chain "Whole" (by decide +kernel))))
theorem id_Whole {P : Program} {w : World} {K : PySem.W.Frag} {mg : Str → Option Value} {base : Heap} (h : Hy K mg) : ID P w K mg base "Whole" 2 (defArgs Hd.s_Whole___init__) p_Whole_init m_Whole_init := by
  obtain ⟨fd, F⟩ := h.says.def_ 28 (d := Hd.d_Whole___init__) rfl
  exact ⟨h.g_Whole, _, fd, _, _, _, h.mkc "Whole" (by decide +kernel), F, F.bindsN fun _ _ _ _ _ _ us hl => match us, hl with | [_, _], _ => rfl, fnG_init F sc_Whole_init (ds_Whole_init h)⟩

abbrev N_Straight_init : List Str := ["self", "many"]
abbrev p_Straight_init : List Str := ["self", "many"]
def g_Straight_init : MT :=
  (mAttr "Straight" "many" 0 (callM (opC (mOpnd (mUse 1)) op0) p_copied none m_copied))
def m_Straight_init : FnM := fun os n => (g_Straight_init (VL.entry N_Straight_init.length os n)).toFR [0] p_Straight_init.length
theorem sc_Straight_init : FnScope N_Straight_init p_Straight_init Hd.d_Straight___init__.scope := C8.fnScope_by (by decide +kernel)
theorem ds_Straight_init {P : Program} {w : World} {K : PySem.W.Frag} {mg : Str → Option Value} {base : Heap} (h : Hy K mg) : DSs ⟨P, w, K, mg, base, N_Straight_init, Hd.d_Straight___init__.scope, 1, [0], cellsOf Hd.d_Straight___init__.scope⟩ Hd.d_Straight___init__.body g_Straight_init :=
  (dss_one (ds_attr (i := 0) (c := "Straight") (de_call (j0 := none) (fd_copied h) (dos_cons (do_val (de_use (i := 1))) dos_nil)) (h.isc "Straight" (by decide +kernel)).cls (h.n_many "Straight" (by decide +kernel))))
theorem id_Straight {P : Program} {w : World} {K : PySem.W.Frag} {mg : Str → Option Value} {base : Heap} (h : Hy K mg) : ID P w K mg base "Straight" 2 (defArgs Hd.s_Straight___init__) p_Straight_init m_Straight_init := by
  obtain ⟨fd, F⟩ := h.says.def_ 29 (d := Hd.d_Straight___init__) rfl
  exact ⟨h.g_Straight, _, fd, _, _, _, h.mkc "Straight" (by decide +kernel), F, F.bindsN fun _ _ _ _ _ _ us hl => match us, hl with | [_, _], _ => rfl, fnG_init F sc_Straight_init (ds_Straight_init h)⟩

abbrev N_Twisted_init : List Str := ["self", "lot", "row"]
abbrev p_Twisted_init : List Str := ["self", "lot", "row"]
def g_Twisted_init : MT :=
  (seqS (mAttr "Twisted" "lot" 0 (callM (opC (mOpnd (mUse 1)) op0) p_copied none m_copied))
  (mAttr "Twisted" "row" 0 (callM (opC (mOpnd (mUse 2)) op0) p_copied none m_copied)))
def m_Twisted_init : FnM := fun os n => (g_Twisted_init (VL.entry N_Twisted_init.length os n)).toFR [0] p_Twisted_init.length
theorem sc_Twisted_init : FnScope N_Twisted_init p_Twisted_init Hd.d_Twisted___init__.scope := C8.fnScope_by (by decide +kernel)
theorem ds_Twisted_init {P : Program} {w : World} {K : PySem.W.Frag} {mg : Str → Option Value} {base : Heap} (h : Hy K mg) : DSs ⟨P, w, K, mg, base, N_Twisted_init, Hd.d_Twisted___init__.scope, 1, [0], cellsOf Hd.d_Twisted___init__.scope⟩ Hd.d_Twisted___init__.body g_Twisted_init :=
  (dss_cons (ds_attr (i := 0) (c := "Twisted") (de_call (j0 := none) (fd_copied h) (dos_cons (do_val (de_use (i := 1))) dos_nil)) (h.isc "Twisted" (by decide +kernel)).cls (h.n_lot "Twisted" (by decide +kernel)))
  (dss_one (ds_attr (i := 0) (c := "Twisted") (de_call (j0 := none) (fd_copied h) (dos_cons (do_val (de_use (i := 2))) dos_nil)) (h.isc "Twisted" (by decide +kernel)).cls (h.n_row "Twisted" (by decide +kernel)))))
theorem id_Twisted {P : Program} {w : World} {K : PySem.W.Frag} {mg : Str → Option Value} {base : Heap} (h : Hy K mg) : ID P w K mg base "Twisted" 2 (defArgs Hd.s_Twisted___init__) p_Twisted_init m_Twisted_init := by
  obtain ⟨fd, F⟩ := h.says.def_ 30 (d := Hd.d_Twisted___init__) rfl
  exact ⟨h.g_Twisted, _, fd, _, _, _, h.mkc "Twisted" (by decide +kernel), F, F.bindsN fun _ _ _ _ _ _ us hl => match us, hl with | [_, _, _], _ => rfl, fnG_init F sc_Twisted_init (ds_Twisted_init h)⟩

abbrev N_Alike_init : List Str := ["self", "row", "filling", "measure"]
abbrev p_Alike_init : List Str := ["self", "row", "filling", "measure"]
def g_Alike_init : MT :=
  (seqS (mAttr "Alike" "row" 0 (callM (opC (mOpnd (mUse 1)) op0) p_copied none m_copied))
  (seqS (mAttr "Alike" "filling" 0 (callM (opC (mOpnd (mUse 2)) op0) p_copied none m_copied))
  (mAttr "Alike" "measure" 0 (callM (opC (mOpnd (mUse 3)) op0) p_copied none m_copied))))
def m_Alike_init : FnM := fun os n => (g_Alike_init (VL.entry N_Alike_init.length os n)).toFR [0] p_Alike_init.length
theorem sc_Alike_init : FnScope N_Alike_init p_Alike_init Hd.d_Alike___init__.scope := C8.fnScope_by (by decide +kernel)
theorem ds_Alike_init {P : Program} {w : World} {K : PySem.W.Frag} {mg : Str → Option Value} {base : Heap} (h : Hy K mg) : DSs ⟨P, w, K, mg, base, N_Alike_init, Hd.d_Alike___init__.scope, 1, [0], cellsOf Hd.d_Alike___init__.scope⟩ Hd.d_Alike___init__.body g_Alike_init :=
  (dss_cons (ds_attr (i := 0) (c := "Alike") (de_call (j0 := none) (fd_copied h) (dos_cons (do_val (de_use (i := 1))) dos_nil)) (h.isc "Alike" (by decide +kernel)).cls (h.n_row "Alike" (by decide +kernel)))
  (dss_cons (ds_attr (i := 0) (c := "Alike") (de_call (j0 := none) (fd_copied h) (dos_cons (do_val (de_use (i := 2))) dos_nil)) (h.isc "Alike" (by decide +kernel)).cls (h.n_filling "Alike" (by decide +kernel)))
  (dss_one (ds_attr (i := 0) (c := "Alike") (de_call (j0 := none) (fd_copied h) (dos_cons (do_val (de_use (i := 3))) dos_nil)) (h.isc "Alike" (by decide +kernel)).cls (h.n_measure "Alike" (by decide +kernel))))))
theorem id_Alike {P : Program} {w : World} {K : PySem.W.Frag} {mg : Str → Option Value} {base : Heap} (h : Hy K mg) : ID P w K mg base "Alike" 2 (defArgs Hd.s_Alike___init__) p_Alike_init m_Alike_init := by
  obtain ⟨fd, F⟩ := h.says.def_ 31 (d := Hd.d_Alike___init__) rfl
  exact ⟨h.g_Alike, _, fd, _, _, _, h.mkc "Alike" (by decide +kernel), F, F.bindsN fun _ _ _ _ _ _ us hl => match us, hl with | [_, _, _, _], _ => rfl, fnG_init F sc_Alike_init (ds_Alike_init h)⟩

abbrev N_Free_init : List Str := ["self", "rows"]
abbrev p_Free_init : List Str := ["self", "rows"]
def g_Free_init : MT :=
  (mAttr "Free" "rows" 0 (callM (opC (mOpnd (mUse 1)) op0) p_copied none m_copied))
def m_Free_init : FnM := fun os n => (g_Free_init (VL.entry N_Free_init.length os n)).toFR [0] p_Free_init.length
theorem sc_Free_init : FnScope N_Free_init p_Free_init Hd.d_Free___init__.scope := C8.fnScope_by (by decide +kernel)
theorem ds_Free_init {P : Program} {w : World} {K : PySem.W.Frag} {mg : Str → Option Value} {base : Heap} (h : Hy K mg) : DSs ⟨P, w, K, mg, base, N_Free_init, Hd.d_Free___init__.scope, 1, [0], cellsOf Hd.d_Free___init__.scope⟩ Hd.d_Free___init__.body g_Free_init :=
  (dss_one (ds_attr (i := 0) (c := "Free") (de_call (j0 := none) (fd_copied h) (dos_cons (do_val (de_use (i := 1))) dos_nil)) (h.isc "Free" (by decide +kernel)).cls (h.n_rows "Free" (by decide +kernel))))
theorem id_Free {P : Program} {w : World} {K : PySem.W.Frag} {mg : Str → Option Value} {base : Heap} (h : Hy K mg) : ID P w K mg base "Free" 2 (defArgs Hd.s_Free___init__) p_Free_init m_Free_init := by
  obtain ⟨fd, F⟩ := h.says.def_ 32 (d := Hd.d_Free___init__) rfl
  exact ⟨h.g_Free, _, fd, _, _, _, h.mkc "Free" (by decide +kernel), F, F.bindsN fun _ _ _ _ _ _ us hl => match us, hl with | [_, _], _ => rfl, fnG_init F sc_Free_init (ds_Free_init h)⟩

abbrev N_Round_init : List Str := ["self", "chain"]
abbrev p_Round_init : List Str := ["self", "chain"]
def g_Round_init : MT :=
  (mAttr "Round" "chain" 0 (callM (opC (mOpnd (mUse 1)) op0) p_copied none m_copied))
def m_Round_init : FnM := fun os n => (g_Round_init (VL.entry N_Round_init.length os n)).toFR [0] p_Round_init.length
theorem sc_Round_init : FnScope N_Round_init p_Round_init Hd.d_Round___init__.scope := C8.fnScope_by (by decide +kernel)
theorem ds_Round_init {P : Program} {w : World} {K : PySem.W.Frag} {mg : Str → Option Value} {base : Heap} (h : Hy K mg) : DSs ⟨P, w, K, mg, base, N_Round_init, Hd.d_Round___init__.scope, 1, [0], cellsOf Hd.d_Round___init__.scope⟩ Hd.d_Round___init__.body g_Round_init :=
  (dss_one (ds_attr (i := 0) (c := "Round") (de_call (j0 := none) (fd_copied h) (dos_cons (do_val (de_use (i := 1))) dos_nil)) (h.isc "Round" (by decide +kernel)).cls (h.n_chain "Round" (by decide +kernel))))
theorem id_Round {P : Program} {w : World} {K : PySem.W.Frag} {mg : Str → Option Value} {base : Heap} (h : Hy K mg) : ID P w K mg base "Round" 2 (defArgs Hd.s_Round___init__) p_Round_init m_Round_init := by
  obtain ⟨fd, F⟩ := h.says.def_ 33 (d := Hd.d_Round___init__) rfl
  exact ⟨h.g_Round, _, fd, _, _, _, h.mkc "Round" (by decide +kernel), F, F.bindsN fun _ _ _ _ _ _ us hl => match us, hl with | [_, _], _ => rfl, fnG_init F sc_Round_init (ds_Round_init h)⟩

abbrev N_Joins_init : List Str := ["self", "chains"]
abbrev p_Joins_init : List Str := ["self", "chains"]
def g_Joins_init : MT :=
  (mAttr "Joins" "chains" 0 (callM (opC (mOpnd (mUse 1)) op0) p_copied none m_copied))
def m_Joins_init : FnM := fun os n => (g_Joins_init (VL.entry N_Joins_init.length os n)).toFR [0] p_Joins_init.length
theorem sc_Joins_init : FnScope N_Joins_init p_Joins_init Hd.d_Joins___init__.scope := C8.fnScope_by (by decide +kernel)
theorem ds_Joins_init {P : Program} {w : World} {K : PySem.W.Frag} {mg : Str → Option Value} {base : Heap} (h : Hy K mg) : DSs ⟨P, w, K, mg, base, N_Joins_init, Hd.d_Joins___init__.scope, 1, [0], cellsOf Hd.d_Joins___init__.scope⟩ Hd.d_Joins___init__.body g_Joins_init :=
  (dss_one (ds_attr (i := 0) (c := "Joins") (de_call (j0 := none) (fd_copied h) (dos_cons (do_val (de_use (i := 1))) dos_nil)) (h.isc "Joins" (by decide +kernel)).cls (h.n_chains "Joins" (by decide +kernel))))
theorem id_Joins {P : Program} {w : World} {K : PySem.W.Frag} {mg : Str → Option Value} {base : Heap} (h : Hy K mg) : ID P w K mg base "Joins" 2 (defArgs Hd.s_Joins___init__) p_Joins_init m_Joins_init := by
  obtain ⟨fd, F⟩ := h.says.def_ 34 (d := Hd.d_Joins___init__) rfl
  exact ⟨h.g_Joins, _, fd, _, _, _, h.mkc "Joins" (by decide +kernel), F, F.bindsN fun _ _ _ _ _ _ us hl => match us, hl with | [_, _], _ => rfl, fnG_init F sc_Joins_init (ds_Joins_init h)⟩

abbrev N__law_made_b : List Str := ["a", "b", "c", "d", "rows", "one", "two", "kind", "first"]
abbrev p__law_made_b : List Str := ["a", "b", "c", "d"]
def g__law_made_b : MT :=
  (seqS (mSet 4 (mLst row0))
  (seqS (mPar 5 6 (rowC (makeM (opC (mOpnd (mUse 0)) (opC (mOpnd (mUse 1)) (opC (mOpnd (mUse 2)) op0))) p_Split_init "Split" m_Split_init) (rowC (makeKM (opC (mOpnd (mUse 2)) (opC (mOpnd (mUse 1)) (opC (mOpnd (mUse 0)) op0))) ["rest", "below", "above"] "Split" m_Split_init [2, 1, 0]) row0)))
  (seqS (mPar 7 8 (rowC (mAndV (mIsC "Split" (mVar 5)) (mIsC "Split" (mVar 6))) (rowC (mLst (rowC (mFld cs_above "above" (mVar 5)) (rowC (mFld cs_below "below" (mVar 5)) (rowC (mFld cs_rest "rest" (mVar 5)) row0)))) row0)))
  (seqS (exprS (mApp 4 (mTup (rowC (mUse 5) (rowC (mUse 6) (rowC (mUse 7) (rowC (mUse 8) (rowC (mLst (rowC (mFld cs_above "above" (mVar 6)) (rowC (mFld cs_below "below" (mVar 6)) (rowC (mFld cs_rest "rest" (mVar 6)) row0)))) (rowC (mLst (rowC (mUse 0) (rowC (mUse 1) (rowC (mUse 2) row0)))) row0)))))))))
  (seqS (mPar 5 6 (rowC (makeM (opC (mOpnd (mUse 0)) (opC (mOpnd (mUse 1)) op0)) p_Nearest_init "Nearest" m_Nearest_init) (rowC (makeKM (opC (mOpnd (mUse 1)) (opC (mOpnd (mUse 0)) op0)) ["square", "near"] "Nearest" m_Nearest_init [1, 0]) row0)))
  (seqS (mPar 7 8 (rowC (mAndV (mIsC "Nearest" (mVar 5)) (mIsC "Nearest" (mVar 6))) (rowC (mLst (rowC (mFld cs_near "near" (mVar 5)) (rowC (mFld cs_square "square" (mVar 5)) row0))) row0)))
  (seqS (exprS (mApp 4 (mTup (rowC (mUse 5) (rowC (mUse 6) (rowC (mUse 7) (rowC (mUse 8) (rowC (mLst (rowC (mFld cs_near "near" (mVar 6)) (rowC (mFld cs_square "square" (mVar 6)) row0))) (rowC (mLst (rowC (mUse 0) (rowC (mUse 1) row0))) row0)))))))))
  (seqS (mPar 5 6 (rowC (makeM (opC (mOpnd (mUse 0)) (opC (mOpnd (mUse 1)) op0)) p_Least_init "Least" m_Least_init) (rowC (makeKM (opC (mOpnd (mUse 1)) (opC (mOpnd (mUse 0)) op0)) ["measure", "row"] "Least" m_Least_init [1, 0]) row0)))
  (seqS (mPar 7 8 (rowC (mAndV (mIsC "Least" (mVar 5)) (mIsC "Least" (mVar 6))) (rowC (mLst (rowC (mFld cs_row "row" (mVar 5)) (rowC (mFld cs_measure "measure" (mVar 5)) row0))) row0)))
  (seqS (exprS (mApp 4 (mTup (rowC (mUse 5) (rowC (mUse 6) (rowC (mUse 7) (rowC (mUse 8) (rowC (mLst (rowC (mFld cs_row "row" (mVar 6)) (rowC (mFld cs_measure "measure" (mVar 6)) row0))) (rowC (mLst (rowC (mUse 0) (rowC (mUse 1) row0))) row0)))))))))
  (seqS (mPar 5 6 (rowC (makeM (opC (mOpnd (mUse 0)) op0) p_Unfilled_init "Unfilled" m_Unfilled_init) (rowC (makeKM (opC (mOpnd (mUse 0)) op0) ["measure"] "Unfilled" m_Unfilled_init [0]) row0)))
  (seqS (mPar 7 8 (rowC (mAndV (mIsC "Unfilled" (mVar 5)) (mIsC "Unfilled" (mVar 6))) (rowC (mLst (rowC (mFld cs_measure "measure" (mVar 5)) row0)) row0)))
  (seqS (exprS (mApp 4 (mTup (rowC (mUse 5) (rowC (mUse 6) (rowC (mUse 7) (rowC (mUse 8) (rowC (mLst (rowC (mFld cs_measure "measure" (mVar 6)) row0)) (rowC (mLst (rowC (mUse 0) row0)) row0)))))))))
  (seqS (mPar 5 6 (rowC (makeM (opC (mOpnd (mUse 0)) op0) p_Whole_init "Whole" m_Whole_init) (rowC (makeKM (opC (mOpnd (mUse 0)) op0) ["chain"] "Whole" m_Whole_init [0]) row0)))
  (seqS (mPar 7 8 (rowC (mAndV (mIsC "Whole" (mVar 5)) (mIsC "Whole" (mVar 6))) (rowC (mLst (rowC (mFld cs_chain "chain" (mVar 5)) row0)) row0)))
  (seqS (exprS (mApp 4 (mTup (rowC (mUse 5) (rowC (mUse 6) (rowC (mUse 7) (rowC (mUse 8) (rowC (mLst (rowC (mFld cs_chain "chain" (mVar 6)) row0)) (rowC (mLst (rowC (mUse 0) row0)) row0)))))))))
  (seqS (mPar 5 6 (rowC (makeM (opC (mOpnd (mUse 0)) op0) p_Straight_init "Straight" m_Straight_init) (rowC (makeKM (opC (mOpnd (mUse 0)) op0) ["many"] "Straight" m_Straight_init [0]) row0)))
  (seqS (mPar 7 8 (rowC (mAndV (mIsC "Straight" (mVar 5)) (mIsC "Straight" (mVar 6))) (rowC (mLst (rowC (mFld cs_many "many" (mVar 5)) row0)) row0)))
  (seqS (exprS (mApp 4 (mTup (rowC (mUse 5) (rowC (mUse 6) (rowC (mUse 7) (rowC (mUse 8) (rowC (mLst (rowC (mFld cs_many "many" (mVar 6)) row0)) (rowC (mLst (rowC (mUse 0) row0)) row0)))))))))
  (seqS (mPar 5 6 (rowC (makeM (opC (mOpnd (mUse 0)) (opC (mOpnd (mUse 1)) op0)) p_Twisted_init "Twisted" m_Twisted_init) (rowC (makeKM (opC (mOpnd (mUse 1)) (opC (mOpnd (mUse 0)) op0)) ["row", "lot"] "Twisted" m_Twisted_init [1, 0]) row0)))
  (seqS (mPar 7 8 (rowC (mAndV (mIsC "Twisted" (mVar 5)) (mIsC "Twisted" (mVar 6))) (rowC (mLst (rowC (mFld cs_lot "lot" (mVar 5)) (rowC (mFld cs_row "row" (mVar 5)) row0))) row0)))
  (seqS (exprS (mApp 4 (mTup (rowC (mUse 5) (rowC (mUse 6) (rowC (mUse 7) (rowC (mUse 8) (rowC (mLst (rowC (mFld cs_lot "lot" (mVar 6)) (rowC (mFld cs_row "row" (mVar 6)) row0))) (rowC (mLst (rowC (mUse 0) (rowC (mUse 1) row0))) row0)))))))))
  (seqS (mPar 5 6 (rowC (makeM (opC (mOpnd (mUse 0)) (opC (mOpnd (mUse 1)) (opC (mOpnd (mUse 2)) op0))) p_Alike_init "Alike" m_Alike_init) (rowC (makeKM (opC (mOpnd (mUse 2)) (opC (mOpnd (mUse 1)) (opC (mOpnd (mUse 0)) op0))) ["measure", "filling", "row"] "Alike" m_Alike_init [2, 1, 0]) row0)))
  (seqS (mPar 7 8 (rowC (mAndV (mIsC "Alike" (mVar 5)) (mIsC "Alike" (mVar 6))) (rowC (mLst (rowC (mFld cs_row "row" (mVar 5)) (rowC (mFld cs_filling "filling" (mVar 5)) (rowC (mFld cs_measure "measure" (mVar 5)) row0)))) row0)))
  (seqS (exprS (mApp 4 (mTup (rowC (mUse 5) (rowC (mUse 6) (rowC (mUse 7) (rowC (mUse 8) (rowC (mLst (rowC (mFld cs_row "row" (mVar 6)) (rowC (mFld cs_filling "filling" (mVar 6)) (rowC (mFld cs_measure "measure" (mVar 6)) row0)))) (rowC (mLst (rowC (mUse 0) (rowC (mUse 1) (rowC (mUse 2) row0)))) row0)))))))))
  (seqS (mPar 5 6 (rowC (makeM (opC (mOpnd (mUse 0)) op0) p_Free_init "Free" m_Free_init) (rowC (makeKM (opC (mOpnd (mUse 0)) op0) ["rows"] "Free" m_Free_init [0]) row0)))
  (seqS (mPar 7 8 (rowC (mAndV (mIsC "Free" (mVar 5)) (mIsC "Free" (mVar 6))) (rowC (mLst (rowC (mFld cs_rows "rows" (mVar 5)) row0)) row0)))
  (seqS (exprS (mApp 4 (mTup (rowC (mUse 5) (rowC (mUse 6) (rowC (mUse 7) (rowC (mUse 8) (rowC (mLst (rowC (mFld cs_rows "rows" (mVar 6)) row0)) (rowC (mLst (rowC (mUse 0) row0)) row0)))))))))
  (seqS (mPar 5 6 (rowC (makeM (opC (mOpnd (mUse 0)) op0) p_Round_init "Round" m_Round_init) (rowC (makeKM (opC (mOpnd (mUse 0)) op0) ["chain"] "Round" m_Round_init [0]) row0)))
  (seqS (mPar 7 8 (rowC (mAndV (mIsC "Round" (mVar 5)) (mIsC "Round" (mVar 6))) (rowC (mLst (rowC (mFld cs_chain "chain" (mVar 5)) row0)) row0)))
  (seqS (exprS (mApp 4 (mTup (rowC (mUse 5) (rowC (mUse 6) (rowC (mUse 7) (rowC (mUse 8) (rowC (mLst (rowC (mFld cs_chain "chain" (mVar 6)) row0)) (rowC (mLst (rowC (mUse 0) row0)) row0)))))))))
  (seqS (mPar 5 6 (rowC (makeM (opC (mOpnd (mUse 0)) op0) p_Joins_init "Joins" m_Joins_init) (rowC (makeKM (opC (mOpnd (mUse 0)) op0) ["chains"] "Joins" m_Joins_init [0]) row0)))
  (seqS (mPar 7 8 (rowC (mAndV (mIsC "Joins" (mVar 5)) (mIsC "Joins" (mVar 6))) (rowC (mLst (rowC (mFld cs_chains "chains" (mVar 5)) row0)) row0)))
  (seqS (exprS (mApp 4 (mTup (rowC (mUse 5) (rowC (mUse 6) (rowC (mUse 7) (rowC (mUse 8) (rowC (mLst (rowC (mFld cs_chains "chains" (mVar 6)) row0)) (rowC (mLst (rowC (mUse 0) row0)) row0)))))))))
  (retS (mUse 4))))))))))))))))))))))))))))))))))))
def m__law_made_b : FnM := fun os n => (g__law_made_b (VL.entry N__law_made_b.length os n)).toFR [] p__law_made_b.length
theorem sc__law_made_b : FnScope N__law_made_b p__law_made_b Hd.d__law_made_b.scope := C8.fnScope_by (by decide +kernel)
theorem ds__law_made_b {P : Program} {w : World} {K : PySem.W.Frag} {mg : Str → Option Value} {base : Heap} (h : Hy K mg) : DSs ⟨P, w, K, mg, base, N__law_made_b, Hd.d__law_made_b.scope, 3, [], cellsOf Hd.d__law_made_b.scope⟩ Hd.d__law_made_b.body g__law_made_b :=
  (dss_cons (ds_set (i := 4) (de_lst da_nil))
  (dss_cons (ds_par (i := 5) (j := 6) (da_cons (de_make (id_Split h) (dos_cons (do_val (de_use (i := 0))) (dos_cons (do_val (de_use (i := 1))) (dos_cons (do_val (de_use (i := 2))) dos_nil)))) (da_cons (de_makeK (ks := ["rest", "below", "above"]) [2, 1, 0] (id_Split h) (dks_cons (do_val (de_use (i := 2))) (dks_cons (do_val (de_use (i := 1))) (dks_cons (do_val (de_use (i := 0))) dks_nil))) (hbind := fun _ _ _ _ _ _ _ _ _ _ ws hl => match ws, hl with | [_, _, _], _ => rfl) (hl := fun ds hl => match ds, hl with | [_, _, _], _ => rfl)) da_nil)) (hw := fun X hX => swp (fun _ _ _ _ _ _ _ _ => rfl) hX.sc))
  (dss_cons (ds_par (i := 7) (j := 8) (da_cons (de_and (de_isC (do_var (i := 5)) (h.isc "Split" (by decide +kernel)) h.f_isinstance h.g_Split) (de_one (de_isC (do_var (i := 6)) (h.isc "Split" (by decide +kernel)) h.f_isinstance h.g_Split))) (da_cons (de_lst (da_cons (de_fld cs_above (do_var (i := 5)) h.a_above) (da_cons (de_fld cs_below (do_var (i := 5)) h.a_below) (da_cons (de_fld cs_rest (do_var (i := 5)) h.a_rest) da_nil)))) da_nil)) (hw := fun X hX => swp (fun _ _ _ _ _ _ _ _ => rfl) hX.sc))
  (dss_cons (ds_expr (de_append (i := 4) (de_tup (da_cons (de_use (i := 5)) (da_cons (de_use (i := 6)) (da_cons (de_use (i := 7)) (da_cons (de_use (i := 8)) (da_cons (de_lst (da_cons (de_fld cs_above (do_var (i := 6)) h.a_above) (da_cons (de_fld cs_below (do_var (i := 6)) h.a_below) (da_cons (de_fld cs_rest (do_var (i := 6)) h.a_rest) da_nil)))) (da_cons (de_lst (da_cons (de_use (i := 0)) (da_cons (de_use (i := 1)) (da_cons (de_use (i := 2)) da_nil)))) da_nil)))))))))
  (dss_cons (ds_par (i := 5) (j := 6) (da_cons (de_make (id_Nearest h) (dos_cons (do_val (de_use (i := 0))) (dos_cons (do_val (de_use (i := 1))) dos_nil))) (da_cons (de_makeK (ks := ["square", "near"]) [1, 0] (id_Nearest h) (dks_cons (do_val (de_use (i := 1))) (dks_cons (do_val (de_use (i := 0))) dks_nil)) (hbind := fun _ _ _ _ _ _ _ _ _ _ ws hl => match ws, hl with | [_, _], _ => rfl) (hl := fun ds hl => match ds, hl with | [_, _], _ => rfl)) da_nil)) (hw := fun X hX => swp (fun _ _ _ _ _ _ _ _ => rfl) hX.sc))
  (dss_cons (ds_par (i := 7) (j := 8) (da_cons (de_and (de_isC (do_var (i := 5)) (h.isc "Nearest" (by decide +kernel)) h.f_isinstance h.g_Nearest) (de_one (de_isC (do_var (i := 6)) (h.isc "Nearest" (by decide +kernel)) h.f_isinstance h.g_Nearest))) (da_cons (de_lst (da_cons (de_fld cs_near (do_var (i := 5)) h.a_near) (da_cons (de_fld cs_square (do_var (i := 5)) h.a_square) da_nil))) da_nil)) (hw := fun X hX => swp (fun _ _ _ _ _ _ _ _ => rfl) hX.sc))
  (dss_cons (ds_expr (de_append (i := 4) (de_tup (da_cons (de_use (i := 5)) (da_cons (de_use (i := 6)) (da_cons (de_use (i := 7)) (da_cons (de_use (i := 8)) (da_cons (de_lst (da_cons (de_fld cs_near (do_var (i := 6)) h.a_near) (da_cons (de_fld cs_square (do_var (i := 6)) h.a_square) da_nil))) (da_cons (de_lst (da_cons (de_use (i := 0)) (da_cons (de_use (i := 1)) da_nil))) da_nil)))))))))
  (dss_cons (ds_par (i := 5) (j := 6) (da_cons (de_make (id_Least h) (dos_cons (do_val (de_use (i := 0))) (dos_cons (do_val (de_use (i := 1))) dos_nil))) (da_cons (de_makeK (ks := ["measure", "row"]) [1, 0] (id_Least h) (dks_cons (do_val (de_use (i := 1))) (dks_cons (do_val (de_use (i := 0))) dks_nil)) (hbind := fun _ _ _ _ _ _ _ _ _ _ ws hl => match ws, hl with | [_, _], _ => rfl) (hl := fun ds hl => match ds, hl with | [_, _], _ => rfl)) da_nil)) (hw := fun X hX => swp (fun _ _ _ _ _ _ _ _ => rfl) hX.sc))
  (dss_cons (ds_par (i := 7) (j := 8) (da_cons (de_and (de_isC (do_var (i := 5)) (h.isc "Least" (by decide +kernel)) h.f_isinstance h.g_Least) (de_one (de_isC (do_var (i := 6)) (h.isc "Least" (by decide +kernel)) h.f_isinstance h.g_Least))) (da_cons (de_lst (da_cons (de_fld cs_row (do_var (i := 5)) h.a_row) (da_cons (de_fld cs_measure (do_var (i := 5)) h.a_measure) da_nil))) da_nil)) (hw := fun X hX => swp (fun _ _ _ _ _ _ _ _ => rfl) hX.sc))
  (dss_cons (ds_expr (de_append (i := 4) (de_tup (da_cons (de_use (i := 5)) (da_cons (de_use (i := 6)) (da_cons (de_use (i := 7)) (da_cons (de_use (i := 8)) (da_cons (de_lst (da_cons (de_fld cs_row (do_var (i := 6)) h.a_row) (da_cons (de_fld cs_measure (do_var (i := 6)) h.a_measure) da_nil))) (da_cons (de_lst (da_cons (de_use (i := 0)) (da_cons (de_use (i := 1)) da_nil))) da_nil)))))))))
  (dss_cons (ds_par (i := 5) (j := 6) (da_cons (de_make (id_Unfilled h) (dos_cons (do_val (de_use (i := 0))) dos_nil)) (da_cons (de_makeK (ks := ["measure"]) [0] (id_Unfilled h) (dks_cons (do_val (de_use (i := 0))) dks_nil) (hbind := fun _ _ _ _ _ _ _ _ _ _ ws hl => match ws, hl with | [_], _ => rfl) (hl := fun ds hl => match ds, hl with | [_], _ => rfl)) da_nil)) (hw := fun X hX => swp (fun _ _ _ _ _ _ _ _ => rfl) hX.sc))
  (dss_cons (ds_par (i := 7) (j := 8) (da_cons (de_and (de_isC (do_var (i := 5)) (h.isc "Unfilled" (by decide +kernel)) h.f_isinstance h.g_Unfilled) (de_one (de_isC (do_var (i := 6)) (h.isc "Unfilled" (by decide +kernel)) h.f_isinstance h.g_Unfilled))) (da_cons (de_lst (da_cons (de_fld cs_measure (do_var (i := 5)) h.a_measure) da_nil)) da_nil)) (hw := fun X hX => swp (fun _ _ _ _ _ _ _ _ => rfl) hX.sc))
  (dss_cons (ds_expr (de_append (i := 4) (de_tup (da_cons (de_use (i := 5)) (da_cons (de_use (i := 6)) (da_cons (de_use (i := 7)) (da_cons (de_use (i := 8)) (da_cons (de_lst (da_cons (de_fld cs_measure (do_var (i := 6)) h.a_measure) da_nil)) (da_cons (de_lst (da_cons (de_use (i := 0)) da_nil)) da_nil)))))))))
  (dss_cons (ds_par (i := 5) (j := 6) (da_cons (de_make (id_Whole h) (dos_cons (do_val (de_use (i := 0))) dos_nil)) (da_cons (de_makeK (ks := ["chain"]) [0] (id_Whole h) (dks_cons (do_val (de_use (i := 0))) dks_nil) (hbind := fun _ _ _ _ _ _ _ _ _ _ ws hl => match ws, hl with | [_], _ => rfl) (hl := fun ds hl => match ds, hl with | [_], _ => rfl)) da_nil)) (hw := fun X hX => swp (fun _ _ _ _ _ _ _ _ => rfl) hX.sc))
  (dss_cons (ds_par (i := 7) (j := 8) (da_cons (de_and (de_isC (do_var (i := 5)) (h.isc "Whole" (by decide +kernel)) h.f_isinstance h.g_Whole) (de_one (de_isC (do_var (i := 6)) (h.isc "Whole" (by decide +kernel)) h.f_isinstance h.g_Whole))) (da_cons (de_lst (da_cons (de_fld cs_chain (do_var (i := 5)) h.a_chain) da_nil)) da_nil)) (hw := fun X hX => swp (fun _ _ _ _ _ _ _ _ => rfl) hX.sc))
  (dss_cons (ds_expr (de_append (i := 4) (de_tup (da_cons (de_use (i := 5)) (da_cons (de_use (i := 6)) (da_cons (de_use (i := 7)) (da_cons (de_use (i := 8)) (da_cons (de_lst (da_cons (de_fld cs_chain (do_var (i := 6)) h.a_chain) da_nil)) (da_cons (de_lst (da_cons (de_use (i := 0)) da_nil)) da_nil)))))))))
  (dss_cons (ds_par (i := 5) (j := 6) (da_cons (de_make (id_Straight h) (dos_cons (do_val (de_use (i := 0))) dos_nil)) (da_cons (de_makeK (ks := ["many"]) [0] (id_Straight h) (dks_cons (do_val (de_use (i := 0))) dks_nil) (hbind := fun _ _ _ _ _ _ _ _ _ _ ws hl => match ws, hl with | [_], _ => rfl) (hl := fun ds hl => match ds, hl with | [_], _ => rfl)) da_nil)) (hw := fun X hX => swp (fun _ _ _ _ _ _ _ _ => rfl) hX.sc))
  (dss_cons (ds_par (i := 7) (j := 8) (da_cons (de_and (de_isC (do_var (i := 5)) (h.isc "Straight" (by decide +kernel)) h.f_isinstance h.g_Straight) (de_one (de_isC (do_var (i := 6)) (h.isc "Straight" (by decide +kernel)) h.f_isinstance h.g_Straight))) (da_cons (de_lst (da_cons (de_fld cs_many (do_var (i := 5)) h.a_many) da_nil)) da_nil)) (hw := fun X hX => swp (fun _ _ _ _ _ _ _ _ => rfl) hX.sc))
  (dss_cons (ds_expr (de_append (i := 4) (de_tup (da_cons (de_use (i := 5)) (da_cons (de_use (i := 6)) (da_cons (de_use (i := 7)) (da_cons (de_use (i := 8)) (da_cons (de_lst (da_cons (de_fld cs_many (do_var (i := 6)) h.a_many) da_nil)) (da_cons (de_lst (da_cons (de_use (i := 0)) da_nil)) da_nil)))))))))
  (dss_cons (ds_par (i := 5) (j := 6) (da_cons (de_make (id_Twisted h) (dos_cons (do_val (de_use (i := 0))) (dos_cons (do_val (de_use (i := 1))) dos_nil))) (da_cons (de_makeK (ks := ["row", "lot"]) [1, 0] (id_Twisted h) (dks_cons (do_val (de_use (i := 1))) (dks_cons (do_val (de_use (i := 0))) dks_nil)) (hbind := fun _ _ _ _ _ _ _ _ _ _ ws hl => match ws, hl with | [_, _], _ => rfl) (hl := fun ds hl => match ds, hl with | [_, _], _ => rfl)) da_nil)) (hw := fun X hX => swp (fun _ _ _ _ _ _ _ _ => rfl) hX.sc))
  (dss_cons (ds_par (i := 7) (j := 8) (da_cons (de_and (de_isC (do_var (i := 5)) (h.isc "Twisted" (by decide +kernel)) h.f_isinstance h.g_Twisted) (de_one (de_isC (do_var (i := 6)) (h.isc "Twisted" (by decide +kernel)) h.f_isinstance h.g_Twisted))) (da_cons (de_lst (da_cons (de_fld cs_lot (do_var (i := 5)) h.a_lot) (da_cons (de_fld cs_row (do_var (i := 5)) h.a_row) da_nil))) da_nil)) (hw := fun X hX => swp (fun _ _ _ _ _ _ _ _ => rfl) hX.sc))
  (dss_cons (ds_expr (de_append (i := 4) (de_tup (da_cons (de_use (i := 5)) (da_cons (de_use (i := 6)) (da_cons (de_use (i := 7)) (da_cons (de_use (i := 8)) (da_cons (de_lst (da_cons (de_fld cs_lot (do_var (i := 6)) h.a_lot) (da_cons (de_fld cs_row (do_var (i := 6)) h.a_row) da_nil))) (da_cons (de_lst (da_cons (de_use (i := 0)) (da_cons (de_use (i := 1)) da_nil))) da_nil)))))))))
  (dss_cons (ds_par (i := 5) (j := 6) (da_cons (de_make (id_Alike h) (dos_cons (do_val (de_use (i := 0))) (dos_cons (do_val (de_use (i := 1))) (dos_cons (do_val (de_use (i := 2))) dos_nil)))) (da_cons (de_makeK (ks := ["measure", "filling", "row"]) [2, 1, 0] (id_Alike h) (dks_cons (do_val (de_use (i := 2))) (dks_cons (do_val (de_use (i := 1))) (dks_cons (do_val (de_use (i := 0))) dks_nil))) (hbind := fun _ _ _ _ _ _ _ _ _ _ ws hl => match ws, hl with | [_, _, _], _ => rfl) (hl := fun ds hl => match ds, hl with | [_, _, _], _ => rfl)) da_nil)) (hw := fun X hX => swp (fun _ _ _ _ _ _ _ _ => rfl) hX.sc))
  (dss_cons (ds_par (i := 7) (j := 8) (da_cons (de_and (de_isC (do_var (i := 5)) (h.isc "Alike" (by decide +kernel)) h.f_isinstance h.g_Alike) (de_one (de_isC (do_var (i := 6)) (h.isc "Alike" (by decide +kernel)) h.f_isinstance h.g_Alike))) (da_cons (de_lst (da_cons (de_fld cs_row (do_var (i := 5)) h.a_row) (da_cons (de_fld cs_filling (do_var (i := 5)) h.a_filling) (da_cons (de_fld cs_measure (do_var (i := 5)) h.a_measure) da_nil)))) da_nil)) (hw := fun X hX => swp (fun _ _ _ _ _ _ _ _ => rfl) hX.sc))
  (dss_cons (ds_expr (de_append (i := 4) (de_tup (da_cons (de_use (i := 5)) (da_cons (de_use (i := 6)) (da_cons (de_use (i := 7)) (da_cons (de_use (i := 8)) (da_cons (de_lst (da_cons (de_fld cs_row (do_var (i := 6)) h.a_row) (da_cons (de_fld cs_filling (do_var (i := 6)) h.a_filling) (da_cons (de_fld cs_measure (do_var (i := 6)) h.a_measure) da_nil)))) (da_cons (de_lst (da_cons (de_use (i := 0)) (da_cons (de_use (i := 1)) (da_cons (de_use (i := 2)) da_nil)))) da_nil)))))))))
  (dss_cons (ds_par (i := 5) (j := 6) (da_cons (de_make (id_Free h) (dos_cons (do_val (de_use (i := 0))) dos_nil)) (da_cons (de_makeK (ks := ["rows"]) [0] (id_Free h) (dks_cons (do_val (de_use (i := 0))) dks_nil) (hbind := fun _ _ _ _ _ _ _ _ _ _ ws hl => match ws, hl with | [_], _ => rfl) (hl := fun ds hl => match ds, hl with | [_], _ => rfl)) da_nil)) (hw := fun X hX => swp (fun _ _ _ _ _ _ _ _ => rfl) hX.sc))
  (dss_cons (ds_par (i := 7) (j := 8) (da_cons (de_and (de_isC (do_var (i := 5)) (h.isc "Free" (by decide +kernel)) h.f_isinstance h.g_Free) (de_one (de_isC (do_var (i := 6)) (h.isc "Free" (by decide +kernel)) h.f_isinstance h.g_Free))) (da_cons (de_lst (da_cons (de_fld cs_rows (do_var (i := 5)) h.a_rows) da_nil)) da_nil)) (hw := fun X hX => swp (fun _ _ _ _ _ _ _ _ => rfl) hX.sc))
  (dss_cons (ds_expr (de_append (i := 4) (de_tup (da_cons (de_use (i := 5)) (da_cons (de_use (i := 6)) (da_cons (de_use (i := 7)) (da_cons (de_use (i := 8)) (da_cons (de_lst (da_cons (de_fld cs_rows (do_var (i := 6)) h.a_rows) da_nil)) (da_cons (de_lst (da_cons (de_use (i := 0)) da_nil)) da_nil)))))))))
  (dss_cons (ds_par (i := 5) (j := 6) (da_cons (de_make (id_Round h) (dos_cons (do_val (de_use (i := 0))) dos_nil)) (da_cons (de_makeK (ks := ["chain"]) [0] (id_Round h) (dks_cons (do_val (de_use (i := 0))) dks_nil) (hbind := fun _ _ _ _ _ _ _ _ _ _ ws hl => match ws, hl with | [_], _ => rfl) (hl := fun ds hl => match ds, hl with | [_], _ => rfl)) da_nil)) (hw := fun X hX => swp (fun _ _ _ _ _ _ _ _ => rfl) hX.sc))
  (dss_cons (ds_par (i := 7) (j := 8) (da_cons (de_and (de_isC (do_var (i := 5)) (h.isc "Round" (by decide +kernel)) h.f_isinstance h.g_Round) (de_one (de_isC (do_var (i := 6)) (h.isc "Round" (by decide +kernel)) h.f_isinstance h.g_Round))) (da_cons (de_lst (da_cons (de_fld cs_chain (do_var (i := 5)) h.a_chain) da_nil)) da_nil)) (hw := fun X hX => swp (fun _ _ _ _ _ _ _ _ => rfl) hX.sc))
  (dss_cons (ds_expr (de_append (i := 4) (de_tup (da_cons (de_use (i := 5)) (da_cons (de_use (i := 6)) (da_cons (de_use (i := 7)) (da_cons (de_use (i := 8)) (da_cons (de_lst (da_cons (de_fld cs_chain (do_var (i := 6)) h.a_chain) da_nil)) (da_cons (de_lst (da_cons (de_use (i := 0)) da_nil)) da_nil)))))))))
  (dss_cons (ds_par (i := 5) (j := 6) (da_cons (de_make (id_Joins h) (dos_cons (do_val (de_use (i := 0))) dos_nil)) (da_cons (de_makeK (ks := ["chains"]) [0] (id_Joins h) (dks_cons (do_val (de_use (i := 0))) dks_nil) (hbind := fun _ _ _ _ _ _ _ _ _ _ ws hl => match ws, hl with | [_], _ => rfl) (hl := fun ds hl => match ds, hl with | [_], _ => rfl)) da_nil)) (hw := fun X hX => swp (fun _ _ _ _ _ _ _ _ => rfl) hX.sc))
  (dss_cons (ds_par (i := 7) (j := 8) (da_cons (de_and (de_isC (do_var (i := 5)) (h.isc "Joins" (by decide +kernel)) h.f_isinstance h.g_Joins) (de_one (de_isC (do_var (i := 6)) (h.isc "Joins" (by decide +kernel)) h.f_isinstance h.g_Joins))) (da_cons (de_lst (da_cons (de_fld cs_chains (do_var (i := 5)) h.a_chains) da_nil)) da_nil)) (hw := fun X hX => swp (fun _ _ _ _ _ _ _ _ => rfl) hX.sc))
  (dss_cons (ds_expr (de_append (i := 4) (de_tup (da_cons (de_use (i := 5)) (da_cons (de_use (i := 6)) (da_cons (de_use (i := 7)) (da_cons (de_use (i := 8)) (da_cons (de_lst (da_cons (de_fld cs_chains (do_var (i := 6)) h.a_chains) da_nil)) (da_cons (de_lst (da_cons (de_use (i := 0)) da_nil)) da_nil)))))))))
  (dss_one (ds_ret (de_use (i := 4))))))))))))))))))))))))))))))))))))))
theorem fd__law_made_b {P : Program} {w : World} {K : PySem.W.Frag} {mg : Str → Option Value} {base : Heap} (h : Hy K mg) : FD P w K mg base "_law_made_b" 4 p__law_made_b m__law_made_b := by
  obtain ⟨fd, F⟩ := h.says.def_ 5 (d := Hd.d__law_made_b) rfl
  exact fd_of F h.g__law_made_b sc__law_made_b (F.bindsN fun _ _ _ _ _ _ us hl => match us, hl with | [_, _, _, _], _ => rfl) (ds__law_made_b h)

abbrev N_Gap_init : List Str := ["self", "measure"]
abbrev p_Gap_init : List Str := ["self", "measure"]
def g_Gap_init : MT :=
  (mAttr "Gap" "measure" 0 (callM (opC (mOpnd (mUse 1)) op0) p_copied none m_copied))
def m_Gap_init : FnM := fun os n => (g_Gap_init (VL.entry N_Gap_init.length os n)).toFR [0] p_Gap_init.length
theorem sc_Gap_init : FnScope N_Gap_init p_Gap_init Hd.d_Gap___init__.scope := C8.fnScope_by (by decide +kernel)
theorem ds_Gap_init {P : Program} {w : World} {K : PySem.W.Frag} {mg : Str → Option Value} {base : Heap} (h : Hy K mg) : DSs ⟨P, w, K, mg, base, N_Gap_init, Hd.d_Gap___init__.scope, 1, [0], cellsOf Hd.d_Gap___init__.scope⟩ Hd.d_Gap___init__.body g_Gap_init :=
  (dss_one (ds_attr (i := 0) (c := "Gap") (de_call (j0 := none) (fd_copied h) (dos_cons (do_val (de_use (i := 1))) dos_nil)) (h.isc "Gap" (by decide +kernel)).cls (h.n_measure "Gap" (by decide +kernel))))
theorem id_Gap {P : Program} {w : World} {K : PySem.W.Frag} {mg : Str → Option Value} {base : Heap} (h : Hy K mg) : ID P w K mg base "Gap" 2 (defArgs Hd.s_Gap___init__) p_Gap_init m_Gap_init := by
  obtain ⟨fd, F⟩ := h.says.def_ 35 (d := Hd.d_Gap___init__) rfl
  exact ⟨h.g_Gap, _, fd, _, _, _, h.mkc "Gap" (by decide +kernel), F, F.bindsN fun _ _ _ _ _ _ us hl => match us, hl with | [_, _], _ => rfl, fnG_init F sc_Gap_init (ds_Gap_init h)⟩

abbrev N_Greatest_init : List Str := ["self", "tree", "rounds"]
abbrev p_Greatest_init : List Str := ["self", "tree", "rounds"]
def g_Greatest_init : MT :=
  (seqS (mAttr "Greatest" "tree" 0 (callM (opC (mOpnd (mUse 1)) op0) p_copied none m_copied))
  (mAttr "Greatest" "rounds" 0 (callM (opC (mOpnd (mUse 2)) op0) p_copied none m_copied)))
def m_Greatest_init : FnM := fun os n => (g_Greatest_init (VL.entry N_Greatest_init.length os n)).toFR [0] p_Greatest_init.length
theorem sc_Greatest_init : FnScope N_Greatest_init p_Greatest_init Hd.d_Greatest___init__.scope := C8.fnScope_by (by decide +kernel)
theorem ds_Greatest_init {P : Program} {w : World} {K : PySem.W.Frag} {mg : Str → Option Value} {base : Heap} (h : Hy K mg) : DSs ⟨P, w, K, mg, base, N_Greatest_init, Hd.d_Greatest___init__.scope, 1, [0], cellsOf Hd.d_Greatest___init__.scope⟩ Hd.d_Greatest___init__.body g_Greatest_init :=
  (dss_cons (ds_attr (i := 0) (c := "Greatest") (de_call (j0 := none) (fd_copied h) (dos_cons (do_val (de_use (i := 1))) dos_nil)) (h.isc "Greatest" (by decide +kernel)).cls (h.n_tree "Greatest" (by decide +kernel)))
  (dss_one (ds_attr (i := 0) (c := "Greatest") (de_call (j0 := none) (fd_copied h) (dos_cons (do_val (de_use (i := 2))) dos_nil)) (h.isc "Greatest" (by decide +kernel)).cls (h.n_rounds "Greatest" (by decide +kernel)))))
theorem id_Greatest {P : Program} {w : World} {K : PySem.W.Frag} {mg : Str → Option Value} {base : Heap} (h : Hy K mg) : ID P w K mg base "Greatest" 2 (defArgs Hd.s_Greatest___init__) p_Greatest_init m_Greatest_init := by
  obtain ⟨fd, F⟩ := h.says.def_ 36 (d := Hd.d_Greatest___init__) rfl
  exact ⟨h.g_Greatest, _, fd, _, _, _, h.mkc "Greatest" (by decide +kernel), F, F.bindsN fun _ _ _ _ _ _ us hl => match us, hl with | [_, _, _], _ => rfl, fnG_init F sc_Greatest_init (ds_Greatest_init h)⟩

abbrev N_Reduced_init : List Str := ["self", "heap", "firing"]
abbrev p_Reduced_init : List Str := ["self", "heap", "firing"]
def g_Reduced_init : MT :=
  (seqS (mAttr "Reduced" "heap" 0 (callM (opC (mOpnd (mUse 1)) op0) p_copied none m_copied))
  (mAttr "Reduced" "firing" 0 (callM (opC (mOpnd (mUse 2)) op0) p_copied none m_copied)))
def m_Reduced_init : FnM := fun os n => (g_Reduced_init (VL.entry N_Reduced_init.length os n)).toFR [0] p_Reduced_init.length
theorem sc_Reduced_init : FnScope N_Reduced_init p_Reduced_init Hd.d_Reduced___init__.scope := C8.fnScope_by (by decide +kernel)
theorem ds_Reduced_init {P : Program} {w : World} {K : PySem.W.Frag} {mg : Str → Option Value} {base : Heap} (h : Hy K mg) : DSs ⟨P, w, K, mg, base, N_Reduced_init, Hd.d_Reduced___init__.scope, 1, [0], cellsOf Hd.d_Reduced___init__.scope⟩ Hd.d_Reduced___init__.body g_Reduced_init :=
  (dss_cons (ds_attr (i := 0) (c := "Reduced") (de_call (j0 := none) (fd_copied h) (dos_cons (do_val (de_use (i := 1))) dos_nil)) (h.isc "Reduced" (by decide +kernel)).cls (h.n_heap "Reduced" (by decide +kernel)))
  (dss_one (ds_attr (i := 0) (c := "Reduced") (de_call (j0 := none) (fd_copied h) (dos_cons (do_val (de_use (i := 2))) dos_nil)) (h.isc "Reduced" (by decide +kernel)).cls (h.n_firing "Reduced" (by decide +kernel)))))
theorem id_Reduced {P : Program} {w : World} {K : PySem.W.Frag} {mg : Str → Option Value} {base : Heap} (h : Hy K mg) : ID P w K mg base "Reduced" 2 (defArgs Hd.s_Reduced___init__) p_Reduced_init m_Reduced_init := by
  obtain ⟨fd, F⟩ := h.says.def_ 37 (d := Hd.d_Reduced___init__) rfl
  exact ⟨h.g_Reduced, _, fd, _, _, _, h.mkc "Reduced" (by decide +kernel), F, F.bindsN fun _ _ _ _ _ _ us hl => match us, hl with | [_, _, _], _ => rfl, fnG_init F sc_Reduced_init (ds_Reduced_init h)⟩

abbrev N_Smith_init : List Str := ["self", "left", "numbers", "right"]
abbrev p_Smith_init : List Str := ["self", "left", "numbers", "right"]
def g_Smith_init : MT :=
  (seqS (mAttr "Smith" "left" 0 (callM (opC (mOpnd (mUse 1)) op0) p_copied none m_copied))
  (seqS (mAttr "Smith" "numbers" 0 (callM (opC (mOpnd (mUse 2)) op0) p_copied none m_copied))
  (mAttr "Smith" "right" 0 (callM (opC (mOpnd (mUse 3)) op0) p_copied none m_copied))))
def m_Smith_init : FnM := fun os n => (g_Smith_init (VL.entry N_Smith_init.length os n)).toFR [0] p_Smith_init.length
theorem sc_Smith_init : FnScope N_Smith_init p_Smith_init Hd.d_Smith___init__.scope := C8.fnScope_by (by decide +kernel)
theorem ds_Smith_init {P : Program} {w : World} {K : PySem.W.Frag} {mg : Str → Option Value} {base : Heap} (h : Hy K mg) : DSs ⟨P, w, K, mg, base, N_Smith_init, Hd.d_Smith___init__.scope, 1, [0], cellsOf Hd.d_Smith___init__.scope⟩ Hd.d_Smith___init__.body g_Smith_init :=
  (dss_cons (ds_attr (i := 0) (c := "Smith") (de_call (j0 := none) (fd_copied h) (dos_cons (do_val (de_use (i := 1))) dos_nil)) (h.isc "Smith" (by decide +kernel)).cls (h.n_left "Smith" (by decide +kernel)))
  (dss_cons (ds_attr (i := 0) (c := "Smith") (de_call (j0 := none) (fd_copied h) (dos_cons (do_val (de_use (i := 2))) dos_nil)) (h.isc "Smith" (by decide +kernel)).cls (h.n_numbers "Smith" (by decide +kernel)))
  (dss_one (ds_attr (i := 0) (c := "Smith") (de_call (j0 := none) (fd_copied h) (dos_cons (do_val (de_use (i := 3))) dos_nil)) (h.isc "Smith" (by decide +kernel)).cls (h.n_right "Smith" (by decide +kernel))))))
theorem id_Smith {P : Program} {w : World} {K : PySem.W.Frag} {mg : Str → Option Value} {base : Heap} (h : Hy K mg) : ID P w K mg base "Smith" 2 (defArgs Hd.s_Smith___init__) p_Smith_init m_Smith_init := by
  obtain ⟨fd, F⟩ := h.says.def_ 10 (d := Hd.d_Smith___init__) rfl
  exact ⟨h.g_Smith, _, fd, _, _, _, h.mkc "Smith" (by decide +kernel), F, F.bindsN fun _ _ _ _ _ _ us hl => match us, hl with | [_, _, _, _], _ => rfl, fnG_init F sc_Smith_init (ds_Smith_init h)⟩

abbrev N_Clash_init : List Str := ["self", "weights"]
abbrev p_Clash_init : List Str := ["self", "weights"]
def g_Clash_init : MT :=
  (mAttr "Clash" "weights" 0 (callM (opC (mOpnd (mUse 1)) op0) p_copied none m_copied))
def m_Clash_init : FnM := fun os n => (g_Clash_init (VL.entry N_Clash_init.length os n)).toFR [0] p_Clash_init.length
theorem sc_Clash_init : FnScope N_Clash_init p_Clash_init Hd.d_Clash___init__.scope := C8.fnScope_by (by decide +kernel)
theorem ds_Clash_init {P : Program} {w : World} {K : PySem.W.Frag} {mg : Str → Option Value} {base : Heap} (h : Hy K mg) : DSs ⟨P, w, K, mg, base, N_Clash_init, Hd.d_Clash___init__.scope, 1, [0], cellsOf Hd.d_Clash___init__.scope⟩ Hd.d_Clash___init__.body g_Clash_init :=
  (dss_one (ds_attr (i := 0) (c := "Clash") (de_call (j0 := none) (fd_copied h) (dos_cons (do_val (de_use (i := 1))) dos_nil)) (h.isc "Clash" (by decide +kernel)).cls (h.n_weights "Clash" (by decide +kernel))))
theorem id_Clash {P : Program} {w : World} {K : PySem.W.Frag} {mg : Str → Option Value} {base : Heap} (h : Hy K mg) : ID P w K mg base "Clash" 2 (defArgs Hd.s_Clash___init__) p_Clash_init m_Clash_init := by
  obtain ⟨fd, F⟩ := h.says.def_ 12 (d := Hd.d_Clash___init__) rfl
  exact ⟨h.g_Clash, _, fd, _, _, _, h.mkc "Clash" (by decide +kernel), F, F.bindsN fun _ _ _ _ _ _ us hl => match us, hl with | [_, _], _ => rfl, fnG_init F sc_Clash_init (ds_Clash_init h)⟩

abbrev N__law_made_c : List Str := ["a", "b", "c", "d", "rows", "one", "two", "kind", "first"]
abbrev p__law_made_c : List Str := ["a", "b", "c", "d"]
def g__law_made_c : MT :=
  (seqS (mSet 4 (mLst row0))
  (seqS (mPar 5 6 (rowC (makeM (opC (mOpnd (mUse 0)) op0) p_Gap_init "Gap" m_Gap_init) (rowC (makeKM (opC (mOpnd (mUse 0)) op0) ["measure"] "Gap" m_Gap_init [0]) row0)))
  (seqS (mPar 7 8 (rowC (mAndV (mIsC "Gap" (mVar 5)) (mIsC "Gap" (mVar 6))) (rowC (mLst (rowC (mFld cs_measure "measure" (mVar 5)) row0)) row0)))
  (seqS (exprS (mApp 4 (mTup (rowC (mUse 5) (rowC (mUse 6) (rowC (mUse 7) (rowC (mUse 8) (rowC (mLst (rowC (mFld cs_measure "measure" (mVar 6)) row0)) (rowC (mLst (rowC (mUse 0) row0)) row0)))))))))
  (seqS (mPar 5 6 (rowC (makeM (opC (mOpnd (mUse 0)) (opC (mOpnd (mUse 1)) op0)) p_Greatest_init "Greatest" m_Greatest_init) (rowC (makeKM (opC (mOpnd (mUse 1)) (opC (mOpnd (mUse 0)) op0)) ["rounds", "tree"] "Greatest" m_Greatest_init [1, 0]) row0)))
  (seqS (mPar 7 8 (rowC (mAndV (mIsC "Greatest" (mVar 5)) (mIsC "Greatest" (mVar 6))) (rowC (mLst (rowC (mFld cs_tree "tree" (mVar 5)) (rowC (mFld cs_rounds "rounds" (mVar 5)) row0))) row0)))
  (seqS (exprS (mApp 4 (mTup (rowC (mUse 5) (rowC (mUse 6) (rowC (mUse 7) (rowC (mUse 8) (rowC (mLst (rowC (mFld cs_tree "tree" (mVar 6)) (rowC (mFld cs_rounds "rounds" (mVar 6)) row0))) (rowC (mLst (rowC (mUse 0) (rowC (mUse 1) row0))) row0)))))))))
  (seqS (mPar 5 6 (rowC (makeM (opC (mOpnd (mUse 0)) (opC (mOpnd (mUse 1)) op0)) p_Reduced_init "Reduced" m_Reduced_init) (rowC (makeKM (opC (mOpnd (mUse 1)) (opC (mOpnd (mUse 0)) op0)) ["firing", "heap"] "Reduced" m_Reduced_init [1, 0]) row0)))
  (seqS (mPar 7 8 (rowC (mAndV (mIsC "Reduced" (mVar 5)) (mIsC "Reduced" (mVar 6))) (rowC (mLst (rowC (mFld cs_heap "heap" (mVar 5)) (rowC (mFld cs_firing "firing" (mVar 5)) row0))) row0)))
  (seqS (exprS (mApp 4 (mTup (rowC (mUse 5) (rowC (mUse 6) (rowC (mUse 7) (rowC (mUse 8) (rowC (mLst (rowC (mFld cs_heap "heap" (mVar 6)) (rowC (mFld cs_firing "firing" (mVar 6)) row0))) (rowC (mLst (rowC (mUse 0) (rowC (mUse 1) row0))) row0)))))))))
  (seqS (mPar 5 6 (rowC (makeM (opC (mOpnd (mUse 0)) (opC (mOpnd (mUse 1)) (opC (mOpnd (mUse 2)) op0))) p_Smith_init "Smith" m_Smith_init) (rowC (makeKM (opC (mOpnd (mUse 2)) (opC (mOpnd (mUse 1)) (opC (mOpnd (mUse 0)) op0))) ["right", "numbers", "left"] "Smith" m_Smith_init [2, 1, 0]) row0)))
  (seqS (mPar 7 8 (rowC (mAndV (mIsC "Smith" (mVar 5)) (mIsC "Smith" (mVar 6))) (rowC (mLst (rowC (mFld cs_left "left" (mVar 5)) (rowC (mFld cs_numbers "numbers" (mVar 5)) (rowC (mFld cs_right "right" (mVar 5)) row0)))) row0)))
  (seqS (exprS (mApp 4 (mTup (rowC (mUse 5) (rowC (mUse 6) (rowC (mUse 7) (rowC (mUse 8) (rowC (mLst (rowC (mFld cs_left "left" (mVar 6)) (rowC (mFld cs_numbers "numbers" (mVar 6)) (rowC (mFld cs_right "right" (mVar 6)) row0)))) (rowC (mLst (rowC (mUse 0) (rowC (mUse 1) (rowC (mUse 2) row0)))) row0)))))))))
  (seqS (mPar 5 6 (rowC (makeM (opC (mOpnd (mUse 0)) op0) p_Solved_init "Solved" m_Solved_init) (rowC (makeKM (opC (mOpnd (mUse 0)) op0) ["row"] "Solved" m_Solved_init [0]) row0)))
  (seqS (mPar 7 8 (rowC (mAndV (mIsC "Solved" (mVar 5)) (mIsC "Solved" (mVar 6))) (rowC (mLst (rowC (mFld cs_row "row" (mVar 5)) row0)) row0)))
  (seqS (exprS (mApp 4 (mTup (rowC (mUse 5) (rowC (mUse 6) (rowC (mUse 7) (rowC (mUse 8) (rowC (mLst (rowC (mFld cs_row "row" (mVar 6)) row0)) (rowC (mLst (rowC (mUse 0) row0)) row0)))))))))
  (seqS (mPar 5 6 (rowC (makeM (opC (mOpnd (mUse 0)) op0) p_Clash_init "Clash" m_Clash_init) (rowC (makeKM (opC (mOpnd (mUse 0)) op0) ["weights"] "Clash" m_Clash_init [0]) row0)))
  (seqS (mPar 7 8 (rowC (mAndV (mIsC "Clash" (mVar 5)) (mIsC "Clash" (mVar 6))) (rowC (mLst (rowC (mFld cs_weights "weights" (mVar 5)) row0)) row0)))
  (seqS (exprS (mApp 4 (mTup (rowC (mUse 5) (rowC (mUse 6) (rowC (mUse 7) (rowC (mUse 8) (rowC (mLst (rowC (mFld cs_weights "weights" (mVar 6)) row0)) (rowC (mLst (rowC (mUse 0) row0)) row0)))))))))
  (retS (mUse 4)))))))))))))))))))))
def m__law_made_c : FnM := fun os n => (g__law_made_c (VL.entry N__law_made_c.length os n)).toFR [] p__law_made_c.length
theorem sc__law_made_c : FnScope N__law_made_c p__law_made_c Hd.d__law_made_c.scope := C8.fnScope_by (by decide +kernel)
theorem ds__law_made_c {P : Program} {w : World} {K : PySem.W.Frag} {mg : Str → Option Value} {base : Heap} (h : Hy K mg) : DSs ⟨P, w, K, mg, base, N__law_made_c, Hd.d__law_made_c.scope, 3, [], cellsOf Hd.d__law_made_c.scope⟩ Hd.d__law_made_c.body g__law_made_c :=
  (dss_cons (ds_set (i := 4) (de_lst da_nil))
  (dss_cons (ds_par (i := 5) (j := 6) (da_cons (de_make (id_Gap h) (dos_cons (do_val (de_use (i := 0))) dos_nil)) (da_cons (de_makeK (ks := ["measure"]) [0] (id_Gap h) (dks_cons (do_val (de_use (i := 0))) dks_nil) (hbind := fun _ _ _ _ _ _ _ _ _ _ ws hl => match ws, hl with | [_], _ => rfl) (hl := fun ds hl => match ds, hl with | [_], _ => rfl)) da_nil)) (hw := fun X hX => swp (fun _ _ _ _ _ _ _ _ => rfl) hX.sc))
  (dss_cons (ds_par (i := 7) (j := 8) (da_cons (de_and (de_isC (do_var (i := 5)) (h.isc "Gap" (by decide +kernel)) h.f_isinstance h.g_Gap) (de_one (de_isC (do_var (i := 6)) (h.isc "Gap" (by decide +kernel)) h.f_isinstance h.g_Gap))) (da_cons (de_lst (da_cons (de_fld cs_measure (do_var (i := 5)) h.a_measure) da_nil)) da_nil)) (hw := fun X hX => swp (fun _ _ _ _ _ _ _ _ => rfl) hX.sc))
  (dss_cons (ds_expr (de_append (i := 4) (de_tup (da_cons (de_use (i := 5)) (da_cons (de_use (i := 6)) (da_cons (de_use (i := 7)) (da_cons (de_use (i := 8)) (da_cons (de_lst (da_cons (de_fld cs_measure (do_var (i := 6)) h.a_measure) da_nil)) (da_cons (de_lst (da_cons (de_use (i := 0)) da_nil)) da_nil)))))))))
  (dss_cons (ds_par (i := 5) (j := 6) (da_cons (de_make (id_Greatest h) (dos_cons (do_val (de_use (i := 0))) (dos_cons (do_val (de_use (i := 1))) dos_nil))) (da_cons (de_makeK (ks := ["rounds", "tree"]) [1, 0] (id_Greatest h) (dks_cons (do_val (de_use (i := 1))) (dks_cons (do_val (de_use (i := 0))) dks_nil)) (hbind := fun _ _ _ _ _ _ _ _ _ _ ws hl => match ws, hl with | [_, _], _ => rfl) (hl := fun ds hl => match ds, hl with | [_, _], _ => rfl)) da_nil)) (hw := fun X hX => swp (fun _ _ _ _ _ _ _ _ => rfl) hX.sc))
  (dss_cons (ds_par (i := 7) (j := 8) (da_cons (de_and (de_isC (do_var (i := 5)) (h.isc "Greatest" (by decide +kernel)) h.f_isinstance h.g_Greatest) (de_one (de_isC (do_var (i := 6)) (h.isc "Greatest" (by decide +kernel)) h.f_isinstance h.g_Greatest))) (da_cons (de_lst (da_cons (de_fld cs_tree (do_var (i := 5)) h.a_tree) (da_cons (de_fld cs_rounds (do_var (i := 5)) h.a_rounds) da_nil))) da_nil)) (hw := fun X hX => swp (fun _ _ _ _ _ _ _ _ => rfl) hX.sc))
  (dss_cons (ds_expr (de_append (i := 4) (de_tup (da_cons (de_use (i := 5)) (da_cons (de_use (i := 6)) (da_cons (de_use (i := 7)) (da_cons (de_use (i := 8)) (da_cons (de_lst (da_cons (de_fld cs_tree (do_var (i := 6)) h.a_tree) (da_cons (de_fld cs_rounds (do_var (i := 6)) h.a_rounds) da_nil))) (da_cons (de_lst (da_cons (de_use (i := 0)) (da_cons (de_use (i := 1)) da_nil))) da_nil)))))))))
  (dss_cons (ds_par (i := 5) (j := 6) (da_cons (de_make (id_Reduced h) (dos_cons (do_val (de_use (i := 0))) (dos_cons (do_val (de_use (i := 1))) dos_nil))) (da_cons (de_makeK (ks := ["firing", "heap"]) [1, 0] (id_Reduced h) (dks_cons (do_val (de_use (i := 1))) (dks_cons (do_val (de_use (i := 0))) dks_nil)) (hbind := fun _ _ _ _ _ _ _ _ _ _ ws hl => match ws, hl with | [_, _], _ => rfl) (hl := fun ds hl => match ds, hl with | [_, _], _ => rfl)) da_nil)) (hw := fun X hX => swp (fun _ _ _ _ _ _ _ _ => rfl) hX.sc))
  (dss_cons (ds_par (i := 7) (j := 8) (da_cons (de_and (de_isC (do_var (i := 5)) (h.isc "Reduced" (by decide +kernel)) h.f_isinstance h.g_Reduced) (de_one (de_isC (do_var (i := 6)) (h.isc "Reduced" (by decide +kernel)) h.f_isinstance h.g_Reduced))) (da_cons (de_lst (da_cons (de_fld cs_heap (do_var (i := 5)) h.a_heap) (da_cons (de_fld cs_firing (do_var (i := 5)) h.a_firing) da_nil))) da_nil)) (hw := fun X hX => swp (fun _ _ _ _ _ _ _ _ => rfl) hX.sc))
  (dss_cons (ds_expr (de_append (i := 4) (de_tup (da_cons (de_use (i := 5)) (da_cons (de_use (i := 6)) (da_cons (de_use (i := 7)) (da_cons (de_use (i := 8)) (da_cons (de_lst (da_cons (de_fld cs_heap (do_var (i := 6)) h.a_heap) (da_cons (de_fld cs_firing (do_var (i := 6)) h.a_firing) da_nil))) (da_cons (de_lst (da_cons (de_use (i := 0)) (da_cons (de_use (i := 1)) da_nil))) da_nil)))))))))
  (dss_cons (ds_par (i := 5) (j := 6) (da_cons (de_make (id_Smith h) (dos_cons (do_val (de_use (i := 0))) (dos_cons (do_val (de_use (i := 1))) (dos_cons (do_val (de_use (i := 2))) dos_nil)))) (da_cons (de_makeK (ks := ["right", "numbers", "left"]) [2, 1, 0] (id_Smith h) (dks_cons (do_val (de_use (i := 2))) (dks_cons (do_val (de_use (i := 1))) (dks_cons (do_val (de_use (i := 0))) dks_nil))) (hbind := fun _ _ _ _ _ _ _ _ _ _ ws hl => match ws, hl with | [_, _, _], _ => rfl) (hl := fun ds hl => match ds, hl with | [_, _, _], _ => rfl)) da_nil)) (hw := fun X hX => swp (fun _ _ _ _ _ _ _ _ => rfl) hX.sc))
  (dss_cons (ds_par (i := 7) (j := 8) (da_cons (de_and (de_isC (do_var (i := 5)) (h.isc "Smith" (by decide +kernel)) h.f_isinstance h.g_Smith) (de_one (de_isC (do_var (i := 6)) (h.isc "Smith" (by decide +kernel)) h.f_isinstance h.g_Smith))) (da_cons (de_lst (da_cons (de_fld cs_left (do_var (i := 5)) h.a_left) (da_cons (de_fld cs_numbers (do_var (i := 5)) h.a_numbers) (da_cons (de_fld cs_right (do_var (i := 5)) h.a_right) da_nil)))) da_nil)) (hw := fun X hX => swp (fun _ _ _ _ _ _ _ _ => rfl) hX.sc))
  (dss_cons (ds_expr (de_append (i := 4) (de_tup (da_cons (de_use (i := 5)) (da_cons (de_use (i := 6)) (da_cons (de_use (i := 7)) (da_cons (de_use (i := 8)) (da_cons (de_lst (da_cons (de_fld cs_left (do_var (i := 6)) h.a_left) (da_cons (de_fld cs_numbers (do_var (i := 6)) h.a_numbers) (da_cons (de_fld cs_right (do_var (i := 6)) h.a_right) da_nil)))) (da_cons (de_lst (da_cons (de_use (i := 0)) (da_cons (de_use (i := 1)) (da_cons (de_use (i := 2)) da_nil)))) da_nil)))))))))
  (dss_cons (ds_par (i := 5) (j := 6) (da_cons (de_make (id_Solved h) (dos_cons (do_val (de_use (i := 0))) dos_nil)) (da_cons (de_makeK (ks := ["row"]) [0] (id_Solved h) (dks_cons (do_val (de_use (i := 0))) dks_nil) (hbind := fun _ _ _ _ _ _ _ _ _ _ ws hl => match ws, hl with | [_], _ => rfl) (hl := fun ds hl => match ds, hl with | [_], _ => rfl)) da_nil)) (hw := fun X hX => swp (fun _ _ _ _ _ _ _ _ => rfl) hX.sc))
  (dss_cons (ds_par (i := 7) (j := 8) (da_cons (de_and (de_isC (do_var (i := 5)) (h.isc "Solved" (by decide +kernel)) h.f_isinstance h.g_Solved) (de_one (de_isC (do_var (i := 6)) (h.isc "Solved" (by decide +kernel)) h.f_isinstance h.g_Solved))) (da_cons (de_lst (da_cons (de_fld cs_row (do_var (i := 5)) h.a_row) da_nil)) da_nil)) (hw := fun X hX => swp (fun _ _ _ _ _ _ _ _ => rfl) hX.sc))
  (dss_cons (ds_expr (de_append (i := 4) (de_tup (da_cons (de_use (i := 5)) (da_cons (de_use (i := 6)) (da_cons (de_use (i := 7)) (da_cons (de_use (i := 8)) (da_cons (de_lst (da_cons (de_fld cs_row (do_var (i := 6)) h.a_row) da_nil)) (da_cons (de_lst (da_cons (de_use (i := 0)) da_nil)) da_nil)))))))))
  (dss_cons (ds_par (i := 5) (j := 6) (da_cons (de_make (id_Clash h) (dos_cons (do_val (de_use (i := 0))) dos_nil)) (da_cons (de_makeK (ks := ["weights"]) [0] (id_Clash h) (dks_cons (do_val (de_use (i := 0))) dks_nil) (hbind := fun _ _ _ _ _ _ _ _ _ _ ws hl => match ws, hl with | [_], _ => rfl) (hl := fun ds hl => match ds, hl with | [_], _ => rfl)) da_nil)) (hw := fun X hX => swp (fun _ _ _ _ _ _ _ _ => rfl) hX.sc))
  (dss_cons (ds_par (i := 7) (j := 8) (da_cons (de_and (de_isC (do_var (i := 5)) (h.isc "Clash" (by decide +kernel)) h.f_isinstance h.g_Clash) (de_one (de_isC (do_var (i := 6)) (h.isc "Clash" (by decide +kernel)) h.f_isinstance h.g_Clash))) (da_cons (de_lst (da_cons (de_fld cs_weights (do_var (i := 5)) h.a_weights) da_nil)) da_nil)) (hw := fun X hX => swp (fun _ _ _ _ _ _ _ _ => rfl) hX.sc))
  (dss_cons (ds_expr (de_append (i := 4) (de_tup (da_cons (de_use (i := 5)) (da_cons (de_use (i := 6)) (da_cons (de_use (i := 7)) (da_cons (de_use (i := 8)) (da_cons (de_lst (da_cons (de_fld cs_weights (do_var (i := 6)) h.a_weights) da_nil)) (da_cons (de_lst (da_cons (de_use (i := 0)) da_nil)) da_nil)))))))))
  (dss_one (ds_ret (de_use (i := 4)))))))))))))))))))))))
theorem fd__law_made_c {P : Program} {w : World} {K : PySem.W.Frag} {mg : Str → Option Value} {base : Heap} (h : Hy K mg) : FD P w K mg base "_law_made_c" 4 p__law_made_c m__law_made_c := by
  obtain ⟨fd, F⟩ := h.says.def_ 6 (d := Hd.d__law_made_c) rfl
  exact fd_of F h.g__law_made_c sc__law_made_c (F.bindsN fun _ _ _ _ _ _ us hl => match us, hl with | [_, _, _, _], _ => rfl) (ds__law_made_c h)

abbrev N__law_copy : List Str := ["value"]
abbrev p__law_copy : List Str := ["value"]
def g__law_copy : MT :=
  (retS (ifV (mTest (mIsi [.lst] (mVar 0))) (bltM (tupleO) (opC (mVar 0) op0)) (mUse 0)))
def m__law_copy : FnM := fun os n => (g__law_copy (VL.entry N__law_copy.length os n)).toFR [] p__law_copy.length
theorem sc__law_copy : FnScope N__law_copy p__law_copy Hd.d__law_copy.scope := C8.fnScope_by (by decide +kernel)
theorem ds__law_copy {P : Program} {w : World} {K : PySem.W.Frag} {mg : Str → Option Value} {base : Heap} (h : Hy K mg) : DSs ⟨P, w, K, mg, base, N__law_copy, Hd.d__law_copy.scope, 0, [], cellsOf Hd.d__law_copy.scope⟩ Hd.d__law_copy.body g__law_copy :=
  (dss_one (ds_ret (de_if (dt_val (de_isi .lst (h := (do_var (i := 0))) (hm := h.f_isinstance) (hmx := h.f_list))) (de_callT ok_tuple (dos_cons (do_var (i := 0)) dos_nil) h.f_tuple bb_tuple) (de_use (i := 0)))))
theorem fd__law_copy {P : Program} {w : World} {K : PySem.W.Frag} {mg : Str → Option Value} {base : Heap} (h : Hy K mg) : FD P w K mg base "_law_copy" 1 p__law_copy m__law_copy := by
  obtain ⟨fd, F⟩ := h.says.def_ 8 (d := Hd.d__law_copy) rfl
  exact fd_of F h.g__law_copy sc__law_copy (F.bindsN fun _ _ _ _ _ _ us hl => match us, hl with | [_], _ => rfl) (ds__law_copy h)

end Hd
namespace Hd
open PySem PySem.Spec
open PyProof.Rows L2 VL
abbrev N_law : List Str := ["script", "pen", "values", "a", "b", "c", "d", "rows", "more", "one", "two", "kind", "first", "second", "handed", "due", "k", "other", "kept", "before", "value"]
abbrev p_law : List Str := ["script"]
def g_law_0 : MT :=
  (mSet 1 (callM (opC (mOpnd (mUse 0)) op0) p__law_pen none m__law_pen))
def g_law_1 : MT :=
  (mSet 2 (mComp [16] (mRng1 (kI 4)) (gSet 16) ttM (fzM (callM (opC (mVar 1) op0) p__law_value (some 0) m__law_value))))
def g_law_2 : MT :=
  (mAsg (mComp [20] (mIts (mUse 2)) (gSet 20) ttM (fzM (ifV (mTest (mIsi [.lst] (mVar 20))) (bltM (listO) (opC (mVar 20) op0)) (mUse 20)))) (gLstD 4 (gMore (gSet 3) (gMore (gSet 4) (gMore (gSet 5) (gMore (gSet 6) gNone))))))
def g_law_3 : MT :=
  (mSet 7 (mLst row0))
def g_law_4 : MT :=
  (forS (mIts (mLst (rowC (fzM (callM (opC (mOpnd (mUse 3)) (opC (mOpnd (mUse 4)) (opC (mOpnd (mUse 5)) (opC (mOpnd (mUse 6)) op0)))) p__law_made_a none m__law_made_a)) (rowC (fzM (callM (opC (mOpnd (mUse 3)) (opC (mOpnd (mUse 4)) (opC (mOpnd (mUse 5)) (opC (mOpnd (mUse 6)) op0)))) p__law_made_b none m__law_made_b)) (rowC (fzM (callM (opC (mOpnd (mUse 3)) (opC (mOpnd (mUse 4)) (opC (mOpnd (mUse 5)) (opC (mOpnd (mUse 6)) op0)))) p__law_made_c none m__law_made_c)) row0))))) (gSet 8) (mSet 7 (mOp2 addO (mVar 7) (mVar 8))))
def g_law_5 : MT :=
  (forS (mIts (mUse 7)) (gTupD 6 (gMore (gSet 9) (gMore (gSet 10) (gMore (gSet 11) (gMore (gSet 12) (gMore (gSet 13) (gMore (gSet 14) gNone))))))) (seqS (mSet 15 (bltM (reprO) (opC (mOpnd (mComp [20] (mIts (mUse 14)) (gSet 20) ttM (fzM (callM (opC (mOpnd (mUse 20)) op0) p__law_copy none m__law_copy)))) op0)))
  (ifS (mOr (mTest (mOp2 (isO true) (mVar 11) (mOpnd (kB true)))) (mOr (mTest (mOp2 (eqX clss true) (mOpnd (bltM (reprO) (opC (mVar 12) op0))) (mVar 15))) (mOr (mTest (mOp2 (eqX clss true) (mOpnd (bltM (reprO) (opC (mVar 13) op0))) (mVar 15))) (mOr (notT (mTest (mOp2 (eqX clss false) (mVar 9) (mVar 9)))) (mTest (mOp2 (eqX clss false) (mVar 9) (mVar 10))))))) (retS (kB false)) T.nx)))
def g_law_6 : MT :=
  (forS (mRng1 (bltM (lenO) (opC (mVar 7) op0))) (gSet 16) (seqS (mSet 17 (mOp2 sbO (mOpnd (mOp2 sbO (mVar 7) (mOpnd (mOp2 modO (mOpnd (bltM (intCO) (opC (mOpnd (mOp2 addO (mOpnd (mOp2 addO (mVar 16) (mOpnd (kI 1)))) (mOpnd (callM (opC (mVar 1) (opC (mOpnd (mOp2 subO (mOpnd (bltM (lenO) (opC (mVar 7) op0))) (mOpnd (kI 1)))) op0)) p__law_draw (some 0) m__law_draw)))) op0))) (mOpnd (bltM (lenO) (opC (mVar 7) op0))))))) (mOpnd (kI 0))))
  (ifS (mOr (mTest (mOp2 (eqX clss false) (mOpnd (mOp2 sbO (mOpnd (mOp2 sbO (mVar 7) (mVar 16))) (mOpnd (kI 0)))) (mVar 17))) (mOr (mTest (mOp2 (eqX clss false) (mVar 17) (mOpnd (mOp2 sbO (mOpnd (mOp2 sbO (mVar 7) (mVar 16))) (mOpnd (kI 0)))))) (notT (mTest (mOp2 (eqX clss true) (mOpnd (mOp2 sbO (mOpnd (mOp2 sbO (mVar 7) (mVar 16))) (mOpnd (kI 0)))) (mVar 17)))))) (retS (kB false)) T.nx)))
def g_law_7 : MT :=
  (mSet 18 (makeM (opC (mOpnd (mOp2 sbO (mVar 2) (mOpnd (kI 0)))) op0) p_Solved_init "Solved" m_Solved_init))
def g_law_8 : MT :=
  (mSet 19 (bltM (reprO) (opC (mOpnd (mFld cs_row "row" (mVar 18))) op0)))
def g_law : MT :=
  (seqS g_law_0 (seqS g_law_1 (seqS g_law_2 (seqS g_law_3 (seqS g_law_4 (seqS g_law_5 (seqS g_law_6 (seqS g_law_7 g_law_8))))))))
theorem sc_law : FnScope N_law p_law Hd.d_law.scope := C8.fnScope_by (by decide +kernel)
theorem dt_law {P : Program} {w : World} {K : PySem.W.Frag} {mg : Str → Option Value} {base : Heap} (h : Hy K mg) : DTl ⟨P, w, K, mg, base, N_law, Hd.d_law.scope, 4, [], cellsOf Hd.d_law.scope⟩ (Hd.d_law.body.take 9) (Hd.d_law.body.drop 9) g_law :=
  (dtl_cons (ds_set (i := 1) (de_call (j0 := none) (fd__law_pen h) (dos_cons (do_val (de_use (i := 0))) dos_nil)))
  (dtl_cons (ds_setLc (i := 2) [("k", 16)] (di_rng1 de_int (hm := h.f_range)) (dg_name (i := 16)) dts_nil (de_fz (de_call (j0 := (some 0)) (fd__law_value h) (dos_cons (do_var (i := 1)) dos_nil))))
  (dtl_cons (ds_asg (de_lc [("value", 20)] (di_val (de_use (i := 2))) (dg_name (i := 20)) dts_nil (de_fz (de_if (dt_val (de_isi .lst (h := (do_var (i := 20))) (hm := h.f_isinstance) (hmx := h.f_list))) (de_callT ok_list (dos_cons (do_var (i := 20)) dos_nil) h.f_list bb_list) (de_use (i := 20))))) (dg_seq (dgs_cons (dg_name (i := 3)) (dgs_cons (dg_name (i := 4)) (dgs_cons (dg_name (i := 5)) (dgs_cons (dg_name (i := 6)) dgs_nil))))))
  (dtl_cons (ds_set (i := 7) (de_lst da_nil))
  (dtl_cons (ds_for (di_val (de_lst (da_cons (de_fz (de_call (j0 := none) (fd__law_made_a h) (dos_cons (do_val (de_use (i := 3))) (dos_cons (do_val (de_use (i := 4))) (dos_cons (do_val (de_use (i := 5))) (dos_cons (do_val (de_use (i := 6))) dos_nil)))))) (da_cons (de_fz (de_call (j0 := none) (fd__law_made_b h) (dos_cons (do_val (de_use (i := 3))) (dos_cons (do_val (de_use (i := 4))) (dos_cons (do_val (de_use (i := 5))) (dos_cons (do_val (de_use (i := 6))) dos_nil)))))) (da_cons (de_fz (de_call (j0 := none) (fd__law_made_c h) (dos_cons (do_val (de_use (i := 3))) (dos_cons (do_val (de_use (i := 4))) (dos_cons (do_val (de_use (i := 5))) (dos_cons (do_val (de_use (i := 6))) dos_nil)))))) da_nil))))) (dg_name (i := 8)) (dss_one (ds_set (i := 7) (de_bin ok_add (do_var (i := 7)) (do_var (i := 8))))))
  (dtl_cons (ds_for (di_val (de_use (i := 7))) (dg_tup (dgs_cons (dg_name (i := 9)) (dgs_cons (dg_name (i := 10)) (dgs_cons (dg_name (i := 11)) (dgs_cons (dg_name (i := 12)) (dgs_cons (dg_name (i := 13)) (dgs_cons (dg_name (i := 14)) dgs_nil))))))) (dss_cons (ds_set (i := 15) (de_callK (ok_repr h.sys) (dos_cons (do_val (de_lc [("value", 20)] (di_val (de_use (i := 14))) (dg_name (i := 20)) dts_nil (de_fz (de_call (j0 := none) (fd__law_copy h) (dos_cons (do_val (de_use (i := 20))) dos_nil))))) dos_nil) h.f_repr bb_repr))
  (dss_one (ds_if (dt_of_dw (dw_or (dt_cmp ok_isnot (do_var (i := 11)) (do_val de_bl)) (dw_or (dt_cmpK (okx_ne h.eqs) (do_val (de_callK (ok_repr h.sys) (dos_cons (do_var (i := 12)) dos_nil) h.f_repr bb_repr)) (do_var (i := 15))) (dw_or (dt_cmpK (okx_ne h.eqs) (do_val (de_callK (ok_repr h.sys) (dos_cons (do_var (i := 13)) dos_nil) h.f_repr bb_repr)) (do_var (i := 15))) (dw_or (dt_not (dt_cmpK (okx_eq h.eqs) (do_var (i := 9)) (do_var (i := 9)))) (dw_or1 (dt_cmpK (okx_eq h.eqs) (do_var (i := 9)) (do_var (i := 10))))))))) (dss_one (ds_ret de_bl)) dss_nil))))
  (dtl_cons (ds_for (di_rng1 (de_callB ok_len (dos_cons (do_var (i := 7)) dos_nil) h.f_len bb_len) (hm := h.f_range)) (dg_name (i := 16)) (dss_cons (ds_set (i := 17) (de_sub (do_val (de_sub (do_var (i := 7)) (do_val (de_bin ok_mod (do_val (de_callT ok_intC (dos_cons (do_val (de_bin ok_add (do_val (de_bin ok_add (do_var (i := 16)) (do_val de_int))) (do_val (de_call (j0 := (some 0)) (fd__law_draw h) (dos_cons (do_var (i := 1)) (dos_cons (do_val (de_bin ok_sub (do_val (de_callB ok_len (dos_cons (do_var (i := 7)) dos_nil) h.f_len bb_len)) (do_val de_int))) dos_nil)))))) dos_nil) h.f_int bb_int)) (do_val (de_callB ok_len (dos_cons (do_var (i := 7)) dos_nil) h.f_len bb_len)))))) (do_val de_int)))
  (dss_one (ds_if (dt_of_dw (dw_or (dt_cmpK (okx_eq h.eqs) (do_val (de_sub (do_val (de_sub (do_var (i := 7)) (do_var (i := 16)))) (do_val de_int))) (do_var (i := 17))) (dw_or (dt_cmpK (okx_eq h.eqs) (do_var (i := 17)) (do_val (de_sub (do_val (de_sub (do_var (i := 7)) (do_var (i := 16)))) (do_val de_int)))) (dw_or1 (dt_not (dt_cmpK (okx_ne h.eqs) (do_val (de_sub (do_val (de_sub (do_var (i := 7)) (do_var (i := 16)))) (do_val de_int))) (do_var (i := 17)))))))) (dss_one (ds_ret de_bl)) dss_nil))))
  (dtl_cons (ds_set (i := 18) (de_make (id_Solved h) (dos_cons (do_val (de_sub (do_var (i := 2)) (do_val de_int))) dos_nil)))
  (dtl_one (ds_set (i := 19) (de_callK (ok_repr h.sys) (dos_cons (do_val (de_fld cs_row (do_var (i := 18)) h.a_row)) dos_nil) h.f_repr bb_repr)))))))))))
end Hd
namespace Hd
open PySem PySem.Spec
open PyProof.Rows L2 VL
/-- a copy: a list as a tuple -/
def cp : D → D
  | .lst xs => .tup xs
  | d => d
/-- a value that may be handed in -/
def okV (d : D) : Prop := (O.fz d).ty ≠ none
theorem copied_eq {d : D} (h : okV d) (n : Nat) : m_copied [.fz d] n = .ok (.fz (cp d)) [none] n := by
  cases d <;> first
    | (exact (h rfl).elim)
    | (simp [m_copied, g_copied, VL.entry, isiO, O.ty, Ty.sub, tupleO, O.items, O.fzs, cp, VL.handed, List.range_succ])
end Hd
namespace Hd
open PySem PySem.Spec
open PyProof.Rows L2 VL
/-- a row: two objects of one class, what is read of them, what was handed in -/
def rowD (c : Str) (ns : List Str) (n : Nat) (vs : List D) : D := .tup [.obj n c (ns.zip (vs.map cp)), .obj (n + 1) c (ns.zip (vs.map cp)), .bl true, .lst (vs.map cp), .lst (vs.map cp), .lst vs]
theorem Smith_eq {a b c : D} (ha : okV a) (hb : okV b) (hc : okV c) (n : Nat) : m_Smith_init [.obj "Smith" [], .fz a, .fz b, .fz c] n = .ok (.fz .non) [some (.obj "Smith" [("left", cp a), ("numbers", cp b), ("right", cp c)]), none, none, none] n := by
  simp [m_Smith_init, g_Smith_init, VL.entry, copied_eq ha, copied_eq hb, copied_eq hc, putFD, VL.handed, List.range_succ]
theorem Solved_eq {a : D} (ha : okV a) (n : Nat) : m_Solved_init [.obj "Solved" [], .fz a] n = .ok (.fz .non) [some (.obj "Solved" [("row", cp a)]), none] n := by
  simp [m_Solved_init, g_Solved_init, VL.entry, copied_eq ha, putFD, VL.handed, List.range_succ]
theorem Clash_eq {a : D} (ha : okV a) (n : Nat) : m_Clash_init [.obj "Clash" [], .fz a] n = .ok (.fz .non) [some (.obj "Clash" [("weights", cp a)]), none] n := by
  simp [m_Clash_init, g_Clash_init, VL.entry, copied_eq ha, putFD, VL.handed, List.range_succ]
theorem Met_eq {a b : D} (ha : okV a) (hb : okV b) (n : Nat) : m_Met_init [.obj "Met" [], .fz a, .fz b] n = .ok (.fz .non) [some (.obj "Met" [("current", cp a), ("heights", cp b)]), none, none] n := by
  simp [m_Met_init, g_Met_init, VL.entry, copied_eq ha, copied_eq hb, putFD, VL.handed, List.range_succ]
theorem Barred_eq {a : D} (ha : okV a) (n : Nat) : m_Barred_init [.obj "Barred" [], .fz a] n = .ok (.fz .non) [some (.obj "Barred" [("measure", cp a)]), none] n := by
  simp [m_Barred_init, g_Barred_init, VL.entry, copied_eq ha, putFD, VL.handed, List.range_succ]
theorem Led_eq {a : D} (ha : okV a) (n : Nat) : m_Led_init [.obj "Led" [], .fz a] n = .ok (.fz .non) [some (.obj "Led" [("firing", cp a)]), none] n := by
  simp [m_Led_init, g_Led_init, VL.entry, copied_eq ha, putFD, VL.handed, List.range_succ]
theorem Apart_eq {a : D} (ha : okV a) (n : Nat) : m_Apart_init [.obj "Apart" [], .fz a] n = .ok (.fz .non) [some (.obj "Apart" [("clock", cp a)]), none] n := by
  simp [m_Apart_init, g_Apart_init, VL.entry, copied_eq ha, putFD, VL.handed, List.range_succ]
theorem Group_eq {a b : D} (ha : okV a) (hb : okV b) (n : Nat) : m_Group_init [.obj "Group" [], .fz a, .fz b] n = .ok (.fz .non) [some (.obj "Group" [("free", cp a), ("twists", cp b)]), none, none] n := by
  simp [m_Group_init, g_Group_init, VL.entry, copied_eq ha, copied_eq hb, putFD, VL.handed, List.range_succ]
theorem Holes_eq {a b : D} (ha : okV a) (hb : okV b) (n : Nat) : m_Holes_init [.obj "Holes" [], .fz a, .fz b] n = .ok (.fz .non) [some (.obj "Holes" [("free", cp a), ("twists", cp b)]), none, none] n := by
  simp [m_Holes_init, g_Holes_init, VL.entry, copied_eq ha, copied_eq hb, putFD, VL.handed, List.range_succ]
theorem Filled_eq {a : D} (ha : okV a) (n : Nat) : m_Filled_init [.obj "Filled" [], .fz a] n = .ok (.fz .non) [some (.obj "Filled" [("chain", cp a)]), none] n := by
  simp [m_Filled_init, g_Filled_init, VL.entry, copied_eq ha, putFD, VL.handed, List.range_succ]
theorem Open_eq {a : D} (ha : okV a) (n : Nat) : m_Open_init [.obj "Open" [], .fz a] n = .ok (.fz .non) [some (.obj "Open" [("measure", cp a)]), none] n := by
  simp [m_Open_init, g_Open_init, VL.entry, copied_eq ha, putFD, VL.handed, List.range_succ]
theorem Split_eq {a b c : D} (ha : okV a) (hb : okV b) (hc : okV c) (n : Nat) : m_Split_init [.obj "Split" [], .fz a, .fz b, .fz c] n = .ok (.fz .non) [some (.obj "Split" [("above", cp a), ("below", cp b), ("rest", cp c)]), none, none, none] n := by
  simp [m_Split_init, g_Split_init, VL.entry, copied_eq ha, copied_eq hb, copied_eq hc, putFD, VL.handed, List.range_succ]
theorem Nearest_eq {a b : D} (ha : okV a) (hb : okV b) (n : Nat) : m_Nearest_init [.obj "Nearest" [], .fz a, .fz b] n = .ok (.fz .non) [some (.obj "Nearest" [("near", cp a), ("square", cp b)]), none, none] n := by
  simp [m_Nearest_init, g_Nearest_init, VL.entry, copied_eq ha, copied_eq hb, putFD, VL.handed, List.range_succ]
theorem Homotopy_eq {a : D} (ha : okV a) (n : Nat) : m_Homotopy_init [.obj "Homotopy" [], .fz a] n = .ok (.fz .non) [some (.obj "Homotopy" [("tables", cp a)]), none] n := by
  simp [m_Homotopy_init, g_Homotopy_init, VL.entry, copied_eq ha, putFD, VL.handed, List.range_succ]
theorem Clocks_eq {a : D} (ha : okV a) (n : Nat) : m_Clocks_init [.obj "Clocks" [], .fz a] n = .ok (.fz .non) [some (.obj "Clocks" [("tables", cp a)]), none] n := by
  simp [m_Clocks_init, g_Clocks_init, VL.entry, copied_eq ha, putFD, VL.handed, List.range_succ]
theorem Reduction_eq {a b c d : D} (ha : okV a) (hb : okV b) (hc : okV c) (hd : okV d) (n : Nat) : m_Reduction_init [.obj "Reduction" [], .fz a, .fz b, .fz c, .fz d] n = .ok (.fz .non) [some (.obj "Reduction" [("shell", cp a), ("down", cp b), ("up", cp c), ("fill", cp d)]), none, none, none, none] n := by
  simp [m_Reduction_init, g_Reduction_init, VL.entry, copied_eq ha, copied_eq hb, copied_eq hc, copied_eq hd, putFD, VL.handed, List.range_succ]
theorem Least_eq {a b : D} (ha : okV a) (hb : okV b) (n : Nat) : m_Least_init [.obj "Least" [], .fz a, .fz b] n = .ok (.fz .non) [some (.obj "Least" [("row", cp a), ("measure", cp b)]), none, none] n := by
  simp [m_Least_init, g_Least_init, VL.entry, copied_eq ha, copied_eq hb, putFD, VL.handed, List.range_succ]
theorem Unfilled_eq {a : D} (ha : okV a) (n : Nat) : m_Unfilled_init [.obj "Unfilled" [], .fz a] n = .ok (.fz .non) [some (.obj "Unfilled" [("measure", cp a)]), none] n := by
  simp [m_Unfilled_init, g_Unfilled_init, VL.entry, copied_eq ha, putFD, VL.handed, List.range_succ]
theorem Whole_eq {a : D} (ha : okV a) (n : Nat) : m_Whole_init [.obj "Whole" [], .fz a] n = .ok (.fz .non) [some (.obj "Whole" [("chain", cp a)]), none] n := by
  simp [m_Whole_init, g_Whole_init, VL.entry, copied_eq ha, putFD, VL.handed, List.range_succ]
theorem Straight_eq {a : D} (ha : okV a) (n : Nat) : m_Straight_init [.obj "Straight" [], .fz a] n = .ok (.fz .non) [some (.obj "Straight" [("many", cp a)]), none] n := by
  simp [m_Straight_init, g_Straight_init, VL.entry, copied_eq ha, putFD, VL.handed, List.range_succ]
theorem Twisted_eq {a b : D} (ha : okV a) (hb : okV b) (n : Nat) : m_Twisted_init [.obj "Twisted" [], .fz a, .fz b] n = .ok (.fz .non) [some (.obj "Twisted" [("lot", cp a), ("row", cp b)]), none, none] n := by
  simp [m_Twisted_init, g_Twisted_init, VL.entry, copied_eq ha, copied_eq hb, putFD, VL.handed, List.range_succ]
theorem Alike_eq {a b c : D} (ha : okV a) (hb : okV b) (hc : okV c) (n : Nat) : m_Alike_init [.obj "Alike" [], .fz a, .fz b, .fz c] n = .ok (.fz .non) [some (.obj "Alike" [("row", cp a), ("filling", cp b), ("measure", cp c)]), none, none, none] n := by
  simp [m_Alike_init, g_Alike_init, VL.entry, copied_eq ha, copied_eq hb, copied_eq hc, putFD, VL.handed, List.range_succ]
theorem Free_eq {a : D} (ha : okV a) (n : Nat) : m_Free_init [.obj "Free" [], .fz a] n = .ok (.fz .non) [some (.obj "Free" [("rows", cp a)]), none] n := by
  simp [m_Free_init, g_Free_init, VL.entry, copied_eq ha, putFD, VL.handed, List.range_succ]
theorem Round_eq {a : D} (ha : okV a) (n : Nat) : m_Round_init [.obj "Round" [], .fz a] n = .ok (.fz .non) [some (.obj "Round" [("chain", cp a)]), none] n := by
  simp [m_Round_init, g_Round_init, VL.entry, copied_eq ha, putFD, VL.handed, List.range_succ]
theorem Joins_eq {a : D} (ha : okV a) (n : Nat) : m_Joins_init [.obj "Joins" [], .fz a] n = .ok (.fz .non) [some (.obj "Joins" [("chains", cp a)]), none] n := by
  simp [m_Joins_init, g_Joins_init, VL.entry, copied_eq ha, putFD, VL.handed, List.range_succ]
theorem Gap_eq {a : D} (ha : okV a) (n : Nat) : m_Gap_init [.obj "Gap" [], .fz a] n = .ok (.fz .non) [some (.obj "Gap" [("measure", cp a)]), none] n := by
  simp [m_Gap_init, g_Gap_init, VL.entry, copied_eq ha, putFD, VL.handed, List.range_succ]
theorem Greatest_eq {a b : D} (ha : okV a) (hb : okV b) (n : Nat) : m_Greatest_init [.obj "Greatest" [], .fz a, .fz b] n = .ok (.fz .non) [some (.obj "Greatest" [("tree", cp a), ("rounds", cp b)]), none, none] n := by
  simp [m_Greatest_init, g_Greatest_init, VL.entry, copied_eq ha, copied_eq hb, putFD, VL.handed, List.range_succ]
theorem Reduced_eq {a b : D} (ha : okV a) (hb : okV b) (n : Nat) : m_Reduced_init [.obj "Reduced" [], .fz a, .fz b] n = .ok (.fz .non) [some (.obj "Reduced" [("heap", cp a), ("firing", cp b)]), none, none] n := by
  simp [m_Reduced_init, g_Reduced_init, VL.entry, copied_eq ha, copied_eq hb, putFD, VL.handed, List.range_succ]
theorem blk_Met {a b c d : D} (ha : okV a) (hb : okV b) (hc : okV c) (hd : okV d) {os : List O} (hl : os.length < 100000) {x5 x6 x7 x8 : Option O} {n : Nat} (k : MT) : (seqS (mPar 5 6 (rowC (makeM (opC (mOpnd (mUse 0)) (opC (mOpnd (mUse 1)) op0)) p_Met_init "Met" m_Met_init) (rowC (makeKM (opC (mOpnd (mUse 1)) (opC (mOpnd (mUse 0)) op0)) ["heights", "current"] "Met" m_Met_init [1, 0]) row0)))
  (seqS (mPar 7 8 (rowC (mAndV (mIsC "Met" (mVar 5)) (mIsC "Met" (mVar 6))) (rowC (mLst (rowC (mFld cs_current "current" (mVar 5)) (rowC (mFld cs_heights "heights" (mVar 5)) row0))) row0)))
  (seqS (exprS (mApp 4 (mTup (rowC (mUse 5) (rowC (mUse 6) (rowC (mUse 7) (rowC (mUse 8) (rowC (mLst (rowC (mFld cs_current "current" (mVar 6)) (rowC (mFld cs_heights "heights" (mVar 6)) row0))) (rowC (mLst (rowC (mUse 0) (rowC (mUse 1) row0))) row0))))))))) k))) ⟨[some (.fz a), some (.fz b), some (.fz c), some (.fz d), some (.lst os), x5, x6, x7, x8], n⟩ = k ⟨[some (.fz a), some (.fz b), some (.fz c), some (.fz d), some (.lst (os ++ [.fz (rowD "Met" ["current", "heights"] n [a, b])])), some (.fz (.obj n "Met" [("current", cp a), ("heights", cp b)])), some (.fz (.obj (n + 1) "Met" [("current", cp a), ("heights", cp b)])), some (.fz (.bl true)), some (.fz (.lst [cp a, cp b]))], n + 2⟩ := by
  simp [Met_eq ha hb, isC, O.flds, List.range_succ, List.lookup_cons, cs_current, cs_heights, rowD, hl]
theorem blk_Barred {a b c d : D} (ha : okV a) (hb : okV b) (hc : okV c) (hd : okV d) {os : List O} (hl : os.length < 100000) {x5 x6 x7 x8 : Option O} {n : Nat} (k : MT) : (seqS (mPar 5 6 (rowC (makeM (opC (mOpnd (mUse 0)) op0) p_Barred_init "Barred" m_Barred_init) (rowC (makeKM (opC (mOpnd (mUse 0)) op0) ["measure"] "Barred" m_Barred_init [0]) row0)))
  (seqS (mPar 7 8 (rowC (mAndV (mIsC "Barred" (mVar 5)) (mIsC "Barred" (mVar 6))) (rowC (mLst (rowC (mFld cs_measure "measure" (mVar 5)) row0)) row0)))
  (seqS (exprS (mApp 4 (mTup (rowC (mUse 5) (rowC (mUse 6) (rowC (mUse 7) (rowC (mUse 8) (rowC (mLst (rowC (mFld cs_measure "measure" (mVar 6)) row0)) (rowC (mLst (rowC (mUse 0) row0)) row0))))))))) k))) ⟨[some (.fz a), some (.fz b), some (.fz c), some (.fz d), some (.lst os), x5, x6, x7, x8], n⟩ = k ⟨[some (.fz a), some (.fz b), some (.fz c), some (.fz d), some (.lst (os ++ [.fz (rowD "Barred" ["measure"] n [a])])), some (.fz (.obj n "Barred" [("measure", cp a)])), some (.fz (.obj (n + 1) "Barred" [("measure", cp a)])), some (.fz (.bl true)), some (.fz (.lst [cp a]))], n + 2⟩ := by
  simp [Barred_eq ha, isC, O.flds, List.range_succ, List.lookup_cons, cs_measure, rowD, hl]
theorem blk_Led {a b c d : D} (ha : okV a) (hb : okV b) (hc : okV c) (hd : okV d) {os : List O} (hl : os.length < 100000) {x5 x6 x7 x8 : Option O} {n : Nat} (k : MT) : (seqS (mPar 5 6 (rowC (makeM (opC (mOpnd (mUse 0)) op0) p_Led_init "Led" m_Led_init) (rowC (makeKM (opC (mOpnd (mUse 0)) op0) ["firing"] "Led" m_Led_init [0]) row0)))
  (seqS (mPar 7 8 (rowC (mAndV (mIsC "Led" (mVar 5)) (mIsC "Led" (mVar 6))) (rowC (mLst (rowC (mFld cs_firing "firing" (mVar 5)) row0)) row0)))
  (seqS (exprS (mApp 4 (mTup (rowC (mUse 5) (rowC (mUse 6) (rowC (mUse 7) (rowC (mUse 8) (rowC (mLst (rowC (mFld cs_firing "firing" (mVar 6)) row0)) (rowC (mLst (rowC (mUse 0) row0)) row0))))))))) k))) ⟨[some (.fz a), some (.fz b), some (.fz c), some (.fz d), some (.lst os), x5, x6, x7, x8], n⟩ = k ⟨[some (.fz a), some (.fz b), some (.fz c), some (.fz d), some (.lst (os ++ [.fz (rowD "Led" ["firing"] n [a])])), some (.fz (.obj n "Led" [("firing", cp a)])), some (.fz (.obj (n + 1) "Led" [("firing", cp a)])), some (.fz (.bl true)), some (.fz (.lst [cp a]))], n + 2⟩ := by
  simp [Led_eq ha, isC, O.flds, List.range_succ, List.lookup_cons, cs_firing, rowD, hl]
theorem blk_Apart {a b c d : D} (ha : okV a) (hb : okV b) (hc : okV c) (hd : okV d) {os : List O} (hl : os.length < 100000) {x5 x6 x7 x8 : Option O} {n : Nat} (k : MT) : (seqS (mPar 5 6 (rowC (makeM (opC (mOpnd (mUse 0)) op0) p_Apart_init "Apart" m_Apart_init) (rowC (makeKM (opC (mOpnd (mUse 0)) op0) ["clock"] "Apart" m_Apart_init [0]) row0)))
  (seqS (mPar 7 8 (rowC (mAndV (mIsC "Apart" (mVar 5)) (mIsC "Apart" (mVar 6))) (rowC (mLst (rowC (mFld cs_clock "clock" (mVar 5)) row0)) row0)))
  (seqS (exprS (mApp 4 (mTup (rowC (mUse 5) (rowC (mUse 6) (rowC (mUse 7) (rowC (mUse 8) (rowC (mLst (rowC (mFld cs_clock "clock" (mVar 6)) row0)) (rowC (mLst (rowC (mUse 0) row0)) row0))))))))) k))) ⟨[some (.fz a), some (.fz b), some (.fz c), some (.fz d), some (.lst os), x5, x6, x7, x8], n⟩ = k ⟨[some (.fz a), some (.fz b), some (.fz c), some (.fz d), some (.lst (os ++ [.fz (rowD "Apart" ["clock"] n [a])])), some (.fz (.obj n "Apart" [("clock", cp a)])), some (.fz (.obj (n + 1) "Apart" [("clock", cp a)])), some (.fz (.bl true)), some (.fz (.lst [cp a]))], n + 2⟩ := by
  simp [Apart_eq ha, isC, O.flds, List.range_succ, List.lookup_cons, cs_clock, rowD, hl]
theorem blk_Group {a b c d : D} (ha : okV a) (hb : okV b) (hc : okV c) (hd : okV d) {os : List O} (hl : os.length < 100000) {x5 x6 x7 x8 : Option O} {n : Nat} (k : MT) : (seqS (mPar 5 6 (rowC (makeM (opC (mOpnd (mUse 0)) (opC (mOpnd (mUse 1)) op0)) p_Group_init "Group" m_Group_init) (rowC (makeKM (opC (mOpnd (mUse 1)) (opC (mOpnd (mUse 0)) op0)) ["twists", "free"] "Group" m_Group_init [1, 0]) row0)))
  (seqS (mPar 7 8 (rowC (mAndV (mIsC "Group" (mVar 5)) (mIsC "Group" (mVar 6))) (rowC (mLst (rowC (mFld cs_free "free" (mVar 5)) (rowC (mFld cs_twists "twists" (mVar 5)) row0))) row0)))
  (seqS (exprS (mApp 4 (mTup (rowC (mUse 5) (rowC (mUse 6) (rowC (mUse 7) (rowC (mUse 8) (rowC (mLst (rowC (mFld cs_free "free" (mVar 6)) (rowC (mFld cs_twists "twists" (mVar 6)) row0))) (rowC (mLst (rowC (mUse 0) (rowC (mUse 1) row0))) row0))))))))) k))) ⟨[some (.fz a), some (.fz b), some (.fz c), some (.fz d), some (.lst os), x5, x6, x7, x8], n⟩ = k ⟨[some (.fz a), some (.fz b), some (.fz c), some (.fz d), some (.lst (os ++ [.fz (rowD "Group" ["free", "twists"] n [a, b])])), some (.fz (.obj n "Group" [("free", cp a), ("twists", cp b)])), some (.fz (.obj (n + 1) "Group" [("free", cp a), ("twists", cp b)])), some (.fz (.bl true)), some (.fz (.lst [cp a, cp b]))], n + 2⟩ := by
  simp [Group_eq ha hb, isC, O.flds, List.range_succ, List.lookup_cons, cs_free, cs_twists, rowD, hl]
theorem blk_Holes {a b c d : D} (ha : okV a) (hb : okV b) (hc : okV c) (hd : okV d) {os : List O} (hl : os.length < 100000) {x5 x6 x7 x8 : Option O} {n : Nat} (k : MT) : (seqS (mPar 5 6 (rowC (makeM (opC (mOpnd (mUse 0)) (opC (mOpnd (mUse 1)) op0)) p_Holes_init "Holes" m_Holes_init) (rowC (makeKM (opC (mOpnd (mUse 1)) (opC (mOpnd (mUse 0)) op0)) ["twists", "free"] "Holes" m_Holes_init [1, 0]) row0)))
  (seqS (mPar 7 8 (rowC (mAndV (mIsC "Holes" (mVar 5)) (mIsC "Holes" (mVar 6))) (rowC (mLst (rowC (mFld cs_free "free" (mVar 5)) (rowC (mFld cs_twists "twists" (mVar 5)) row0))) row0)))
  (seqS (exprS (mApp 4 (mTup (rowC (mUse 5) (rowC (mUse 6) (rowC (mUse 7) (rowC (mUse 8) (rowC (mLst (rowC (mFld cs_free "free" (mVar 6)) (rowC (mFld cs_twists "twists" (mVar 6)) row0))) (rowC (mLst (rowC (mUse 0) (rowC (mUse 1) row0))) row0))))))))) k))) ⟨[some (.fz a), some (.fz b), some (.fz c), some (.fz d), some (.lst os), x5, x6, x7, x8], n⟩ = k ⟨[some (.fz a), some (.fz b), some (.fz c), some (.fz d), some (.lst (os ++ [.fz (rowD "Holes" ["free", "twists"] n [a, b])])), some (.fz (.obj n "Holes" [("free", cp a), ("twists", cp b)])), some (.fz (.obj (n + 1) "Holes" [("free", cp a), ("twists", cp b)])), some (.fz (.bl true)), some (.fz (.lst [cp a, cp b]))], n + 2⟩ := by
  simp [Holes_eq ha hb, isC, O.flds, List.range_succ, List.lookup_cons, cs_free, cs_twists, rowD, hl]
theorem blk_Filled {a b c d : D} (ha : okV a) (hb : okV b) (hc : okV c) (hd : okV d) {os : List O} (hl : os.length < 100000) {x5 x6 x7 x8 : Option O} {n : Nat} (k : MT) : (seqS (mPar 5 6 (rowC (makeM (opC (mOpnd (mUse 0)) op0) p_Filled_init "Filled" m_Filled_init) (rowC (makeKM (opC (mOpnd (mUse 0)) op0) ["chain"] "Filled" m_Filled_init [0]) row0)))
  (seqS (mPar 7 8 (rowC (mAndV (mIsC "Filled" (mVar 5)) (mIsC "Filled" (mVar 6))) (rowC (mLst (rowC (mFld cs_chain "chain" (mVar 5)) row0)) row0)))
  (seqS (exprS (mApp 4 (mTup (rowC (mUse 5) (rowC (mUse 6) (rowC (mUse 7) (rowC (mUse 8) (rowC (mLst (rowC (mFld cs_chain "chain" (mVar 6)) row0)) (rowC (mLst (rowC (mUse 0) row0)) row0))))))))) k))) ⟨[some (.fz a), some (.fz b), some (.fz c), some (.fz d), some (.lst os), x5, x6, x7, x8], n⟩ = k ⟨[some (.fz a), some (.fz b), some (.fz c), some (.fz d), some (.lst (os ++ [.fz (rowD "Filled" ["chain"] n [a])])), some (.fz (.obj n "Filled" [("chain", cp a)])), some (.fz (.obj (n + 1) "Filled" [("chain", cp a)])), some (.fz (.bl true)), some (.fz (.lst [cp a]))], n + 2⟩ := by
  simp [Filled_eq ha, isC, O.flds, List.range_succ, List.lookup_cons, cs_chain, rowD, hl]
theorem blk_Open {a b c d : D} (ha : okV a) (hb : okV b) (hc : okV c) (hd : okV d) {os : List O} (hl : os.length < 100000) {x5 x6 x7 x8 : Option O} {n : Nat} (k : MT) : (seqS (mPar 5 6 (rowC (makeM (opC (mOpnd (mUse 0)) op0) p_Open_init "Open" m_Open_init) (rowC (makeKM (opC (mOpnd (mUse 0)) op0) ["measure"] "Open" m_Open_init [0]) row0)))
  (seqS (mPar 7 8 (rowC (mAndV (mIsC "Open" (mVar 5)) (mIsC "Open" (mVar 6))) (rowC (mLst (rowC (mFld cs_measure "measure" (mVar 5)) row0)) row0)))
  (seqS (exprS (mApp 4 (mTup (rowC (mUse 5) (rowC (mUse 6) (rowC (mUse 7) (rowC (mUse 8) (rowC (mLst (rowC (mFld cs_measure "measure" (mVar 6)) row0)) (rowC (mLst (rowC (mUse 0) row0)) row0))))))))) k))) ⟨[some (.fz a), some (.fz b), some (.fz c), some (.fz d), some (.lst os), x5, x6, x7, x8], n⟩ = k ⟨[some (.fz a), some (.fz b), some (.fz c), some (.fz d), some (.lst (os ++ [.fz (rowD "Open" ["measure"] n [a])])), some (.fz (.obj n "Open" [("measure", cp a)])), some (.fz (.obj (n + 1) "Open" [("measure", cp a)])), some (.fz (.bl true)), some (.fz (.lst [cp a]))], n + 2⟩ := by
  simp [Open_eq ha, isC, O.flds, List.range_succ, List.lookup_cons, cs_measure, rowD, hl]
theorem blk_Homotopy {a b c d : D} (ha : okV a) (hb : okV b) (hc : okV c) (hd : okV d) {os : List O} (hl : os.length < 100000) {x5 x6 x7 x8 : Option O} {n : Nat} (k : MT) : (seqS (mPar 5 6 (rowC (makeM (opC (mOpnd (mUse 0)) op0) p_Homotopy_init "Homotopy" m_Homotopy_init) (rowC (makeKM (opC (mOpnd (mUse 0)) op0) ["tables"] "Homotopy" m_Homotopy_init [0]) row0)))
  (seqS (mPar 7 8 (rowC (mAndV (mIsC "Homotopy" (mVar 5)) (mIsC "Homotopy" (mVar 6))) (rowC (mLst (rowC (mFld cs_tables "tables" (mVar 5)) row0)) row0)))
  (seqS (exprS (mApp 4 (mTup (rowC (mUse 5) (rowC (mUse 6) (rowC (mUse 7) (rowC (mUse 8) (rowC (mLst (rowC (mFld cs_tables "tables" (mVar 6)) row0)) (rowC (mLst (rowC (mUse 0) row0)) row0))))))))) k))) ⟨[some (.fz a), some (.fz b), some (.fz c), some (.fz d), some (.lst os), x5, x6, x7, x8], n⟩ = k ⟨[some (.fz a), some (.fz b), some (.fz c), some (.fz d), some (.lst (os ++ [.fz (rowD "Homotopy" ["tables"] n [a])])), some (.fz (.obj n "Homotopy" [("tables", cp a)])), some (.fz (.obj (n + 1) "Homotopy" [("tables", cp a)])), some (.fz (.bl true)), some (.fz (.lst [cp a]))], n + 2⟩ := by
  simp [Homotopy_eq ha, isC, O.flds, List.range_succ, List.lookup_cons, cs_tables, rowD, hl]
theorem blk_Clocks {a b c d : D} (ha : okV a) (hb : okV b) (hc : okV c) (hd : okV d) {os : List O} (hl : os.length < 100000) {x5 x6 x7 x8 : Option O} {n : Nat} (k : MT) : (seqS (mPar 5 6 (rowC (makeM (opC (mOpnd (mUse 0)) op0) p_Clocks_init "Clocks" m_Clocks_init) (rowC (makeKM (opC (mOpnd (mUse 0)) op0) ["tables"] "Clocks" m_Clocks_init [0]) row0)))
  (seqS (mPar 7 8 (rowC (mAndV (mIsC "Clocks" (mVar 5)) (mIsC "Clocks" (mVar 6))) (rowC (mLst (rowC (mFld cs_tables "tables" (mVar 5)) row0)) row0)))
  (seqS (exprS (mApp 4 (mTup (rowC (mUse 5) (rowC (mUse 6) (rowC (mUse 7) (rowC (mUse 8) (rowC (mLst (rowC (mFld cs_tables "tables" (mVar 6)) row0)) (rowC (mLst (rowC (mUse 0) row0)) row0))))))))) k))) ⟨[some (.fz a), some (.fz b), some (.fz c), some (.fz d), some (.lst os), x5, x6, x7, x8], n⟩ = k ⟨[some (.fz a), some (.fz b), some (.fz c), some (.fz d), some (.lst (os ++ [.fz (rowD "Clocks" ["tables"] n [a])])), some (.fz (.obj n "Clocks" [("tables", cp a)])), some (.fz (.obj (n + 1) "Clocks" [("tables", cp a)])), some (.fz (.bl true)), some (.fz (.lst [cp a]))], n + 2⟩ := by
  simp [Clocks_eq ha, isC, O.flds, List.range_succ, List.lookup_cons, cs_tables, rowD, hl]
theorem blk_Reduction {a b c d : D} (ha : okV a) (hb : okV b) (hc : okV c) (hd : okV d) {os : List O} (hl : os.length < 100000) {x5 x6 x7 x8 : Option O} {n : Nat} (k : MT) : (seqS (mPar 5 6 (rowC (makeM (opC (mOpnd (mUse 0)) (opC (mOpnd (mUse 1)) (opC (mOpnd (mUse 2)) (opC (mOpnd (mUse 3)) op0)))) p_Reduction_init "Reduction" m_Reduction_init) (rowC (makeKM (opC (mOpnd (mUse 3)) (opC (mOpnd (mUse 2)) (opC (mOpnd (mUse 1)) (opC (mOpnd (mUse 0)) op0)))) ["fill", "up", "down", "shell"] "Reduction" m_Reduction_init [3, 2, 1, 0]) row0)))
  (seqS (mPar 7 8 (rowC (mAndV (mIsC "Reduction" (mVar 5)) (mIsC "Reduction" (mVar 6))) (rowC (mLst (rowC (mFld cs_shell "shell" (mVar 5)) (rowC (mFld cs_down "down" (mVar 5)) (rowC (mFld cs_up "up" (mVar 5)) (rowC (mFld cs_fill "fill" (mVar 5)) row0))))) row0)))
  (seqS (exprS (mApp 4 (mTup (rowC (mUse 5) (rowC (mUse 6) (rowC (mUse 7) (rowC (mUse 8) (rowC (mLst (rowC (mFld cs_shell "shell" (mVar 6)) (rowC (mFld cs_down "down" (mVar 6)) (rowC (mFld cs_up "up" (mVar 6)) (rowC (mFld cs_fill "fill" (mVar 6)) row0))))) (rowC (mLst (rowC (mUse 0) (rowC (mUse 1) (rowC (mUse 2) (rowC (mUse 3) row0))))) row0))))))))) k))) ⟨[some (.fz a), some (.fz b), some (.fz c), some (.fz d), some (.lst os), x5, x6, x7, x8], n⟩ = k ⟨[some (.fz a), some (.fz b), some (.fz c), some (.fz d), some (.lst (os ++ [.fz (rowD "Reduction" ["shell", "down", "up", "fill"] n [a, b, c, d])])), some (.fz (.obj n "Reduction" [("shell", cp a), ("down", cp b), ("up", cp c), ("fill", cp d)])), some (.fz (.obj (n + 1) "Reduction" [("shell", cp a), ("down", cp b), ("up", cp c), ("fill", cp d)])), some (.fz (.bl true)), some (.fz (.lst [cp a, cp b, cp c, cp d]))], n + 2⟩ := by
  simp [Reduction_eq ha hb hc hd, isC, O.flds, List.range_succ, List.lookup_cons, cs_shell, cs_down, cs_up, cs_fill, rowD, hl]
def rows_a (a b c d : D) (n : Nat) : List D := [rowD "Met" ["current", "heights"] (n + 0) [a, b],
  rowD "Barred" ["measure"] (n + 2) [a],
  rowD "Led" ["firing"] (n + 4) [a],
  rowD "Apart" ["clock"] (n + 6) [a],
  rowD "Group" ["free", "twists"] (n + 8) [a, b],
  rowD "Holes" ["free", "twists"] (n + 10) [a, b],
  rowD "Filled" ["chain"] (n + 12) [a],
  rowD "Open" ["measure"] (n + 14) [a],
  rowD "Homotopy" ["tables"] (n + 16) [a],
  rowD "Clocks" ["tables"] (n + 18) [a],
  rowD "Reduction" ["shell", "down", "up", "fill"] (n + 20) [a, b, c, d]]
theorem made_a {a b c d : D} (ha : okV a) (hb : okV b) (hc : okV c) (hd : okV d) (n : Nat) : m__law_made_a [.fz a, .fz b, .fz c, .fz d] n = .ok (.fz (.lst (rows_a a b c d n))) [none, none, none, none] (n + 22) := by
  have e : ∃ y5 y6 y7 y8, g__law_made_a ⟨[some (.fz a), some (.fz b), some (.fz c), some (.fz d), none, none, none, none, none], n⟩ = T.rt (.fz (.lst (rows_a a b c d n))) ⟨[some (.fz a), some (.fz b), some (.fz c), some (.fz d), some (.fz (.lst (rows_a a b c d n))), y5, y6, y7, y8], n + 22⟩ := by
    refine ⟨some (.fz (.obj (n + 20) "Reduction" [("shell", cp a), ("down", cp b), ("up", cp c), ("fill", cp d)])), some (.fz (.obj (n + 21) "Reduction" [("shell", cp a), ("down", cp b), ("up", cp c), ("fill", cp d)])), some (.fz (.bl true)), some (.fz (.lst [cp a, cp b, cp c, cp d])), ?_⟩
    unfold g__law_made_a
    rw [seqS_ap, mSet_ap, mLst_ap, row0_ap]
    dsimp only [R.bind_ok, List.length_nil]
    rw [if_pos (by decide), R.toT_ok]
    dsimp only [List.length_cons, List.length_nil]
    rw [if_pos (by decide), T.seq_nx]
    dsimp only [List.set]
    rw [blk_Met ha hb hc hd (by simp)]
    rw [blk_Barred ha hb hc hd (by simp)]
    rw [blk_Led ha hb hc hd (by simp)]
    rw [blk_Apart ha hb hc hd (by simp)]
    rw [blk_Group ha hb hc hd (by simp)]
    rw [blk_Holes ha hb hc hd (by simp)]
    rw [blk_Filled ha hb hc hd (by simp)]
    rw [blk_Open ha hb hc hd (by simp)]
    rw [blk_Homotopy ha hb hc hd (by simp)]
    rw [blk_Clocks ha hb hc hd (by simp)]
    rw [blk_Reduction ha hb hc hd (by simp)]
    simp [rows_a]
  obtain ⟨_, _, _, _, e⟩ := e
  simp [m__law_made_a, VL.entry, e, VL.handed, List.range_succ]
theorem blk_Split {a b c d : D} (ha : okV a) (hb : okV b) (hc : okV c) (hd : okV d) {os : List O} (hl : os.length < 100000) {x5 x6 x7 x8 : Option O} {n : Nat} (k : MT) : (seqS (mPar 5 6 (rowC (makeM (opC (mOpnd (mUse 0)) (opC (mOpnd (mUse 1)) (opC (mOpnd (mUse 2)) op0))) p_Split_init "Split" m_Split_init) (rowC (makeKM (opC (mOpnd (mUse 2)) (opC (mOpnd (mUse 1)) (opC (mOpnd (mUse 0)) op0))) ["rest", "below", "above"] "Split" m_Split_init [2, 1, 0]) row0)))
  (seqS (mPar 7 8 (rowC (mAndV (mIsC "Split" (mVar 5)) (mIsC "Split" (mVar 6))) (rowC (mLst (rowC (mFld cs_above "above" (mVar 5)) (rowC (mFld cs_below "below" (mVar 5)) (rowC (mFld cs_rest "rest" (mVar 5)) row0)))) row0)))
  (seqS (exprS (mApp 4 (mTup (rowC (mUse 5) (rowC (mUse 6) (rowC (mUse 7) (rowC (mUse 8) (rowC (mLst (rowC (mFld cs_above "above" (mVar 6)) (rowC (mFld cs_below "below" (mVar 6)) (rowC (mFld cs_rest "rest" (mVar 6)) row0)))) (rowC (mLst (rowC (mUse 0) (rowC (mUse 1) (rowC (mUse 2) row0)))) row0))))))))) k))) ⟨[some (.fz a), some (.fz b), some (.fz c), some (.fz d), some (.lst os), x5, x6, x7, x8], n⟩ = k ⟨[some (.fz a), some (.fz b), some (.fz c), some (.fz d), some (.lst (os ++ [.fz (rowD "Split" ["above", "below", "rest"] n [a, b, c])])), some (.fz (.obj n "Split" [("above", cp a), ("below", cp b), ("rest", cp c)])), some (.fz (.obj (n + 1) "Split" [("above", cp a), ("below", cp b), ("rest", cp c)])), some (.fz (.bl true)), some (.fz (.lst [cp a, cp b, cp c]))], n + 2⟩ := by
  simp [Split_eq ha hb hc, isC, O.flds, List.range_succ, List.lookup_cons, cs_above, cs_below, cs_rest, rowD, hl]
theorem blk_Nearest {a b c d : D} (ha : okV a) (hb : okV b) (hc : okV c) (hd : okV d) {os : List O} (hl : os.length < 100000) {x5 x6 x7 x8 : Option O} {n : Nat} (k : MT) : (seqS (mPar 5 6 (rowC (makeM (opC (mOpnd (mUse 0)) (opC (mOpnd (mUse 1)) op0)) p_Nearest_init "Nearest" m_Nearest_init) (rowC (makeKM (opC (mOpnd (mUse 1)) (opC (mOpnd (mUse 0)) op0)) ["square", "near"] "Nearest" m_Nearest_init [1, 0]) row0)))
  (seqS (mPar 7 8 (rowC (mAndV (mIsC "Nearest" (mVar 5)) (mIsC "Nearest" (mVar 6))) (rowC (mLst (rowC (mFld cs_near "near" (mVar 5)) (rowC (mFld cs_square "square" (mVar 5)) row0))) row0)))
  (seqS (exprS (mApp 4 (mTup (rowC (mUse 5) (rowC (mUse 6) (rowC (mUse 7) (rowC (mUse 8) (rowC (mLst (rowC (mFld cs_near "near" (mVar 6)) (rowC (mFld cs_square "square" (mVar 6)) row0))) (rowC (mLst (rowC (mUse 0) (rowC (mUse 1) row0))) row0))))))))) k))) ⟨[some (.fz a), some (.fz b), some (.fz c), some (.fz d), some (.lst os), x5, x6, x7, x8], n⟩ = k ⟨[some (.fz a), some (.fz b), some (.fz c), some (.fz d), some (.lst (os ++ [.fz (rowD "Nearest" ["near", "square"] n [a, b])])), some (.fz (.obj n "Nearest" [("near", cp a), ("square", cp b)])), some (.fz (.obj (n + 1) "Nearest" [("near", cp a), ("square", cp b)])), some (.fz (.bl true)), some (.fz (.lst [cp a, cp b]))], n + 2⟩ := by
  simp [Nearest_eq ha hb, isC, O.flds, List.range_succ, List.lookup_cons, cs_near, cs_square, rowD, hl]
theorem blk_Least {a b c d : D} (ha : okV a) (hb : okV b) (hc : okV c) (hd : okV d) {os : List O} (hl : os.length < 100000) {x5 x6 x7 x8 : Option O} {n : Nat} (k : MT) : (seqS (mPar 5 6 (rowC (makeM (opC (mOpnd (mUse 0)) (opC (mOpnd (mUse 1)) op0)) p_Least_init "Least" m_Least_init) (rowC (makeKM (opC (mOpnd (mUse 1)) (opC (mOpnd (mUse 0)) op0)) ["measure", "row"] "Least" m_Least_init [1, 0]) row0)))
  (seqS (mPar 7 8 (rowC (mAndV (mIsC "Least" (mVar 5)) (mIsC "Least" (mVar 6))) (rowC (mLst (rowC (mFld cs_row "row" (mVar 5)) (rowC (mFld cs_measure "measure" (mVar 5)) row0))) row0)))
  (seqS (exprS (mApp 4 (mTup (rowC (mUse 5) (rowC (mUse 6) (rowC (mUse 7) (rowC (mUse 8) (rowC (mLst (rowC (mFld cs_row "row" (mVar 6)) (rowC (mFld cs_measure "measure" (mVar 6)) row0))) (rowC (mLst (rowC (mUse 0) (rowC (mUse 1) row0))) row0))))))))) k))) ⟨[some (.fz a), some (.fz b), some (.fz c), some (.fz d), some (.lst os), x5, x6, x7, x8], n⟩ = k ⟨[some (.fz a), some (.fz b), some (.fz c), some (.fz d), some (.lst (os ++ [.fz (rowD "Least" ["row", "measure"] n [a, b])])), some (.fz (.obj n "Least" [("row", cp a), ("measure", cp b)])), some (.fz (.obj (n + 1) "Least" [("row", cp a), ("measure", cp b)])), some (.fz (.bl true)), some (.fz (.lst [cp a, cp b]))], n + 2⟩ := by
  simp [Least_eq ha hb, isC, O.flds, List.range_succ, List.lookup_cons, cs_row, cs_measure, rowD, hl]
theorem blk_Unfilled {a b c d : D} (ha : okV a) (hb : okV b) (hc : okV c) (hd : okV d) {os : List O} (hl : os.length < 100000) {x5 x6 x7 x8 : Option O} {n : Nat} (k : MT) : (seqS (mPar 5 6 (rowC (makeM (opC (mOpnd (mUse 0)) op0) p_Unfilled_init "Unfilled" m_Unfilled_init) (rowC (makeKM (opC (mOpnd (mUse 0)) op0) ["measure"] "Unfilled" m_Unfilled_init [0]) row0)))
  (seqS (mPar 7 8 (rowC (mAndV (mIsC "Unfilled" (mVar 5)) (mIsC "Unfilled" (mVar 6))) (rowC (mLst (rowC (mFld cs_measure "measure" (mVar 5)) row0)) row0)))
  (seqS (exprS (mApp 4 (mTup (rowC (mUse 5) (rowC (mUse 6) (rowC (mUse 7) (rowC (mUse 8) (rowC (mLst (rowC (mFld cs_measure "measure" (mVar 6)) row0)) (rowC (mLst (rowC (mUse 0) row0)) row0))))))))) k))) ⟨[some (.fz a), some (.fz b), some (.fz c), some (.fz d), some (.lst os), x5, x6, x7, x8], n⟩ = k ⟨[some (.fz a), some (.fz b), some (.fz c), some (.fz d), some (.lst (os ++ [.fz (rowD "Unfilled" ["measure"] n [a])])), some (.fz (.obj n "Unfilled" [("measure", cp a)])), some (.fz (.obj (n + 1) "Unfilled" [("measure", cp a)])), some (.fz (.bl true)), some (.fz (.lst [cp a]))], n + 2⟩ := by
  simp [Unfilled_eq ha, isC, O.flds, List.range_succ, List.lookup_cons, cs_measure, rowD, hl]
theorem blk_Whole {a b c d : D} (ha : okV a) (hb : okV b) (hc : okV c) (hd : okV d) {os : List O} (hl : os.length < 100000) {x5 x6 x7 x8 : Option O} {n : Nat} (k : MT) : (seqS (mPar 5 6 (rowC (makeM (opC (mOpnd (mUse 0)) op0) p_Whole_init "Whole" m_Whole_init) (rowC (makeKM (opC (mOpnd (mUse 0)) op0) ["chain"] "Whole" m_Whole_init [0]) row0)))
  (seqS (mPar 7 8 (rowC (mAndV (mIsC "Whole" (mVar 5)) (mIsC "Whole" (mVar 6))) (rowC (mLst (rowC (mFld cs_chain "chain" (mVar 5)) row0)) row0)))
  (seqS (exprS (mApp 4 (mTup (rowC (mUse 5) (rowC (mUse 6) (rowC (mUse 7) (rowC (mUse 8) (rowC (mLst (rowC (mFld cs_chain "chain" (mVar 6)) row0)) (rowC (mLst (rowC (mUse 0) row0)) row0))))))))) k))) ⟨[some (.fz a), some (.fz b), some (.fz c), some (.fz d), some (.lst os), x5, x6, x7, x8], n⟩ = k ⟨[some (.fz a), some (.fz b), some (.fz c), some (.fz d), some (.lst (os ++ [.fz (rowD "Whole" ["chain"] n [a])])), some (.fz (.obj n "Whole" [("chain", cp a)])), some (.fz (.obj (n + 1) "Whole" [("chain", cp a)])), some (.fz (.bl true)), some (.fz (.lst [cp a]))], n + 2⟩ := by
  simp [Whole_eq ha, isC, O.flds, List.range_succ, List.lookup_cons, cs_chain, rowD, hl]
theorem blk_Straight {a b c d : D} (ha : okV a) (hb : okV b) (hc : okV c) (hd : okV d) {os : List O} (hl : os.length < 100000) {x5 x6 x7 x8 : Option O} {n : Nat} (k : MT) : (seqS (mPar 5 6 (rowC (makeM (opC (mOpnd (mUse 0)) op0) p_Straight_init "Straight" m_Straight_init) (rowC (makeKM (opC (mOpnd (mUse 0)) op0) ["many"] "Straight" m_Straight_init [0]) row0)))
  (seqS (mPar 7 8 (rowC (mAndV (mIsC "Straight" (mVar 5)) (mIsC "Straight" (mVar 6))) (rowC (mLst (rowC (mFld cs_many "many" (mVar 5)) row0)) row0)))
  (seqS (exprS (mApp 4 (mTup (rowC (mUse 5) (rowC (mUse 6) (rowC (mUse 7) (rowC (mUse 8) (rowC (mLst (rowC (mFld cs_many "many" (mVar 6)) row0)) (rowC (mLst (rowC (mUse 0) row0)) row0))))))))) k))) ⟨[some (.fz a), some (.fz b), some (.fz c), some (.fz d), some (.lst os), x5, x6, x7, x8], n⟩ = k ⟨[some (.fz a), some (.fz b), some (.fz c), some (.fz d), some (.lst (os ++ [.fz (rowD "Straight" ["many"] n [a])])), some (.fz (.obj n "Straight" [("many", cp a)])), some (.fz (.obj (n + 1) "Straight" [("many", cp a)])), some (.fz (.bl true)), some (.fz (.lst [cp a]))], n + 2⟩ := by
  simp [Straight_eq ha, isC, O.flds, List.range_succ, List.lookup_cons, cs_many, rowD, hl]
theorem blk_Twisted {a b c d : D} (ha : okV a) (hb : okV b) (hc : okV c) (hd : okV d) {os : List O} (hl : os.length < 100000) {x5 x6 x7 x8 : Option O} {n : Nat} (k : MT) : (seqS (mPar 5 6 (rowC (makeM (opC (mOpnd (mUse 0)) (opC (mOpnd (mUse 1)) op0)) p_Twisted_init "Twisted" m_Twisted_init) (rowC (makeKM (opC (mOpnd (mUse 1)) (opC (mOpnd (mUse 0)) op0)) ["row", "lot"] "Twisted" m_Twisted_init [1, 0]) row0)))
  (seqS (mPar 7 8 (rowC (mAndV (mIsC "Twisted" (mVar 5)) (mIsC "Twisted" (mVar 6))) (rowC (mLst (rowC (mFld cs_lot "lot" (mVar 5)) (rowC (mFld cs_row "row" (mVar 5)) row0))) row0)))
  (seqS (exprS (mApp 4 (mTup (rowC (mUse 5) (rowC (mUse 6) (rowC (mUse 7) (rowC (mUse 8) (rowC (mLst (rowC (mFld cs_lot "lot" (mVar 6)) (rowC (mFld cs_row "row" (mVar 6)) row0))) (rowC (mLst (rowC (mUse 0) (rowC (mUse 1) row0))) row0))))))))) k))) ⟨[some (.fz a), some (.fz b), some (.fz c), some (.fz d), some (.lst os), x5, x6, x7, x8], n⟩ = k ⟨[some (.fz a), some (.fz b), some (.fz c), some (.fz d), some (.lst (os ++ [.fz (rowD "Twisted" ["lot", "row"] n [a, b])])), some (.fz (.obj n "Twisted" [("lot", cp a), ("row", cp b)])), some (.fz (.obj (n + 1) "Twisted" [("lot", cp a), ("row", cp b)])), some (.fz (.bl true)), some (.fz (.lst [cp a, cp b]))], n + 2⟩ := by
  simp [Twisted_eq ha hb, isC, O.flds, List.range_succ, List.lookup_cons, cs_lot, cs_row, rowD, hl]
theorem blk_Alike {a b c d : D} (ha : okV a) (hb : okV b) (hc : okV c) (hd : okV d) {os : List O} (hl : os.length < 100000) {x5 x6 x7 x8 : Option O} {n : Nat} (k : MT) : (seqS (mPar 5 6 (rowC (makeM (opC (mOpnd (mUse 0)) (opC (mOpnd (mUse 1)) (opC (mOpnd (mUse 2)) op0))) p_Alike_init "Alike" m_Alike_init) (rowC (makeKM (opC (mOpnd (mUse 2)) (opC (mOpnd (mUse 1)) (opC (mOpnd (mUse 0)) op0))) ["measure", "filling", "row"] "Alike" m_Alike_init [2, 1, 0]) row0)))
  (seqS (mPar 7 8 (rowC (mAndV (mIsC "Alike" (mVar 5)) (mIsC "Alike" (mVar 6))) (rowC (mLst (rowC (mFld cs_row "row" (mVar 5)) (rowC (mFld cs_filling "filling" (mVar 5)) (rowC (mFld cs_measure "measure" (mVar 5)) row0)))) row0)))
  (seqS (exprS (mApp 4 (mTup (rowC (mUse 5) (rowC (mUse 6) (rowC (mUse 7) (rowC (mUse 8) (rowC (mLst (rowC (mFld cs_row "row" (mVar 6)) (rowC (mFld cs_filling "filling" (mVar 6)) (rowC (mFld cs_measure "measure" (mVar 6)) row0)))) (rowC (mLst (rowC (mUse 0) (rowC (mUse 1) (rowC (mUse 2) row0)))) row0))))))))) k))) ⟨[some (.fz a), some (.fz b), some (.fz c), some (.fz d), some (.lst os), x5, x6, x7, x8], n⟩ = k ⟨[some (.fz a), some (.fz b), some (.fz c), some (.fz d), some (.lst (os ++ [.fz (rowD "Alike" ["row", "filling", "measure"] n [a, b, c])])), some (.fz (.obj n "Alike" [("row", cp a), ("filling", cp b), ("measure", cp c)])), some (.fz (.obj (n + 1) "Alike" [("row", cp a), ("filling", cp b), ("measure", cp c)])), some (.fz (.bl true)), some (.fz (.lst [cp a, cp b, cp c]))], n + 2⟩ := by
  simp [Alike_eq ha hb hc, isC, O.flds, List.range_succ, List.lookup_cons, cs_row, cs_filling, cs_measure, rowD, hl]
theorem blk_Free {a b c d : D} (ha : okV a) (hb : okV b) (hc : okV c) (hd : okV d) {os : List O} (hl : os.length < 100000) {x5 x6 x7 x8 : Option O} {n : Nat} (k : MT) : (seqS (mPar 5 6 (rowC (makeM (opC (mOpnd (mUse 0)) op0) p_Free_init "Free" m_Free_init) (rowC (makeKM (opC (mOpnd (mUse 0)) op0) ["rows"] "Free" m_Free_init [0]) row0)))
  (seqS (mPar 7 8 (rowC (mAndV (mIsC "Free" (mVar 5)) (mIsC "Free" (mVar 6))) (rowC (mLst (rowC (mFld cs_rows "rows" (mVar 5)) row0)) row0)))
  (seqS (exprS (mApp 4 (mTup (rowC (mUse 5) (rowC (mUse 6) (rowC (mUse 7) (rowC (mUse 8) (rowC (mLst (rowC (mFld cs_rows "rows" (mVar 6)) row0)) (rowC (mLst (rowC (mUse 0) row0)) row0))))))))) k))) ⟨[some (.fz a), some (.fz b), some (.fz c), some (.fz d), some (.lst os), x5, x6, x7, x8], n⟩ = k ⟨[some (.fz a), some (.fz b), some (.fz c), some (.fz d), some (.lst (os ++ [.fz (rowD "Free" ["rows"] n [a])])), some (.fz (.obj n "Free" [("rows", cp a)])), some (.fz (.obj (n + 1) "Free" [("rows", cp a)])), some (.fz (.bl true)), some (.fz (.lst [cp a]))], n + 2⟩ := by
  simp [Free_eq ha, isC, O.flds, List.range_succ, List.lookup_cons, cs_rows, rowD, hl]
theorem blk_Round {a b c d : D} (ha : okV a) (hb : okV b) (hc : okV c) (hd : okV d) {os : List O} (hl : os.length < 100000) {x5 x6 x7 x8 : Option O} {n : Nat} (k : MT) : (seqS (mPar 5 6 (rowC (makeM (opC (mOpnd (mUse 0)) op0) p_Round_init "Round" m_Round_init) (rowC (makeKM (opC (mOpnd (mUse 0)) op0) ["chain"] "Round" m_Round_init [0]) row0)))
  (seqS (mPar 7 8 (rowC (mAndV (mIsC "Round" (mVar 5)) (mIsC "Round" (mVar 6))) (rowC (mLst (rowC (mFld cs_chain "chain" (mVar 5)) row0)) row0)))
  (seqS (exprS (mApp 4 (mTup (rowC (mUse 5) (rowC (mUse 6) (rowC (mUse 7) (rowC (mUse 8) (rowC (mLst (rowC (mFld cs_chain "chain" (mVar 6)) row0)) (rowC (mLst (rowC (mUse 0) row0)) row0))))))))) k))) ⟨[some (.fz a), some (.fz b), some (.fz c), some (.fz d), some (.lst os), x5, x6, x7, x8], n⟩ = k ⟨[some (.fz a), some (.fz b), some (.fz c), some (.fz d), some (.lst (os ++ [.fz (rowD "Round" ["chain"] n [a])])), some (.fz (.obj n "Round" [("chain", cp a)])), some (.fz (.obj (n + 1) "Round" [("chain", cp a)])), some (.fz (.bl true)), some (.fz (.lst [cp a]))], n + 2⟩ := by
  simp [Round_eq ha, isC, O.flds, List.range_succ, List.lookup_cons, cs_chain, rowD, hl]
theorem blk_Joins {a b c d : D} (ha : okV a) (hb : okV b) (hc : okV c) (hd : okV d) {os : List O} (hl : os.length < 100000) {x5 x6 x7 x8 : Option O} {n : Nat} (k : MT) : (seqS (mPar 5 6 (rowC (makeM (opC (mOpnd (mUse 0)) op0) p_Joins_init "Joins" m_Joins_init) (rowC (makeKM (opC (mOpnd (mUse 0)) op0) ["chains"] "Joins" m_Joins_init [0]) row0)))
  (seqS (mPar 7 8 (rowC (mAndV (mIsC "Joins" (mVar 5)) (mIsC "Joins" (mVar 6))) (rowC (mLst (rowC (mFld cs_chains "chains" (mVar 5)) row0)) row0)))
  (seqS (exprS (mApp 4 (mTup (rowC (mUse 5) (rowC (mUse 6) (rowC (mUse 7) (rowC (mUse 8) (rowC (mLst (rowC (mFld cs_chains "chains" (mVar 6)) row0)) (rowC (mLst (rowC (mUse 0) row0)) row0))))))))) k))) ⟨[some (.fz a), some (.fz b), some (.fz c), some (.fz d), some (.lst os), x5, x6, x7, x8], n⟩ = k ⟨[some (.fz a), some (.fz b), some (.fz c), some (.fz d), some (.lst (os ++ [.fz (rowD "Joins" ["chains"] n [a])])), some (.fz (.obj n "Joins" [("chains", cp a)])), some (.fz (.obj (n + 1) "Joins" [("chains", cp a)])), some (.fz (.bl true)), some (.fz (.lst [cp a]))], n + 2⟩ := by
  simp [Joins_eq ha, isC, O.flds, List.range_succ, List.lookup_cons, cs_chains, rowD, hl]
def rows_b (a b c d : D) (n : Nat) : List D := [rowD "Split" ["above", "below", "rest"] (n + 0) [a, b, c],
  rowD "Nearest" ["near", "square"] (n + 2) [a, b],
  rowD "Least" ["row", "measure"] (n + 4) [a, b],
  rowD "Unfilled" ["measure"] (n + 6) [a],
  rowD "Whole" ["chain"] (n + 8) [a],
  rowD "Straight" ["many"] (n + 10) [a],
  rowD "Twisted" ["lot", "row"] (n + 12) [a, b],
  rowD "Alike" ["row", "filling", "measure"] (n + 14) [a, b, c],
  rowD "Free" ["rows"] (n + 16) [a],
  rowD "Round" ["chain"] (n + 18) [a],
  rowD "Joins" ["chains"] (n + 20) [a]]
theorem made_b {a b c d : D} (ha : okV a) (hb : okV b) (hc : okV c) (hd : okV d) (n : Nat) : m__law_made_b [.fz a, .fz b, .fz c, .fz d] n = .ok (.fz (.lst (rows_b a b c d n))) [none, none, none, none] (n + 22) := by
  have e : ∃ y5 y6 y7 y8, g__law_made_b ⟨[some (.fz a), some (.fz b), some (.fz c), some (.fz d), none, none, none, none, none], n⟩ = T.rt (.fz (.lst (rows_b a b c d n))) ⟨[some (.fz a), some (.fz b), some (.fz c), some (.fz d), some (.fz (.lst (rows_b a b c d n))), y5, y6, y7, y8], n + 22⟩ := by
    refine ⟨some (.fz (.obj (n + 20) "Joins" [("chains", cp a)])), some (.fz (.obj (n + 21) "Joins" [("chains", cp a)])), some (.fz (.bl true)), some (.fz (.lst [cp a])), ?_⟩
    unfold g__law_made_b
    rw [seqS_ap, mSet_ap, mLst_ap, row0_ap]
    dsimp only [R.bind_ok, List.length_nil]
    rw [if_pos (by decide), R.toT_ok]
    dsimp only [List.length_cons, List.length_nil]
    rw [if_pos (by decide), T.seq_nx]
    dsimp only [List.set]
    rw [blk_Split ha hb hc hd (by simp)]
    rw [blk_Nearest ha hb hc hd (by simp)]
    rw [blk_Least ha hb hc hd (by simp)]
    rw [blk_Unfilled ha hb hc hd (by simp)]
    rw [blk_Whole ha hb hc hd (by simp)]
    rw [blk_Straight ha hb hc hd (by simp)]
    rw [blk_Twisted ha hb hc hd (by simp)]
    rw [blk_Alike ha hb hc hd (by simp)]
    rw [blk_Free ha hb hc hd (by simp)]
    rw [blk_Round ha hb hc hd (by simp)]
    rw [blk_Joins ha hb hc hd (by simp)]
    simp [rows_b]
  obtain ⟨_, _, _, _, e⟩ := e
  simp [m__law_made_b, VL.entry, e, VL.handed, List.range_succ]
theorem blk_Gap {a b c d : D} (ha : okV a) (hb : okV b) (hc : okV c) (hd : okV d) {os : List O} (hl : os.length < 100000) {x5 x6 x7 x8 : Option O} {n : Nat} (k : MT) : (seqS (mPar 5 6 (rowC (makeM (opC (mOpnd (mUse 0)) op0) p_Gap_init "Gap" m_Gap_init) (rowC (makeKM (opC (mOpnd (mUse 0)) op0) ["measure"] "Gap" m_Gap_init [0]) row0)))
  (seqS (mPar 7 8 (rowC (mAndV (mIsC "Gap" (mVar 5)) (mIsC "Gap" (mVar 6))) (rowC (mLst (rowC (mFld cs_measure "measure" (mVar 5)) row0)) row0)))
  (seqS (exprS (mApp 4 (mTup (rowC (mUse 5) (rowC (mUse 6) (rowC (mUse 7) (rowC (mUse 8) (rowC (mLst (rowC (mFld cs_measure "measure" (mVar 6)) row0)) (rowC (mLst (rowC (mUse 0) row0)) row0))))))))) k))) ⟨[some (.fz a), some (.fz b), some (.fz c), some (.fz d), some (.lst os), x5, x6, x7, x8], n⟩ = k ⟨[some (.fz a), some (.fz b), some (.fz c), some (.fz d), some (.lst (os ++ [.fz (rowD "Gap" ["measure"] n [a])])), some (.fz (.obj n "Gap" [("measure", cp a)])), some (.fz (.obj (n + 1) "Gap" [("measure", cp a)])), some (.fz (.bl true)), some (.fz (.lst [cp a]))], n + 2⟩ := by
  simp [Gap_eq ha, isC, O.flds, List.range_succ, List.lookup_cons, cs_measure, rowD, hl]
theorem blk_Greatest {a b c d : D} (ha : okV a) (hb : okV b) (hc : okV c) (hd : okV d) {os : List O} (hl : os.length < 100000) {x5 x6 x7 x8 : Option O} {n : Nat} (k : MT) : (seqS (mPar 5 6 (rowC (makeM (opC (mOpnd (mUse 0)) (opC (mOpnd (mUse 1)) op0)) p_Greatest_init "Greatest" m_Greatest_init) (rowC (makeKM (opC (mOpnd (mUse 1)) (opC (mOpnd (mUse 0)) op0)) ["rounds", "tree"] "Greatest" m_Greatest_init [1, 0]) row0)))
  (seqS (mPar 7 8 (rowC (mAndV (mIsC "Greatest" (mVar 5)) (mIsC "Greatest" (mVar 6))) (rowC (mLst (rowC (mFld cs_tree "tree" (mVar 5)) (rowC (mFld cs_rounds "rounds" (mVar 5)) row0))) row0)))
  (seqS (exprS (mApp 4 (mTup (rowC (mUse 5) (rowC (mUse 6) (rowC (mUse 7) (rowC (mUse 8) (rowC (mLst (rowC (mFld cs_tree "tree" (mVar 6)) (rowC (mFld cs_rounds "rounds" (mVar 6)) row0))) (rowC (mLst (rowC (mUse 0) (rowC (mUse 1) row0))) row0))))))))) k))) ⟨[some (.fz a), some (.fz b), some (.fz c), some (.fz d), some (.lst os), x5, x6, x7, x8], n⟩ = k ⟨[some (.fz a), some (.fz b), some (.fz c), some (.fz d), some (.lst (os ++ [.fz (rowD "Greatest" ["tree", "rounds"] n [a, b])])), some (.fz (.obj n "Greatest" [("tree", cp a), ("rounds", cp b)])), some (.fz (.obj (n + 1) "Greatest" [("tree", cp a), ("rounds", cp b)])), some (.fz (.bl true)), some (.fz (.lst [cp a, cp b]))], n + 2⟩ := by
  simp [Greatest_eq ha hb, isC, O.flds, List.range_succ, List.lookup_cons, cs_tree, cs_rounds, rowD, hl]
theorem blk_Reduced {a b c d : D} (ha : okV a) (hb : okV b) (hc : okV c) (hd : okV d) {os : List O} (hl : os.length < 100000) {x5 x6 x7 x8 : Option O} {n : Nat} (k : MT) : (seqS (mPar 5 6 (rowC (makeM (opC (mOpnd (mUse 0)) (opC (mOpnd (mUse 1)) op0)) p_Reduced_init "Reduced" m_Reduced_init) (rowC (makeKM (opC (mOpnd (mUse 1)) (opC (mOpnd (mUse 0)) op0)) ["firing", "heap"] "Reduced" m_Reduced_init [1, 0]) row0)))
  (seqS (mPar 7 8 (rowC (mAndV (mIsC "Reduced" (mVar 5)) (mIsC "Reduced" (mVar 6))) (rowC (mLst (rowC (mFld cs_heap "heap" (mVar 5)) (rowC (mFld cs_firing "firing" (mVar 5)) row0))) row0)))
  (seqS (exprS (mApp 4 (mTup (rowC (mUse 5) (rowC (mUse 6) (rowC (mUse 7) (rowC (mUse 8) (rowC (mLst (rowC (mFld cs_heap "heap" (mVar 6)) (rowC (mFld cs_firing "firing" (mVar 6)) row0))) (rowC (mLst (rowC (mUse 0) (rowC (mUse 1) row0))) row0))))))))) k))) ⟨[some (.fz a), some (.fz b), some (.fz c), some (.fz d), some (.lst os), x5, x6, x7, x8], n⟩ = k ⟨[some (.fz a), some (.fz b), some (.fz c), some (.fz d), some (.lst (os ++ [.fz (rowD "Reduced" ["heap", "firing"] n [a, b])])), some (.fz (.obj n "Reduced" [("heap", cp a), ("firing", cp b)])), some (.fz (.obj (n + 1) "Reduced" [("heap", cp a), ("firing", cp b)])), some (.fz (.bl true)), some (.fz (.lst [cp a, cp b]))], n + 2⟩ := by
  simp [Reduced_eq ha hb, isC, O.flds, List.range_succ, List.lookup_cons, cs_heap, cs_firing, rowD, hl]
theorem blk_Smith {a b c d : D} (ha : okV a) (hb : okV b) (hc : okV c) (hd : okV d) {os : List O} (hl : os.length < 100000) {x5 x6 x7 x8 : Option O} {n : Nat} (k : MT) : (seqS (mPar 5 6 (rowC (makeM (opC (mOpnd (mUse 0)) (opC (mOpnd (mUse 1)) (opC (mOpnd (mUse 2)) op0))) p_Smith_init "Smith" m_Smith_init) (rowC (makeKM (opC (mOpnd (mUse 2)) (opC (mOpnd (mUse 1)) (opC (mOpnd (mUse 0)) op0))) ["right", "numbers", "left"] "Smith" m_Smith_init [2, 1, 0]) row0)))
  (seqS (mPar 7 8 (rowC (mAndV (mIsC "Smith" (mVar 5)) (mIsC "Smith" (mVar 6))) (rowC (mLst (rowC (mFld cs_left "left" (mVar 5)) (rowC (mFld cs_numbers "numbers" (mVar 5)) (rowC (mFld cs_right "right" (mVar 5)) row0)))) row0)))
  (seqS (exprS (mApp 4 (mTup (rowC (mUse 5) (rowC (mUse 6) (rowC (mUse 7) (rowC (mUse 8) (rowC (mLst (rowC (mFld cs_left "left" (mVar 6)) (rowC (mFld cs_numbers "numbers" (mVar 6)) (rowC (mFld cs_right "right" (mVar 6)) row0)))) (rowC (mLst (rowC (mUse 0) (rowC (mUse 1) (rowC (mUse 2) row0)))) row0))))))))) k))) ⟨[some (.fz a), some (.fz b), some (.fz c), some (.fz d), some (.lst os), x5, x6, x7, x8], n⟩ = k ⟨[some (.fz a), some (.fz b), some (.fz c), some (.fz d), some (.lst (os ++ [.fz (rowD "Smith" ["left", "numbers", "right"] n [a, b, c])])), some (.fz (.obj n "Smith" [("left", cp a), ("numbers", cp b), ("right", cp c)])), some (.fz (.obj (n + 1) "Smith" [("left", cp a), ("numbers", cp b), ("right", cp c)])), some (.fz (.bl true)), some (.fz (.lst [cp a, cp b, cp c]))], n + 2⟩ := by
  simp [Smith_eq ha hb hc, isC, O.flds, List.range_succ, List.lookup_cons, cs_left, cs_numbers, cs_right, rowD, hl]
theorem blk_Solved {a b c d : D} (ha : okV a) (hb : okV b) (hc : okV c) (hd : okV d) {os : List O} (hl : os.length < 100000) {x5 x6 x7 x8 : Option O} {n : Nat} (k : MT) : (seqS (mPar 5 6 (rowC (makeM (opC (mOpnd (mUse 0)) op0) p_Solved_init "Solved" m_Solved_init) (rowC (makeKM (opC (mOpnd (mUse 0)) op0) ["row"] "Solved" m_Solved_init [0]) row0)))
  (seqS (mPar 7 8 (rowC (mAndV (mIsC "Solved" (mVar 5)) (mIsC "Solved" (mVar 6))) (rowC (mLst (rowC (mFld cs_row "row" (mVar 5)) row0)) row0)))
  (seqS (exprS (mApp 4 (mTup (rowC (mUse 5) (rowC (mUse 6) (rowC (mUse 7) (rowC (mUse 8) (rowC (mLst (rowC (mFld cs_row "row" (mVar 6)) row0)) (rowC (mLst (rowC (mUse 0) row0)) row0))))))))) k))) ⟨[some (.fz a), some (.fz b), some (.fz c), some (.fz d), some (.lst os), x5, x6, x7, x8], n⟩ = k ⟨[some (.fz a), some (.fz b), some (.fz c), some (.fz d), some (.lst (os ++ [.fz (rowD "Solved" ["row"] n [a])])), some (.fz (.obj n "Solved" [("row", cp a)])), some (.fz (.obj (n + 1) "Solved" [("row", cp a)])), some (.fz (.bl true)), some (.fz (.lst [cp a]))], n + 2⟩ := by
  simp [Solved_eq ha, isC, O.flds, List.range_succ, List.lookup_cons, cs_row, rowD, hl]
theorem blk_Clash {a b c d : D} (ha : okV a) (hb : okV b) (hc : okV c) (hd : okV d) {os : List O} (hl : os.length < 100000) {x5 x6 x7 x8 : Option O} {n : Nat} (k : MT) : (seqS (mPar 5 6 (rowC (makeM (opC (mOpnd (mUse 0)) op0) p_Clash_init "Clash" m_Clash_init) (rowC (makeKM (opC (mOpnd (mUse 0)) op0) ["weights"] "Clash" m_Clash_init [0]) row0)))
  (seqS (mPar 7 8 (rowC (mAndV (mIsC "Clash" (mVar 5)) (mIsC "Clash" (mVar 6))) (rowC (mLst (rowC (mFld cs_weights "weights" (mVar 5)) row0)) row0)))
  (seqS (exprS (mApp 4 (mTup (rowC (mUse 5) (rowC (mUse 6) (rowC (mUse 7) (rowC (mUse 8) (rowC (mLst (rowC (mFld cs_weights "weights" (mVar 6)) row0)) (rowC (mLst (rowC (mUse 0) row0)) row0))))))))) k))) ⟨[some (.fz a), some (.fz b), some (.fz c), some (.fz d), some (.lst os), x5, x6, x7, x8], n⟩ = k ⟨[some (.fz a), some (.fz b), some (.fz c), some (.fz d), some (.lst (os ++ [.fz (rowD "Clash" ["weights"] n [a])])), some (.fz (.obj n "Clash" [("weights", cp a)])), some (.fz (.obj (n + 1) "Clash" [("weights", cp a)])), some (.fz (.bl true)), some (.fz (.lst [cp a]))], n + 2⟩ := by
  simp [Clash_eq ha, isC, O.flds, List.range_succ, List.lookup_cons, cs_weights, rowD, hl]
def rows_c (a b c d : D) (n : Nat) : List D := [rowD "Gap" ["measure"] (n + 0) [a],
  rowD "Greatest" ["tree", "rounds"] (n + 2) [a, b],
  rowD "Reduced" ["heap", "firing"] (n + 4) [a, b],
  rowD "Smith" ["left", "numbers", "right"] (n + 6) [a, b, c],
  rowD "Solved" ["row"] (n + 8) [a],
  rowD "Clash" ["weights"] (n + 10) [a]]
theorem made_c {a b c d : D} (ha : okV a) (hb : okV b) (hc : okV c) (hd : okV d) (n : Nat) : m__law_made_c [.fz a, .fz b, .fz c, .fz d] n = .ok (.fz (.lst (rows_c a b c d n))) [none, none, none, none] (n + 12) := by
  have e : ∃ y5 y6 y7 y8, g__law_made_c ⟨[some (.fz a), some (.fz b), some (.fz c), some (.fz d), none, none, none, none, none], n⟩ = T.rt (.fz (.lst (rows_c a b c d n))) ⟨[some (.fz a), some (.fz b), some (.fz c), some (.fz d), some (.fz (.lst (rows_c a b c d n))), y5, y6, y7, y8], n + 12⟩ := by
    refine ⟨some (.fz (.obj (n + 10) "Clash" [("weights", cp a)])), some (.fz (.obj (n + 11) "Clash" [("weights", cp a)])), some (.fz (.bl true)), some (.fz (.lst [cp a])), ?_⟩
    unfold g__law_made_c
    rw [seqS_ap, mSet_ap, mLst_ap, row0_ap]
    dsimp only [R.bind_ok, List.length_nil]
    rw [if_pos (by decide), R.toT_ok]
    dsimp only [List.length_cons, List.length_nil]
    rw [if_pos (by decide), T.seq_nx]
    dsimp only [List.set]
    rw [blk_Gap ha hb hc hd (by simp)]
    rw [blk_Greatest ha hb hc hd (by simp)]
    rw [blk_Reduced ha hb hc hd (by simp)]
    rw [blk_Smith ha hb hc hd (by simp)]
    rw [blk_Solved ha hb hc hd (by simp)]
    rw [blk_Clash ha hb hc hd (by simp)]
    simp [rows_c]
  obtain ⟨_, _, _, _, e⟩ := e
  simp [m__law_made_c, VL.entry, e, VL.handed, List.range_succ]
end Hd
namespace Hd
open PySem PySem.Spec
open PyProof.Rows L2 VL
theorem pen_loop (ns : List Int) : ∀ (ms : List Int) (fo : Int) (x : Option O) (n : Nat), 0 ≤ fo → fo < 2 ^ 40 → ∃ fo' x', 0 ≤ fo' ∧ fo' < 2 ^ 40 ∧
    forL (gSet 2) (mSet 1 (mOp2 modO (mOpnd (bltM (intCO) (opC (mOpnd (mOp2 addO (mOpnd (mOp2 mulIO (mVar 1) (mOpnd (kI 79)))) (mVar 2))) op0))) (mOpnd (kI 999999797)))) (ms.map D.int) ⟨[some (.fz (.scr ns)), some (.fz (.int fo)), x], n⟩ = .nx ⟨[some (.fz (.scr ns)), some (.fz (.int fo')), x'], n⟩
  | [], fo, x, n, h0, h1 => ⟨fo, x, h0, h1, rfl⟩
  | m :: ms, fo, x, n, h0, h1 => by
    have h2 : (0 : Int) ≤ (fo * 79 + m) % 999999797 := Int.emod_nonneg _ (by decide)
    have h3 : (fo * 79 + m) % 999999797 < 999999797 := Int.emod_lt_of_pos _ (by decide)
    obtain ⟨fo', x', g0, g1, e⟩ := pen_loop ns ms ((fo * 79 + m) % 999999797) (some (.fz (.int m))) n h2 (by omega)
    refine ⟨fo', x', g0, g1, ?_⟩
    rw [List.map_cons, forL_cons]
    have hm : mulC fo 79 = true := mul_ok (by omega) (by decide)
    have hd : modC ((fo * 79 + m)) 999999797 = true := mod_ok (by decide)
    simp [hm, hd]
    exact e
theorem frz_ints (ns : List Int) : O.frzAll (ns.map fun n => O.fz (D.int n)) = some (ns.map D.int) := by
  have e : (ns.map fun n => O.fz (D.int n)) = (ns.map D.int).map O.fz := by rw [List.map_map]; rfl
  rw [e, frzAll_map]
theorem pen_eq (ns : List Int) (n : Nat) : ∃ o, isPen 0 o ∧ m__law_pen [.fz (.scr ns)] n = .ok o [none] n := by
  obtain ⟨fo, x, h0, h1, e⟩ := pen_loop ns ns 0 none n (by decide) (by decide)
  refine ⟨_, ⟨ns, 0, 0, fo, rfl, by decide, by decide, h0, h1⟩, ?_⟩
  simp only [m__law_pen, g__law_pen, VL.entry, seqS_ap, forS_ap]
  simp [D.its, e, listO, VL.handed, List.range_succ, penD, frz_ints]
theorem cells_at (cs : List Int) {i : Nat} (h : i < cs.length) : (cs.map D.int)[i]? = some (.int cs[i]) := by
  simp [h]
theorem draw_eq {k : Nat} {o : O} (hp : isPen k o) (hk : k < 2 ^ 30) {m : Int} (h0 : 0 < m) (h1 : m < 2 ^ 30) (n : Nat) : ∃ r o', isPen (k + 1) o' ∧ 0 ≤ r ∧ r < m ∧ m__law_draw [o, .fz (.int m)] n = .ok (.fz (.int r)) [some o', none] n := by
  obtain ⟨cs, a, dg, fo, rfl, ha, hdg, hf0, hf1⟩ := hp
  have p18 : powC 10 18 = true := by decide
  have hdm : ∀ x : Int, divC x m = true := fun x => div_ok h0 (by omega)
  have hmm : ∀ x : Int, modC x m = true := fun x => mod_ok h0
  have h1024 : ∀ x : Int, divC x 1024 = true := fun x => div_ok (by decide) (by decide)
  have hbig : ∀ x : Int, modC x 2305843009213693951 = true := fun x => mod_ok (by decide)
  have hfm : ∀ x : Int, modC x 2147483549 = true := fun x => mod_ok (by decide)
  have hm1 : mulC fo 43669 = true := mul_ok (by omega) (by decide)
  have hm2 : mulC ((k : Int) + 1) 8123 = true := mul_ok (by omega) (by decide)
  have kc : ((k : Int) + 1) = ((k + 1 : Nat) : Int) := by omega
  have hp18 : powC 10 18 = true := by decide
  have hb : ∀ f : Int, 0 ≤ f → f < 2 ^ 40 → powC (f + ((k : Int) + 1) * 8123 + 53) 19 = true := fun f g0 g1 => pow_ok (by decide) (by decide) (by omega)
  have r0 : ∀ x : Int, 0 ≤ x % m := fun x => Int.emod_nonneg _ (by omega)
  have r1 : ∀ x : Int, x % m < m := fun x => Int.emod_lt_of_pos _ h0
  by_cases hA : dg = 0 ∧ a < cs.length
  · obtain ⟨hd0, hal⟩ := hA
    subst hd0
    have hlt : a.toNat < cs.length := by omega
    have hsb : sbO (.fz (.lst (cs.map D.int))) (.fz (.int a)) = some (.fz (.int cs[a.toNat])) := by
      rw [sb_at ha (by simpa using hal), cells_at cs hlt]
      rfl
    generalize cs[a.toNat] = cell at hsb
    by_cases hc : 1000000000000000000 ≤ cell
    · by_cases hz : cell - 1000000000000000000 = 0
      · refine ⟨_, _, ⟨cs, a + 1, 0, fo, rfl, by omega, by omega, hf0, hf1⟩, r0 ((fo + ((k : Int) + 1) * 8123 + 53) ^ 19 % 2305843009213693951 / 1024), r1 _, ?_⟩
        simp [m__law_draw, g__law_draw, VL.entry, VL.handed, List.range_succ, hal, hsb, hp18, hc, hz, hm1, hm2, hb fo hf0 hf1, hbig, h1024, hmm, hdm, hfm]
      · have hpos : 1000000000000000000 < cell := by omega
        refine ⟨_, _, ⟨cs, a + 1, (cell - 1000000000000000000) / m, fo, rfl, by omega, Int.ediv_nonneg (by omega) (by omega), hf0, hf1⟩, r0 (cell - 1000000000000000000), r1 _, ?_⟩
        simp [m__law_draw, g__law_draw, VL.entry, VL.handed, List.range_succ, hal, hsb, hp18, hc, hpos, hm1, hm2, hb fo hf0 hf1, hbig, h1024, hmm, hdm, hfm]
    · have f0 : (0 : Int) ≤ (fo * 43669 + cell) % 2147483549 := Int.emod_nonneg _ (by decide)
      have f1 : (fo * 43669 + cell) % 2147483549 < 2147483549 := Int.emod_lt_of_pos _ (by decide)
      refine ⟨_, _, ⟨cs, a + 1, 0, (fo * 43669 + cell) % 2147483549, rfl, by omega, by omega, f0, by omega⟩, r0 (((fo * 43669 + cell) % 2147483549 + ((k : Int) + 1) * 8123 + 53) ^ 19 % 2305843009213693951 / 1024), r1 _, ?_⟩
      simp [m__law_draw, g__law_draw, VL.entry, VL.handed, List.range_succ, hal, hsb, hp18, hc, hm1, hm2, hb _ f0 (by omega), hbig, h1024, hmm, hdm, hfm]
  · by_cases hz : dg = 0
    · subst hz
      have hal : ¬ a < cs.length := fun z => hA ⟨rfl, z⟩
      refine ⟨_, _, ⟨cs, a, 0, fo, rfl, ha, by omega, hf0, hf1⟩, r0 ((fo + ((k : Int) + 1) * 8123 + 53) ^ 19 % 2305843009213693951 / 1024), r1 _, ?_⟩
      simp [m__law_draw, g__law_draw, VL.entry, VL.handed, List.range_succ, hal, hm2, hb fo hf0 hf1, hbig, h1024, hmm, hdm, hfm]
    · have hpos : 0 < dg := by omega
      refine ⟨_, _, ⟨cs, a, dg / m, fo, rfl, ha, Int.ediv_nonneg hdg (by omega), hf0, hf1⟩, r0 dg, r1 _, ?_⟩
      simp [m__law_draw, g__law_draw, VL.entry, VL.handed, List.range_succ, hz, hpos, hm2, hmm, hdm]
end Hd
namespace Hd
open PySem PySem.Spec
open PyProof.Rows L2 VL
theorem pick_eq {k : Nat} {o : O} (hp : isPen k o) (hk : k < 2 ^ 30) {ds : List D} (h0 : ds ≠ []) (h1 : ds.length < 2 ^ 30) (n : Nat) : ∃ d o', d ∈ ds ∧ isPen (k + 1) o' ∧ m__law_pick [o, .fz (.lst ds)] n = .ok (.fz d) [some o', none] n := by
  have hl : 0 < ds.length := List.length_pos_iff.mpr h0
  obtain ⟨r, o', hp', r0, r1, e⟩ := draw_eq hp hk (m := ds.length) (by omega) (by omega) n
  have hlt : r.toNat < ds.length := by omega
  refine ⟨ds[r.toNat], o', List.getElem_mem hlt, hp', ?_⟩
  have es : sbO (.fz (.lst ds)) (.fz (.int r)) = some (.fz ds[r.toNat]) := by
    rw [sb_at r0 r1, List.getElem?_eq_getElem hlt]
    rfl
  simp [m__law_pick, g__law_pick, VL.entry, VL.handed, List.range_succ, e, es]
theorem mComp_ap {s : S} {ow : List Nat} {i : M (List D)} {g : D → S → Option S} {t : M Bool} {f : M O} : mComp ow i g t f s = (i s).bind fun ds s1 => if calmAt ow s1 then (compL ow g t f ds [] (wipeS ow s1)).bind fun os s' => .ok (.lst os) (backS ow s1 s') else .st := rfl
theorem compL_nil {s : S} {ow : List Nat} {g : D → S → Option S} {t : M Bool} {f : M O} {acc : List O} : compL ow g t f [] acc s = .ok acc s := rfl
theorem compL_cons {s : S} {ow : List Nat} {g : D → S → Option S} {t : M Bool} {f : M O} {acc : List O} {d : D} {ds : List D} : compL ow g t f (d :: ds) acc s = match g d s with
    | none => .st
    | some s1 => match t s1 with
      | .ok true s2 => match f s2 with
        | .ok o s3 => if acc.length < 100000 then compL ow g t f ds (acc ++ [o]) (wipeS ow s3) else .st
        | _ => .st
      | .ok false s2 => compL ow g t f ds acc (wipeS ow s2)
      | _ => .st := rfl
theorem rng3 : rngD 0 3 = [.int 0, .int 1, .int 2] := by simp [rngD, List.range_succ]
theorem rng4 : rngD 0 4 = [.int 0, .int 1, .int 2, .int 3] := by simp [rngD, List.range_succ]
def fixed : List D := [.tup [.int 1, .int 2], .lst [.int 1, .lst [.int 2]], .lst [], .tup [], .str "web", .int 5, .non, .bl true, .tup [.tup [.int 0, .int 1]], .lst [.lst [.int 0], .lst [.int 1]], .dct [(.inr "a", .int 1)], .int (-3), .str "", .lst [.non]]
def three (i j k : Int) : D := .lst [.int i, .int j, .int k]
theorem value_eq {k : Nat} {o : O} (hp : isPen k o) (hk : k < 2 ^ 20) (n : Nat) : ∃ i j l d o', 0 ≤ i ∧ i < 9 ∧ 0 ≤ j ∧ j < 9 ∧ 0 ≤ l ∧ l < 9 ∧ d ∈ fixed ++ [three i j l] ∧ isPen (k + 4) o' ∧ m__law_value [o] n = .ok (.fz d) [some o'] n := by
  obtain ⟨i, o1, p1, i0, i1, e1⟩ := draw_eq hp (by omega) (m := 9) (by decide) (by decide) n
  obtain ⟨j, o2, p2, j0, j1, e2⟩ := draw_eq p1 (by omega) (m := 9) (by decide) (by decide) n
  obtain ⟨l, o3, p3, l0, l1, e3⟩ := draw_eq p2 (by omega) (m := 9) (by decide) (by decide) n
  obtain ⟨d, o4, hd, p4, e4⟩ := pick_eq p3 (by omega) (ds := fixed ++ [three i j l]) (by simp) (by simp [fixed]) n
  refine ⟨i, j, l, d, o4, i0, i1, j0, j1, l0, l1, hd, p4, ?_⟩
  simp only [fixed, three, List.cons_append, List.nil_append] at e4
  simp [m__law_value, g__law_value, VL.entry, VL.handed, List.range_succ, mComp_ap, compL_nil, compL_cons, mRng1, smallI, rng3, calmAt, wipeS, backS, backSet, e1, e2, e3, e4, addO, O.items, O.fzs]
end Hd
namespace Hd
open PySem PySem.Spec
open PyProof.Rows L2 VL
/-- no list in it has n items -/
def noLen (n : Nat) : D → Bool
  | .non => true
  | .bl _ => true
  | .int _ => true
  | .str _ => true
  | .lst [.int _] => decide (n ≠ 1)
  | _ => false
/-- a short text -/
def short (d : D) : Prop := ∃ p, d.pyR = some p ∧ p.depth ≤ 5 ∧ p.shown.length ≤ 1000
def good (d : D) : Prop := okV d ∧ short (cp d) ∧ ∀ xs, d = .lst xs → xs.length ≤ 3 ∧ xs.all (noLen xs.length) = true
theorem shown_list (ps : List PyData) : (∀ p ∈ ps, p.shown.length ≤ 1000) → (PyData.list ps).shown.length ≤ 1002 * ps.length + 4 := by
  intro h
  have e : (PyData.list ps).shown = listText (PyData.shownAll ps) := by simp only [PyData.shown]
  rw [e, listText_eq_join]
  have key : ∀ qs : List PyData, (∀ p ∈ qs, p.shown.length ≤ 1000) → (Str.join ", " (PyData.shownAll qs)).length ≤ 1002 * qs.length := by
    intro qs
    induction qs with
    | nil =>
      intro _
      simp only [PyData.shownAll]
      decide
    | cons q qs ih =>
      intro h
      have hq := h q List.mem_cons_self
      have hr := ih fun p hp => h p (List.mem_cons_of_mem _ hp)
      cases qs with
      | nil =>
        simp only [PyData.shownAll]
        show q.shown.length ≤ _
        simp
                only [List.length_cons, List.length_nil]
        omega
      | cons q2 qs =>
        simp only [PyData.shownAll] at hr ⊢
        show (q.shown ++ ", " ++ Str.join ", " (q2.shown :: PyData.shownAll qs)).length ≤ _
        rw
                [strLen_append, strLen_append]
        have e2 : ((", " : String) : Str).length = 2 :=
                rfl
        rw [e2]
        simp only [List.length_cons] at hr ⊢
        omega
  rw
          [strLen_append, strLen_append]
  have e1 : (("[" : String) : Str).length = 1 := rfl
  have e2 : (("]" : String) : Str).length = 1 := rfl
  rw [e1, e2]
  have := key ps h
  omega
theorem text_row {ds : List D} (hl : ds.length ≤ 4) (h : ∀ d ∈ ds, short d) : ∃ t, (D.lst ds).text = some t := by
  have key : ∀ ds : List D, (∀ d ∈ ds, short d) → ∃ ps, D.pyRs ds = some ps ∧ ps.length = ds.length ∧ (∀ p ∈ ps, p.shown.length ≤ 1000) ∧ PyData.depthAll ps ≤ 5 := by
    intro ds
    induction ds with
    | nil => exact fun _ => ⟨[], rfl, rfl, (fun _ h => nomatch h), by simp [PyData.depthAll]⟩
    | cons d ds ih =>
      intro h
      obtain ⟨p, p1, p2, p3⟩ := h d List.mem_cons_self
      obtain ⟨ps, q1, q2, q3, q4⟩ := ih fun e he => h e (List.mem_cons_of_mem _ he)
      refine ⟨p :: ps, by rw [D.pyRs, p1, q1], by simp [q2], fun q hq => ?_, ?_⟩
      · rcases List.mem_cons.mp hq with e | e
        · rw [e]; exact p3
        · exact q3 q e
      · simp only [PyData.depthAll]
        omega
  obtain ⟨ps, q1, q2, q3, q4⟩ := key ds h
  have e : (D.lst ds).pyR = some (.list ps) := by rw [D.pyR, q1]
  have hs := shown_list ps q3
  unfold D.text
  rw [e]
  have hd : (PyData.list ps).depth ≤ 50 := by
    simp only [PyData.depth]
    omega
  exact ⟨_, if_pos ⟨hd, by omega⟩⟩
theorem text_one {d : D} (h : short d) : ∃ t, d.text = some t := by
  obtain ⟨p, p1, p2, p3⟩ := h
  unfold D.text
  rw [p1]
  exact ⟨_, if_pos ⟨by omega, by omega⟩⟩
theorem good_fixed : ∀ d ∈ fixed, good d := by
  have sh : ∀ d ∈ fixed, short (cp d) := by
    intro d hd
    have k : (fixed.all fun d => match (cp d).pyR with
      | some p => decide (p.depth ≤ 5) && decide (p.shown.length ≤ 1000)
      | none => false) = true := by decide +kernel
    have z := List.all_eq_true.mp k d hd
    split at z
    · rename_i p hp
      simp only [Bool.and_eq_true, decide_eq_true_eq] at z
      exact ⟨p, hp, z.1, z.2⟩
    · cases z
  intro d hd
  refine ⟨?_, sh d hd, ?_⟩
  · simp only [fixed, List.mem_cons, List.mem_nil_iff, or_false] at hd
    rcases hd with rfl | rfl | rfl | rfl | rfl | rfl | rfl | rfl | rfl | rfl | rfl | rfl | rfl | rfl <;> exact fun z => nomatch z
  · intro xs e
    subst e
    simp only [fixed, List.mem_cons, List.mem_nil_iff, or_false] at hd
    rcases hd with h | h | h | h | h | h | h | h | h | h | h | h | h | h <;> first | (cases h; done) | (cases h; exact ⟨by decide, by decide⟩)
theorem good_three {i j l : Int} (i0 : 0 ≤ i) (i1 : i < 9) (j0 : 0 ≤ j) (j1 : j < 9) (l0 : 0 ≤ l) (l1 : l < 9) : good (three i j l) := by
  refine ⟨(fun z => nomatch z), ?_, fun xs e => ?_⟩
  · have k : ∀ a b c : Fin 9, (match (D.tup [.int (a.val : Int), .int (b.val : Int), .int (c.val : Int)]).pyR with
      | some p => decide (p.depth ≤ 5) && decide (p.shown.length ≤ 1000)
      | none => false) = true := by decide +kernel
    have e1 : ((i.toNat : Int)) = i := Int.toNat_of_nonneg i0
    have e2 : ((j.toNat : Int)) = j := Int.toNat_of_nonneg j0
    have e3 : ((l.toNat : Int)) = l := Int.toNat_of_nonneg l0
    have z := k ⟨i.toNat, by omega⟩ ⟨j.toNat, by omega⟩ ⟨l.toNat, by omega⟩
    simp only [e1, e2, e3] at z
    split at z
    · rename_i p hp
      simp only [Bool.and_eq_true, decide_eq_true_eq] at z
      exact ⟨p, hp, z.1, z.2⟩
    · cases z
  · cases e
    exact ⟨by simp, by simp [noLen]⟩
theorem good_any {i j l : Int} (i0 : 0 ≤ i) (i1 : i < 9) (j0 : 0 ≤ j) (j1 : j < 9) (l0 : 0 ≤ l) (l1 : l < 9) {d : D} (h : d ∈ fixed ++ [three i j l]) : good d := by
  rcases
          List.mem_append.mp h with h | h
  · exact good_fixed d h
  · rw [List.mem_singleton.mp h]
    exact good_three i0 i1 j0 j1 l0 l1
end Hd
namespace Hd
open PySem PySem.Spec
open PyProof.Rows L2 VL
theorem copy_eq {d : D} (h : okV d) (n : Nat) : m__law_copy [.fz d] n = .ok (.fz (cp d)) [none] n := by
  cases d <;> first
    | (exact (h rfl).elim)
    | (simp [m__law_copy, g__law_copy, VL.entry, isiO, O.ty, Ty.sub, tupleO, O.items, O.fzs, cp, VL.handed, List.range_succ])
theorem list_eq {d : D} (h : okV d) {y0 y1 y2 y3 y4 y5 y6 y7 y8 y9 y10 y11 y12 y13 y14 y15 y16 y17 y18 y19 : Option O} {n : Nat} :
    fzM (ifV (mTest (mIsi [.lst] (mVar 20))) (bltM (listO) (opC (mVar 20) op0)) (mUse 20)) ⟨[y0, y1, y2, y3, y4, y5, y6, y7, y8, y9, y10, y11, y12, y13, y14, y15, y16, y17, y18, y19, some (.fz d)], n⟩ = .ok (.fz d) ⟨[y0, y1, y2, y3, y4, y5, y6, y7, y8, y9, y10, y11, y12, y13, y14, y15, y16, y17, y18, y19, some (.fz d)], n⟩ := by
  cases d <;> first
    | (exact (h rfl).elim)
    | (simp [isiO, O.ty, Ty.sub, listO, O.items, O.fzs])
theorem rows_len_a {a b c d : D} {n : Nat} : (rows_a a b c d n).length = 11 := rfl
theorem rows_len_b {a b c d : D} {n : Nat} : (rows_b a b c d n).length = 11 := rfl
theorem rows_len_c {a b c d : D} {n : Nat} : (rows_c a b c d n).length = 6 := rfl
/-- the state behind the first five statements -/
theorem first_five (ns : List Int) : ∃ pen v0 v1 v2 v3, isPen 16 pen ∧ good v0 ∧ good v1 ∧ good v2 ∧ good v3 ∧ (seqS g_law_0 (seqS g_law_1 (seqS g_law_2 (seqS g_law_3 g_law_4)))) (VL.entry N_law.length [.fz (.scr ns)] 0) =
    .nx ⟨[some (.fz (.scr ns)), some pen, some (.fz (.lst [v0, v1, v2, v3])), some (.fz v0), some (.fz v1), some (.fz v2), some (.fz v3), some (.lst ((rows_a v0 v1 v2 v3 0 ++ rows_b v0 v1 v2 v3 22 ++ rows_c v0 v1 v2 v3 44).map O.fz)), some (.fz (.lst (rows_c v0 v1 v2 v3 44))), none, none, none, none, none, none, none, none, none, none, none, none], 56⟩ := by
  obtain ⟨p0, q0, e0⟩ := pen_eq ns 0
  obtain ⟨i, j, l, v0, p1, a1, a2, a3, a4, a5, a6, m1, q1, e1⟩ := value_eq q0 (by decide) 0
  have h0 := good_any a1 a2 a3 a4 a5 a6 m1
  clear a1 a2 a3 a4 a5 a6 m1 i j l
  obtain ⟨i, j, l, v1, p2, a1, a2, a3, a4, a5, a6, m1, q2, e2⟩ := value_eq q1 (by decide) 0
  have h1 := good_any a1 a2 a3 a4 a5 a6 m1
  clear a1 a2 a3 a4 a5 a6 m1 i j l
  obtain ⟨i, j, l, v2, p3, a1, a2, a3, a4, a5, a6, m1, q3, e3⟩ := value_eq q2 (by decide) 0
  have h2 := good_any a1 a2 a3 a4 a5 a6 m1
  clear a1 a2 a3 a4 a5 a6 m1 i j l
  obtain ⟨i, j, l, v3, p4, a1, a2, a3, a4, a5, a6, m1, q4, e4⟩ := value_eq q3 (by decide) 0
  have h3 := good_any a1 a2 a3 a4 a5 a6 m1
  clear a1 a2 a3 a4 a5 a6 m1 i j l
  refine ⟨p4, v0, v1, v2, v3, q4, h0, h1, h2, h3, ?_⟩
  have k0 := h0.1
  have k1 := h1.1
  have k2 := h2.1
  have k3 := h3.1
  have f0 : g_law_0 (VL.entry N_law.length [.fz (.scr ns)] 0) = .nx ⟨[some (.fz (.scr ns)), some p0, none, none, none, none, none, none, none, none, none, none, none, none, none, none, none, none, none, none, none], 0⟩ := by
    simp [g_law_0, VL.entry, e0, List.replicate]
  have f1 : g_law_1 ⟨[some (.fz (.scr ns)), some p0, none, none, none, none, none, none, none, none, none, none, none, none, none, none, none, none, none, none, none], 0⟩ = .nx ⟨[some (.fz (.scr ns)), some p4, some (.lst [.fz v0, .fz v1, .fz v2, .fz v3]), none, none, none, none, none, none, none, none, none, none, none, none, none, none, none, none, none, none], 0⟩ := by
    simp [g_law_1, mComp_ap, compL_nil, compL_cons, mRng1, smallI, rng4, calmAt, wipeS, backS, backSet, e1, e2, e3, e4]
  have f2 : g_law_2 ⟨[some (.fz (.scr ns)), some p4, some (.lst [.fz v0, .fz v1, .fz v2, .fz v3]), none, none, none, none, none, none, none, none, none, none, none, none, none, none, none, none, none, none], 0⟩ = .nx ⟨[some (.fz (.scr ns)), some p4, some (.fz (.lst [v0, v1, v2, v3])), some (.fz v0), some (.fz v1), some (.fz v2), some (.fz v3), none, none, none, none, none, none, none, none, none, none, none, none, none, none], 0⟩ := by
    simp only [g_law_2, mAsg, mComp_ap, mIts_ap, mUse_ap, R.bind_ok]
    simp [compL_nil, compL_cons, calmAt, wipeS, backS, backSet, D.its, list_eq k0, list_eq k1, list_eq k2, list_eq k3, gLstD, gMore, gNone, -fzM_ap, -ifV_ap, -bltM_ap]
  have f3 : g_law_3 ⟨[some (.fz (.scr ns)), some p4, some (.fz (.lst [v0, v1, v2, v3])), some (.fz v0), some (.fz v1), some (.fz v2), some (.fz v3), none, none, none, none, none, none, none, none, none, none, none, none, none, none], 0⟩ = .nx ⟨[some (.fz (.scr ns)), some p4, some (.fz (.lst [v0, v1, v2, v3])), some (.fz v0), some (.fz v1), some (.fz v2), some (.fz v3), some (.lst []), none, none, none, none, none, none, none, none, none, none, none, none, none], 0⟩ := by
    simp [g_law_3]
  have ga := made_a k0 k1 k2 k3 0
  have gb := made_b k0 k1 k2 k3 22
  have gc := made_c k0 k1 k2 k3 44
  have la := rows_len_a (a := v0) (b := v1) (c := v2) (d := v3) (n := 0)
  have lb := rows_len_b (a := v0) (b := v1) (c := v2) (d := v3) (n := 22)
  have lc := rows_len_c (a := v0) (b := v1) (c := v2) (d := v3) (n := 44)
  generalize rows_a v0 v1 v2 v3 0 = ra at *
  generalize rows_b v0 v1 v2 v3 22 = rb at *
  generalize rows_c v0 v1 v2 v3 44 = rc at *
  have add0 : addO (.lst []) (.fz (.lst ra)) = some (.lst (ra.map O.fz)) := by
    simp [addO, O.items, O.fzs, la]
  have add1 : addO (.lst (ra.map O.fz)) (.fz (.lst rb)) = some (.lst ((ra ++ rb).map O.fz)) := by
    simp [addO, O.items, la, lb]
  have add2 : addO (.lst ((ra ++ rb).map O.fz)) (.fz (.lst rc)) = some (.lst ((ra ++ rb ++ rc).map O.fz)) := by
    simp only [addO, O.items, fzs_map]
    rw [if_pos (by rw [List.length_append, la, lb, lc]; decide)]
  have f4 : g_law_4 ⟨[some (.fz (.scr ns)), some p4, some (.fz (.lst [v0, v1, v2, v3])), some (.fz v0), some (.fz v1), some (.fz v2), some (.fz v3), some (.lst []), none, none, none, none, none, none, none, none, none, none, none, none, none], 0⟩ = .nx ⟨[some (.fz (.scr ns)), some p4, some (.fz (.lst [v0, v1, v2, v3])), some (.fz v0), some (.fz v1), some (.fz v2), some (.fz v3), some (.lst ((ra ++ rb ++ rc).map O.fz)), some (.fz (.lst rc)), none, none, none, none, none, none, none, none, none, none, none, none], 56⟩ := by
    simp [g_law_4, ga, gb, gc, D.its, forL_cons, add0, add1, add2, -List.map_append]
  rw [seqS_ap, f0, T.seq_nx, seqS_ap, f1, T.seq_nx, seqS_ap, f2, T.seq_nx, seqS_ap, f3, T.seq_nx, f4]
/-! ### the rows are looked at -/
def rowOk (r : D) : Prop := ∃ i j c fs vs, c ∈ clss ∧ i ≠ j ∧ r = .tup [.obj i c fs, .obj j c fs, .bl true, .lst (vs.map cp), .lst (vs.map cp), .lst vs] ∧ vs.length ≤ 4 ∧ ∀ v ∈ vs, good v
theorem comp_copy {y0 y1 y2 y3 y4 y5 y6 y7 y8 y9 y10 y11 y12 y13 y14 y15 y16 y17 y18 y19 : Option O} {n : Nat} : ∀ (vs : List D) (acc : List O), (∀ v ∈ vs, good v) → acc.length + vs.length ≤ 1000 →
    compL [20] (gSet 20) ttM (fzM (callM (opC (mOpnd (mUse 20)) op0) p__law_copy none m__law_copy)) vs acc ⟨[y0, y1, y2, y3, y4, y5, y6, y7, y8, y9, y10, y11, y12, y13, y14, y15, y16, y17, y18, y19, none], n⟩ =
      .ok (acc ++ (vs.map cp).map O.fz) ⟨[y0, y1, y2, y3, y4, y5, y6, y7, y8, y9, y10, y11, y12, y13, y14, y15, y16, y17, y18, y19, none], n⟩
  | [], acc, _, _ => by rw [compL_nil, List.map_nil, List.map_nil, List.append_nil]
  | v :: vs, acc, h, hl => by
    have hv := copy_eq (h v List.mem_cons_self).1 n
    have hlen : acc.length < 100000 := by simp only [List.length_cons] at hl; omega
    have ih := comp_copy vs (acc ++ [.fz (cp v)]) (fun e he => h e (List.mem_cons_of_mem _ he)) (by simp only [List.length_cons, List.length_append, List.length_nil] at hl ⊢; omega) (y0 := y0) (y1 := y1) (y2 := y2) (y3 := y3) (y4 := y4) (y5 := y5) (y6 := y6) (y7 := y7) (y8 := y8) (y9 := y9) (y10 := y10) (y11 := y11) (y12 := y12) (y13 := y13) (y14 := y14) (y15 := y15) (y16 := y16) (y17 := y17) (y18 := y18) (y19 := y19) (n := n)
    rw [compL_cons]
    simp [hv, hlen, wipeS]
    simpa using ih
theorem repr_row {ds : List D} {t : Str} (h : (D.lst ds).text = some t) : reprO [.fz (.lst ds)] = some (.fz (.str t)) := by
  simp [reprO, h]
/-- one row -/
theorem row_step {r : D} (hr : rowOk r) {y0 y1 y2 y3 y4 y5 y6 y7 y8 y9 y10 y11 y12 y13 y14 y15 y16 y17 y18 y19 : Option O} {n : Nat} : ∃ x9 x10 x11 x12 x13 x14 x15, ∃ s1,
    (gTupD 6 (gMore (gSet 9) (gMore (gSet 10) (gMore (gSet 11) (gMore (gSet 12) (gMore (gSet 13) (gMore (gSet 14) gNone))))))) r ⟨[y0, y1, y2, y3, y4, y5, y6, y7, y8, y9, y10, y11, y12, y13, y14, y15, y16, y17, y18, y19, none], n⟩ = some s1 ∧
    (seqS (mSet 15 (bltM (reprO) (opC (mOpnd (mComp [20] (mIts (mUse 14)) (gSet 20) ttM (fzM (callM (opC (mOpnd (mUse 20)) op0) p__law_copy none m__law_copy)))) op0)))
      (ifS (mOr (mTest (mOp2 (isO true) (mVar 11) (mOpnd (kB true)))) (mOr (mTest (mOp2 (eqX clss true) (mOpnd (bltM (reprO) (opC (mVar 12) op0))) (mVar 15))) (mOr (mTest (mOp2 (eqX clss true) (mOpnd (bltM (reprO) (opC (mVar 13) op0))) (mVar 15))) (mOr (notT (mTest (mOp2 (eqX clss false) (mVar 9) (mVar 9)))) (mTest (mOp2 (eqX clss false) (mVar 9) (mVar 10))))))) (retS (kB false)) T.nx)) s1 =
    .nx ⟨[y0, y1, y2, y3, y4, y5, y6, y7, y8, x9, x10, x11, x12, x13, x14, x15, y16, y17, y18, y19, none], n⟩ := by
  obtain ⟨i, j, c, fs, vs, hc, hij, rfl, hl, hg⟩ := hr
  obtain ⟨t, ht⟩ := text_row (ds := vs.map cp) (by simpa using hl) fun d hd => by
    obtain ⟨v, hv, rfl⟩ := List.mem_map.mp hd
    exact (hg v hv).2.1
  have hrep := repr_row ht
  have hcomp := fun {y0 y1 y2 y3 y4 y5 y6 y7 y8 y9 y10 y11 y12 y13 y14 y15 y16 y17 y18 y19} => comp_copy (y0 := y0) (y1 := y1) (y2 := y2) (y3 := y3) (y4 := y4) (y5 := y5) (y6 := y6) (y7 := y7) (y8 := y8) (y9 := y9) (y10 := y10) (y11 := y11) (y12 := y12) (y13 := y13) (y14 := y14) (y15 := y15) (y16 := y16) (y17 := y17) (y18 := y18) (y19 := y19) (n := n) vs [] hg (by simp only [List.length_nil]; omega)
  refine ⟨some (.fz (.obj i c fs)), some (.fz (.obj j c fs)), some (.fz (.bl true)), some (.fz (.lst (vs.map cp))), some (.fz (.lst (vs.map cp))), some (.fz (.lst vs)), some (.fz (.str t)), _, rfl, ?_⟩
  simp only [gTupD, gMore, gNone, gSet]
  simp [mComp_ap, D.its, calmAt, wipeS, backS, backSet, hcomp, hrep, hc, hij, -fzM_ap, -callM_ap, -List.map_map]
end Hd
namespace Hd
open PySem PySem.Spec
open PyProof.Rows L2 VL
theorem rows_loop : ∀ (rs : List D), (∀ r ∈ rs, rowOk r) → ∀ {y0 y1 y2 y3 y4 y5 y6 y7 y8 y9 y10 y11 y12 y13 y14 y15 y16 y17 y18 y19 : Option O} {n : Nat}, ∃ x9 x10 x11 x12 x13 x14 x15,
    forL (gTupD 6 (gMore (gSet 9) (gMore (gSet 10) (gMore (gSet 11) (gMore (gSet 12) (gMore (gSet 13) (gMore (gSet 14) gNone))))))) (seqS (mSet 15 (bltM (reprO) (opC (mOpnd (mComp [20] (mIts (mUse 14)) (gSet 20) ttM (fzM (callM (opC (mOpnd (mUse 20)) op0) p__law_copy none m__law_copy)))) op0)))
      (ifS (mOr (mTest (mOp2 (isO true) (mVar 11) (mOpnd (kB true)))) (mOr (mTest (mOp2 (eqX clss true) (mOpnd (bltM (reprO) (opC (mVar 12) op0))) (mVar 15))) (mOr (mTest (mOp2 (eqX clss true) (mOpnd (bltM (reprO) (opC (mVar 13) op0))) (mVar 15))) (mOr (notT (mTest (mOp2 (eqX clss false) (mVar 9) (mVar 9)))) (mTest (mOp2 (eqX clss false) (mVar 9) (mVar 10))))))) (retS (kB false)) T.nx)) rs
      ⟨[y0, y1, y2, y3, y4, y5, y6, y7, y8, y9, y10, y11, y12, y13, y14, y15, y16, y17, y18, y19, none], n⟩ = .nx ⟨[y0, y1, y2, y3, y4, y5, y6, y7, y8, x9, x10, x11, x12, x13, x14, x15, y16, y17, y18, y19, none], n⟩
  | [], _, _, _, _, _, _, _, _, _, _, y9, y10, y11, y12, y13, y14, y15, _, _, _, _, _ => ⟨y9, y10, y11, y12, y13, y14, y15, rfl⟩
  | r :: rs, h, y0, y1, y2, y3, y4, y5, y6, y7, y8, y9, y10, y11, y12, y13, y14, y15, y16, y17, y18, y19, n => by
    obtain ⟨x9, x10, x11, x12, x13, x14, x15, s1, e1, e2⟩ := row_step (h r List.mem_cons_self) (y0 := y0) (y1 := y1) (y2 := y2) (y3 := y3) (y4 := y4) (y5 := y5) (y6 := y6) (y7 := y7) (y8 := y8) (y9 := y9) (y10 := y10) (y11 := y11) (y12 := y12) (y13 := y13) (y14 := y14) (y15 := y15) (y16 := y16) (y17 := y17) (y18 := y18) (y19 := y19) (n := n)
    obtain ⟨z9, z10, z11, z12, z13, z14, z15, e3⟩ := rows_loop rs (fun e he => h e (List.mem_cons_of_mem _ he)) (y0 := y0) (y1 := y1) (y2 := y2) (y3 := y3) (y4 := y4) (y5 := y5) (y6 := y6) (y7 := y7) (y8 := y8) (y9 := x9) (y10 := x10) (y11 := x11) (y12 := x12) (y13 := x13) (y14 := x14) (y15 := x15) (y16 := y16) (y17 := y17) (y18 := y18) (y19 := y19) (n := n)
    refine ⟨z9, z10, z11, z12, z13, z14, z15, ?_⟩
    rw [forL_cons, e1]
    dsimp only
    rw [e2]
    exact e3
/-- the k-th row begins with the object of the number 2 k -/
def headAt (rs : List D) (k : Nat) : Prop := ∃ c fs rest, c ∈ clss ∧ rs[k]? = some (.tup (.obj (2 * k) c fs :: rest))
theorem all_rows {a b c d : D} (ha : good a) (hb : good b) (hc : good c) (hd : good d) : (∀ r ∈ rows_a a b c d 0 ++ rows_b a b c d 22 ++ rows_c a b c d 44, rowOk r) ∧ ∀ k < 28, headAt (rows_a a b c d 0 ++ rows_b a b c d 22 ++ rows_c a b c d 44) k := by
  have mk : ∀ (c0 : Str) (ns : List Str) (n : Nat) (vs : List D), c0 ∈ clss → vs.length ≤ 4 → (∀ v ∈ vs, good v) → rowOk (rowD c0 ns n vs) := fun c0 ns n vs h1 h2 h3 => ⟨n, n + 1, c0, _, vs, h1, by omega, rfl, h2, h3⟩
  constructor
  · intro r hr
    simp only [rows_a, rows_b, rows_c, List.cons_append, List.nil_append, List.mem_cons, List.mem_nil_iff, or_false] at hr
    rcases hr with h | h | h | h | h | h | h | h | h | h | h | h | h | h | h | h | h | h | h | h | h | h | h | h | h | h | h | h <;>
      (rw [h]; exact mk _ _ _ _ (by decide +kernel) (by simp) (by simp [ha, hb, hc, hd]))
  · have hh : ∀ (rs : List D) (k n : Nat) (c0 : Str) (ns : List Str) (vs : List D), rs[k]? = some (rowD c0 ns n vs) → n = 2 * k → c0 ∈ clss → headAt rs k := fun rs k n c0 ns vs h1 h2 h3 => by
      subst h2
      exact ⟨c0, _, _, h3, h1⟩
    intro k hk
    match k, hk with
    | 0, _ => exact hh _ _ _ _ _ _ rfl rfl (by decide +kernel)
    | 1, _ => exact hh _ _ _ _ _ _ rfl rfl (by decide +kernel)
    | 2, _ => exact hh _ _ _ _ _ _ rfl rfl (by decide +kernel)
    | 3, _ => exact hh _ _ _ _ _ _ rfl rfl (by decide +kernel)
    | 4, _ => exact hh _ _ _ _ _ _ rfl rfl (by decide +kernel)
    | 5, _ => exact hh _ _ _ _ _ _ rfl rfl (by decide +kernel)
    | 6, _ => exact hh _ _ _ _ _ _ rfl rfl (by decide +kernel)
    | 7, _ => exact hh _ _ _ _ _ _ rfl rfl (by decide +kernel)
    | 8, _ => exact hh _ _ _ _ _ _ rfl rfl (by decide +kernel)
    | 9, _ => exact hh _ _ _ _ _ _ rfl rfl (by decide +kernel)
    | 10, _ => exact hh _ _ _ _ _ _ rfl rfl (by decide +kernel)
    | 11, _ => exact hh _ _ _ _ _ _ rfl rfl (by decide +kernel)
    | 12, _ => exact hh _ _ _ _ _ _ rfl rfl (by decide +kernel)
    | 13, _ => exact hh _ _ _ _ _ _ rfl rfl (by decide +kernel)
    | 14, _ => exact hh _ _ _ _ _ _ rfl rfl (by decide +kernel)
    | 15, _ => exact hh _ _ _ _ _ _ rfl rfl (by decide +kernel)
    | 16, _ => exact hh _ _ _ _ _ _ rfl rfl (by decide +kernel)
    | 17, _ => exact hh _ _ _ _ _ _ rfl rfl (by decide +kernel)
    | 18, _ => exact hh _ _ _ _ _ _ rfl rfl (by decide +kernel)
    | 19, _ => exact hh _ _ _ _ _ _ rfl rfl (by decide +kernel)
    | 20, _ => exact hh _ _ _ _ _ _ rfl rfl (by decide +kernel)
    | 21, _ => exact hh _ _ _ _ _ _ rfl rfl (by decide +kernel)
    | 22, _ => exact hh _ _ _ _ _ _ rfl rfl (by decide +kernel)
    | 23, _ => exact hh _ _ _ _ _ _ rfl rfl (by decide +kernel)
    | 24, _ => exact hh _ _ _ _ _ _ rfl rfl (by decide +kernel)
    | 25, _ => exact hh _ _ _ _ _ _ rfl rfl (by decide +kernel)
    | 26, _ => exact hh _ _ _ _ _ _ rfl rfl (by decide +kernel)
    | 27, _ => exact hh _ _ _ _ _ _ rfl rfl (by decide +kernel)
    | k + 28, hk => omega
theorem sb_tup0 {d : D} {ds : List D} : sbO (.fz (.tup (d :: ds))) (.fz (.int 0)) = some (.fz d) := by
  have e : sbO (.fz (.tup (d :: ds))) (.fz (.int 0)) = idxO (.fz (.tup (d :: ds))) (.fz (.int 0)) := rfl
  have e2 : atI (d :: ds) 0 = some d := by
    unfold atI ixN
    rw [if_pos (by decide), if_pos (by simp only [List.length_cons]; omega)]
    rfl
  rw [e]
  simp only [idxO, e2]
/-- each row's object against another row's -/
theorem other_step {rs : List D} (hl : rs.length = 28) (hr : ∀ k < 28, headAt rs k) {k m : Nat} {pen : O} (hp : isPen m pen) (hm : m < 2 ^ 20) (hk : k < 28) {y0 y2 y3 y4 y5 y6 y8 y9 y10 y11 y12 y13 y14 y15 y16 y17 y18 y19 y20 : Option O} {n : Nat} : ∃ pen' x17, isPen (m + 1) pen' ∧
    (seqS (mSet 17 (mOp2 sbO (mOpnd (mOp2 sbO (mVar 7) (mOpnd (mOp2 modO (mOpnd (bltM (intCO) (opC (mOpnd (mOp2 addO (mOpnd (mOp2 addO (mVar 16) (mOpnd (kI 1)))) (mOpnd (callM (opC (mVar 1) (opC (mOpnd (mOp2 subO (mOpnd (bltM (lenO) (opC (mVar 7) op0))) (mOpnd (kI 1)))) op0)) p__law_draw (some 0) m__law_draw)))) op0))) (mOpnd (bltM (lenO) (opC (mVar 7) op0))))))) (mOpnd (kI 0))))
  (ifS (mOr (mTest (mOp2 (eqX clss false) (mOpnd (mOp2 sbO (mOpnd (mOp2 sbO (mVar 7) (mVar 16))) (mOpnd (kI 0)))) (mVar 17))) (mOr (mTest (mOp2 (eqX clss false) (mVar 17) (mOpnd (mOp2 sbO (mOpnd (mOp2 sbO (mVar 7) (mVar 16))) (mOpnd (kI 0)))))) (notT (mTest (mOp2 (eqX clss true) (mOpnd (mOp2 sbO (mOpnd (mOp2 sbO (mVar 7) (mVar 16))) (mOpnd (kI 0)))) (mVar 17)))))) (retS (kB false)) T.nx))
      ⟨[y0, some pen, y2, y3, y4, y5, y6, some (.fz (.lst rs)), y8, y9, y10, y11, y12, y13, y14, y15, some (.fz (.int k)), y17, y18, y19, y20], n⟩ =
    .nx ⟨[y0, some pen', y2, y3, y4, y5, y6, some (.fz (.lst rs)), y8, y9, y10, y11, y12, y13, y14, y15, some (.fz (.int k)), x17, y18, y19, y20], n⟩ := by
  obtain ⟨r, pen', q, r0, r1, e⟩ := draw_eq hp (by omega) (m := 27) (by decide) (by decide) n
  have j0 : (0 : Int) ≤ ((k : Int) + 1 + r) % 28 := Int.emod_nonneg _ (by decide)
  have j1 : ((k : Int) + 1 + r) % 28 < 28 := Int.emod_lt_of_pos _ (by decide)
  have jk : (((k : Int) + 1 + r) % 28).toNat ≠ k := by omega
  obtain ⟨c, fs, rest, hc, h1⟩ := hr (((k : Int) + 1 + r) % 28).toNat (by omega)
  obtain ⟨c2, fs2, rest2, hc2, h2⟩ := hr k hk
  have s1 : sbO (.fz (.lst rs)) (.fz (.int (((k : Int) + 1 + r) % 28))) = some (.fz (.tup (.obj (2 * (((k : Int) + 1 + r) % 28).toNat) c fs :: rest))) := by
    rw [sb_at j0 (by omega), h1]
    rfl
  have s2 : sbO (.fz (.lst rs)) (.fz (.int k)) = some (.fz (.tup (.obj (2 * k) c2 fs2 :: rest2))) := by
    rw [sb_at (by omega) (by omega), Int.toNat_natCast, h2]
    rfl
  have hmod : modC ((k : Int) + 1 + r) 28 = true := mod_ok (by decide)
  have e27 : ((28 : Int) - 1) = 27 := by decide
  generalize (((k : Int) + 1 + r) % 28).toNat = j at *
  refine ⟨pen', some (.fz (.obj (2 * j) c fs)), q, ?_⟩
  have n1 : ¬ (2 * k = 2 * j) := by omega
  have n2 : ¬ (2 * j = 2 * k) := by omega
  have n3 : ¬ (k = j) := by omega
  have n4 : ¬ (j = k) := by omega
  simp [hl, e, s1, s2, sb_tup0, hmod, hc, hc2, n1, n2, n3, n4, jk]
end Hd
namespace Hd
open PySem PySem.Spec
open PyProof.Rows L2 VL
def bodyO : MT := seqS (mSet 17 (mOp2 sbO (mOpnd (mOp2 sbO (mVar 7) (mOpnd (mOp2 modO (mOpnd (bltM (intCO) (opC (mOpnd (mOp2 addO (mOpnd (mOp2 addO (mVar 16) (mOpnd (kI 1)))) (mOpnd (callM (opC (mVar 1) (opC (mOpnd (mOp2 subO (mOpnd (bltM (lenO) (opC (mVar 7) op0))) (mOpnd (kI 1)))) op0)) p__law_draw (some 0) m__law_draw)))) op0))) (mOpnd (bltM (lenO) (opC (mVar 7) op0))))))) (mOpnd (kI 0))))
  (ifS (mOr (mTest (mOp2 (eqX clss false) (mOpnd (mOp2 sbO (mOpnd (mOp2 sbO (mVar 7) (mVar 16))) (mOpnd (kI 0)))) (mVar 17))) (mOr (mTest (mOp2 (eqX clss false) (mVar 17) (mOpnd (mOp2 sbO (mOpnd (mOp2 sbO (mVar 7) (mVar 16))) (mOpnd (kI 0)))))) (notT (mTest (mOp2 (eqX clss true) (mOpnd (mOp2 sbO (mOpnd (mOp2 sbO (mVar 7) (mVar 16))) (mOpnd (kI 0)))) (mVar 17)))))) (retS (kB false)) T.nx)
theorem others_loop {rs : List D} (hl : rs.length = 28) (hr : ∀ k < 28, headAt rs k) : ∀ (ks : List Nat), (∀ k ∈ ks, k < 28) → ∀ {m : Nat} {pen : O}, isPen m pen → m + ks.length < 2 ^ 20 → ∀ {y0 y2 y3 y4 y5 y6 y8 y9 y10 y11 y12 y13 y14 y15 y16 y17 y18 y19 y20 : Option O} {n : Nat}, ∃ pen' x16 x17,
    forL (gSet 16) bodyO (ks.map fun (i : Nat) => D.int (0 + (i : Int))) ⟨[y0, some pen, y2, y3, y4, y5, y6, some (.fz (.lst rs)), y8, y9, y10, y11, y12, y13, y14, y15, y16, y17, y18, y19, y20], n⟩ =
    .nx ⟨[y0, some pen', y2, y3, y4, y5, y6, some (.fz (.lst rs)), y8, y9, y10, y11, y12, y13, y14, y15, x16, x17, y18, y19, y20], n⟩
  | [], _, _, pen, _, _, _, _, _, _, _, _, _, _, _, _, _, _, _, _, y16, y17, _, _, _, _ => ⟨pen, y16, y17, rfl⟩
  | k :: ks, h, m, pen, hp, hm, y0, y2, y3, y4, y5, y6, y8, y9, y10, y11, y12, y13, y14, y15, y16, y17, y18, y19, y20, n => by
    simp only [List.length_cons] at hm
    obtain ⟨pen1, x17, q, e⟩ := other_step hl hr hp (by omega) (h k List.mem_cons_self) (y0 := y0) (y2 := y2) (y3 := y3) (y4 := y4) (y5 := y5) (y6 := y6) (y8 := y8) (y9 := y9) (y10 := y10) (y11 := y11) (y12 := y12) (y13 := y13) (y14 := y14) (y15 := y15) (y16 := y16) (y17 := y17) (y18 := y18) (y19 := y19) (y20 := y20) (n := n)
    obtain ⟨pen2, z16, z17, e2⟩ := others_loop hl hr ks (fun e he => h e (List.mem_cons_of_mem _ he)) q (by omega) (y0 := y0) (y2 := y2) (y3 := y3) (y4 := y4) (y5 := y5) (y6 := y6) (y8 := y8) (y9 := y9) (y10 := y10) (y11 := y11) (y12 := y12) (y13 := y13) (y14 := y14) (y15 := y15) (y16 := some (.fz (.int k))) (y17 := x17) (y18 := y18) (y19 := y19) (y20 := y20) (n := n)
    refine ⟨pen2, z16, z17, ?_⟩
    have z : (0 + (k : Int)) = (k : Int) := by omega
    have g : gSet 16 (.int (0 + (k : Int))) ⟨[y0, some pen, y2, y3, y4, y5, y6, some (.fz (.lst rs)), y8, y9, y10, y11, y12, y13, y14, y15, y16, y17, y18, y19, y20], n⟩ = some ⟨[y0, some pen, y2, y3, y4, y5, y6, some (.fz (.lst rs)), y8, y9, y10, y11, y12, y13, y14, y15, some (.fz (.int k)), y17, y18, y19, y20], n⟩ := by
      rw [z]
      rfl
    rw [List.map_cons, forL_cons, g]
    dsimp only
    unfold bodyO
    rw [e]
    exact e2
theorem assoc5 (a b c d e f : MT) (s : S) : seqS a (seqS b (seqS c (seqS d (seqS e f)))) s = ((seqS a (seqS b (seqS c (seqS d e)))) s).seq f := by
  have k : ∀ (t : T) (g h : MT), (t.seq g).seq h = t.seq fun s => (g s).seq h := fun t g h => by cases t <;> rfl
  show (a s).seq _ = ((a s).seq _).seq f
  rw [k]
  congr 1
  funext s1
  show (b s1).seq _ = ((b s1).seq _).seq f
  rw [k]
  congr 1
  funext s2
  show (c s2).seq _ = ((c s2).seq _).seq f
  rw [k]
  congr 1
  funext s3
  show (d s3).seq _ = ((d s3).seq _).seq f
  rw [k]
/-- what holds behind all statements but the last two -/
theorem law_state (ns : List Int) : ∃ pen v0 v1 v2 v3 rs t x8 x9 x10 x11 x12 x13 x14 x15 x16 x17, good v0 ∧ rs.length = 28 ∧ (cp v0).text = some t ∧ g_law (VL.entry N_law.length [.fz (.scr ns)] 0) =
    .nx ⟨[some (.fz (.scr ns)), some pen, some (.fz (.lst [v0, v1, v2, v3])), some (.fz v0), some (.fz v1), some (.fz v2), some (.fz v3), some (.fz (.lst rs)), x8, x9, x10, x11, x12, x13, x14, x15, x16, x17, some (.fz (.obj 56 "Solved" [("row", cp v0)])), some (.fz (.str t)), none], 57⟩ := by
  obtain ⟨pen, v0, v1, v2, v3, hp, h0, h1, h2, h3, e⟩ := first_five ns
  obtain ⟨ok, hd⟩ := all_rows h0 h1 h2 h3
  have hl : (rows_a v0 v1 v2 v3 0 ++ rows_b v0 v1 v2 v3 22 ++ rows_c v0 v1 v2 v3 44).length = 28 := rfl
  generalize rows_a v0 v1 v2 v3 0 ++ rows_b v0 v1 v2 v3 22 ++ rows_c v0 v1 v2 v3 44 = rs at *
  generalize some (O.fz (D.lst (rows_c v0 v1 v2 v3 44))) = x8 at *
  obtain ⟨t, ht⟩ := text_one h0.2.1
  obtain ⟨x9, x10, x11, x12, x13, x14, x15, e5⟩ := rows_loop rs ok (y0 := some (.fz (.scr ns))) (y1 := some pen) (y2 := some (.fz (.lst [v0, v1, v2, v3]))) (y3 := some (.fz v0)) (y4 := some (.fz v1)) (y5 := some (.fz v2)) (y6 := some (.fz v3)) (y7 := some (.fz (.lst rs))) (y8 := x8) (y9 := none) (y10 := none) (y11 := none) (y12 := none) (y13 := none) (y14 := none) (y15 := none) (y16 := none) (y17 := none) (y18 := none) (y19 := none) (n := 56)
  obtain ⟨pen2, x16, x17, e6⟩ := others_loop hl hd (List.range 28) (fun k hk => by simpa using hk) hp (by simp) (y0 := some (.fz (.scr ns))) (y2 := some (.fz (.lst [v0, v1, v2, v3]))) (y3 := some (.fz v0)) (y4 := some (.fz v1)) (y5 := some (.fz v2)) (y6 := some (.fz v3)) (y8 := x8) (y9 := x9) (y10 := x10) (y11 := x11) (y12 := x12) (y13 := x13) (y14 := x14) (y15 := x15) (y16 := none) (y17 := none) (y18 := none) (y19 := none) (y20 := none) (n := 56)
  refine ⟨pen2, v0, v1, v2, v3, rs, t, x8, x9, x10, x11, x12, x13, x14, x15, x16, x17, h0, hl, ht, ?_⟩
  have g5 : g_law_5 ⟨[some (.fz (.scr ns)), some pen, some (.fz (.lst [v0, v1, v2, v3])), some (.fz v0), some (.fz v1), some (.fz v2), some (.fz v3), some (.lst (rs.map O.fz)), x8, none, none, none, none, none, none, none, none, none, none, none, none], 56⟩ = .nx ⟨[some (.fz (.scr ns)), some pen, some (.fz (.lst [v0, v1, v2, v3])), some (.fz v0), some (.fz v1), some (.fz v2), some (.fz v3), some (.fz (.lst rs)), x8, x9, x10, x11, x12, x13, x14, x15, none, none, none, none, none], 56⟩ := by
    unfold g_law_5
    rw [forS_ap, mIts_ap, mUse_ap]
    simp only [List.getElem?_cons_succ, List.getElem?_cons_zero, frz_lst, frzAll_map, Option.map_some, R.bind_ok, frz_fz, D.its, R.toT_ok, List.set_cons_succ, List.set_cons_zero]
    exact e5
  have g6 : g_law_6 ⟨[some (.fz (.scr ns)), some pen, some (.fz (.lst [v0, v1, v2, v3])), some (.fz v0), some (.fz v1), some (.fz v2), some (.fz v3), some (.fz (.lst rs)), x8, x9, x10, x11, x12, x13, x14, x15, none, none, none, none, none], 56⟩ = .nx ⟨[some (.fz (.scr ns)), some pen2, some (.fz (.lst [v0, v1, v2, v3])), some (.fz v0), some (.fz v1), some (.fz v2), some (.fz v3), some (.fz (.lst rs)), x8, x9, x10, x11, x12, x13, x14, x15, x16, x17, none, none, none], 56⟩ := by
    have r : mRng1 (bltM (lenO) (opC (mVar 7) op0)) ⟨[some (.fz (.scr ns)), some pen, some (.fz (.lst [v0, v1, v2, v3])), some (.fz v0), some (.fz v1), some (.fz v2), some (.fz v3), some (.fz (.lst rs)), x8, x9, x10, x11, x12, x13, x14, x15, none, none, none, none, none], 56⟩ = .ok (rngD 0 28) ⟨[some (.fz (.scr ns)), some pen, some (.fz (.lst [v0, v1, v2, v3])), some (.fz v0), some (.fz v1), some (.fz v2), some (.fz v3), some (.fz (.lst rs)), x8, x9, x10, x11, x12, x13, x14, x15, none, none, none, none, none], 56⟩ := by
      simp [mRng1, hl, smallI]
    unfold g_law_6
    rw [forS_ap, r, R.toT_ok]
    exact e6
  have s0 : sbO (.fz (.lst [v0, v1, v2, v3])) (.fz (.int 0)) = some (.fz v0) := by
    rw [sb_at (by decide) (by simp)]
    rfl
  have so := Solved_eq h0.1 56
  have g7 : g_law_7 ⟨[some (.fz (.scr ns)), some pen2, some (.fz (.lst [v0, v1, v2, v3])), some (.fz v0), some (.fz v1), some (.fz v2), some (.fz v3), some (.fz (.lst rs)), x8, x9, x10, x11, x12, x13, x14, x15, x16, x17, none, none, none], 56⟩ = .nx ⟨[some (.fz (.scr ns)), some pen2, some (.fz (.lst [v0, v1, v2, v3])), some (.fz v0), some (.fz v1), some (.fz v2), some (.fz v3), some (.fz (.lst rs)), x8, x9, x10, x11, x12, x13, x14, x15, x16, x17, some (.fz (.obj 56 "Solved" [("row", cp v0)])), none, none], 57⟩ := by
    simp [g_law_7, s0, so, List.range_succ]
  have g8 : g_law_8 ⟨[some (.fz (.scr ns)), some pen2, some (.fz (.lst [v0, v1, v2, v3])), some (.fz v0), some (.fz v1), some (.fz v2), some (.fz v3), some (.fz (.lst rs)), x8, x9, x10, x11, x12, x13, x14, x15, x16, x17, some (.fz (.obj 56 "Solved" [("row", cp v0)])), none, none], 57⟩ = .nx ⟨[some (.fz (.scr ns)), some pen2, some (.fz (.lst [v0, v1, v2, v3])), some (.fz v0), some (.fz v1), some (.fz v2), some (.fz v3), some (.fz (.lst rs)), x8, x9, x10, x11, x12, x13, x14, x15, x16, x17, some (.fz (.obj 56 "Solved" [("row", cp v0)])), some (.fz (.str t)), none], 57⟩ := by
    simp [g_law_8, O.flds, cs_row, List.lookup_cons, reprO, ht]
  unfold g_law
  rw [assoc5, e, T.seq_nx, seqS_ap, g5, T.seq_nx, seqS_ap, g6, T.seq_nx, seqS_ap, g7, T.seq_nx, g8]
end Hd
namespace Hd
open PySem PySem.Spec
open PyProof.Rows L2 VL
abbrev cxL (P : Program) (w : World) (K : PySem.W.Frag) (mg : Str → Option Value) (base : Heap) : VL.Ctx := ⟨P, w, K, mg, base, N_law, Hd.d_law.scope, 4, [], cellsOf Hd.d_law.scope⟩
def g_ret : MT := retS (mAndV (mOp2 (eqX clss false) (mOpnd (bltM (reprO) (opC (mOpnd (mFld cs_row "row" (mVar 18))) op0))) (mVar 19)) (mOp2 (eqX clss false) (mOpnd (bltM (lenO) (opC (mVar 7) op0))) (mOpnd (kI 28))))
theorem ret_run {rs : List D} {t : Str} {d : D} {i n : Nat} (hl : rs.length = 28) (ht : d.text = some t) {y0 y1 y2 y3 y4 y5 y6 y8 y9 y10 y11 y12 y13 y14 y15 y16 y17 y20 : Option O} :
    g_ret ⟨[y0, y1, y2, y3, y4, y5, y6, some (.fz (.lst rs)), y8, y9, y10, y11, y12, y13, y14, y15, y16, y17, some (.fz (.obj i "Solved" [("row", d)])), some (.fz (.str t)), y20], n⟩ = .rt (.fz (.bl true)) ⟨[y0, y1, y2, y3, y4, y5, y6, some (.fz (.lst rs)), y8, y9, y10, y11, y12, y13, y14, y15, y16, y17, some (.fz (.obj i "Solved" [("row", d)])), some (.fz (.str t)), y20], n⟩ := by
  simp [g_ret, O.flds, cs_row, List.lookup_cons, reprO, ht, hl]
section
variable
        {P : Program} {w : World} {K : PySem.W.Frag} {mg : Str → Option Value} {base : Heap}
theorem ds_retL (h : Hy K mg) : DSs (cxL P w K mg base) (Hd.d_law.body.drop 10) g_ret :=
  (dss_one (ds_ret (de_and (de_cmpK (okx_eq h.eqs) (do_val (de_callK (ok_repr h.sys) (dos_cons (do_val (de_fld cs_row (do_var (i := 18)) h.a_row)) dos_nil) h.f_repr bb_repr)) (do_var (i := 19))) (de_one (de_cmpK (okx_eq h.eqs) (do_val (de_callB ok_len (dos_cons (do_var (i := 7)) dos_nil) h.f_len bb_len)) (do_val de_int))))))
/-- the last statement -/
theorem ret_end (h : Hy K mg) {X : Cx} (hX : At (cxL P w K mg base) X) {ι : List Addr} {As : Foot} {F H : Hp} {σ : L2.St} {rs : List D} {t : Str} {d : D} {i n : Nat} (hl : rs.length = 28) (ht : d.text = some t) {y0 y1 y2 y3 y4 y5 y6 y8 y9 y10 y11 y12 y13 y14 y15 y16 y17 y20 : Option O}
    (m : Mem X.K ι As F H σ ⟨[y0, y1, y2, y3, y4, y5, y6, some (.fz (.lst rs)), y8, y9, y10, y11, y12, y13, y14, y15, y16, y17, some (.fz (.obj i "Solved" [("row", d)])), some (.fz (.str t)), y20], n⟩) {D0 : Ends} (hD : ∀ H', D0.rt (.bl true) H') : ssW X (Hd.d_law.body.drop 10) D0 σ H := by
  refine ds_retL h X hX ι As F H σ _ m D0 (fun _ _ _ _ => False) (fun z => ?_) ?_
  · rw [ret_run hl ht] at z
    exact z.elim
  · rw [ret_run hl ht]
    intro σ' _ v B ι' As' F' H' ev pr m' w nd fr
    have e : v = .bl true := w.bl
    subst e
    exact hD H'
end
/-- F without a -/
def less (F : Hp) (a : Addr) : Hp := fun b => if b = a then none else F b
theorem less_ne {F : Hp} {a b : Addr} (h : b ≠ a) : less F a b = F b := if_neg h
theorem less_rd {K : PySem.W.Frag} {ι ι2 : List Addr} {F : Hp} {a : Addr} {us : List V} (ha : F a = some (.lst us)) {v : V} {d : D} (r : Rd K ι F v d) (h : noLen us.length d = true) : Rd K ι2 (less F a) v d := by
  cases r with
  | non => exact .non
  | bl b => exact .bl b
  | int i => exact .int i
  | str x => exact .str x
  | tup _ _ => cases h
  | dct _ _ _ => cases h
  | obj _ _ _ _ => cases h
  | scr _ => cases h
  | raw v => cases h
  | lst hb rr =>
    rename_i b vs ds
    cases rr with
    | nil => cases h
    | cons r1 rr =>
      cases rr with
      | cons _ _ => cases r1 <;> cases h
      | nil =>
        cases r1 with
        | int i =>
          have hn : us.length ≠ 1 := by simpa [noLen] using h
          have nb : b ≠ a := fun e => by
            subst e
            rw [ha] at hb
            cases hb
            exact hn rfl
          exact .lst (by rw [less_ne nb]; exact hb) (.cons (.int i) .nil)
        | _ => cases h
theorem less_all {K : PySem.W.Frag} {ι ι2 : List Addr} {F : Hp} {a : Addr} {us : List V} (ha : F a = some (.lst us)) : ∀ {vs : List V} {ds : List D}, RdAll K ι F vs ds → ds.all (noLen us.length) = true → RdAll K ι2 (less F a) vs ds
  | _, _, .nil, _ => .nil
  | _, _, .cons r rr, h => by
    simp
            only [List.all_cons, Bool.and_eq_true] at h
    exact .cons (less_rd ha r h.1) (less_all ha rr h.2)
theorem rd_obj {K : PySem.W.Frag} {ι : List Addr} {F : Hp} {v : V} {i : Nat} {c : Str} {fs : List (Str × D)} (r : Rd K ι F v (.obj i c fs)) : ∃ (a dx : Addr) (gs : List (Str × V)), v = .ref a ∧ ι[i]? = some a ∧ F a = some (.ins (He.ga K c) dx gs) ∧ RdK K ι F gs fs := by
  cases r with
  | obj h1 h2 h3 h4 => exact ⟨_, _, _, rfl, h1, h2, rdK_zip h3 h4⟩
theorem raw_all {K : PySem.W.Frag} {ι : List Addr} {F : Hp} : ∀ (vs : List V), RdAll K ι F vs (vs.map D.raw)
  | [] => .nil
  | v :: vs => .cons (.raw v) (raw_all vs)
section
variable
        {P : Program} {w : World} {K : PySem.W.Frag} {mg : Str → Option Value} {base : Heap}
def g_test : M Bool := mTest (mIsi [.lst] (mOpnd (mOp2 sbO (mVar 2) (mOpnd (kI 0)))))
/-- the memory behind values[0].append(7) -/
theorem mem_less {K : PySem.W.Frag} {ι : List Addr} {As : Foot} {F H : Hp} {σ : L2.St} {a : Addr} {us : List V} {xs rs : List D} {t : Str} {i n : Nat} {u : HO} (ha : F a = some (.lst us)) (r : RdAll K ι F us xs) (hx : xs.length ≤ 3) (hn : xs.all (noLen xs.length) = true) (hl : rs.length = 28) {y0 y1 y2 y3 y4 y5 y6 y8 y9 y10 y11 y12 y13 y14 y15 y16 y17 y20 : Option O}
    (m : Mem K ι As F H σ ⟨[y0, y1, y2, y3, y4, y5, y6, some (.fz (.lst rs)), y8, y9, y10, y11, y12, y13, y14, y15, y16, y17, some (.fz (.obj i "Solved" [("row", .tup xs)])), some (.fz (.str t)), y20], n⟩) :
    ∃ k rs', rs'.length = 28 ∧ Mem K [k] (fun _ => []) (less F a) (upd H a u) σ ⟨[none, none, none, none, none, none, none, some (.fz (.lst rs')), none, none, none, none, none, none, none, none, none, none, some (.fz (.obj 0 "Solved" [("row", .tup xs)])), some (.fz (.str t)), none], 1⟩ := by
  obtain ⟨v7, h7, w7⟩ := m.at_ 7 _ rfl
  obtain ⟨v18, h18, w18⟩ := m.at_ 18 _ rfl
  obtain ⟨v19, h19, w19⟩ := m.at_ 19 _ rfl
  have e19 := w19.str
  subst e19
  have lu : us.length = xs.length := r.length
  cases w7.fz_inv.1 with
  | lst f7 r7 =>
    rename_i b ws
    have lw : ws.length = 28 := by rw [r7.length]; exact hl
    have nb : b ≠ a := fun e => by
      subst e
      rw [ha] at f7
      cases f7
      omega
    obtain ⟨k, dk, gs, rfl, _, fk, rk⟩ := rd_obj w18.fz_inv.1
    cases rk with
    | cons r1 rk =>
      cases rk
      rename_i u1
      have nk : k ≠ a := fun e => by
        subst e
        rw [ha] at fk
        cases fk
      cases r1 with
      | tup ft rt =>
        rename_i tt us2
        have nt : tt ≠ a := fun e => by
          subst e
          rw [ha] at ft
          cases ft
        have hn2 : xs.all (noLen us.length) = true := by rw [lu]; exact hn
        refine ⟨k, ws.map D.raw, by rw [List.length_map]; exact lw, ⟨fun c u1 z => ?_, rfl, ⟨by simp, fun c hc => ?_⟩, by rw [m.len]; rfl, fun j o z => ?_, fun _ => List.nodup_nil, (fun _ _ _ _ z => nomatch z), (fun _ _ z => nomatch z), (fun _ _ z => nomatch z)⟩⟩
        · by_cases e : c = a
          · subst e
            rw [show less F c c = none from if_pos rfl] at z
            cases z
          · rw [less_ne e] at z
            rw [upd_ne e]
            exact m.ext c u1 z
        · have e : c = k := by simpa using hc
          subst e
          rw [less_ne nk, fk]
          exact fun z => nomatch z
        · have hj : j = 7 ∧ o = .fz (.lst (ws.map D.raw)) ∨ j = 18 ∧ o = .fz (.obj 0 "Solved" [("row", .tup xs)]) ∨ j = 19 ∧ o = .fz (.str t) := by
            match j, z with
            | 7, z => exact .inl ⟨rfl, by simpa using z.symm⟩
            | 18, z => exact .inr (.inl ⟨rfl, by simpa using z.symm⟩)
            | 19, z => exact .inr (.inr ⟨rfl, by simpa using z.symm⟩)
            | 0, z | 1, z | 2, z | 3, z | 4, z | 5, z | 6, z | 8, z | 9, z | 10, z | 11, z | 12, z | 13, z | 14, z | 15, z | 16, z | 17, z | 20, z => simp at z
            | j + 21, z => simp at z
          rcases hj with ⟨rfl, rfl⟩ | ⟨rfl, rfl⟩ | ⟨rfl, rfl⟩
          · exact ⟨_, h7, .fz (.lst (by rw [less_ne nb]; exact f7) (raw_all ws))⟩
          · refine ⟨_, h18, .fz (Rd.obj (id := 0) (ns := ["row"]) (vs := [.ref tt]) (ds := [.tup xs]) rfl (by rw [less_ne nk]; exact fk) rfl (.cons (.tup (by rw [less_ne nt]; exact ft) (less_all ha rt hn2)) .nil))⟩
          · exact ⟨_, h19, .fz (.str t)⟩
def eTest : Expr := match Hd.d_law.body.getD 9 (.Pass ⟨0, 0, 0, 0⟩) with
  | .If c _ _ _ => c
  | _ => .Constant .none 0 ⟨0, 0, 0, 0⟩
def eRecv : Expr := match Hd.d_law.body.getD 9 (.Pass ⟨0, 0, 0, 0⟩) with
  | .If _ (.Expr (.Call (.Attribute e _ _) _ _ _) _ :: _) _ _ => e
  | _ => .Constant .none 0 ⟨0, 0, 0, 0⟩
theorem dt_test (h : Hy K mg) : DT (cxL P w K mg base) eTest g_test := dt_val (de_isi .lst (h := (do_val (de_sub (do_var (i := 2)) (do_val de_int)))) (hm := h.f_isinstance) (hmx := h.f_list))
theorem de_recv (h : Hy K mg) : DE (cxL P w K mg base) eRecv (mOp2 sbO (mVar 2) (mOpnd (kI 0))) := de_sub (do_var (i := 2)) (do_val de_int)
theorem test_run {v0 v1 v2 v3 : D} {y0 y1 y3 y4 y5 y6 y7 y8 y9 y10 y11 y12 y13 y14 y15 y16 y17 y18 y19 y20 : Option O} {n : Nat} (h0 : okV v0) : ∃ b, (b = true → ∃ xs, v0 = .lst xs) ∧
    g_test ⟨[y0, y1, some (.fz (.lst [v0, v1, v2, v3])), y3, y4, y5, y6, y7, y8, y9, y10, y11, y12, y13, y14, y15, y16, y17, y18, y19, y20], n⟩ = .ok b ⟨[y0, y1, some (.fz (.lst [v0, v1, v2, v3])), y3, y4, y5, y6, y7, y8, y9, y10, y11, y12, y13, y14, y15, y16, y17, y18, y19, y20], n⟩ := by
  have s0 : sbO (.fz (.lst [v0, v1, v2, v3])) (.fz (.int 0)) = some (.fz v0) := by
    rw [sb_at (by decide) (by simp)]
    rfl
  cases v0 with
  | lst xs => exact ⟨true, fun _ => ⟨xs, rfl⟩, by simp [g_test, s0, isiO, O.ty, Ty.sub]⟩
  | obj _ _ _ => exact (h0 rfl).elim
  | scr _ => exact (h0 rfl).elim
  | raw _ => exact (h0 rfl).elim
  | _ => exact ⟨false, (fun z => nomatch z), by simp [g_test, s0, isiO, O.ty, Ty.sub]⟩
/-- the last two statements -/
theorem tail_ok (h : Hy K mg) {X : Cx} (hX : At (cxL P w K mg base) X) {ι : List Addr} {As : Foot} {F H : Hp} {σ : L2.St} {v0 v1 v2 v3 : D} {rs : List D} {t : Str} {i n : Nat} (h0 : good v0) (hl : rs.length = 28) (ht : (cp v0).text = some t) {y0 y1 y3 y4 y5 y6 y8 y9 y10 y11 y12 y13 y14 y15 y16 y17 y20 : Option O}
    (m : Mem X.K ι As F H σ ⟨[y0, y1, some (.fz (.lst [v0, v1, v2, v3])), y3, y4, y5, y6, some (.fz (.lst rs)), y8, y9, y10, y11, y12, y13, y14, y15, y16, y17, some (.fz (.obj i "Solved" [("row", cp v0)])), some (.fz (.str t)), y20], n⟩) {D0 : Ends} (hD : ∀ H', D0.rt (.bl true) H') : ssW X (Hd.d_law.body.drop 9) D0 σ H := by
  obtain ⟨b, hb, e⟩ := test_run (v1 := v1) (v2 := v2) (v3 := v3) (y0 := y0) (y1 := y1) (y3 := y3) (y4 := y4) (y5 := y5) (y6 := y6) (y7 := some (.fz (.lst rs))) (y8 := y8) (y9 := y9) (y10 := y10) (y11 := y11) (y12 := y12) (y13 := y13) (y14 := y14) (y15 := y15) (y16 := y16) (y17 := y17) (y18 := some (.fz (.obj i "Solved" [("row", cp v0)]))) (y19 := some (.fz (.str t))) (y20 := y20) (n := n) h0.1
  refine ⟨_, pss_cons (ps_if pt_W pss_W pss_W) pss_W, ?_⟩
  refine dt_test h X hX ι As F H σ _ m _ (fun _ _ _ _ => False) (fun z => ?_) ?_
  · have z : IsX (g_test _) := z
    rw [e] at z
    exact z.elim
  · show PostB X ι As F H σ (g_test _) _ _
    rw [e]
    intro ι1 As1 F1 H1 ev pr m1
    cases b with
    | false =>
      rw [if_neg (by decide)]
      exact ⟨_, pss_nil, ret_end h hX hl ht m1 hD⟩
    | true =>
      rw [if_pos rfl]
      obtain ⟨xs, rfl⟩ := hb rfl
      obtain ⟨hx, hn⟩ := h0.2.2 xs rfl
      have s0 : sbO (.fz (.lst [.lst xs, v1, v2, v3])) (.fz (.int 0)) = some (.fz (.lst xs)) := by
        rw [sb_at (by decide) (by simp)]
        rfl
      refine ⟨_, pss_one (ps_expr (pe_bm PySem.F.plainAttrs_list PySem.F.slot_list_append PySem.F.type_list_append mt_append pe_W (pa_cons pe_int pa_nil))), ?_⟩
      have run : mOp2 sbO (mVar 2) (mOpnd (kI 0)) ⟨[y0, y1, some (.fz (.lst [.lst xs, v1, v2, v3])), y3, y4, y5, y6, some (.fz (.lst rs)), y8, y9, y10, y11, y12, y13, y14, y15, y16, y17, some (.fz (.obj i "Solved" [("row", cp (.lst xs))])), some (.fz (.str t)), y20], n⟩ = .ok (.fz (.lst xs)) ⟨[y0, y1, some (.fz (.lst [.lst xs, v1, v2, v3])), y3, y4, y5, y6, some (.fz (.lst rs)), y8, y9, y10, y11, y12, y13, y14, y15, y16, y17, some (.fz (.obj i "Solved" [("row", cp (.lst xs))])), some (.fz (.str t)), y20], n⟩ := by
        simp [s0]
      refine de_recv h X hX ι1 As1 F1 H1 σ _ m1 _ (fun _ _ _ _ => False) (fun z => ?_) ?_
      · have z : IsX (mOp2 sbO (mVar 2) (mOpnd (kI 0)) _) := z
        rw [run] at z
        exact z.elim
      · show PostV X ι1 As1 F1 H1 σ (mOp2 sbO (mVar 2) (mOpnd (kI 0)) _) _ _
        rw [run]
        intro v B ι2 As2 F2 H2 ev2 pr2 m2 wv nd fr
        cases wv.fz_inv.1 with
        | lst fa rr =>
          rename_i a us
          have ha := m2.ext _ _ fa
          refine ⟨.inl ⟨rfl, us, SqL.of ha⟩, a, us, .int 7, rfl, rfl, ha, by rw [rr.length]; exact lt_100000 (by omega), ?_⟩
          obtain ⟨k, rs', hl', m3⟩ := mem_less (u := .lst (us ++ [.int 7])) fa rr hx hn hl m2
          exact ret_end h hX hl' ht m3 hD
end
end Hd
namespace Hd
open PySem PySem.Spec
open PyProof.Rows L2 VL
def spL (K : PySem.W.Frag) : Sp := fun vs H Q _ => ∃ (a : Addr) (ns : List Int), vs = [.ref a] ∧ SqL K H a (ns.map V.int) ∧ ∀ H', Q (.bl true) H'
theorem law_fnG {P : Program} {w : World} {K : PySem.W.Frag} {mg : Str → Option Value} {base : Heap} (h : Hy K mg) {fd : FuncData} (F : FunD K "law" "law" Hd.d_law.params Hd.d_law.body Hd.d_law.scope [] [] (He.ga K "law") fd) : FnG P w K mg base 5 (He.ga K "law") fd ["script"] (spL K) := by
  obtain ⟨oc, od, dV, kV, doc, pm, an, cdv, ct, osl, e0, lk, hcd, _, _⟩ := F.ex
  subst e0
  refine fnG_of lk hcd sc_law (fun vs H Q E z => ?_) fun A outer s H vs Q E room gd z => ?_
  · obtain ⟨a, ns, rfl, _⟩ := z
    rfl
  · obtain ⟨a, ns, rfl, sq, hQ⟩ := z
    have hat : At (cxL P w K mg base) (cxOf (L2.CX P w) P w K mg base N_law "law" Hd.d_law.scope (He.ga K "law") cdv A outer s H E) := ⟨rfl, rfl, rfl, rfl, rfl, rfl, rfl, rfl, sc_law.nd, room, gd, fun _ _ => rfl, passes_of rfl⟩
    have m0 : Mem K [] (fun _ => []) H H ([V.ref a].map some) ⟨[O.fz (.scr ns)].map some, ([] : List Addr).length⟩ := by
      refine ⟨Same.refl _, rfl, ⟨List.nodup_nil, (fun _ z => nomatch z)⟩, rfl, fun i o z => ?_, fun _ => List.nodup_nil, (fun _ _ _ _ z => nomatch z), (fun _ _ z => nomatch z), (fun _ _ z => nomatch z)⟩
      cases i with
      | zero =>
        have e : o = .fz (.scr ns) := by simpa using z.symm
        subst e
        exact ⟨.ref a, rfl, .fz (.scr sq)⟩
      | succ i => simp at z
    have m1 := m0.entry (N := N_law) rfl (Nat.le_of_ble_eq_true rfl)
    obtain ⟨pen, v0, v1, v2, v3, rs, t, x8, x9, x10, x11, x12, x13, x14, x15, x16, x17, h0, hl, ht, e⟩ := law_state ns
    have run := dt_law (P := P) (w := w) (base := base) h _ hat [] _ H H (L2.start N_law [.ref a]) _ m1 { nx := fun _ H' => Q .non H', rt := Q } (fun _ _ _ _ => False)
    rw [List.take_append_drop] at run
    refine run (fun z => ?_) ?_
    · have z : IsXT (g_law (VL.entry N_law.length [.fz (.scr ns)] 0)) := z
      rw [e] at z
      exact z.elim
    · show PostT _ _ _ _ _ _ _ (g_law (VL.entry N_law.length [.fz (.scr ns)] 0)) _ _
      rw [e]
      intro σ' ι' As' F' H' ev pr m' hp
      exact tail_ok h hat h0 hl ht m' hQ
end Hd
open PySem PySem.W
open PySem.Calls
theorem PySem.Challenge.cw_shelltrees_k82_classes_made_by_hand_holds : PySem.Challenge.rw_shelltrees_k82_classes_made_by_hand.Holds := by
  w_on; o_law
  refine HandSHeadRun.head_any (H := Hd.hk) (ob := Hd.ob) (M := 40000) (loose := Hd.loose) (kwd := []) (r := OpenLaw.row PySem.Challenge.rw_shelltrees_k82_classes_made_by_hand) (q := view (OpenLaw.row PySem.Challenge.rw_shelltrees_k82_classes_made_by_hand).prog [49]) (d := HandSHeadRun.topDef (OpenLaw.row PySem.Challenge.rw_shelltrees_k82_classes_made_by_hand).prog 49)
    Hd.ob_eq (by kernel_rfl) (fun _ => by kernel_rfl) Hd.run (by kernel_rfl) (by kernel_rfl) (by kernel_rfl) (by rfl) (by first | assumption | decide +kernel) (by decide +kernel) ⟨rfl, rfl, rfl, rfl, rfl, by decide +kernel⟩ ?hw ?hc
  case hw => w_witness2
  case hc =>
    refine VL.walkG (x := "script") (l := PySem.Challenge.rw_shelltrees_k82_classes_made_by_hand) (k := 5) (n := 63) rfl (by decide) (by kernel_rfl) ⟨rfl, by decide, by decide⟩ ?F
    intro w mg f0 h0 Y G hm
    obtain ⟨K, kin, says, more⟩ := Y
    have hy := Hd.hy_of kin G says more
    have nm : (HandSHeadRun.topDef (OpenLaw.row PySem.Challenge.rw_shelltrees_k82_classes_made_by_hand).prog 49).name = ("law" : PySem.Str) := by kernel_rfl
    rw [nm] at hm
    have e := hm.symm.trans hy.g_law
    cases e
    obtain ⟨fd, F⟩ := says.def_ 9 (d := Hd.d_law) rfl
    have b := L2.FunD.bindsA (ps := ["script"]) F fun _ _ _ _ _ _ us hl => match us, hl with | [_], _ => rfl
    exact ⟨K, fd, Hd.spL K, kin, fun s v => b s [v] rfl, fun H a ns _ _ sq => ⟨a, ns, rfl, sq, fun _ => rfl⟩, fun base _ _ => Hd.law_fnG hy F⟩
