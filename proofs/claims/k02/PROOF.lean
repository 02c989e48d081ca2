import PyProof.Rows.All
import HandS.ForMost
import HandS.Exc
import HandS.ExcOwn
import HandS.WordsExc
import HandS.Lambda
import HandS.Wide
import PyProof.StrBlock2
import HandS.Style
import HandS.More
import HandS.Iter
import HandS.Zip
import HandS.Text
import HandS.ExcInit
import KE.KExcSuper
import HandS.TryMany
import HandS.ExcField
import HandS.EndTab
import HandS.IsInst
import PyProof.ReprRoads
import KE.KNestM
import HandS.EndOwn
import PyProof.ReprLen
import KE.IntTextLaws
import PySem.Challenge.RW_mostwebs_k02_tokens_with_their_places
set_option Elab.async false
set_option linter.all false
set_option maxRecDepth 100000
/-! MP1: values, stores, outcomes of the interpreter; what it means that they stand for the abstract heap's. -/
namespace MP
open PySem

/-- a value: what never changes is told whole, what may change stands in the store at an index -/
inductive D where
  | non | bl (b : Bool) | int (i : Int) | str (s : List Nat)
  | tup (ds : List D) | lst (ds : List D) | ref (i : Nat)
  /-- a list that stands still somewhere: the script -/
  | lsk (ds : List D)
  /-- a caught exception at a, its dict at d: the names of its fields, the fields -/
  | xo (a d : Addr) (ns : List Str) (ds : List D)

/-- what may change -/
inductive O where
  | lst (ds : List D)

structure St where
  objs : List O
  /-- for each running def how many objects stood at its entry, and whether one of these may have come to hold a later one -/
  fls : List (Nat × Bool)

inductive Out (α : Type) where
  | ok (a : α) (st : St) | exc (c : Nat) (fs : List D) (st : St) | bad

def Out.bind {α β : Type} (x : Out α) (f : α → St → Out β) : Out β :=
  match x with
  | .ok a st => f a st
  | .exc c fs st => .exc c fs st
  | .bad => .bad
@[simp] theorem Out.bind_ok {α β : Type} (a : α) (st : St) (f : α → St → Out β) : (Out.ok a st).bind f = f a st := rfl
@[simp] theorem Out.bind_exc {α β : Type} (c : Nat) (fs : List D) (st : St) (f : α → St → Out β) : (Out.exc c fs st).bind f = .exc c fs st := rfl
@[simp] theorem Out.bind_bad {α β : Type} (f : α → St → Out β) : (Out.bad : Out α).bind f = .bad := rfl

abbrev Env := List (Option D)

/-! ### what stands for what -/
open L2
section
variable (K : PySem.W.Frag) (m : List Addr) (H : Hp)
mutual
inductive R : V → D → Prop
  | non : R .non .non
  | bl (b : Bool) : R (.bl b) (.bl b)
  | int (i : Int) : R (.int i) (.int i)
  | str (x : List Nat) : R (.str ⟨x.toArray⟩) (.str x)
  | tup {a : Addr} {xs : List V} {ds : List D} : SqT K H a xs → Rs xs ds → R (.ref a) (.tup ds)
  | lst {a : Addr} {xs : List V} {ds : List D} : H a = some (.lst xs) → Rs xs ds → R (.ref a) (.lst ds)
  | lsk {a : Addr} {xs : List V} {ds : List D} : SqL K H a xs → Rs xs ds → R (.ref a) (.lsk ds)
  | ref {i : Nat} {a : Addr} : m[i]? = some a → R (.ref a) (.ref i)
  | xo {a d : Addr} {fs : List (Str × V)} {ns : List Str} {vs : List V} {ds : List D} : H d = some (.xd fs) → (∀ (j : Nat) (f : Str) (v : V), ns[j]? = some f → vs[j]? = some v → fs.lookup f = some v) → Rs vs ds → R (.ref a) (.xo a d ns ds)
inductive Rs : List V → List D → Prop
  | nil : Rs [] []
  | cons {v : V} {vs : List V} {d : D} {ds : List D} : R v d → Rs vs ds → Rs (v :: vs) (d :: ds)
end
end

/-- the later frozen heap has all that the earlier had; the later indexes go on from the earlier -/
structure Mono (m : List Addr) (F : Hp) (m' : List Addr) (F' : Hp) : Prop where
  fr : Same F F'
  ix : ∀ (i : Nat) (a : Addr), m[i]? = some a → m'[i]? = some a
theorem Mono.refl (m : List Addr) (F : Hp) : Mono m F m F := ⟨Same.refl F, fun _ _ h => h⟩
theorem Mono.trans {m m1 m2 : List Addr} {F F1 F2 : Hp} (a : Mono m F m1 F1) (b : Mono m1 F1 m2 F2) : Mono m F m2 F2 := ⟨a.fr.trans b.fr, fun i x h => b.ix i x (a.ix i x h)⟩
theorem _root_.L2.Same.sqt {K : PySem.W.Frag} {H H' : Hp} {a : Addr} {xs : List V} (e : Same H H') (h : SqT K H a xs) : SqT K H' a xs := by
  rcases h with (h | ⟨o, h⟩) | h
  · exact .inl (.inl (e _ _ h))
  · exact .inl (.inr ⟨o, e _ _ h⟩)
  · exact .inr h
section
variable {K : PySem.W.Frag} {m m' : List Addr} {F F' : Hp}
mutual
theorem R.mono (M : Mono m F m' F') : ∀ {v : V} {d : D}, R K m F v d → R K m' F' v d
  | _, _, .non => .non
  | _, _, .bl b => .bl b
  | _, _, .int i => .int i
  | _, _, .str x => .str x
  | _, _, .tup h r => .tup (M.fr.sqt h) (Rs.mono M r)
  | _, _, .lst h r => .lst (M.fr _ _ h) (Rs.mono M r)
  | _, _, .lsk h r => .lsk (M.fr.seq h) (Rs.mono M r)
  | _, _, .ref h => .ref (M.ix _ _ h)
  | _, _, .xo h l r => .xo (M.fr _ _ h) l (Rs.mono M r)
theorem Rs.mono (M : Mono m F m' F') : ∀ {vs : List V} {ds : List D}, Rs K m F vs ds → Rs K m' F' vs ds
  | _, _, .nil => .nil
  | _, _, .cons r t => .cons (R.mono M r) (Rs.mono M t)
end
theorem Rs.length : ∀ {vs : List V} {ds : List D}, Rs K m F vs ds → vs.length = ds.length
  | _, _, .nil => rfl
  | _, _, .cons _ t => congrArg Nat.succ (Rs.length t)
theorem Rs.get : ∀ {vs : List V} {ds : List D} {i : Nat} {d : D}, Rs K m F vs ds → ds[i]? = some d → ∃ v, vs[i]? = some v ∧ R K m F v d
  | _, _, _, _, .nil, e => by simp at e
  | _, _, 0, _, .cons r _, e => by simp at e; subst e; exact ⟨_, rfl, r⟩
  | _, _, i + 1, _, .cons _ t, e => by
    obtain ⟨v, h1, h2⟩ := Rs.get (i := i) t (by simpa using e)
    exact ⟨v, by simpa using h1, h2⟩
theorem Rs.getV : ∀ {vs : List V} {ds : List D} {i : Nat} {v : V}, Rs K m F vs ds → vs[i]? = some v → ∃ d, ds[i]? = some d ∧ R K m F v d
  | _, _, _, _, .nil, e => by simp at e
  | _, _, 0, _, .cons r _, e => by simp at e; subst e; exact ⟨_, rfl, r⟩
  | _, _, i + 1, _, .cons _ t, e => by
    obtain ⟨v, h1, h2⟩ := Rs.getV (i := i) t (by simpa using e)
    exact ⟨v, by simpa using h1, h2⟩
theorem Rs.append : ∀ {vs ws : List V} {ds es : List D}, Rs K m F vs ds → Rs K m F ws es → Rs K m F (vs ++ ws) (ds ++ es)
  | _, _, _, _, .nil, s => s
  | _, _, _, _, .cons r t, s => .cons r (Rs.append t s)
theorem Rs.drop : ∀ (n : Nat) {vs : List V} {ds : List D}, Rs K m F vs ds → Rs K m F (vs.drop n) (ds.drop n)
  | 0, _, _, r => r
  | _ + 1, _, _, .nil => .nil
  | n + 1, _, _, .cons _ t => Rs.drop n t
theorem Rs.take : ∀ (n : Nat) {vs : List V} {ds : List D}, Rs K m F vs ds → Rs K m F (vs.take n) (ds.take n)
  | 0, _, _, _ => .nil
  | _ + 1, _, _, .nil => .nil
  | n + 1, _, _, .cons r t => .cons r (Rs.take n t)
theorem Rs.set {x : V} {d : D} (r : R K m F x d) : ∀ {xs : List V} {us : List D} (i : Nat), Rs K m F xs us → Rs K m F (xs.set i x) (us.set i d)
  | _, _, _, .nil => .nil
  | _, _, 0, .cons _ t => .cons r t
  | _, _, i + 1, .cons q t => .cons q (Rs.set r i t)
end

/-- an object of the store stands in the heap -/
inductive OR (K : PySem.W.Frag) (m : List Addr) (F : Hp) : O → Option HO → Prop
  | lst {xs : List V} {ds : List D} : Rs K m F xs ds → OR K m F (.lst ds) (some (.lst xs))
theorem OR.mono {K : PySem.W.Frag} {m m' : List Addr} {F F' : Hp} (M : Mono m F m' F') {o : O} {h : Option HO} (r : OR K m F o h) : OR K m' F' o h := by
  cases r with
  | lst r => exact .lst (r.mono M)

mutual
/-- all indexes of the store in a value lie below n -/
def D.lo (n : Nat) : D → Bool
  | .ref i => decide (i < n)
  | .tup ds => D.los n ds
  | .lst ds => D.los n ds
  | .lsk ds => D.los n ds
  | .xo _ _ _ ds => D.los n ds
  | _ => true
def D.los (n : Nat) : List D → Bool
  | [] => true
  | d :: ds => D.lo n d && D.los n ds
end
def O.lo (n : Nat) : O → Bool
  | .lst ds => D.los n ds

abbrev NTabs := List (Addr × Str)
def notbl (o : HO) : Prop := ∀ ps, o ≠ .tbl ps
/-- at b nothing stands but a table perhaps -/
def Free (H : Hp) (b : Addr) : Prop := ∀ o, H b = some o → ¬ notbl o
theorem Free.of {H : Hp} {b : Addr} (h : H b = none) : Free H b := fun o e => by rw [h] at e; cases e
/-- the store stands in the heap: m the addresses, F the part that never changes -/
structure Rel (K : PySem.W.Frag) (T : NTabs) (m : List Addr) (F : Hp) (st : St) (H : Hp) : Prop where
  sub : Same F H
  ntb : ∀ b o, F b = some o → notbl o
  len : m.length = st.objs.length
  nd : m.Nodup
  sep : ∀ a ∈ m, F a = none
  obj : ∀ (i : Nat) (o : O) (a : Addr), st.objs[i]? = some o → m[i]? = some a → OR K m F o (H a)
  low : ∀ p ∈ st.fls, p.2 = false → ∀ (i : Nat) (o : O), i < p.1 → st.objs[i]? = some o → o.lo p.1 = true
  tabs : LamX.Tabs T H
theorem OR.there {K : PySem.W.Frag} {m : List Addr} {F : Hp} {o : O} {h : Option HO} (r : OR K m F o h) : ∃ u, h = some u ∧ notbl u := by
  cases r with
  | lst r => exact ⟨_, rfl, fun ps z => by cases z⟩
theorem Rel.there {K : PySem.W.Frag} {T : NTabs} {m : List Addr} {F : Hp} {st : St} {H : Hp} (r : Rel K T m F st H) {a : Addr} (h : a ∈ m) : ∃ u, H a = some u ∧ notbl u := by
  obtain ⟨i, hi, e⟩ := List.getElem_of_mem h
  have hi' : i < st.objs.length := by rw [← r.len]; exact hi
  exact (r.obj i st.objs[i] a (List.getElem?_eq_getElem hi') (by rw [List.getElem?_eq_getElem hi, e])).there

theorem Rel.lst {K : PySem.W.Frag} {T : NTabs} {m : List Addr} {F : Hp} {st : St} {H : Hp} (r : Rel K T m F st H) {a : Addr} (h : a ∈ m) : ∃ xs, H a = some (.lst xs) := by
  obtain ⟨i, hi, e⟩ := List.getElem_of_mem h
  have hi' : i < st.objs.length := by rw [← r.len]; exact hi
  have z := r.obj i st.objs[i] a (List.getElem?_eq_getElem hi') (by rw [List.getElem?_eq_getElem hi, e])
  generalize H a = x, st.objs[i] = y at z
  cases z with
  | lst _ => exact ⟨_, rfl⟩
/-- what a piece of code may do to the heap: only the store's objects change, new ones stand where nothing stood -/
structure Step (m : List Addr) (F H : Hp) (m' : List Addr) (F' H' : Hp) : Prop where
  mono : Mono m F m' F'
  pres : ∀ b o, H b = some o → b ∉ m → notbl o → H' b = some o
  new : ∀ a ∈ m', a ∈ m ∨ Free H a
  newF : ∀ b o, F' b = some o → F b = some o ∨ Free H b ∨ (H b = some o ∧ ∀ xs, o ≠ .lst xs)
theorem Step.refl (m : List Addr) (F H : Hp) : Step m F H m F H := ⟨Mono.refl m F, fun _ _ h _ _ => h, fun _ h => .inl h, fun _ _ h => .inl h⟩
theorem Mono.mem {m m' : List Addr} {F F' : Hp} (M : Mono m F m' F') {a : Addr} (h : a ∈ m) : a ∈ m' := by
  obtain ⟨i, hi, e⟩ := List.getElem_of_mem h
  exact List.mem_of_getElem? (M.ix i a (by rw [List.getElem?_eq_getElem hi, e]))
theorem Step.free {K : PySem.W.Frag} {T : NTabs} {m m1 : List Addr} {F H F1 H1 : Hp} {st1 : St} (s : Step m F H m1 F1 H1) (r : Rel K T m1 F1 st1 H1) {b : Addr} (f : Free H1 b) : Free H b := fun o e n => by
  by_cases hb : b ∈ m
  · obtain ⟨u, e1, n1⟩ := r.there (s.mono.mem hb)
    exact f u e1 n1
  · exact f o (s.pres b o e hb n) n
theorem Step.trans {K : PySem.W.Frag} {T : NTabs} {m m1 m2 : List Addr} {F H F1 H1 F2 H2 : Hp} {st1 : St} (s : Step m F H m1 F1 H1) (r : Rel K T m1 F1 st1 H1) (t : Step m1 F1 H1 m2 F2 H2) : Step m F H m2 F2 H2 := by
  refine ⟨s.mono.trans t.mono, fun b o e hb n => t.pres b o (s.pres b o e hb n) (fun h1 => ?_) n, fun a h => ?_, fun b o e => ?_⟩
  · rcases s.new b h1 with z | z
    · exact hb z
    · exact z o e n
  · rcases t.new a h with z | z
    · exact s.new a z
    · exact .inr (s.free r z)
  · rcases t.newF b o e with z | z | ⟨z, nl⟩
    · exact s.newF b o z
    · exact .inr (.inl (s.free r z))
    · by_cases hf : Free H b
      · exact .inr (.inl hf)
      · refine .inr (.inr ⟨?_, nl⟩)
        cases q : H b with
        | none => exact absurd (Free.of q) hf
        | some u =>
          have hn : notbl u := fun ps z => hf fun o e n => by rw [q] at e; cases e; exact n ps z
          have hb : b ∉ m := fun hm => by
            obtain ⟨xs, e1⟩ := r.lst (s.mono.mem hm)
            rw [z] at e1; exact nl _ (Option.some.inj e1)
          have := s.pres b u q hb hn
          rw [z] at this; exact this.symm
end MP

set_option maxRecDepth 100000
/-! MP2: readings by the interpreter's outcomes, and the rules for expressions. -/
namespace MP
open PySem PySem.Spec PyProof.Rows L2

/-- what is known of the text's classes of exceptions: where class c stands, the names of its fields -/
structure XG where
  at_ : Nat → Addr
  fs : Nat → List Str

/-- the exception of class c with such fields, as it flies -/
def XR (g : XG) (K : PySem.W.Frag) (m : List Addr) (F : Hp) (c : Nat) (ds : List D) (cls : Value) (dx : Option Addr) (H : Hp) : Prop :=
  cls = .ref (g.at_ c) ∧ ((g.fs c = [] ∧ ds = []) ∨ ∃ (d : Addr) (fs : List (Str × V)), dx = some d ∧ H d = some (.xd fs) ∧ d ∉ m ∧ F d = none ∧ (g.fs c).length = ds.length ∧
    ∃ vs : List V, Rs K m F vs ds ∧ ∀ (i : Nat) (f : Str) (v : V), (g.fs c)[i]? = some f → vs[i]? = some v → fs.lookup f = some v)

structure EnvR (K : PySem.W.Frag) (m : List Addr) (F : Hp) (σ : L2.St) (ρ : Env) : Prop where
  len : σ.length = ρ.length
  get : ∀ (i : Nat) (d : D), ρ[i]? = some (some d) → ∃ v, σ[i]? = some (some v) ∧ R K m F v d
theorem EnvR.mono {K : PySem.W.Frag} {m m' : List Addr} {F F' : Hp} {σ : L2.St} {ρ : Env} (e : EnvR K m F σ ρ) (M : Mono m F m' F') : EnvR K m' F' σ ρ :=
  ⟨e.len, fun i d h => let ⟨v, h1, h2⟩ := e.get i d h; ⟨v, h1, h2.mono M⟩⟩

section
variable (K : PySem.W.Frag) (T : NTabs)
/-- what is wanted behind an outcome -/
def Post {α : Type} (m : List Addr) (F H : Hp) (P : α → List Addr → Hp → Hp → Prop) (X : Nat → List D → List Addr → Hp → Hp → Prop) : Out α → Prop
  | .ok a st' => ∀ m' F' H', Step m F H m' F' H' → Rel K T m' F' st' H' → P a m' F' H'
  | .exc c fs st' => ∀ m' F' H', Step m F H m' F' H' → Rel K T m' F' st' H' → X c fs m' F' H'
  | .bad => False
end
abbrev XW (g : XG) (K : PySem.W.Frag) (W : WX) (σ : L2.St) : Nat → List D → List Addr → Hp → Hp → Prop :=
  fun c fs m F H => ∀ cls dx, XR g K m F c fs cls dx H → W cls dx σ H
/-- the setting of a piece of code -/
structure Se where
  g : XG
  T : NTabs
section
variable (S : Se) (X : Cx) (W : WX)
/-- an expression's reading by its outcome -/
def TEof (f : Env → St → Out D) : TE := fun σ H Q => ∃ ρ m F st, EnvR X.K m F σ ρ ∧ Rel X.K S.T m F st H ∧
  Post X.K S.T m F H (fun d m' F' H' => ∀ v, R X.K m' F' v d → Q v H') (XW S.g X.K W σ) (f ρ st)
def TTof (f : Env → St → Out Bool) : TT := fun σ H Q => ∃ ρ m F st, EnvR X.K m F σ ρ ∧ Rel X.K S.T m F st H ∧
  Post X.K S.T m F H (fun b m' F' H' => Q b H') (XW S.g X.K W σ) (f ρ st)
def TAof (f : Env → St → Out (List D)) : TA := fun σ H Q => ∃ ρ m F st, EnvR X.K m F σ ρ ∧ Rel X.K S.T m F st H ∧
  Post X.K S.T m F H (fun ds m' F' H' => ∀ vs, Rs X.K m' F' vs ds → Q vs H') (XW S.g X.K W σ) (f ρ st)
end

/-- a weaker reading -/
theorem _root_.L2.PE.weak {X : Cx} {e : Expr} {t t' : TE} (h : PE X e t) (w : ∀ σ H Q, t' σ H Q → t σ H Q) : PE X e t' := ⟨fun pins s σ H Q I q => h.run pins s σ H Q I (w σ H Q q)⟩
theorem _root_.L2.PT.weak {X : Cx} {e : Expr} {t t' : TT} (h : PT X e t) (w : ∀ σ H Q, t' σ H Q → t σ H Q) : PT X e t' := ⟨fun pins s σ H Q I q => h.run pins s σ H Q I (w σ H Q q)⟩
theorem _root_.L2.PA.weak {X : Cx} {e : List Expr} {t t' : TA} (h : PA X e t) (w : ∀ σ H Q, t' σ H Q → t σ H Q) : PA X e t' := ⟨fun ps pins s σ H Q I q => h.run ps pins s σ H Q I (w σ H Q q)⟩

section
variable {S : Se} {X : Cx} {W : WX}
/-- going on behind an outcome -/
theorem Post.bind {α β : Type} {K : PySem.W.Frag} {T : NTabs} {m : List Addr} {F H : Hp} {P : β → List Addr → Hp → Hp → Prop} {Y : Nat → List D → List Addr → Hp → Hp → Prop} {x : Out α} {f : α → St → Out β}
    (h : Post K T m F H P Y (x.bind f)) : Post K T m F H (fun a m' F' H' => ∃ st', Rel K T m' F' st' H' ∧ Post K T m' F' H' P Y (f a st')) Y x := by
  cases x with
  | ok a st =>
    intro m' F' H' s r
    refine ⟨st, r, ?_⟩
    have h : Post K T m F H P Y (f a st) := h
    cases e : f a st with
    | ok b st2 =>
      rw [e] at h
      exact fun m2 F2 H2 s2 r2 => h m2 F2 H2 (s.trans r s2) r2
    | exc c fs st2 =>
      rw [e] at h
      exact fun m2 F2 H2 s2 r2 => h m2 F2 H2 (s.trans r s2) r2
    | bad => rw [e] at h; exact h
  | exc c fs st => exact h
  | bad => exact h
theorem Post.imp {α : Type} {K : PySem.W.Frag} {T : NTabs} {m : List Addr} {F H : Hp} {P P' : α → List Addr → Hp → Hp → Prop} {Y Y' : Nat → List D → List Addr → Hp → Hp → Prop} {x : Out α}
    (h : Post K T m F H P Y x) (hp : ∀ a m' F' H', Step m F H m' F' H' → P a m' F' H' → P' a m' F' H') (hy : ∀ c fs m' F' H', Y c fs m' F' H' → Y' c fs m' F' H') : Post K T m F H P' Y' x := by
  cases x with
  | ok a st => exact fun m' F' H' s r => hp _ _ _ _ s (h m' F' H' s r)
  | exc c fs st => exact fun m' F' H' s r => hy _ _ _ _ _ (h m' F' H' s r)
  | bad => exact h
/-- nothing done -/
theorem Post.now {α : Type} {K : PySem.W.Frag} {T : NTabs} {m : List Addr} {F H : Hp} {P : α → List Addr → Hp → Hp → Prop} {Y : Nat → List D → List Addr → Hp → Hp → Prop} {a : α} {st : St}
    (h : Post K T m F H P Y (.ok a st)) (r : Rel K T m F st H) : P a m F H := h m F H (Step.refl m F H) r

/-! ### names, constants -/
def fVar (i : Nat) : Env → St → Out D := fun ρ st => match ρ[i]? with
  | some (some d) => .ok d st
  | _ => .bad
theorem s_var {i : Nat} {x : Str} {pos : Pos} (hN : X.N[i]? = some x) (hv : Vis X.env.scope x) (hd : (x == ("__debug__" : Str)) = false) (hcd : (x == ("__classdict__" : Str)) = false) : PE X (.Name x pos) (TEof S X W (fVar i)) := by
  refine (pe_var hN hv hd hcd).weak fun σ H Q ⟨ρ, m, F, st, E, r, h⟩ => ?_
  unfold fVar at h
  split at h
  · rename_i d e
    obtain ⟨v, h1, h2⟩ := E.get i d e
    exact ⟨v, h1, h.now r v h2⟩
  · exact h.elim
def fC (d : D) : Env → St → Out D := fun _ st => .ok d st
theorem s_c {e : Expr} {v : V} {d : D} (h : PE X e (tC v)) (hr : ∀ m F, R X.K m F v d) : PE X e (TEof S X W (fC d)) :=
  h.weak fun σ H Q ⟨ρ, m, F, st, E, r, q⟩ => Post.now (P := fun d m' F' H' => ∀ v, R X.K m' F' v d → Q v H') q r v (hr m F)
theorem s_int {i : Int} {j pos} : PE X (.Constant (.int i) j pos) (TEof S X W (fC (.int i))) := s_c pe_int fun _ _ => .int i
theorem s_bl {b : Bool} {j pos} : PE X (.Constant (.bool b) j pos) (TEof S X W (fC (.bl b))) := s_c pe_bl fun _ _ => .bl b
theorem s_non {j pos} : PE X (.Constant .none j pos) (TEof S X W (fC .non)) := s_c pe_non fun _ _ => .non
theorem s_str {x : Str} {j pos} : PE X (.Constant (.str x) j pos) (TEof S X W (fC (.str x.cps.toList))) := s_c pe_str fun _ _ => .str x.cps.toList

/-! ### argument lists -/
def fNil : Env → St → Out (List D) := fun _ st => .ok [] st
def fCons (f : Env → St → Out D) (g : Env → St → Out (List D)) : Env → St → Out (List D) := fun ρ st => (f ρ st).bind fun d st1 => (g ρ st1).bind fun ds st2 => .ok (d :: ds) st2
theorem s_nil : PA X [] (TAof S X W fNil) := pa_nil.weak fun σ H Q ⟨ρ, m, F, st, E, r, h⟩ => Post.now (P := fun ds m' F' H' => ∀ vs, Rs X.K m' F' vs ds → Q vs H') h r [] .nil
theorem s_cons {e : Expr} {es : List Expr} {f : Env → St → Out D} {g : Env → St → Out (List D)} (h1 : PE X e (TEof S X W f)) (h2 : PA X es (TAof S X W g)) (hs : starEach (e :: es) X.env = (false, eval e X.env) :: starEach es X.env) :
    PA X (e :: es) (TAof S X W (fCons f g)) := by
  refine (pa_cons h1 h2 hs).weak fun σ H Q ⟨ρ, m, F, st, E, r, h⟩ => ?_
  refine ⟨ρ, m, F, st, E, r, (Post.bind h).imp (fun d m1 F1 H1 s1 q v rv => ?_) fun _ _ _ _ _ y => y⟩
  obtain ⟨st1, r1, q⟩ := q
  refine ⟨ρ, m1, F1, st1, E.mono s1.mono, r1, (Post.bind q).imp (fun ds m2 F2 H2 s2 q2 vs rvs => ?_) fun _ _ _ _ _ y => y⟩
  obtain ⟨st2, r2, q2⟩ := q2
  exact Post.now (P := fun ds m' F' H' => ∀ vs, Rs X.K m' F' vs ds → Q vs H') q2 r2 (v :: vs) (.cons (rv.mono s2.mono) rvs)

/-! ### two operands -/
def f2 (op : D → D → St → Out D) (f g : Env → St → Out D) : Env → St → Out D := fun ρ st => (f ρ st).bind fun x st1 => (g ρ st1).bind fun y st2 => op x y st2
abbrev PD (S : Se) (X : Cx) (W : WX) (σ : L2.St) (m : List Addr) (F H : Hp) (Q : VK) (o : Out D) : Prop := Post X.K S.T m F H (fun d m' F' H' => ∀ v, R X.K m' F' v d → Q v H') (XW S.g X.K W σ) o
/-- an operation of two values does what o says -/
def Op2 (S : Se) (X : Cx) (W : WX) (sem : Value → Value → Sem Value) (o : D → D → St → Out D) : Prop :=
  ∃ r2 : R2, OpR X sem r2 ∧ ∀ σ m F st H Q v w x y, Rel X.K S.T m F st H → R X.K m F v x → R X.K m F w y → PD S X W σ m F H Q (o x y st) → r2 v w H Q
theorem i_2 {r2 : R2} {f g : Env → St → Out D} {op : D → D → St → Out D}
    (ho : ∀ σ m F st H Q v w x y, Rel X.K S.T m F st H → R X.K m F v x → R X.K m F w y → PD S X W σ m F H Q (op x y st) → r2 v w H Q) :
    ∀ σ H Q, TEof S X W (f2 op f g) σ H Q → tOp r2 (TEof S X W f) (TEof S X W g) σ H Q := by
  intro σ H Q ⟨ρ, m, F, st, E, r, h⟩
  refine ⟨ρ, m, F, st, E, r, (Post.bind h).imp (fun x m1 F1 H1 s1 q v rv => ?_) fun _ _ _ _ _ y => y⟩
  obtain ⟨st1, r1, q⟩ := q
  refine ⟨ρ, m1, F1, st1, E.mono s1.mono, r1, (Post.bind q).imp (fun y m2 F2 H2 s2 q2 w rw => ?_) fun _ _ _ _ _ y => y⟩
  obtain ⟨st2, r2', q2⟩ := q2
  exact ho σ m2 F2 st2 H2 Q v w x y r2' (rv.mono s2.mono) rw q2
theorem s_bin {a b : Expr} {op : Operator} {pos : Pos} {f g : Env → St → Out D} {o : D → D → St → Out D} (h : Op2 S X W (binaryOp op) o) (ha : PE X a (TEof S X W f)) (hb : PE X b (TEof S X W g)) : PE X (.BinOp a op b pos) (TEof S X W (f2 o f g)) := by
  obtain ⟨r2, h1, h2⟩ := h
  exact (pe_op h1 ha hb).weak (i_2 h2)
/-- a test by a bool -/
def fB (f : Env → St → Out D) : Env → St → Out Bool := fun ρ st => (f ρ st).bind fun d st1 => match d with
  | .bl b => .ok b st1
  | _ => .bad
theorem tt_te {f : Env → St → Out D} {σ : L2.St} {H : Hp} {Q : Bool → Hp → Prop} (h : TTof S X W (fB f) σ H Q) : TEof S X W f σ H fun x H' => ∃ k, x = .bl k ∧ Q k H' := by
  obtain ⟨ρ, m, F, st, E, r, h⟩ := h
  refine ⟨ρ, m, F, st, E, r, (Post.bind h).imp (fun d m1 F1 H1 s1 q v rv => ?_) fun _ _ _ _ _ y => y⟩
  obtain ⟨st1, r1, q⟩ := q
  cases rv with
  | bl b => exact ⟨b, rfl, q.now r1⟩
  | _ => exact q.elim
theorem s_cmp {a b : Expr} {op : CmpOp} {pos : Pos} {f g : Env → St → Out D} {o : D → D → St → Out D} (h : Op2 S X W (compareOp op) o) (hm : behindInMarks op b = false) (ha : PE X a (TEof S X W f)) (hb : PE X b (TEof S X W g)) :
    PE X (.Compare a [op] [b] pos) (TEof S X W (f2 o f g)) := by
  obtain ⟨r2, h1, h2⟩ := h
  exact (pe_cmpR h1 ha hb hm).weak (i_2 h2)
theorem s_cmpT {a b : Expr} {op : CmpOp} {pos : Pos} {f g : Env → St → Out D} {o : D → D → St → Out D} (h : Op2 S X W (compareOp op) o) (hm : behindInMarks op b = false) (ha : PE X a (TEof S X W f)) (hb : PE X b (TEof S X W g)) :
    PT X (.Compare a [op] [b] pos) (TTof S X W (fB (f2 o f g))) := by
  obtain ⟨r2, h1, h2⟩ := h
  exact (pt_cmpR h1 ha hb hm).weak fun σ H Q q => i_2 h2 σ H _ (tt_te q)
/-- a < b < c -/
def fChain (o o' : D → D → St → Out D) (f g k : Env → St → Out D) : Env → St → Out D := fun ρ st => (f ρ st).bind fun x st1 => (g ρ st1).bind fun y st2 => (o x y st2).bind fun z st3 => match z with
  | .bl true => (k ρ st3).bind fun w st4 => o' y w st4
  | .bl false => .ok (.bl false) st3
  | _ => .bad
theorem i_chain {r r' : R2} {f g k : Env → St → Out D} {o o' : D → D → St → Out D}
    (ho : ∀ σ m F st H Q v w x y, Rel X.K S.T m F st H → R X.K m F v x → R X.K m F w y → PD S X W σ m F H Q (o x y st) → r v w H Q)
    (ho' : ∀ σ m F st H Q v w x y, Rel X.K S.T m F st H → R X.K m F v x → R X.K m F w y → PD S X W σ m F H Q (o' x y st) → r' v w H Q) :
    ∀ σ H Q, TEof S X W (fChain o o' f g k) σ H Q → tChain r r' (TEof S X W f) (TEof S X W g) (TEof S X W k) σ H Q := by
  intro σ H Q ⟨ρ, m, F, st, E, rl, h⟩
  refine ⟨ρ, m, F, st, E, rl, (Post.bind h).imp (fun x m1 F1 H1 s1 q v rv => ?_) fun _ _ _ _ _ y => y⟩
  obtain ⟨st1, r1, q⟩ := q
  refine ⟨ρ, m1, F1, st1, E.mono s1.mono, r1, (Post.bind q).imp (fun y m2 F2 H2 s2 q2 w rw => ?_) fun _ _ _ _ _ y => y⟩
  obtain ⟨st2, r2', q2⟩ := q2
  refine ho σ m2 F2 st2 H2 _ v w x y r2' (rv.mono s2.mono) rw ((Post.bind q2).imp (fun z m3 F3 H3 s3 q3 u ru => ?_) fun _ _ _ _ _ y => y)
  obtain ⟨st3, r3, q3⟩ := q3
  cases ru with
  | bl b =>
    refine ⟨b, rfl, ?_⟩
    cases b with
    | true =>
      refine iteT ⟨ρ, m3, F3, st3, (E.mono s1.mono).mono (s2.mono.trans s3.mono), r3, (Post.bind q3).imp (fun t m4 F4 H4 s4 q4 w' rw' => ?_) fun _ _ _ _ _ y => y⟩
      obtain ⟨st4, r4, q4⟩ := q4
      exact ho' σ m4 F4 st4 H4 Q w w' y t r4 ((rw.mono s3.mono).mono s4.mono) rw' q4
    | false => exact iteF (Post.now (P := fun d m' F' H' => ∀ v, R X.K m' F' v d → Q v H') q3 r3 _ (.bl false))
  | _ => exact q3.elim
theorem s_chain {a b c : Expr} {op op' : CmpOp} {pos : Pos} {f g k : Env → St → Out D} {o o' : D → D → St → Out D} (h : Op2 S X W (compareOp op) o) (h' : Op2 S X W (compareOp op') o') (hm : lastMarks [op, op'] [b, c] = false)
    (ha : PE X a (TEof S X W f)) (hb : PE X b (TEof S X W g)) (hc : PE X c (TEof S X W k)) : PE X (.Compare a [op, op'] [b, c] pos) (TEof S X W (fChain o o' f g k)) := by
  obtain ⟨r2, h1, h2⟩ := h
  obtain ⟨r2', h1', h2'⟩ := h'
  exact (pe_chain h1 h1' ha hb hc hm).weak (i_chain h2 h2')
theorem s_chainT {a b c : Expr} {op op' : CmpOp} {pos : Pos} {f g k : Env → St → Out D} {o o' : D → D → St → Out D} (h : Op2 S X W (compareOp op) o) (h' : Op2 S X W (compareOp op') o') (hm : lastMarks [op, op'] [b, c] = false)
    (ha : PE X a (TEof S X W f)) (hb : PE X b (TEof S X W g)) (hc : PE X c (TEof S X W k)) : PT X (.Compare a [op, op'] [b, c] pos) (TTof S X W (fB (fChain o o' f g k))) := by
  obtain ⟨r2, h1, h2⟩ := h
  obtain ⟨r2', h1', h2'⟩ := h'
  exact (pt_chain h1 h1' ha hb hc hm).weak fun σ H Q q => i_chain h2 h2' σ H _ (tt_te q)

/-! ### tests -/
/-- any expression whose value is a bool, as a test -/
theorem s_val {a : Expr} {f : Env → St → Out D} (ha : PE X a (TEof S X W f)) (he : ∀ whole, isTrue a X.env whole = (do let v ← whole; standAt a.pos; holding [v] (truthy v))) : PT X a (TTof S X W (fB f)) :=
  (pt_val ha he).weak fun σ H Q q => tt_te q
def fNotT (f : Env → St → Out Bool) : Env → St → Out Bool := fun ρ st => (f ρ st).bind fun b st1 => .ok (!b) st1
theorem s_notT {a : Expr} {pos : Pos} {f : Env → St → Out Bool} (ha : PT X a (TTof S X W f)) : PT X (.UnaryOp .Not a pos) (TTof S X W (fNotT f)) := by
  refine (pt_not ha).weak fun σ H Q ⟨ρ, m, F, st, E, r, h⟩ => ⟨ρ, m, F, st, E, r, (Post.bind h).imp (fun b m1 F1 H1 s1 q => ?_) fun _ _ _ _ _ y => y⟩
  obtain ⟨st1, r1, q⟩ := q
  exact Post.now (P := fun b m' F' H' => Q b H') q r1
def fAndT (f g : Env → St → Out Bool) : Env → St → Out Bool := fun ρ st => (f ρ st).bind fun b st1 => if b = true then g ρ st1 else .ok false st1
def fOrT (f g : Env → St → Out Bool) : Env → St → Out Bool := fun ρ st => (f ρ st).bind fun b st1 => if b = true then .ok true st1 else g ρ st1
theorem _root_.L2.PW.weak {X : Cx} {e : Expr} {t t' : TT} (h : PW X e t) (w : ∀ σ H Q, t' σ H Q → t σ H Q) : PW X e t' := ⟨fun wh pins s σ H Q I q => h.run wh pins s σ H Q I (w σ H Q q)⟩
theorem s_andT {a b : Expr} {rest : List Expr} {pos : Pos} {f g : Env → St → Out Bool} (ha : PT X a (TTof S X W f)) (hb : PW X (.BoolOp .And (b :: rest) pos) (TTof S X W g)) : PW X (.BoolOp .And (a :: b :: rest) pos) (TTof S X W (fAndT f g)) := by
  refine (pw_and ha hb).weak fun σ H Q ⟨ρ, m, F, st, E, r, h⟩ => ⟨ρ, m, F, st, E, r, (Post.bind h).imp (fun b m1 F1 H1 s1 q => ?_) fun _ _ _ _ _ y => y⟩
  obtain ⟨st1, r1, q⟩ := q
  cases b with
  | true => exact iteT ⟨ρ, m1, F1, st1, E.mono s1.mono, r1, q⟩
  | false => exact iteF (Post.now (P := fun b m' F' H' => Q b H') q r1)
theorem s_orT {a b : Expr} {rest : List Expr} {pos : Pos} {f g : Env → St → Out Bool} (ha : PT X a (TTof S X W f)) (hb : PW X (.BoolOp .Or (b :: rest) pos) (TTof S X W g)) : PW X (.BoolOp .Or (a :: b :: rest) pos) (TTof S X W (fOrT f g)) := by
  refine (pw_or ha hb).weak fun σ H Q ⟨ρ, m, F, st, E, r, h⟩ => ⟨ρ, m, F, st, E, r, (Post.bind h).imp (fun b m1 F1 H1 s1 q => ?_) fun _ _ _ _ _ y => y⟩
  obtain ⟨st1, r1, q⟩ := q
  cases b with
  | true => exact iteT (Post.now (P := fun b m' F' H' => Q b H') q r1)
  | false => exact iteF ⟨ρ, m1, F1, st1, E.mono s1.mono, r1, q⟩
/-- and, or, not, .. if .. else .. as values -/
def fAnd (f g : Env → St → Out D) : Env → St → Out D := fun ρ st => (f ρ st).bind fun d st1 => match d with
  | .bl true => g ρ st1
  | .bl false => .ok (.bl false) st1
  | _ => .bad
def fOr (f g : Env → St → Out D) : Env → St → Out D := fun ρ st => (f ρ st).bind fun d st1 => match d with
  | .bl true => .ok (.bl true) st1
  | .bl false => g ρ st1
  | _ => .bad
def fNot (f : Env → St → Out D) : Env → St → Out D := fun ρ st => (f ρ st).bind fun d st1 => match d with
  | .bl b => .ok (.bl !b) st1
  | _ => .bad
theorem s_and {a b : Expr} {rest : List Expr} {pos : Pos} {f g : Env → St → Out D} (ha : PE X a (TEof S X W f)) (hb : PE X (.BoolOp .And (b :: rest) pos) (TEof S X W g)) : PE X (.BoolOp .And (a :: b :: rest) pos) (TEof S X W (fAnd f g)) := by
  refine (pe_and ha hb).weak fun σ H Q ⟨ρ, m, F, st, E, r, h⟩ => ⟨ρ, m, F, st, E, r, (Post.bind h).imp (fun d m1 F1 H1 s1 q v rv => ?_) fun _ _ _ _ _ y => y⟩
  obtain ⟨st1, r1, q⟩ := q
  cases rv with
  | bl b =>
    refine ⟨b, rfl, ?_⟩
    cases b with
    | true => exact iteT ⟨ρ, m1, F1, st1, E.mono s1.mono, r1, q⟩
    | false => exact iteF (Post.now (P := fun d m' F' H' => ∀ v, R X.K m' F' v d → Q v H') q r1 _ (.bl false))
  | _ => exact q.elim
theorem s_or {a b : Expr} {rest : List Expr} {pos : Pos} {f g : Env → St → Out D} (ha : PE X a (TEof S X W f)) (hb : PE X (.BoolOp .Or (b :: rest) pos) (TEof S X W g)) : PE X (.BoolOp .Or (a :: b :: rest) pos) (TEof S X W (fOr f g)) := by
  refine (pe_or ha hb).weak fun σ H Q ⟨ρ, m, F, st, E, r, h⟩ => ⟨ρ, m, F, st, E, r, (Post.bind h).imp (fun d m1 F1 H1 s1 q v rv => ?_) fun _ _ _ _ _ y => y⟩
  obtain ⟨st1, r1, q⟩ := q
  cases rv with
  | bl b =>
    refine ⟨b, rfl, ?_⟩
    cases b with
    | false => exact iteF ⟨ρ, m1, F1, st1, E.mono s1.mono, r1, q⟩
    | true => exact iteT (Post.now (P := fun d m' F' H' => ∀ v, R X.K m' F' v d → Q v H') q r1 _ (.bl true))
  | _ => exact q.elim
theorem s_not {a : Expr} {pos : Pos} {f : Env → St → Out D} (ha : PE X a (TEof S X W f)) : PE X (.UnaryOp .Not a pos) (TEof S X W (fNot f)) := by
  refine (pe_not ha).weak fun σ H Q ⟨ρ, m, F, st, E, r, h⟩ => ⟨ρ, m, F, st, E, r, (Post.bind h).imp (fun d m1 F1 H1 s1 q v rv => ?_) fun _ _ _ _ _ y => y⟩
  obtain ⟨st1, r1, q⟩ := q
  cases rv with
  | bl b => exact ⟨b, rfl, Post.now (P := fun d m' F' H' => ∀ v, R X.K m' F' v d → Q v H') q r1 _ (.bl _)⟩
  | _ => exact q.elim
def fIf (c : Env → St → Out Bool) (f g : Env → St → Out D) : Env → St → Out D := fun ρ st => (c ρ st).bind fun b st1 => if b = true then f ρ st1 else g ρ st1
theorem s_if {c a b : Expr} {pos : Pos} {fc : Env → St → Out Bool} {f g : Env → St → Out D} (hc : PT X c (TTof S X W fc)) (ha : PE X a (TEof S X W f)) (hb : PE X b (TEof S X W g)) : PE X (.IfExp c a b pos) (TEof S X W (fIf fc f g)) := by
  refine (pe_ifExp hc ha hb).weak fun σ H Q ⟨ρ, m, F, st, E, r, h⟩ => ⟨ρ, m, F, st, E, r, (Post.bind h).imp (fun b m1 F1 H1 s1 q => ?_) fun _ _ _ _ _ y => y⟩
  obtain ⟨st1, r1, q⟩ := q
  cases b with
  | true => exact iteT ⟨ρ, m1, F1, st1, E.mono s1.mono, r1, q⟩
  | false => exact iteF ⟨ρ, m1, F1, st1, E.mono s1.mono, r1, q⟩
end
end MP

set_option maxRecDepth 100000
set_option maxHeartbeats 1000000
/-! MP3: displays, arithmetic, comparisons. -/
namespace MP
open PySem PySem.Spec PyProof.Rows L2


theorem lim_le {n : Nat} (h : n ≤ 16777216) : n ≤ sizeLine := by rw [sizeLine_eq]; exact h

/-! ### new things that never change -/
section
variable {K : PySem.W.Frag} {T : NTabs} {m : List Addr} {F H : Hp} {st : St}
theorem Rel.noF (r : Rel K T m F st H) {p : Addr} (hp : H p = none) : F p = none := by
  cases e : F p with
  | none => rfl
  | some o => rw [r.sub p o e] at hp; cases hp
theorem Rel.notin (r : Rel K T m F st H) {p : Addr} (hp : H p = none) : p ∉ m := fun h => by
  obtain ⟨u, e, _⟩ := r.there h
  rw [e] at hp; cases hp
theorem same_upd {H : Hp} {p : Addr} (hp : H p = none) (o : HO) : Same H (upd H p o) := fun b u q => by rw [upd_ne (ne_of_none q hp)]; exact q
theorem Rel.frz (r : Rel K T m F st H) {p : Addr} {o : HO} (hp : H p = none) (hn : notbl o) : Step m F H m (upd F p o) (upd H p o) ∧ Rel K T m (upd F p o) st (upd H p o) := by
  have hF := r.noF hp
  have M : Mono m F m (upd F p o) := ⟨same_upd hF o, fun _ _ h => h⟩
  refine ⟨⟨M, fun b u e _ _ => same_upd hp o b u e, fun _ h => .inl h, fun b u e => ?_⟩, ?_⟩
  · by_cases hb : b = p
    · subst hb; exact .inr (.inl (.of hp))
    · rw [upd_ne hb] at e; exact .inl e
  · refine ⟨fun b u e => ?_, fun b u e => ?_, r.len, r.nd, fun a ha => ?_, fun i u a h1 h2 => ?_, r.low, r.tabs.ext (same_upd hp o)⟩
    · by_cases hb : b = p
      · subst hb; rw [upd_same] at e ⊢; exact e
      · rw [upd_ne hb] at e ⊢; exact r.sub b u e
    · by_cases hb : b = p
      · subst hb; rw [upd_same] at e; cases e; exact hn
      · rw [upd_ne hb] at e; exact r.ntb b u e
    · have : a ≠ p := fun z => r.notin hp (z ▸ ha)
      rw [upd_ne this]; exact r.sep a ha
    · have : a ≠ p := fun z => r.notin hp (z ▸ List.mem_of_getElem? h2)
      rw [upd_ne this]; exact (r.obj i u a h1 h2).mono M
end
theorem ntb_lst (xs : List V) : notbl (.lst xs) := fun _ z => by cases z
theorem ntb_tup (xs : List V) : notbl (.tup xs) := fun _ z => by cases z

section
variable {S : Se} {X : Cx} {W : WX} {m : List Addr} {F H : Hp} {st : St} {σ : L2.St}
/-- a new tuple, a new list of what is known -/
theorem new_tup {Q : VK} {xs : List V} {ds : List D} {Y} (r : Rel X.K S.T m F st H) (rs : Rs X.K m F xs ds) (h : Post X.K S.T m F H (fun d m' F' H' => ∀ v, R X.K m' F' v d → Q v H') Y (.ok (.tup ds) st)) :
    ∀ p, H p = none → Q (.ref p) (upd H p (.tup xs)) := fun p hp => by
  obtain ⟨s, r'⟩ := r.frz hp (ntb_tup xs)
  exact h _ _ _ s r' _ (.tup (SqT.of upd_same) (rs.mono s.mono))
theorem new_lst {Q : VK} {xs : List V} {ds : List D} {Y} (r : Rel X.K S.T m F st H) (rs : Rs X.K m F xs ds) (h : Post X.K S.T m F H (fun d m' F' H' => ∀ v, R X.K m' F' v d → Q v H') Y (.ok (.lst ds) st)) :
    ∀ p, H p = none → Q (.ref p) (upd H p (.lst xs)) := fun p hp => by
  obtain ⟨s, r'⟩ := r.frz hp (ntb_lst xs)
  exact h _ _ _ s r' _ (.lst upd_same (rs.mono s.mono))

def fTup (g : Env → St → Out (List D)) : Env → St → Out D := fun ρ st => (g ρ st).bind fun ds st1 => if ds.length ≤ 16777216 then .ok (.tup ds) st1 else .bad
def fLst (g : Env → St → Out (List D)) : Env → St → Out D := fun ρ st => (g ρ st).bind fun ds st1 => if ds.length ≤ 16777216 then .ok (.lst ds) st1 else .bad
theorem s_tup {es : List Expr} {k : Nat} {pos : Pos} {g : Env → St → Out (List D)} (h : PA X es (TAof S X W g)) : PE X (.Tuple es k pos) (TEof S X W (fTup g)) := by
  refine (pe_tup h).weak fun σ H Q ⟨ρ, m, F, st, E, r, q⟩ => ⟨ρ, m, F, st, E, r, (Post.bind q).imp (fun ds m1 F1 H1 s1 q vs rv => ?_) fun _ _ _ _ _ y => y⟩
  obtain ⟨st1, r1, q⟩ := q
  split at q
  · rename_i hl
    exact ⟨by rw [rv.length]; exact lim_le hl, new_tup r1 rv q⟩
  · exact q.elim
theorem s_lst {es : List Expr} {pos : Pos} {g : Env → St → Out (List D)} (h : PA X es (TAof S X W g)) : PE X (.List es pos) (TEof S X W (fLst g)) := by
  refine (pe_lst h).weak fun σ H Q ⟨ρ, m, F, st, E, r, q⟩ => ⟨ρ, m, F, st, E, r, (Post.bind q).imp (fun ds m1 F1 H1 s1 q vs rv => ?_) fun _ _ _ _ _ y => y⟩
  obtain ⟨st1, r1, q⟩ := q
  split at q
  · rename_i hl
    exact ⟨by rw [rv.length]; exact lim_le hl, new_lst r1 rv q⟩
  · exact q.elim

/-! ### what stands behind a list's value -/
def lstOf (st : St) : D → Option (List D)
  | .lst ds => some ds
  | .ref i => match st.objs[i]? with
    | some (.lst ds) => some ds
    | _ => none
  | _ => none
theorem lst_of {K : PySem.W.Frag} {T : NTabs} {d : D} {ds : List D} {v : V} (r : Rel K T m F st H) (rv : R K m F v d) (h : lstOf st d = some ds) : ∃ a xs, v = .ref a ∧ H a = some (.lst xs) ∧ Rs K m F xs ds := by
  cases rv with
  | lst e rs => exact ⟨_, _, rfl, r.sub _ _ e, by cases h; exact rs⟩
  | ref e =>
    rename_i i a
    cases q : st.objs[i]? with
    | none => simp [lstOf, q] at h
    | some o =>
      have z := r.obj i o a q e
      generalize hh : H a = ha at z
      cases z with
      | lst rs =>
        simp only [lstOf, q, Option.some.injEq] at h
        subst h
        exact ⟨a, _, rfl, hh, rs⟩
  | _ => simp [lstOf] at h
/-- the items of a tuple or a list, wherever it stands -/
def seqOf (st : St) : D → Option (List D)
  | .tup ds => some ds
  | .lsk ds => some ds
  | d => lstOf st d
theorem seq_of {K : PySem.W.Frag} {T : NTabs} {d : D} {ds : List D} {v : V} (r : Rel K T m F st H) (rv : R K m F v d) (h : seqOf st d = some ds) : ∃ a xs, v = .ref a ∧ (SqL K H a xs ∨ SqT K H a xs) ∧ Rs K m F xs ds := by
  have go : lstOf st d = some ds → ∃ a xs, v = .ref a ∧ (SqL K H a xs ∨ SqT K H a xs) ∧ Rs K m F xs ds := fun h => by
    obtain ⟨a, xs, e, h1, h2⟩ := lst_of r rv h
    exact ⟨a, xs, e, .inl (SqL.of h1), h2⟩
  cases rv with
  | tup e rs => exact ⟨_, _, rfl, .inr (r.sub.sqt e), by cases h; exact rs⟩
  | lsk e rs => exact ⟨_, _, rfl, .inl (r.sub.seq e), by cases h; exact rs⟩
  | _ => exact go h

/-! ### arithmetic -/
def mk (s : List Nat) : Str := ⟨s.toArray⟩
theorem mk_len (s : List Nat) : (mk s).length = s.length := by simp [mk, Str.length]
theorem mk_app (a b : List Nat) : mk a ++ mk b = mk (a ++ b) := by
  show Str.append (mk a) (mk b) = mk (a ++ b)
  simp [mk, Str.append]
def opAdd : D → D → St → Out D := fun x y st => match x, y with
  | .int i, .int j => .ok (.int (i + j)) st
  | .str a, .str b => if a.length + b.length ≤ 16777216 then .ok (.str (a ++ b)) st else .bad
  | .tup a, .tup b => if a.isEmpty = false ∧ a.length + b.length ≤ 16777216 then .ok (.tup (a ++ b)) st else .bad
  | x, y => match lstOf st x, lstOf st y with
    | some a, some b => if a.length + b.length ≤ 16777216 then .ok (.lst (a ++ b)) st else .bad
    | _, _ => .bad
theorem o_add : Op2 S X W (binaryOp .Add) opAdd := by
  refine ⟨_, op_add.or (op_add_str.or (op_catT.or op_cat)), fun σ m F st H Q v w x y r rx ry h => ?_⟩
  unfold opAdd at h
  split at h
  · cases rx; cases ry
    exact .inl ⟨_, _, rfl, rfl, h.now r _ (.int _)⟩
  · split at h
    · rename_i hl
      cases rx; cases ry
      refine .inr (.inl ⟨_, _, rfl, rfl, ?_, ?_⟩)
      · show (mk _).length + (mk _).length ≤ _
        rw [mk_len, mk_len]; exact lim_le hl
      · show Q (.str (mk _ ++ mk _)) H
        rw [mk_app]; exact h.now r _ (.str _)
    · exact h.elim
  · split at h
    · rename_i hl
      cases rx with | tup e1 r1 =>
      cases ry with | tup e2 r2 =>
      rename_i a xs b ys
      refine .inr (.inr (.inl ⟨_, _, _, _, rfl, rfl, r.sub.sqt e1, r.sub.sqt e2, fun z => ?_, ?_, fun z => ?_, fun _ => ?_⟩))
      · subst z; cases r1; simp at hl
      · rw [r1.length, r2.length]; exact lim_le hl.2
      · subst z; cases r2
        have := h.now r (.ref _) (.tup e1 (by rw [List.append_nil]; exact r1))
        exact this
      · exact new_tup r (r1.append r2) h
    · exact h.elim
  · split at h
    · rename_i h1 h2
      split at h
      · rename_i hl
        obtain ⟨a, xs, rfl, e1, r1⟩ := lst_of r rx h1
        obtain ⟨b, ys, rfl, e2, r2⟩ := lst_of r ry h2
        refine .inr (.inr (.inr ⟨_, _, _, _, rfl, rfl, e1, e2, ?_, ?_⟩))
        · rw [r1.length, r2.length]; exact lim_le hl
        · exact new_lst r (r1.append r2) h
      · exact h.elim
    · exact h.elim
/-- an operator of two ints -/
def opI (c : Int → Int → Bool) (f : Int → Int → Int) : D → D → St → Out D := fun x y st => match x, y with
  | .int i, .int j => if c i j = true then .ok (.int (f i j)) st else .bad
  | _, _ => .bad
theorem o_opI {sem : Value → Value → Sem Value} {c : Int → Int → Bool} {p : Int → Int → Int} {C : Int → Int → Prop} (ho : OpR X sem (rI C fun i j => .int (p i j))) (hc : ∀ i j, c i j = true → C i j) : Op2 S X W sem (opI c p) := by
  refine ⟨_, ho, fun σ m F st H Q v w x y r rx ry h => ?_⟩
  unfold opI at h
  split at h
  · split at h
    · rename_i i j hcc
      cases rx; cases ry
      exact ⟨i, j, rfl, rfl, hc i j hcc, h.now r _ (.int _)⟩
    · exact h.elim
  · exact h.elim
theorem rI_of {p : Int → Int → Int} {f : Value → Value → Sem Value} (h : OpR X f (rI0 fun i j => .int (p i j))) : OpR X f (rI (fun _ _ => True) fun i j => .int (p i j)) := fun pins s σ H x y v u Q I rx ry ⟨i, j, e1, e2, _, q⟩ => h pins s σ H x y v u Q I rx ry ⟨i, j, e1, e2, q⟩
def cMul (i j : Int) : Bool := decide (i.natAbs.log2 + j.natAbs.log2 < 1000000)
def cDiv (_ j : Int) : Bool := decide (0 < j) && decide (j.natAbs.log2 < 9000)
def cMod (_ j : Int) : Bool := decide (0 < j)
def cPow (i j : Int) : Bool := decide (0 ≤ j) && decide (j ≤ 1000000) && decide (i.natAbs < 2 ^ 64)
abbrev opSub := opI (fun _ _ => true) fun i j => i - j
abbrev opMulI := opI cMul fun i j => i * j
abbrev opDiv := opI cDiv fun i j => i / j
abbrev opMod := opI cMod fun i j => i % j
abbrev opPow := opI cPow fun i j => i ^ j.toNat
theorem o_sub : Op2 S X W (binaryOp .Sub) opSub := o_opI (rI_of op_sub) (fun _ _ _ => trivial)
theorem o_div : Op2 S X W (binaryOp .FloorDiv) opDiv := o_opI op_fdivW (fun i j h => by simpa [cDiv, CDivW] using h)
theorem o_mod : Op2 S X W (binaryOp .Mod) opMod := o_opI op_mod (fun i j h => by simpa [cMod] using h)
theorem o_pow : Op2 S X W (binaryOp .Pow) opPow := o_opI op_pow (fun i j h => by simpa [cPow, CPow, and_assoc] using h)
end
end MP

set_option maxRecDepth 100000
set_option maxHeartbeats 1000000
/-! MP4: products, comparisons, items, slices. -/
namespace MP
open PySem PySem.Spec PyProof.Rows L2
section
variable {S : Se} {X : Cx} {W : WX} {σ : L2.St} {m : List Addr} {F H : Hp} {st : St}

/-! ### products -/
theorem txt_mul (x : List Nat) (n : Int) : Txt.mul (mk x) n = mk (List.replicate n.toNat x).flatten := by
  have fold : ∀ (k : Nat) (acc : Array Nat), (List.replicate k (mk x).cps).foldl (· ++ ·) acc = acc ++ ((List.replicate k x).flatten).toArray := fun k => by
    induction k with
    | zero => intro acc; simp
    | succ k ih => intro acc; rw [List.replicate_succ, List.replicate_succ, List.foldl_cons, ih]; simp [mk]
  unfold Txt.mul
  by_cases h1 : n < 1
  · rw [if_pos h1, show n.toNat = 0 by omega]; rfl
  · rw [if_neg h1]
    by_cases h2 : (n == 1 || (mk x).length == 0) = true
    · rw [if_pos h2]
      simp only [Bool.or_eq_true, beq_iff_eq, mk_len, List.length_eq_zero_iff] at h2
      rcases h2 with h2 | h2
      · subst h2; simp
      · subst h2; simp
    · rw [if_neg h2, fold]; simp [mk]
theorem op_mul_str : OpR X (binaryOp .Mult) (fun x y H Q => ∃ i j, x = .str i ∧ y = .int j ∧ MulOk i j ∧ Q (.str (Txt.mul i j)) H) := by
  intro pins s σ H x y v u Q I rx ry h
  obtain ⟨i, j, rfl, rfl, ok, q⟩ := h
  obtain ⟨t, rfl⟩ := rx
  obtain ⟨t', rfl⟩ := ry
  exact SB.mul ok fun t2 k => ⟨.str _, H, I.tok _, ⟨_, rfl⟩, q⟩
def opMul : D → D → St → Out D := fun x y st => match x, y with
  | .int i, .int j => if cMul i j = true then .ok (.int (i * j)) st else .bad
  | .str a, .int n => if 0 ≤ n ∧ n ≤ 16777216 ∧ a.length ≤ 63 ∧ a.length * n.toNat ≤ 16777216 then .ok (.str (List.replicate n.toNat a).flatten) st else .bad
  | x, .int n => match lstOf st x with
    | some ds => if 0 ≤ n ∧ n ≤ 16777216 ∧ ds.length * n.toNat ≤ 16777216 then .ok (.lst (List.replicate n.toNat ds).flatten) st else .bad
    | none => .bad
  | _, _ => .bad
theorem Rs.rep {K : PySem.W.Frag} {xs : List V} {ds : List D} (r : Rs K m F xs ds) : ∀ k : Nat, Rs K m F (List.replicate k xs).flatten (List.replicate k ds).flatten
  | 0 => .nil
  | k + 1 => by rw [List.replicate_succ, List.replicate_succ, List.flatten_cons, List.flatten_cons]; exact r.append (Rs.rep r k)
theorem o_mul : Op2 S X W (binaryOp .Mult) opMul := by
  refine ⟨_, op_mulW.or (op_mul_str.or op_rep), fun σ m F st H Q v w x y r rx ry h => ?_⟩
  unfold opMul at h
  split at h
  · split at h
    · rename_i hc
      cases rx; cases ry
      exact .inl ⟨_, _, rfl, rfl, by simpa [cMul, CMulW] using hc, h.now r _ (.int _)⟩
    · exact h.elim
  · split at h
    · rename_i a n hc
      cases rx; cases ry
      obtain ⟨h0, h1, h2, h3⟩ := hc
      refine .inr (.inl ⟨_, _, rfl, rfl, ⟨?_, fun hn hk => ?_, fun hn hk => ?_⟩, ?_⟩)
      · simp only [Bool.or_eq_false_iff, decide_eq_false_iff_not]; omega
      · show ¬ (((mk a).length : Nat) : Int) > (2 ^ 63 - 1) / n
        rw [mk_len]
        have : (64 : Int) ≤ (2 ^ 63 - 1) / n := by
          rw [Int.le_ediv_iff_mul_le (by omega)]
          omega
        omega
      · show Builtin.Str.tooLong ((mk a).length * n.toNat) = false
        rw [mk_len]
        simp only [Builtin.Str.tooLong, decide_eq_false_iff_not, sizeLine_eq]
        omega
      · show Q (.str (Txt.mul (mk a) n)) H
        rw [txt_mul]; exact h.now r _ (.str _)
    · exact h.elim
  · split at h
    · rename_i e
      split at h
      · rename_i hc
        obtain ⟨l, xs, rfl, e1, r1⟩ := lst_of r rx e
        cases ry
        refine .inr (.inr ⟨_, _, _, rfl, rfl, e1, by omega, by omega, ?_, ?_⟩)
        · rw [r1.length]; exact lim_le hc.2.2
        · exact new_lst r (r1.rep _) h
      · exact h.elim
    · exact h.elim
  · exact h.elim
end
end MP

set_option maxRecDepth 100000
set_option maxHeartbeats 1000000
/-! MP5: comparisons. -/
namespace MP
open PySem PySem.Spec PyProof.Rows L2
section
variable {S : Se} {X : Cx} {W : WX} {σ : L2.St} {m : List Addr} {F H : Hp} {st : St}

/-! ### order -/
/-- order of ints, of texts -/
def opOrd (ci : Int → Int → Bool) (cs : List Nat → List Nat → Bool) : D → D → St → Out D := fun x y st => match x, y with
  | .int i, .int j => .ok (.bl (ci i j)) st
  | .str a, .str b => .ok (.bl (cs a b)) st
  | _, _ => .bad
abbrev opLt := opOrd (fun i j => decide (i < j)) (fun a b => decide (a < b))
abbrev opLe := opOrd (fun i j => decide (i ≤ j)) (fun a b => !decide (b < a))
abbrev opGt := opOrd (fun i j => decide (j < i)) (fun a b => decide (b < a))
abbrev opGe := opOrd (fun i j => decide (j ≤ i)) (fun a b => !decide (a < b))
theorem o_ord {op : CmpOp} {ci : Int → Int → Bool} {cs : List Nat → List Nat → Bool} (h1 : OpR X (compareOp op) (rI0 fun i j => .bl (ci i j)))
    (h2 : OpR X (compareOp op) (fun x y H Q => ∃ i j, x = .str i ∧ y = .str j ∧ Q (.bl (cs i.cps.toList j.cps.toList)) H)) : Op2 S X W (compareOp op) (opOrd ci cs) := by
  refine ⟨_, h1.or h2, fun σ m F st H Q v w x y r rx ry h => ?_⟩
  unfold opOrd at h
  split at h
  · cases rx; cases ry
    exact .inl ⟨_, _, rfl, rfl, h.now r _ (.bl _)⟩
  · cases rx; cases ry
    exact .inr ⟨_, _, rfl, rfl, h.now r _ (.bl _)⟩
  · exact h.elim
theorem o_lt : Op2 S X W (compareOp .Lt) opLt := o_ord op_lt op_lt_str
theorem o_le : Op2 S X W (compareOp .LtE) opLe := o_ord op_le op_le_str
theorem o_gt : Op2 S X W (compareOp .Gt) opGt := o_ord op_gt op_gt_str
theorem o_ge : Op2 S X W (compareOp .GtE) opGe := o_ord op_ge op_ge_str

/-! ### sameness -/
mutual
def D.py : D → PyData
  | .non => .none
  | .bl b => .bool b
  | .int i => .int i
  | .str s => .str ⟨s.toArray⟩
  | .tup ds => .tuple (D.pys ds)
  | .lst ds => .list (D.pys ds)
  | .lsk ds => .list (D.pys ds)
  | .ref _ => .none
  | .xo _ _ _ _ => .none
def D.pys : List D → List PyData
  | [] => []
  | d :: ds => d.py :: D.pys ds
/-- nothing of the store in it -/
def D.noref : D → Bool
  | .tup ds => D.norefs ds
  | .lst ds => D.norefs ds
  | .lsk ds => D.norefs ds
  | .ref _ => false
  | .xo _ _ _ _ => false
  | _ => true
def D.norefs : List D → Bool
  | [] => true
  | d :: ds => d.noref && D.norefs ds
end
mutual
theorem dp_of {K : PySem.W.Frag} {m : List Addr} {F H : Hp} (sub : Same F H) : ∀ {v : V} {d : D}, R K m F v d → d.noref = true → Dp K H v d.py
  | _, _, .non, _ => .non
  | _, _, .bl b, _ => .bl b
  | _, _, .int i, _ => .int i
  | _, _, .str x, _ => .str _
  | _, _, .tup h r, n => .tup (sub.sqt h) (dps_of sub r (by simpa [D.noref] using n))
  | _, _, .lst h r, n => .lst (SqL.of (sub _ _ h)) (dps_of sub r (by simpa [D.noref] using n))
  | _, _, .lsk h r, n => .lst (sub.seq h) (dps_of sub r (by simpa [D.noref] using n))
  | _, _, .ref _, n => by simp [D.noref] at n
  | _, _, .xo _ _ _, n => by simp [D.noref] at n
theorem dps_of {K : PySem.W.Frag} {m : List Addr} {F H : Hp} (sub : Same F H) : ∀ {vs : List V} {ds : List D}, Rs K m F vs ds → D.norefs ds = true → DpAll K H vs (D.pys ds)
  | _, _, .nil, _ => .nil
  | _, _, .cons r t, n => by
    simp only [D.norefs, Bool.and_eq_true] at n
    exact .cons (dp_of sub r n.1) (dps_of sub t n.2)
end
/-- a list of the store by what it holds -/
def top (st : St) (d : D) : D := match d with
  | .ref i => match st.objs[i]? with
    | some (.lst ds) => .lst ds
    | _ => d
  | d => d
theorem dp_top {K : PySem.W.Frag} {T : NTabs} {d : D} {v : V} (r : Rel K T m F st H) (rv : R K m F v d) (n : (top st d).noref = true) : Dp K H v (top st d).py := by
  cases d with
  | ref i =>
    cases q : st.objs[i]? with
    | none => simp [top, q, D.noref] at n
    | some o =>
      cases o with
      | lst ds =>
        have hl : lstOf st (.ref i) = some ds := by simp [lstOf, q]
        obtain ⟨a, xs, rfl, h1, h2⟩ := lst_of r rv hl
        have e : top st (.ref i) = .lst ds := by simp [top, q]
        rw [e] at n ⊢
        exact .lst (SqL.of h1) (dps_of r.sub h2 (by simpa [D.noref] using n))
  | _ => exact dp_of r.sub rv n
def shp (d : D) : Bool := d.noref && SeqAt.shaped d.py
/-- == of what is no list and no tuple -/
def eqS : D → D → Option Bool
  | .non, .non => some true
  | .int i, .int j => some (decide (i = j))
  | .bl a, .bl b => some (decide (a = b))
  | .str a, .str b => some (decide (a = b))
  | .non, .int _ => some false | .int _, .non => some false | .non, .bl _ => some false | .bl _, .non => some false | .non, .str _ => some false | .str _, .non => some false
  | .int _, .str _ => some false | .str _, .int _ => some false | .bl _, .str _ => some false | .str _, .bl _ => some false
  | _, _ => none
def eqD (st : St) (x y : D) : Option Bool := match eqS x y with
  | some b => some b
  | none => if shp (top st x) = true ∧ shp (top st y) = true then some (PyData.eqv (top st x).py (top st y).py) else none
def opEq : D → D → St → Out D := fun x y st => match eqD st x y with
  | some b => .ok (.bl b) st
  | none => .bad
def opNe : D → D → St → Out D := fun x y st => match eqD st x y with
  | some b => .ok (.bl !b) st
  | none => .bad
theorem mk_inj {a b : List Nat} : (⟨a.toArray⟩ : Str) = ⟨b.toArray⟩ ↔ a = b := by simp
theorem eqS_of {K : PySem.W.Frag} {x y : D} {v w : V} {b : Bool} (rx : R K m F v x) (ry : R K m F w y) (h : eqS x y = some b) : scal v w = true ∧ decide (v = w) = b := by
  cases rx <;> cases ry <;> simp_all [eqS, scal]
theorem o_eq (hu : X.A.units + 64 < cLine) : Op2 S X W (compareOp .Eq) opEq := by
  refine ⟨_, op_eq.or (op_eqD hu), fun σ m F st H Q v w x y r rx ry h => ?_⟩
  unfold opEq eqD at h
  split at h
  · rename_i b e
    split at e
    · rename_i b' e'
      cases e
      obtain ⟨h1, h2⟩ := eqS_of rx ry e'
      exact .inl ⟨h1, by rw [h2]; exact h.now r _ (.bl _)⟩
    · split at e
      · rename_i hs
        cases e
        simp only [shp, Bool.and_eq_true] at hs
        exact .inr ⟨_, _, dp_top r rx hs.1.1, dp_top r ry hs.2.1, hs.1.2, hs.2.2, h.now r _ (.bl _)⟩
      · cases e
  · exact h.elim
theorem o_ne (hu : X.A.units + 64 < cLine) : Op2 S X W (compareOp .NotEq) opNe := by
  refine ⟨_, op_ne.or (op_neD hu), fun σ m F st H Q v w x y r rx ry h => ?_⟩
  unfold opNe eqD at h
  split at h
  · rename_i b e
    split at e
    · rename_i b' e'
      cases e
      obtain ⟨h1, h2⟩ := eqS_of rx ry e'
      exact .inl ⟨h1, by rw [h2]; exact h.now r _ (.bl _)⟩
    · split at e
      · rename_i hs
        cases e
        simp only [shp, Bool.and_eq_true] at hs
        exact .inr ⟨_, _, dp_top r rx hs.1.1, dp_top r ry hs.2.1, hs.1.2, hs.2.2, h.now r _ (.bl _)⟩
      · cases e
  · exact h.elim

/-! ### in, is None -/
def flat : D → Bool
  | .non => true | .bl _ => true | .int _ => true | .str _ => true | _ => false
def eqF : D → D → Bool
  | .non, .non => true
  | .bl a, .bl b => a == b
  | .bl a, .int b => (if a then 1 else 0) == b
  | .int a, .bl b => a == (if b then 1 else 0)
  | .int a, .int b => a == b
  | .str a, .str b => a == b
  | _, _ => false
theorem flat_of {K : PySem.W.Frag} {x : D} {v : V} (rx : R K m F v x) (h : flat x = true) : flatV v = true := by
  cases rx <;> first | rfl | (simp [flat] at h)
theorem eqF_of {K : PySem.W.Frag} {x y : D} {v w : V} (rx : R K m F v x) (ry : R K m F w y) (hx : flat x = true) (hy : flat y = true) : eqV v w = eqF x y := by
  have es : ∀ a b : List Nat, ((⟨a.toArray⟩ : Str) == ⟨b.toArray⟩) = (a == b) := fun a b => by
    by_cases h : a = b
    · subst h; simp
    · rw [beq_eq_false_iff_ne.mpr h]; exact beq_eq_false_iff_ne.mpr (fun z => h (mk_inj.mp z))
  cases rx <;> cases ry <;> simp_all [flat, eqF, eqV]
theorem any_eqF {K : PySem.W.Frag} {x : D} {v : V} (rx : R K m F v x) (hx : flat x = true) : ∀ {ws : List V} {ys : List D}, Rs K m F ws ys → ys.all flat = true → ws.all flatV = true ∧ inV v ws = ys.any fun y => eqF y x
  | _, _, .nil, _ => ⟨rfl, rfl⟩
  | _, _, .cons r t, h => by
    rw [List.all_cons, Bool.and_eq_true] at h
    obtain ⟨a, b⟩ := any_eqF rx hx t h.2
    refine ⟨by rw [List.all_cons, flat_of r h.1, a]; rfl, ?_⟩
    unfold inV at b ⊢
    rw [List.any_cons, List.any_cons, eqF_of r rx h.1 hx, b]
def inD (st : St) (x y : D) : Option Bool := match x, y with
  | .str [c], .str z => some (decide (c ∈ z))
  | x, y => match seqOf st y with
    | some ds => if flat x = true ∧ ds.all flat = true then some (ds.any fun y => eqF y x) else none
    | none => none
def opIn : D → D → St → Out D := fun x y st => match inD st x y with
  | some b => .ok (.bl b) st
  | none => .bad
def opNotIn : D → D → St → Out D := fun x y st => match inD st x y with
  | some b => .ok (.bl !b) st
  | none => .bad
theorem o_in : Op2 S X W (compareOp .In) opIn := by
  refine ⟨_, op_in_sign.or op_in_seq, fun σ m F st H Q v w x y r rx ry h => ?_⟩
  unfold opIn inD at h
  split at h
  · rename_i b e
    split at e
    · cases rx; cases ry; cases e
      exact .inl ⟨_, _, rfl, rfl, h.now r _ (.bl _)⟩
    · split at e
      · rename_i e2
        split at e
        · rename_i hf
          cases e
          obtain ⟨a, xs, rfl, h1, h2⟩ := seq_of r ry e2
          obtain ⟨q1, q2⟩ := any_eqF rx hf.1 h2 hf.2
          refine .inr ⟨_, _, rfl, h1, flat_of rx hf.1, q1, ?_⟩
          rw [q2]; exact h.now r _ (.bl _)
        · cases e
      · cases e
  · exact h.elim
theorem o_notIn : Op2 S X W (compareOp .NotIn) opNotIn := by
  refine ⟨_, op_notIn_sign.or op_notIn_seq, fun σ m F st H Q v w x y r rx ry h => ?_⟩
  unfold opNotIn inD at h
  split at h
  · rename_i b e
    split at e
    · cases rx; cases ry; cases e
      exact .inl ⟨_, _, rfl, rfl, h.now r _ (.bl _)⟩
    · split at e
      · rename_i e2
        split at e
        · rename_i hf
          cases e
          obtain ⟨a, xs, rfl, h1, h2⟩ := seq_of r ry e2
          obtain ⟨q1, q2⟩ := any_eqF rx hf.1 h2 hf.2
          refine .inr ⟨_, _, rfl, h1, flat_of rx hf.1, q1, ?_⟩
          rw [q2]; exact h.now r _ (.bl _)
        · cases e
      · cases e
  · exact h.elim
def isNon : D → Bool
  | .non => true
  | _ => false
def opIs : D → D → St → Out D := fun x y st => match y with
  | .non => .ok (.bl (isNon x)) st
  | _ => .bad
def opIsNot : D → D → St → Out D := fun x y st => match y with
  | .non => .ok (.bl !(isNon x)) st
  | _ => .bad
theorem isNon_of {K : PySem.W.Frag} {x : D} {v : V} (rx : R K m F v x) : decide (v = .non) = isNon x := by
  cases rx <;> rfl
theorem o_is : Op2 S X W (compareOp .Is) opIs := by
  refine ⟨_, op_isN, fun σ m F st H Q v w x y r rx ry h => ?_⟩
  unfold opIs at h
  split at h
  · cases ry
    exact ⟨rfl, by rw [isNon_of rx]; exact h.now r _ (.bl _)⟩
  · exact h.elim
theorem o_isNot : Op2 S X W (compareOp .IsNot) opIsNot := by
  refine ⟨_, op_notN, fun σ m F st H Q v w x y r rx ry h => ?_⟩
  unfold opIsNot at h
  split at h
  · cases ry
    exact ⟨rfl, by rw [isNon_of rx]; exact h.now r _ (.bl _)⟩
  · exact h.elim
end
end MP

set_option maxRecDepth 100000
set_option maxHeartbeats 1000000
/-! MP6: items, slices, signs, calls of what is built in. -/
namespace MP
open PySem PySem.Spec PyProof.Rows L2
section
variable {S : Se} {X : Cx} {W : WX} {σ : L2.St} {m : List Addr} {F H : Hp} {st : St}

/-! ### items -/
theorem Rs.one {K : PySem.W.Frag} {vs : List V} {d : D} (r : Rs K m F vs [d]) : ∃ v, vs = [v] ∧ R K m F v d := by
  cases r with
  | cons r t => cases t; exact ⟨_, rfl, r⟩
theorem Rs.two {K : PySem.W.Frag} {vs : List V} {d e : D} (r : Rs K m F vs [d, e]) : ∃ v w, vs = [v, w] ∧ R K m F v d ∧ R K m F w e := by
  cases r with
  | cons r t =>
    obtain ⟨w, rfl, r2⟩ := Rs.one t
    exact ⟨_, w, rfl, r, r2⟩
def opIdx : D → D → St → Out D := fun x y st => match x, y with
  | .str s, .int i => if s.length ≤ 16777216 then (match atI s i with | some c => .ok (.str [c]) st | none => .bad) else .bad
  | x, .int i => match seqOf st x with
    | some ds => (match atI ds i with | some d => .ok d st | none => .bad)
    | none => .bad
  | _, _ => .bad
theorem Rs.at {K : PySem.W.Frag} {xs : List V} {ds : List D} {i : Int} {d : D} (r : Rs K m F xs ds) (h : atI ds i = some d) : ∃ v, atI xs i = some v ∧ R K m F v d := by
  unfold atI at h ⊢
  rw [r.length]
  cases e : ixN ds.length i with
  | none => rw [e] at h; cases h
  | some j =>
    rw [e] at h
    obtain ⟨v, h1, h2⟩ := r.get (i := j) h
    exact ⟨v, h1, h2⟩
theorem s_idx {a b : Expr} {pos : Pos} {f g : Env → St → Out D} (hs : PlainIx b) (ha : PE X a (TEof S X W f)) (hb : PE X b (TEof S X W g)) : PE X (.Subscript a b pos) (TEof S X W (f2 opIdx f g)) := by
  refine (pe_ix ix_seq ha hb hs).weak (i_2 fun σ m F st H Q v w x y r rx ry h => ?_)
  unfold opIdx at h
  split at h
  · rename_i s i
    split at h
    · rename_i hl
      split at h
      · rename_i c e
        cases rx; cases ry
        refine .inr (.inr ⟨_, _, c, rfl, rfl, ?_, e, h.now r _ (.str [c])⟩)
        show (mk s).length ≤ sizeLine
        rw [mk_len]; exact lim_le hl
      · exact h.elim
    · exact h.elim
  · split at h
    · rename_i ds e
      split at h
      · rename_i d e2
        cases ry
        obtain ⟨a, xs, rfl, h1, h2⟩ := seq_of r rx e
        obtain ⟨v, h3, h4⟩ := h2.at e2
        rcases h1 with h1 | h1
        · exact .inl ⟨a, xs, _, v, rfl, rfl, h1, h3, h.now r _ h4⟩
        · exact .inr (.inl ⟨a, xs, _, v, rfl, rfl, h1, h3, h.now r _ h4⟩)
      · exact h.elim
    · exact h.elim
  · exact h.elim

/-! ### slices -/
/-- a list's items, wherever it stands -/
def lqOf (st : St) : D → Option (List D)
  | .lsk ds => some ds
  | d => lstOf st d
theorem lq_of {K : PySem.W.Frag} {T : NTabs} {d : D} {ds : List D} {v : V} (r : Rel K T m F st H) (rv : R K m F v d) (h : lqOf st d = some ds) : ∃ a xs, v = .ref a ∧ SqL K H a xs ∧ Rs K m F xs ds := by
  have go : lstOf st d = some ds → ∃ a xs, v = .ref a ∧ SqL K H a xs ∧ Rs K m F xs ds := fun h => by
    obtain ⟨a, xs, e, h1, h2⟩ := lst_of r rv h
    exact ⟨a, xs, e, SqL.of h1, h2⟩
  cases rv with
  | lsk e rs => exact ⟨_, _, rfl, r.sub.seq e, by cases h; exact rs⟩
  | _ => exact go h
def cut {α : Type} (ds : List α) (lo hi : Option Int) : List α := (ds.drop (HT.sIx ds.length 0 lo)).take (HT.sIx ds.length ds.length hi - HT.sIx ds.length 0 lo)
abbrev TOof (S : Se) (X : Cx) (W : WX) (f : Env → St → Out (Option Int)) : TO := fun σ H Q => ∃ ρ m F st, EnvR X.K m F σ ρ ∧ Rel X.K S.T m F st H ∧
  Post X.K S.T m F H (fun o m' F' H' => Q o H') (XW S.g X.K W σ) (f ρ st)
theorem _root_.L2.PO.weak {X : Cx} {e : Option Expr} {t t' : TO} (h : PO X e t) (w : ∀ σ H Q, t' σ H Q → t σ H Q) : PO X e t' := ⟨fun pins s σ H Q I q => h.run pins s σ H Q I (w σ H Q q)⟩
def fNoP : Env → St → Out (Option Int) := fun _ st => .ok none st
def fPart (f : Env → St → Out D) : Env → St → Out (Option Int) := fun ρ st => (f ρ st).bind fun d st1 => match d with
  | .int i => .ok (some i) st1
  | _ => .bad
theorem s_noP : PO X none (TOof S X W fNoP) := po_none.weak fun σ H Q ⟨ρ, m, F, st, E, r, h⟩ => Post.now (P := fun o m' F' H' => Q o H') h r
theorem s_part {e : Expr} {f : Env → St → Out D} (h : PE X e (TEof S X W f)) : PO X (some e) (TOof S X W (fPart f)) := by
  refine (po_some h).weak fun σ H Q ⟨ρ, m, F, st, E, r, h⟩ => ⟨ρ, m, F, st, E, r, (Post.bind h).imp (fun d m1 F1 H1 s1 q v rv => ?_) fun _ _ _ _ _ y => y⟩
  obtain ⟨st1, r1, q⟩ := q
  cases rv with
  | int i => exact ⟨i, rfl, Post.now (P := fun o m' F' H' => Q o H') q r1⟩
  | _ => exact q.elim
def opSlc (x : D) (lo hi : Option Int) (st : St) : Out D := match x with
  | .str s => if s.length ≤ 16777216 then .ok (.str (cut s lo hi)) st else .bad
  | .tup ds => if HT.sIx ds.length 0 lo = 0 ∧ HT.sIx ds.length ds.length hi = ds.length then .bad else .ok (.tup (cut ds lo hi)) st
  | x => match lqOf st x with
    | some ds => .ok (.lst (cut ds lo hi)) st
    | none => .bad
def fSlc (f : Env → St → Out D) (l u : Env → St → Out (Option Int)) : Env → St → Out D := fun ρ st => (f ρ st).bind fun x st1 => (l ρ st1).bind fun lo st2 => (u ρ st2).bind fun hi st3 => opSlc x lo hi st3
theorem Rs.cut {K : PySem.W.Frag} {xs : List V} {ds : List D} (r : Rs K m F xs ds) (lo hi : Option Int) : Rs K m F (cutV xs lo hi) (cut ds lo hi) := by
  unfold cutV MP.cut
  rw [r.length]
  exact (r.drop _).take _
theorem slc_ok {Q : VK} {x : D} {v : V} {lo hi : Option Int} (r : Rel X.K S.T m F st H) (rx : R X.K m F v x) (h : PD S X W σ m F H Q (opSlc x lo hi st)) : rSlS v lo hi H Q ∨ rSlT X.K v lo hi H Q ∨ rSlL X.K v lo hi H Q := by
  unfold opSlc at h
  split at h
  · split at h
    · rename_i z hl
      have e : cutS (mk z) lo hi = mk (MP.cut z lo hi) := by
        unfold cutS MP.cut; rw [mk_len]; rfl
      have q : Q (.str (cutS (mk z) lo hi)) H := by
        rw [e]; exact h.now r _ (.str _)
      cases rx
      refine .inl ⟨_, rfl, ?_, q⟩
      show (mk z).length ≤ sizeLine
      rw [mk_len]; exact lim_le hl
    · exact h.elim
  · split at h
    · exact h.elim
    · rename_i ds hc
      cases rx with
      | tup e rs => exact .inr (.inl ⟨_, _, rfl, r.sub.sqt e, by rw [rs.length]; exact hc, new_tup r (rs.cut lo hi) h⟩)
  · split at h
    · rename_i ds e
      obtain ⟨a, xs, rfl, h1, h2⟩ := lq_of r rx e
      exact .inr (.inr ⟨a, xs, rfl, h1, new_lst r (h2.cut lo hi) h⟩)
    · exact h.elim
theorem s_slc {a : Expr} {lo hi : Option Expr} {pos p2 : Pos} {f : Env → St → Out D} {l u : Env → St → Out (Option Int)} (ha : PE X a (TEof S X W f)) (hl : PO X lo (TOof S X W l)) (hu : PO X hi (TOof S X W u)) :
    PE X (.Subscript a (.Slice lo hi none p2) pos) (TEof S X W (fSlc f l u)) := by
  refine (pe_slice (sl_str.or (sl_tup.or sl_list)) ha hl hu).weak fun σ H Q ⟨ρ, m, F, st, E, r, h⟩ => ⟨ρ, m, F, st, E, r, (Post.bind h).imp (fun x m1 F1 H1 s1 qa v rv => ?_) fun _ _ _ _ _ y => y⟩
  obtain ⟨st1, r1, qa⟩ := qa
  refine ⟨ρ, m1, F1, st1, E.mono s1.mono, r1, (Post.bind qa).imp (fun lo m2 F2 H2 s2 qb => ?_) fun _ _ _ _ _ y => y⟩
  obtain ⟨st2, r2, qb⟩ := qb
  refine ⟨ρ, m2, F2, st2, E.mono (s1.mono.trans s2.mono), r2, (Post.bind qb).imp (fun hi m3 F3 H3 s3 q => ?_) fun _ _ _ _ _ y => y⟩
  obtain ⟨st3, r3, q⟩ := q
  exact slc_ok r3 ((rv.mono s2.mono).mono s3.mono) q
/-! ### signs -/
def f1 (op : D → St → Out D) (f : Env → St → Out D) : Env → St → Out D := fun ρ st => (f ρ st).bind fun x st1 => op x st1
def opNeg : D → St → Out D := fun x st => match x with
  | .int i => .ok (.int (-i)) st
  | _ => .bad
theorem i_1 {r1 : V → Hp → VK → Prop} {f : Env → St → Out D} {op : D → St → Out D}
    (ho : ∀ σ m F st H Q v x, Rel X.K S.T m F st H → R X.K m F v x → PD S X W σ m F H Q (op x st) → r1 v H Q) :
    ∀ σ H Q, TEof S X W (f1 op f) σ H Q → tUn r1 (TEof S X W f) σ H Q := by
  intro σ H Q ⟨ρ, m, F, st, E, r, h⟩
  refine ⟨ρ, m, F, st, E, r, (Post.bind h).imp (fun x m1 F1 H1 s1 q v rv => ?_) fun _ _ _ _ _ y => y⟩
  obtain ⟨st1, r1, q⟩ := q
  exact ho σ m1 F1 st1 H1 Q v x r1 rv q
theorem s_neg {a : Expr} {pos : Pos} {f : Env → St → Out D} (ha : PE X a (TEof S X W f)) : PE X (.UnaryOp .USub a pos) (TEof S X W (f1 opNeg f)) := by
  refine (pe_un un_neg ha).weak (i_1 fun σ m F st H Q v x r rx h => ?_)
  unfold opNeg at h
  split at h
  · cases rx
    exact ⟨_, rfl, h.now r _ (.int _)⟩
  · exact h.elim

/-! ### calls of what is built in -/
/-- a call by its arguments does what o says -/
def OpC (S : Se) (X : Cx) (W : WX) (f : Value) (o : List D → St → Out D) : Prop :=
  ∃ r : List V → Hp → VK → Prop, CallR X f r ∧ ∀ σ m F st H Q vs ds, Rel X.K S.T m F st H → Rs X.K m F vs ds → PD S X W σ m F H Q (o ds st) → r vs H Q
def fCall (o : List D → St → Out D) (g : Env → St → Out (List D)) : Env → St → Out D := fun ρ st => (g ρ st).bind fun ds st1 => o ds st1
theorem i_call {r : List V → Hp → VK → Prop} {g : Env → St → Out (List D)} {o : List D → St → Out D}
    (ho : ∀ σ m F st H Q vs ds, Rel X.K S.T m F st H → Rs X.K m F vs ds → PD S X W σ m F H Q (o ds st) → r vs H Q) :
    ∀ σ H Q, TEof S X W (fCall o g) σ H Q → tCB r (TAof S X W g) σ H Q := by
  intro σ H Q ⟨ρ, m, F, st, E, rl, h⟩
  refine ⟨ρ, m, F, st, E, rl, (Post.bind h).imp (fun ds m1 F1 H1 s1 q vs rv => ?_) fun _ _ _ _ _ y => y⟩
  obtain ⟨st1, r1, q⟩ := q
  exact ho σ m1 F1 st1 H1 Q vs ds r1 rv q
theorem s_callB {x : Str} {id : String} {e : Expr} {es : List Expr} {p pos : Pos} {g : Env → St → Out (List D)} {o : List D → St → Out D} (h : OpC S X W (.builtin id) o) (hg : Gl X x) (hm : X.mg x = none) (hv : bootBuiltins x = some (.builtin id))
    (ha : PA X (e :: es) (TAof S X W g)) (hn : x ≠ "__name__") (hdb : (x == ("__debug__" : Str)) = false) (he : starEach (e :: es) X.env = (false, eval e X.env) :: starEach es X.env) (hpl : (backTo pos (starEach es X.env)).any (·.1) = false) :
    PE X (.Call (.Name x p) (e :: es) [] pos) (TEof S X W (fCall o g)) := by
  obtain ⟨r, h1, h2⟩ := h
  exact (pe_callB h1 hg hm hv ha hn hdb he hpl).weak (i_call h2)
theorem s_callTy {x : Str} {T : String} {e : Expr} {es : List Expr} {p pos : Pos} {g : Env → St → Out (List D)} {o : List D → St → Out D} (h : OpC S X W (.type T) o) (hg : Gl X x) (hm : X.mg x = none) (hv : bootBuiltins x = some (.type T))
    (ha : PA X (e :: es) (TAof S X W g)) (hn : x ≠ "__name__") (hdb : (x == ("__debug__" : Str)) = false) (he : starEach (e :: es) X.env = (false, eval e X.env) :: starEach es X.env) (hpl : (backTo pos (starEach es X.env)).any (·.1) = false) :
    PE X (.Call (.Name x p) (e :: es) [] pos) (TEof S X W (fCall o g)) := by
  obtain ⟨r, h1, h2⟩ := h
  exact (pe_callTy h1 hg hm hv ha hn hdb he hpl).weak (i_call h2)
def cLen : List D → St → Out D := fun ds st => match ds with
  | [.str s] => if s.length ≤ 16777216 then .ok (.int s.length) st else .bad
  | [x] => match seqOf st x with
    | some ds => .ok (.int ds.length) st
    | none => .bad
  | _ => .bad
theorem o_len : OpC S X W (.builtin "len") cLen := by
  refine ⟨_, call_len_str.or call_len_seq, fun σ m F st H Q vs ds r rs h => ?_⟩
  unfold cLen at h
  split at h
  · split at h
    · rename_i s hl
      obtain ⟨v, rfl, rv⟩ := rs.one
      cases rv
      refine .inl ⟨_, rfl, ?_, ?_⟩
      · show (mk s).length ≤ sizeLine
        rw [mk_len]; exact lim_le hl
      · show Q (.int (mk s).length) H
        rw [mk_len]; exact h.now r _ (.int _)
    · exact h.elim
  · split at h
    · rename_i e
      obtain ⟨v, rfl, rv⟩ := rs.one
      obtain ⟨a, xs, rfl, h1, h2⟩ := seq_of r rv e
      refine .inr ⟨a, xs, rfl, h1, ?_⟩
      rw [h2.length]; exact h.now r _ (.int _)
    · exact h.elim
  · exact h.elim
def cAbs : List D → St → Out D := fun ds st => match ds with
  | [.int i] => .ok (.int i.natAbs) st
  | _ => .bad
theorem o_abs : OpC S X W (.builtin "abs") cAbs := by
  refine ⟨_, call_abs, fun σ m F st H Q vs ds r rs h => ?_⟩
  unfold cAbs at h
  split at h
  · obtain ⟨v, rfl, rv⟩ := rs.one
    cases rv
    refine ⟨_, rfl, ?_⟩
    rename_i i
    have e : (if i < 0 then -i else i) = (i.natAbs : Int) := by split <;> omega
    rw [e]; exact h.now r _ (.int _)
  · exact h.elim
def intOf (s : List Nat) : Option Int := PySem.intText? ⟨s.toArray⟩
def cInt : List D → St → Out D := fun ds st => match ds with
  | [.int i] => .ok (.int i) st
  | [.bl b] => .ok (.int (if b then 1 else 0)) st
  | [.str s] => match intOf s with
    | some n => if s.length ≤ 640 then .ok (.int n) st else .bad
    | none => .bad
  | _ => .bad
theorem o_int : OpC S X W (.type "int") cInt := by
  refine ⟨_, call_int1.or call_int_str, fun σ m F st H Q vs ds r rs h => ?_⟩
  unfold cInt at h
  split at h
  · obtain ⟨v, rfl, rv⟩ := rs.one
    cases rv
    exact .inl (.inl ⟨_, rfl, h.now r _ (.int _)⟩)
  · obtain ⟨v, rfl, rv⟩ := rs.one
    cases rv
    exact .inl (.inr ⟨_, rfl, h.now r _ (.int _)⟩)
  · split at h
    · split at h
      · rename_i e hl
        obtain ⟨v, rfl, rv⟩ := rs.one
        cases rv
        refine .inr ⟨_, _, rfl, e, ?_, h.now r _ (.int _)⟩
        show (mk _).length ≤ 640
        rw [mk_len]; exact hl
      · exact h.elim
    · exact h.elim
  · exact h.elim
def cTup : List D → St → Out D := fun ds st => match ds with
  | [.tup ds] => .ok (.tup ds) st
  | [x] => match lqOf st x with
    | some ds => .ok (.tup ds) st
    | none => .bad
  | _ => .bad
theorem o_tup : OpC S X W (.type "tuple") cTup := by
  refine ⟨_, call_tuple_of, fun σ m F st H Q vs ds r rs h => ?_⟩
  unfold cTup at h
  split at h
  · obtain ⟨v, rfl, rv⟩ := rs.one
    cases rv with | tup e r2 => exact ⟨_, _, rfl, .inr ⟨r.sub.sqt e, h.now r _ (.tup e r2)⟩⟩
  · split at h
    · rename_i e
      obtain ⟨v, rfl, rv⟩ := rs.one
      obtain ⟨a, xs, rfl, h1, h2⟩ := lq_of r rv e
      exact ⟨a, xs, rfl, .inl ⟨h1, new_tup r h2 h⟩⟩
    · exact h.elim
  · exact h.elim
def cLst : List D → St → Out D := fun ds st => match ds with
  | [x] => match seqOf st x with
    | some ds => .ok (.lst ds) st
    | none => .bad
  | _ => .bad
theorem o_lst : OpC S X W (.type "list") cLst := by
  refine ⟨_, call_list_of, fun σ m F st H Q vs ds r rs h => ?_⟩
  unfold cLst at h
  split at h
  · split at h
    · rename_i e
      obtain ⟨v, rfl, rv⟩ := rs.one
      obtain ⟨a, xs, rfl, h1, h2⟩ := seq_of r rv e
      exact ⟨a, xs, rfl, h1, new_lst r h2 h⟩
    · exact h.elim
  · exact h.elim
end
end MP

set_option maxRecDepth 100000
set_option maxHeartbeats 1000000
/-! MP7: statements. -/
namespace MP
open PySem PySem.Spec PyProof.Rows L2

inductive SO where
  | nx (ρ : Env) (st : St) | ret (d : D) (st : St) | brk (ρ : Env) (st : St) | cont (ρ : Env) (st : St) | exc (c : Nat) (fs : List D) (st : St) | bad
def SO.seq (x : SO) (f : Env → St → SO) : SO := match x with
  | .nx ρ st => f ρ st
  | x => x
@[simp] theorem SO.seq_nx (ρ : Env) (st : St) (f : Env → St → SO) : (SO.nx ρ st).seq f = f ρ st := rfl
@[simp] theorem SO.seq_ret (d : D) (st : St) (f : Env → St → SO) : (SO.ret d st).seq f = .ret d st := rfl
@[simp] theorem SO.seq_brk (ρ : Env) (st : St) (f : Env → St → SO) : (SO.brk ρ st).seq f = .brk ρ st := rfl
@[simp] theorem SO.seq_cont (ρ : Env) (st : St) (f : Env → St → SO) : (SO.cont ρ st).seq f = .cont ρ st := rfl
@[simp] theorem SO.seq_exc (c : Nat) (fs : List D) (st : St) (f : Env → St → SO) : (SO.exc c fs st).seq f = .exc c fs st := rfl
@[simp] theorem SO.seq_bad (f : Env → St → SO) : SO.bad.seq f = .bad := rfl
def Out.toS {α : Type} (x : Out α) (f : α → St → SO) : SO := match x with
  | .ok a st => f a st
  | .exc c fs st => .exc c fs st
  | .bad => .bad
@[simp] theorem Out.toS_ok {α : Type} (a : α) (st : St) (f : α → St → SO) : (Out.ok a st).toS f = f a st := rfl
@[simp] theorem Out.toS_exc {α : Type} (c : Nat) (fs : List D) (st : St) (f : α → St → SO) : (Out.exc c fs st : Out α).toS f = .exc c fs st := rfl
@[simp] theorem Out.toS_bad {α : Type} (f : α → St → SO) : (Out.bad : Out α).toS f = .bad := rfl

section
variable (S : Se) (X : Cx) (W : WX)
def SPost (n : Nat) (D : Ends) (m : List Addr) (F H : Hp) : SO → Prop
  | .nx ρ' st' => ∀ σ' m' F' H', σ'.length = n → Step m F H m' F' H' → Rel X.K S.T m' F' st' H' → EnvR X.K m' F' σ' ρ' → D.nx σ' H'
  | .ret d st' => ∀ v m' F' H', Step m F H m' F' H' → Rel X.K S.T m' F' st' H' → R X.K m' F' v d → D.rt v H'
  | .brk ρ' st' => ∀ σ' m' F' H', σ'.length = n → Step m F H m' F' H' → Rel X.K S.T m' F' st' H' → EnvR X.K m' F' σ' ρ' → D.bk σ' H'
  | .cont ρ' st' => ∀ σ' m' F' H', σ'.length = n → Step m F H m' F' H' → Rel X.K S.T m' F' st' H' → EnvR X.K m' F' σ' ρ' → D.ct σ' H'
  | .exc c fs st' => ∀ σ' m' F' H', Step m F H m' F' H' → Rel X.K S.T m' F' st' H' → σ'.length = n → XW S.g X.K W σ' c fs m' F' H'
  | .bad => False
def TSof (f : Env → St → SO) : TS := fun D σ H => ∃ ρ m F st, EnvR X.K m F σ ρ ∧ Rel X.K S.T m F st H ∧ SPost S X W σ.length D m F H (f ρ st)
end
theorem _root_.L2.PS.weak {X : Cx} {e : Stmt} {t t' : TS} (h : PS X e t) (w : ∀ D σ H, t' D σ H → t D σ H) : PS X e t' := ⟨fun pins s σ H D I q => h.run pins s σ H D I (w D σ H q)⟩
theorem _root_.L2.PSs.weak {X : Cx} {e : List Stmt} {t t' : TS} (h : PSs X e t) (w : ∀ D σ H, t' D σ H → t D σ H) : PSs X e t' := ⟨fun pins s σ H D I q => h.run pins s σ H D I (w D σ H q)⟩
section
variable {S : Se} {X : Cx} {W : WX} {σ : L2.St} {m : List Addr} {F H : Hp} {st : St} {D : Ends}

theorem SPost.later {K : PySem.W.Frag} {n : Nat} {m1 : List Addr} {F1 H1 : Hp} {st1 : St} {x : SO} (s : Step m F H m1 F1 H1) (r : Rel X.K S.T m1 F1 st1 H1) (h : SPost S X W n D m F H x) : SPost S X W n D m1 F1 H1 x := by
  cases x with
  | nx ρ st => exact fun σ' m' F' H' hn s' => h σ' m' F' H' hn (s.trans r s')
  | ret d st => exact fun v m' F' H' s' => h v m' F' H' (s.trans r s')
  | brk ρ st => exact fun σ' m' F' H' hn s' => h σ' m' F' H' hn (s.trans r s')
  | cont ρ st => exact fun σ' m' F' H' hn s' => h σ' m' F' H' hn (s.trans r s')
  | exc c fs st => exact fun σ' m' F' H' s' => h σ' m' F' H' (s.trans r s')
  | bad => exact h
/-- behind an expression -/
theorem SPost.bind {α : Type} {n : Nat} {x : Out α} {f : α → St → SO} (hn : σ.length = n) (h : SPost S X W n D m F H (x.toS f)) :
    Post X.K S.T m F H (fun a m' F' H' => ∃ st', Rel X.K S.T m' F' st' H' ∧ SPost S X W n D m' F' H' (f a st')) (XW S.g X.K W σ) x := by
  cases x with
  | ok a st => exact fun m' F' H' s r => ⟨st, r, SPost.later (K := X.K) s r h⟩
  | exc c fs st => exact fun m' F' H' s r => h σ m' F' H' s r hn
  | bad => exact h
theorem SPost.now {n : Nat} {ρ : Env} (h : SPost S X W n D m F H (.nx ρ st)) (hn : σ.length = n) (r : Rel X.K S.T m F st H) (E : EnvR X.K m F σ ρ) : D.nx σ H := h σ m F H hn (Step.refl m F H) r E

/-! ### one after the other -/
def gNx : Env → St → SO := fun ρ st => .nx ρ st
def gSeq (f g : Env → St → SO) : Env → St → SO := fun ρ st => (f ρ st).seq g
theorem s_pass {pos : Pos} : PS X (.Pass pos) (TSof S X W gNx) := ps_pass.weak fun D σ H ⟨ρ, m, F, st, E, r, h⟩ => SPost.now h rfl r E
theorem ss_nil : PSs X [] (TSof S X W gNx) := pss_nil.weak fun D σ H ⟨ρ, m, F, st, E, r, h⟩ => SPost.now h rfl r E
theorem i_seq {f g : Env → St → SO} : ∀ D σ H, TSof S X W (gSeq f g) D σ H → tSeq (TSof S X W f) (TSof S X W g) D σ H := by
  intro D σ H ⟨ρ, m, F, st, E, r, h⟩
  refine ⟨ρ, m, F, st, E, r, ?_⟩
  unfold gSeq at h
  cases e : f ρ st with
  | nx ρ' st' =>
    rw [e] at h
    intro σ' m' F' H' hn s r' E'
    refine ⟨ρ', m', F', st', E', r', ?_⟩
    rw [hn]
    exact SPost.later (K := X.K) s r' h
  | _ => rw [e] at h; exact h
theorem ss_cons {s : Stmt} {rest : List Stmt} {f g : Env → St → SO} (h1 : PS X s (TSof S X W f)) (h2 : PSs X rest (TSof S X W g)) : PSs X (s :: rest) (TSof S X W (gSeq f g)) := (pss_cons h1 h2).weak i_seq
def gBrk : Env → St → SO := fun ρ st => .brk ρ st
def gCont : Env → St → SO := fun ρ st => .cont ρ st
theorem s_brk {pos : Pos} : PS X (.Break pos) (TSof S X W gBrk) := ps_break.weak fun D σ H ⟨ρ, m, F, st, E, r, h⟩ => h σ m F H rfl (Step.refl m F H) r E
theorem s_cont {pos : Pos} : PS X (.Continue pos) (TSof S X W gCont) := ps_continue.weak fun D σ H ⟨ρ, m, F, st, E, r, h⟩ => h σ m F H rfl (Step.refl m F H) r E

/-! ### expressions, returns, assignments to names -/
def gExpr (f : Env → St → Out MP.D) : Env → St → SO := fun ρ st => (f ρ st).toS fun _ st1 => .nx ρ st1
theorem s_expr {e : Expr} {pos : Pos} {f : Env → St → Out MP.D} (he : PE X e (TEof S X W f)) (hs : swapsWith e none pos.line X.env = pure false) : PS X (.Expr e pos) (TSof S X W (gExpr f)) := by
  refine (ps_expr he hs).weak fun D σ H ⟨ρ, m, F, st, E, r, h⟩ => ⟨ρ, m, F, st, E, r, (SPost.bind rfl h).imp (fun d m1 F1 H1 s1 q v rv => ?_) fun _ _ _ _ _ y => y⟩
  obtain ⟨st1, r1, q⟩ := q
  exact SPost.now q rfl r1 (E.mono s1.mono)
def gRet (f : Env → St → Out MP.D) : Env → St → SO := fun ρ st => (f ρ st).toS fun d st1 => .ret d st1
theorem s_ret {e : Expr} {pos : Pos} {f : Env → St → Out MP.D} (he : PE X e (TEof S X W f)) : PS X (.Return (some e) pos) (TSof S X W (gRet f)) := by
  refine (ps_ret he).weak fun D σ H ⟨ρ, m, F, st, E, r, h⟩ => ⟨ρ, m, F, st, E, r, (SPost.bind rfl h).imp (fun d m1 F1 H1 s1 q v rv => ?_) fun _ _ _ _ _ y => y⟩
  obtain ⟨st1, r1, q⟩ := q
  exact q v m1 F1 H1 (Step.refl _ _ _) r1 rv
def gRetN : Env → St → SO := fun _ st => .ret .non st
theorem s_retN {pos : Pos} : PS X (.Return none pos) (TSof S X W gRetN) := ps_retN.weak fun D σ H ⟨ρ, m, F, st, E, r, h⟩ => h .non m F H (Step.refl _ _ _) r .non
theorem EnvR.set {K : PySem.W.Frag} {ρ : Env} {v : V} {d : MP.D} (E : EnvR K m F σ ρ) (rv : R K m F v d) (i : Nat) : EnvR K m F (σ.set i (some v)) (ρ.set i (some d)) := by
  refine ⟨by rw [List.length_set, List.length_set]; exact E.len, fun j e h => ?_⟩
  by_cases hij : i = j
  · subst hij
    by_cases hl : i < ρ.length
    · rw [List.getElem?_set_self hl] at h
      cases h
      exact ⟨v, List.getElem?_set_self (by rw [E.len]; exact hl), rv⟩
    · rw [List.getElem?_eq_none (by rw [List.length_set]; omega)] at h
      cases h
  · rw [List.getElem?_set_ne hij] at h ⊢
    exact E.get j e h
def gSet (i : Nat) (f : Env → St → Out MP.D) : Env → St → SO := fun ρ st => (f ρ st).toS fun d st1 => .nx (ρ.set i (some d)) st1
theorem i_set {i : Nat} {f : Env → St → Out MP.D} : ∀ D σ H, TSof S X W (gSet i f) D σ H → tAsg (TEof S X W f) (gName i) D σ H := by
  intro D σ H ⟨ρ, m, F, st, E, r, h⟩
  refine ⟨ρ, m, F, st, E, r, (SPost.bind rfl h).imp (fun d m1 F1 H1 s1 q v rv => ?_) fun _ _ _ _ _ y => y⟩
  obtain ⟨st1, r1, q⟩ := q
  exact SPost.now q (List.length_set ..) r1 ((E.mono s1.mono).set rv i)
theorem s_set {i : Nat} {x : Str} {e : Expr} {pos pos' : Pos} {f : Env → St → Out MP.D} (hN : X.N.Nodup) (hi : X.N[i]? = some x) (hx : Loc X.env.scope x) (he : PE X e (TEof S X W f)) (hs : swapsWith e (some (.Name x pos')) pos.line X.env = pure false)
    (hf : X.fn x = true ∨ X.env.scope.names.lookup x = some .local) : PS X (.Assign [.Name x pos'] e pos) (TSof S X W (gSet i f)) := (ps_set hN hi hx he hs hf).weak i_set

/-! ### if -/
def gIf (c : Env → St → Out Bool) (f g : Env → St → SO) : Env → St → SO := fun ρ st => (c ρ st).toS fun b st1 => if b = true then f ρ st1 else g ρ st1
theorem s_iff {c : Expr} {a b : List Stmt} {pos : Pos} {fc : Env → St → Out Bool} {f g : Env → St → SO} (hc : PT X c (TTof S X W fc)) (ha : PSs X a (TSof S X W f)) (hb : PSs X b (TSof S X W g)) : PS X (.If c a b pos) (TSof S X W (gIf fc f g)) := by
  refine (ps_if hc ha hb).weak fun D σ H ⟨ρ, m, F, st, E, r, h⟩ => ⟨ρ, m, F, st, E, r, (SPost.bind rfl h).imp (fun b m1 F1 H1 s1 q => ?_) fun _ _ _ _ _ y => y⟩
  obtain ⟨st1, r1, q⟩ := q
  cases b with
  | true => exact iteT ⟨ρ, m1, F1, st1, E.mono s1.mono, r1, q⟩
  | false => exact iteF ⟨ρ, m1, F1, st1, E.mono s1.mono, r1, q⟩

/-! ### while -/
/-- at most n turns -/
def gWh (c : Env → St → Out Bool) (f : Env → St → SO) : Nat → Env → St → SO
  | 0, _, _ => .bad
  | n + 1, ρ, st => (c ρ st).toS fun b st1 => if b = true then (match f ρ st1 with
      | .nx ρ' st' => gWh c f n ρ' st'
      | .cont ρ' st' => gWh c f n ρ' st'
      | .brk ρ' st' => .nx ρ' st'
      | x => x) else .nx ρ st1
def gWhile (fuel : Env → St → Nat) (c : Env → St → Out Bool) (f : Env → St → SO) : Env → St → SO := fun ρ st => gWh c f (fuel ρ st) ρ st
theorem s_while {c : Expr} {body : List Stmt} {pos : Pos} {fuel : Env → St → Nat} {fc : Env → St → Out Bool} {f : Env → St → SO} (hp : PassesOwn (model X.prog X.w) X.A X.env X.xe) (hc : PT X c (TTof S X W fc)) (hb : PSs X body (TSof S X W f)) :
    PS X (.While c body [] pos) (TSof S X W (gWhile fuel fc f)) := by
  refine (ps_while hp hc hb).weak fun D σ H ⟨ρ, m, F, st, E, r, h⟩ => ?_
  let Wv : Nat → L2.St → Hp → Prop := fun n σ' H' => σ'.length = σ.length ∧ ∃ ρ' m' F' st', EnvR X.K m' F' σ' ρ' ∧ Rel X.K S.T m' F' st' H' ∧ SPost S X W σ.length D m' F' H' (gWh fc f n ρ' st')
  refine ⟨Wv, ⟨fuel ρ st, rfl, ρ, m, F, st, E, r, h⟩, ?_⟩
  rintro n σ1 H1 ⟨hl, ρ1, m1, F1, st1, E1, r1, h1⟩
  cases n with
  | zero => exact h1.elim
  | succ n =>
    refine ⟨ρ1, m1, F1, st1, E1, r1, (SPost.bind hl h1).imp (fun b m2 F2 H2 s2 q => ?_) fun _ _ _ _ _ y => y⟩
    obtain ⟨st2, r2, q⟩ := q
    cases b with
    | true =>
      refine iteT ⟨fun σ' H' => Wv n σ' H', fun σ' H' w => ⟨n, Nat.lt_succ_self n, w⟩, ρ1, m2, F2, st2, E1.mono s2.mono, r2, ?_⟩
      rw [if_pos rfl] at q
      rw [hl]
      cases e : f ρ1 st2 with
      | nx ρ' st' =>
        rw [e] at q
        exact fun σ' m' F' H' hn s' r' E' => ⟨hn, ρ', m', F', st', E', r', SPost.later (K := X.K) s' r' q⟩
      | cont ρ' st' =>
        rw [e] at q
        exact fun σ' m' F' H' hn s' r' E' => ⟨hn, ρ', m', F', st', E', r', SPost.later (K := X.K) s' r' q⟩
      | brk ρ' st' => rw [e] at q; exact q
      | ret d st' => rw [e] at q; exact q
      | exc c fs st' => rw [e] at q; exact q
      | bad => rw [e] at q; exact q
    | false => exact iteF (SPost.now q hl r2 (E1.mono s2.mono))
end
end MP

set_option maxRecDepth 100000
set_option maxHeartbeats 1000000
/-! MP8: loops, comprehensions, assignments to several names. -/
namespace MP
open PySem PySem.Spec PyProof.Rows L2

/-! ### what is walked -/
/-- a list, a tuple, a text: by what comes -/
theorem pi_any {X : Cx} {tg l : Expr} {tl : TE} (hl : PE X l tl) :
    PI X tg l (fun σ H R => tl σ H fun x H1 => (∃ a, x = .ref a ∧ (∃ xs, SqL X.K H1 a xs) ∧ R (Itl X.K a) H1) ∨ (∃ a, x = .ref a ∧ (∃ xs, SqT X.K H1 a xs) ∧ R (Itt X.K a) H1) ∨ ∃ z, x = .str z ∧ R (Its z) H1) := by
  refine ⟨fun pins s σ H R I h => ?_⟩
  refine thn (hl.run pins s σ H _ I h) fun v s1 ⟨x, H1, I1, r1, q1⟩ => ?_
  have fr : ∀ b ∈ [s1.heap.objs.size], FpOk X pins H1 b := fun b hb => by
    have e : b = s1.heap.objs.size := by simpa using hb
    subst e
    exact I1.fpOk (Nat.le_refl _) (I1.hok.fresh (Nat.le_refl _))
  rcases q1 with ⟨a, e, ⟨xs, hq⟩, q⟩ | ⟨a, e, ⟨xs, hq⟩, q⟩ | ⟨z, e, q⟩
  · subst e
    cases r1
    obtain ⟨its, rv, p, hz⟩ := I1.list hq
    exact wpAny_pyIter_list p.isList ⟨s1.heap.objs.size, [s1.heap.objs.size], _, _, H1, rfl, I1.kept (t' := s1.toks) fun b o e => Heap.get?_push_of_some _ e, turn_list a _, ⟨_, Heap.get?_push_size _ rfl, rfl, rfl⟩, fr, q⟩
  · subst e
    cases r1
    obtain ⟨its, rv, p, hz⟩ := I1.tuple hq
    exact wpAny_pyIter_tuple (show s1.heap.IsTuple a its.toArray from p) ⟨s1.heap.objs.size, [s1.heap.objs.size], _, _, H1, rfl, I1.kept (t' := s1.toks) fun b o e => Heap.get?_push_of_some _ e, turn_tuple a _, ⟨_, Heap.get?_push_size _ rfl, rfl, rfl⟩, fr, q⟩
  · subst e
    obtain ⟨t, rfl⟩ := r1
    cases ha : z.cps.all (· < 128)
    · exact wpAny_pyIter_wide ha (pi_one (tk := s1.toks) I1 _ (turn_str _ z t "str_iterator" (.inr rfl)) ⟨_, Heap.get?_push_size _ rfl, rfl, rfl⟩ q)
    · exact wpAny_pyIter_ascii ha (pi_one (tk := s1.toks) I1 _ (turn_str _ z t "str_ascii_iterator" (.inl rfl)) ⟨_, Heap.get?_push_size _ rfl, rfl, rfl⟩ q)

section
variable {S : Se} {X : Cx} {W : WX} {σ : L2.St} {m : List Addr} {F H : Hp} {st : St}
/-- the walk J gives the items ds, whatever happens to the store meanwhile -/
def ItOk (S : Se) (K : PySem.W.Frag) (m : List Addr) (F : Hp) (J : It) (ds : List D) : Prop :=
  ∀ m' F' st' H', Mono m F m' F' → Rel K S.T m' F' st' H' → J.stop ds.length H' ∧
    ∀ k d, ds[k]? = some d → J.go k H' ∧ ∀ x H2, J.yld k H' x H2 → ∃ F2, Step m' F' H' m' F2 H2 ∧ Rel K S.T m' F2 st' H2 ∧ R K m' F2 x d
abbrev TIof (S : Se) (X : Cx) (W : WX) (f : Env → St → Out (List D)) : TI := fun σ H Q => ∃ ρ m F st, EnvR X.K m F σ ρ ∧ Rel X.K S.T m F st H ∧
  Post X.K S.T m F H (fun ds m' F' H' => ∀ J, ItOk S X.K m' F' J ds → Q J H') (XW S.g X.K W σ) (f ρ st)
theorem _root_.L2.PI.weak {X : Cx} {tg e : Expr} {t t' : TI} (h : PI X tg e t) (w : ∀ σ H Q, t' σ H Q → t σ H Q) : PI X tg e t' := ⟨fun pins s σ H Q I q => h.run pins s σ H Q I (w σ H Q q)⟩
/-- the items of a value that never changes -/
def itemsOf : D → Option (List D)
  | .tup ds => some ds
  | .lst ds => some ds
  | .lsk ds => some ds
  | .str s => some (s.map fun c => .str [c])
  | _ => none
def fIt (f : Env → St → Out D) : Env → St → Out (List D) := fun ρ st => (f ρ st).bind fun d st1 => match itemsOf d with
  | some ds => .ok ds st1
  | none => .bad
theorem itl_ok {a : Addr} {xs : List V} {ds : List D} (h : SqL X.K F a xs) (rs : Rs X.K m F xs ds) : ItOk S X.K m F (Itl X.K a) ds := fun m' F' st' H' M r => by
  have hq : SqL X.K H' a xs := r.sub.seq (M.fr.seq h)
  refine ⟨⟨xs, hq, by rw [rs.length]; exact Nat.le_refl _⟩, fun k d e => ?_⟩
  obtain ⟨v, h1, h2⟩ := rs.get e
  refine ⟨⟨xs, v, hq, h1⟩, fun x H2 ⟨e1, e2⟩ => ?_⟩
  subst e1
  have := (e2 xs hq).symm.trans h1
  cases this
  exact ⟨F', Step.refl _ _ _, r, h2.mono M⟩
theorem itt_ok {a : Addr} {xs : List V} {ds : List D} (h : SqT X.K F a xs) (rs : Rs X.K m F xs ds) : ItOk S X.K m F (Itt X.K a) ds := fun m' F' st' H' M r => by
  have hq : SqT X.K H' a xs := r.sub.sqt (M.fr.sqt h)
  refine ⟨⟨xs, hq, by rw [rs.length]; exact Nat.le_refl _⟩, fun k d e => ?_⟩
  obtain ⟨v, h1, h2⟩ := rs.get e
  refine ⟨⟨xs, v, hq, h1⟩, fun x H2 ⟨e1, e2⟩ => ?_⟩
  subst e1
  have := (e2 xs hq).symm.trans h1
  cases this
  exact ⟨F', Step.refl _ _ _, r, h2.mono M⟩
theorem its_ok {z : List Nat} : ItOk S X.K m F (Its (mk z)) (z.map fun c => .str [c]) := fun m' F' st' H' M r => by
  refine ⟨by simp [Its, mk], fun k d e => ?_⟩
  rw [List.getElem?_map] at e
  cases hz : z[k]? with
  | none => rw [hz] at e; cases e
  | some c =>
    rw [hz] at e
    cases e
    have hk : k < z.length := (List.getElem?_eq_some_iff.mp hz).1
    refine ⟨by simpa [Its, mk] using hk, fun x H2 ⟨e1, c', e2, e3⟩ => ?_⟩
    subst e1
    have : c' = c := by
      have : (mk z).cps[k]? = some c := by simpa [mk] using hz
      rw [this] at e2; exact (Option.some.inj e2).symm
    subst this
    subst e3
    exact ⟨F', Step.refl _ _ _, r, .str [c']⟩
theorem s_it {tg e : Expr} {f : Env → St → Out D} (he : PE X e (TEof S X W f)) : PI X tg e (TIof S X W (fIt f)) := by
  refine (pi_any he).weak fun σ H Q ⟨ρ, m, F, st, E, r, h⟩ => ⟨ρ, m, F, st, E, r, (Post.bind h).imp (fun d m1 F1 H1 s1 q v rv => ?_) fun _ _ _ _ _ y => y⟩
  obtain ⟨st1, r1, q⟩ := q
  cases rv with
  | tup e rs => exact .inr (.inl ⟨_, rfl, ⟨_, r1.sub.sqt e⟩, Post.now (P := fun ds m' F' H' => ∀ J, ItOk S X.K m' F' J ds → Q J H') q r1 _ (itt_ok e rs)⟩)
  | lst e rs => exact .inl ⟨_, rfl, ⟨_, SqL.of (r1.sub _ _ e)⟩, Post.now (P := fun ds m' F' H' => ∀ J, ItOk S X.K m' F' J ds → Q J H') q r1 _ (itl_ok (SqL.of e) rs)⟩
  | lsk e rs => exact .inl ⟨_, rfl, ⟨_, r1.sub.seq e⟩, Post.now (P := fun ds m' F' H' => ∀ J, ItOk S X.K m' F' J ds → Q J H') q r1 _ (itl_ok e rs)⟩
  | str z => exact .inr (.inr ⟨_, rfl, Post.now (P := fun ds m' F' H' => ∀ J, ItOk S X.K m' F' J ds → Q J H') q r1 _ its_ok⟩)
  | _ => exact q.elim
/-- range -/
def rg (lo : Int) (n : Nat) : List D := (List.range n).map fun i => .int (lo + (i : Nat))
theorem itr_ok {lo : Int} {n : Nat} : ItOk S X.K m F (Itr lo n) (rg lo n) := fun m' F' st' H' M r => by
  refine ⟨by simp [Itr, rg], fun k d e => ?_⟩
  unfold rg at e
  rw [List.getElem?_map] at e
  by_cases hk : k < n
  · rw [List.getElem?_range hk] at e
    cases e
    refine ⟨hk, fun x H2 ⟨e1, e2⟩ => ?_⟩
    subst e1 e2
    exact ⟨F', Step.refl _ _ _, r, .int _⟩
  · rw [List.getElem?_eq_none (by simpa using hk)] at e
    cases e
def fRg1 (f : Env → St → Out (List D)) : Env → St → Out (List D) := fun ρ st => (f ρ st).bind fun ds st1 => match ds with
  | [.int j] => if -4611686018427387904 ≤ j ∧ j < 4611686018427387904 then .ok (rg 0 j.toNat) st1 else .bad
  | _ => .bad
def fRg2 (f : Env → St → Out (List D)) : Env → St → Out (List D) := fun ρ st => (f ρ st).bind fun ds st1 => match ds with
  | [.int i, .int j] => if (-4611686018427387904 ≤ i ∧ i < 4611686018427387904) ∧ -4611686018427387904 ≤ j ∧ j < 4611686018427387904 then .ok (rg i (j - i).toNat) st1 else .bad
  | _ => .bad
theorem s_rg1 {tg a : Expr} {p pos : Pos} {f : Env → St → Out (List D)} (hg : Gl X "range") (hm : X.mg "range" = none) (ha : PA X [a] (TAof S X W f)) (hs : starEach [a] X.env = [(false, eval a X.env)]) :
    PI X tg (.Call (.Name "range" p) [a] [] pos) (TIof S X W (fRg1 f)) := by
  refine (pi_range1 hg hm ha hs).weak fun σ H Q ⟨ρ, m, F, st, E, r, h⟩ => ⟨ρ, m, F, st, E, r, (Post.bind h).imp (fun ds m1 F1 H1 s1 q vs rv => ?_) fun _ _ _ _ _ y => y⟩
  obtain ⟨st1, r1, q⟩ := q
  split at q
  · split at q
    · rename_i j hb
      obtain ⟨v, rfl, rv'⟩ := Rs.one rv
      cases rv'
      exact ⟨_, rfl, hb.1, hb.2, Post.now (P := fun ds m' F' H' => ∀ J, ItOk S X.K m' F' J ds → Q J H') q r1 _ itr_ok⟩
    · exact q.elim
  · exact q.elim
theorem s_rg2 {tg a b : Expr} {p pos : Pos} {f : Env → St → Out (List D)} (hg : Gl X "range") (hm : X.mg "range" = none) (ha : PA X [a, b] (TAof S X W f)) (hs : starEach [a, b] X.env = [(false, eval a X.env), (false, eval b X.env)]) (hs2 : starEach [b] X.env = [(false, eval b X.env)]) :
    PI X tg (.Call (.Name "range" p) [a, b] [] pos) (TIof S X W (fRg2 f)) := by
  refine (pi_range2 hg hm ha hs hs2).weak fun σ H Q ⟨ρ, m, F, st, E, r, h⟩ => ⟨ρ, m, F, st, E, r, (Post.bind h).imp (fun ds m1 F1 H1 s1 q vs rv => ?_) fun _ _ _ _ _ y => y⟩
  obtain ⟨st1, r1, q⟩ := q
  split at q
  · split at q
    · rename_i i j hb
      obtain ⟨v, w, rfl, rv, rw⟩ := Rs.two rv
      cases rv
      cases rw
      exact ⟨_, _, rfl, ⟨hb.1.1, hb.1.2, hb.2.1, hb.2.2⟩, Post.now (P := fun ds m' F' H' => ∀ J, ItOk S X.K m' F' J ds → Q J H') q r1 _ itr_ok⟩
    · exact q.elim
  · exact q.elim

/-! ### targets -/
abbrev Tgt := D → Env → Option Env
def TGof (S : Se) (X : Cx) (tg : Tgt) (sl : List Nat) : TG := fun v σ H Q => ∃ ρ m F st d, EnvR X.K m F σ ρ ∧ Rel X.K S.T m F st H ∧ R X.K m F v d ∧ match tg d ρ with
  | some ρ' => ∀ σ', σ'.length = σ.length → (∀ j, j ∉ sl → σ'[j]? = σ[j]?) → EnvR X.K m F σ' ρ' → Q σ' H
  | none => False
abbrev Tgts := List D → Env → Option Env
def TGsof (S : Se) (X : Cx) (tg : Tgts) (sl : List Nat) : TGs := fun vs σ H Q => ∃ ρ m F st ds, EnvR X.K m F σ ρ ∧ Rel X.K S.T m F st H ∧ Rs X.K m F vs ds ∧ match tg ds ρ with
  | some ρ' => ∀ σ', σ'.length = σ.length → (∀ j, j ∉ sl → σ'[j]? = σ[j]?) → EnvR X.K m F σ' ρ' → Q σ' H
  | none => False
theorem _root_.L2.PG.weak {X : Cx} {tg : Expr} {t t' : TG} (h : PG X tg t) (w : ∀ v σ H Q, t' v σ H Q → t v σ H Q) : PG X tg t' := ⟨fun pins s σ H v u Q I r q => h.run pins s σ H v u Q I r (w v σ H Q q)⟩
theorem _root_.L2.PGs.weak {X : Cx} {tg : List Expr} {t t' : TGs} (h : PGs X tg t) (w : ∀ v σ H Q, t' v σ H Q → t v σ H Q) : PGs X tg t' := ⟨fun pins s σ H v u Q I r q => h.run pins s σ H v u Q I r (w v σ H Q q)⟩
def tgName (i : Nat) : Tgt := fun d ρ => some (ρ.set i (some d))
theorem t_name {i : Nat} {x : Str} {pos : Pos} (hN : X.N.Nodup) (hi : X.N[i]? = some x) (hx : Loc X.env.scope x) (hf : X.fn x = true ∨ X.env.scope.names.lookup x = some .local) : PG X (.Name x pos) (TGof S X (tgName i) [i]) :=
  (pg_name hN hi hx hf).weak fun v σ H Q ⟨ρ, m, F, st, d, E, r, rv, h⟩ => h _ (List.length_set ..) (fun j hj => List.getElem?_set_ne (fun z => hj (by rw [z]; exact List.mem_singleton.mpr rfl))) (E.set rv i)
def tgNil : Tgts := fun ds ρ => match ds with
  | [] => some ρ
  | _ => none
def tgCons (t : Tgt) (u : Tgts) : Tgts := fun ds ρ => match ds with
  | d :: ds => match t d ρ with
    | some ρ1 => u ds ρ1
    | none => none
  | [] => none
theorem t_nil : PGs X [] (TGsof S X tgNil []) := pgs_nil.weak fun vs σ H Q ⟨ρ, m, F, st, ds, E, r, rs, h⟩ => by
  cases rs with
  | nil => exact ⟨rfl, h σ rfl (fun _ _ => rfl) E⟩
  | cons _ _ => exact h.elim
theorem t_cons {e : Expr} {es : List Expr} {t : Tgt} {u : Tgts} {s1 s2 : List Nat} (h1 : PG X e (TGof S X t s1)) (h2 : PGs X es (TGsof S X u s2)) (hs : (assignEach (e :: es) X.env).map (·.2) = assign e X.env :: (assignEach es X.env).map (·.2)) : PGs X (e :: es) (TGsof S X (tgCons t u) (s1 ++ s2)) := by
  refine (pgs_cons h1 h2 hs).weak fun vs σ H Q ⟨ρ, m, F, st, ds, E, r, rs, h⟩ => ?_
  cases rs with
  | nil => exact h.elim
  | cons rv rs =>
    refine ⟨_, _, rfl, ρ, m, F, st, _, E, r, rv, ?_⟩
    rename_i v vs d ds _
    unfold tgCons at h
    cases e1 : t d ρ with
    | none => simp only [e1] at h
    | some ρ1 =>
      simp only [e1] at h
      intro σ1 hl hs1 E1
      refine ⟨ρ1, m, F, st, ds, E1, r, rs, ?_⟩
      cases e2 : u ds ρ1 with
      | none => rw [e2] at h; exact h
      | some ρ2 =>
        rw [e2] at h
        exact fun σ2 hl2 hs2 E2 => h σ2 (hl2.trans hl) (fun j hj => (hs2 j (fun z => hj (List.mem_append_right _ z))).trans (hs1 j (fun z => hj (List.mem_append_left _ z)))) E2
def tgTup (n : Nat) (u : Tgts) : Tgt := fun d ρ => match d with
  | .tup ds => if ds.length = n then u ds ρ else none
  | _ => none
theorem t_tup {es : List Expr} {k n : Nat} {pos : Pos} {u : Tgts} {sl : List Nat} (hc : X.calm = true) (h : PGs X es (TGsof S X u sl)) (hn : (assignEach es X.env).length = n) (hst : (assignEach es X.env).findIdx? (·.1) = none) : PG X (.Tuple es k pos) (TGof S X (tgTup n u) sl) := by
  refine (pg_tup hc h hn hst).weak fun v σ H Q ⟨ρ, m, F, st, d, E, r, rv, h⟩ => ?_
  cases rv with
  | tup e rs =>
    unfold tgTup at h
    simp only at h
    split at h
    · rename_i ρ' e1
      split at e1
      · rename_i hl
        refine ⟨_, _, rfl, r.sub.sqt e, by rw [rs.length]; exact hl, ρ, m, F, st, _, E, r, rs, ?_⟩
        rw [e1]; exact h
      · cases e1
    · exact h.elim
  | _ => exact h.elim
/-- target = value -/
def gAsg (f : Env → St → Out D) (tg : Tgt) : Env → St → SO := fun ρ st => (f ρ st).toS fun d st1 => match tg d ρ with
  | some ρ' => .nx ρ' st1
  | none => .bad
theorem s_asg {t e : Expr} {pos : Pos} {f : Env → St → Out D} {tg : Tgt} {sl : List Nat} (he : PE X e (TEof S X W f)) (hg : PG X t (TGof S X tg sl)) (hs : swapsWithSole [t] e pos.line X.env = pure false) (hw : swappedStores [t] e X.env = pure none)
    (h1 : (assignEach [t] X.env).map (·.2) = [assign t X.env]) : PS X (.Assign [t] e pos) (TSof S X W (gAsg f tg)) := by
  refine (ps_asg he hg hs hw h1).weak fun D σ H ⟨ρ, m, F, st, E, r, h⟩ => ⟨ρ, m, F, st, E, r, (SPost.bind rfl h).imp (fun d m1 F1 H1 s1 q v rv => ?_) fun _ _ _ _ _ y => y⟩
  obtain ⟨st1, r1, q⟩ := q
  refine ⟨ρ, m1, F1, st1, d, E.mono s1.mono, r1, rv, ?_⟩
  cases e1 : tg d ρ with
  | none => simp only [e1] at q; exact q.elim
  | some ρ' =>
    simp only [e1] at q
    exact fun σ' hl _ E' => SPost.now q hl r1 E'

/-! ### for -/
def gLoop (tg : Tgt) (body : Env → St → SO) : List D → Env → St → SO
  | [], ρ, st => .nx ρ st
  | d :: ds, ρ, st => match tg d ρ with
    | none => .bad
    | some ρ1 => match body ρ1 st with
      | .nx ρ' st' => gLoop tg body ds ρ' st'
      | .cont ρ' st' => gLoop tg body ds ρ' st'
      | .brk ρ' st' => .nx ρ' st'
      | x => x
def gFor (f : Env → St → Out (List D)) (tg : Tgt) (body : Env → St → SO) : Env → St → SO := fun ρ st => (f ρ st).toS fun ds st1 => gLoop tg body ds ρ st1
theorem s_for {tgt iter : Expr} {body : List Stmt} {pos : Pos} {f : Env → St → Out (List D)} {tg : Tgt} {sl : List Nat} {b : Env → St → SO} (hp : PassesOwn (model X.prog X.w) X.A X.env X.xe) (hc : X.calm = true) (hi : PI X tgt iter (TIof S X W f)) (hg : PG X tgt (TGof S X tg sl)) (hb : PSs X body (TSof S X W b))
    (hs : ∀ x, foldedSetIterable iter X.env x = pure x) : PS X (.For tgt iter body [] pos) (TSof S X W (gFor f tg b)) := by
  refine (ps_for hp hc hi hg hb hs).weak fun D σ H ⟨ρ, m, F, st, E, r, h⟩ => ⟨ρ, m, F, st, E, r, (SPost.bind rfl h).imp (fun ds m1 F1 H1 s1 q J hJ => ?_) fun _ _ _ _ _ y => y⟩
  obtain ⟨st1, r1, q⟩ := q
  let Wv : Nat → Nat → L2.St → Hp → Prop := fun i n σ' H' => n = ds.length - i ∧ i ≤ ds.length ∧ σ'.length = σ.length ∧ ∃ ρ' m' F' st', EnvR X.K m' F' σ' ρ' ∧ Rel X.K S.T m' F' st' H' ∧ Mono m1 F1 m' F' ∧ SPost S X W σ.length D m' F' H' (gLoop tg b (ds.drop i) ρ' st')
  refine ⟨Wv, ⟨ds.length, by simp, Nat.zero_le _, rfl, ρ, m1, F1, st1, E.mono s1.mono, r1, Mono.refl _ _, q⟩, ?_⟩
  rintro i n σ2 H2 ⟨rfl, hi, hl, ρ2, m2, F2, st2, E2, r2, M2, h2⟩
  obtain ⟨j1, j2⟩ := hJ m2 F2 st2 H2 M2 r2
  by_cases hlt : i < ds.length
  · obtain ⟨g1, g2⟩ := j2 i ds[i] (List.getElem?_eq_getElem hlt)
    rw [List.drop_eq_getElem_cons hlt] at h2
    refine .inr ⟨g1, fun σ' H' => Wv (i + 1) (ds.length - (i + 1)) σ' H', fun σ' H' w => ⟨_, by omega, w⟩, fun x H3 y => ?_⟩
    obtain ⟨F3, s3, r3, rx⟩ := g2 x H3 y
    refine ⟨ρ2, m2, F3, st2, ds[i], E2.mono s3.mono, r3, rx, ?_⟩
    unfold gLoop at h2
    cases e : tg ds[i] ρ2 with
    | none => simp only [e] at h2; exact h2.elim
    | some ρ3 =>
      simp only [e] at h2
      intro σ3 hl3 _ E3
      have hl3' : σ3.length = σ.length := hl3.trans hl
      refine ⟨ρ3, m2, F3, st2, E3, r3, ?_⟩
      rw [hl3']
      have h3 := SPost.later (K := X.K) s3 r3 h2
      cases eb : b ρ3 st2 with
      | nx ρ' st' =>
        simp only [eb] at h3
        exact fun σ' m' F' H' hn s' r' E' => ⟨rfl, hlt, hn, ρ', m', F', st', E', r', M2.trans (s3.mono.trans s'.mono), SPost.later (K := X.K) s' r' h3⟩
      | cont ρ' st' =>
        simp only [eb] at h3
        exact fun σ' m' F' H' hn s' r' E' => ⟨rfl, hlt, hn, ρ', m', F', st', E', r', M2.trans (s3.mono.trans s'.mono), SPost.later (K := X.K) s' r' h3⟩
      | brk ρ' st' => simp only [eb] at h3; exact h3
      | ret d st' => simp only [eb] at h3; exact h3
      | exc c fs st' => simp only [eb] at h3; exact h3
      | bad => simp only [eb] at h3; exact h3
  · have e : i = ds.length := by omega
    subst e
    rw [List.drop_length] at h2
    exact .inl ⟨j1, SPost.now h2 hl r2 E2⟩
end
end MP

set_option maxRecDepth 100000
set_option maxHeartbeats 1000000
/-! MP9: list comprehensions. -/
namespace MP
open PySem PySem.Spec PyProof.Rows L2

/-- nothing leaves a comprehension -/
abbrev WF : WX := fun _ _ _ _ => False
def Out.calm {α : Type} (x : Out α) : Out α := match x with
  | .ok a st => .ok a st
  | _ => .bad
@[simp] theorem Out.calm_ok {α : Type} (a : α) (st : St) : (Out.ok a st).calm = .ok a st := rfl
@[simp] theorem Out.calm_exc {α : Type} (c : Nat) (fs : List D) (st : St) : (Out.exc c fs st : Out α).calm = .bad := rfl
@[simp] theorem Out.calm_bad {α : Type} : (Out.bad : Out α).calm = .bad := rfl
/-- the turns of a comprehension -/
def lcLoop (tg : Tgt) (cd : Env → St → Out Bool) (el : Env → St → Out D) (ρ : Env) : List D → List D → St → Out (List D)
  | [], acc, st => .ok acc st
  | d :: ds, acc, st => match tg d ρ with
    | none => .bad
    | some ρ1 => (cd ρ1 st).calm.bind fun b st1 => if b = true then (el ρ1 st1).calm.bind fun y st2 => if acc.length < 16777216 then lcLoop tg cd el ρ ds (acc ++ [y]) st2 else .bad else lcLoop tg cd el ρ ds acc st1
def wipeE (ρ : Env) : List Nat → Env
  | [] => ρ
  | v :: vs => (wipeE ρ vs).set v none
def fLc (f : Env → St → Out (List D)) (tg : Tgt) (cd : Env → St → Out Bool) (el : Env → St → Out D) (own : List Nat) : Env → St → Out (List D) := fun ρ st => (f ρ st).bind fun ds st1 => lcLoop tg cd el (wipeE ρ own) ds [] st1
def fLcL (g : Env → St → Out (List D)) : Env → St → Out D := fun ρ st => (g ρ st).bind fun ds st1 => .ok (.lst ds) st1
section
variable {S : Se} {X : Cx} {W : WX} {σ : L2.St} {m : List Addr} {F H : Hp} {st : St}
theorem EnvR.wipe {K : PySem.W.Frag} {ρ : Env} (E : EnvR K m F σ ρ) : ∀ own : List Nat, EnvR K m F (L2.wipe σ own) (wipeE ρ own)
  | [] => E
  | v :: vs => by
    have h := EnvR.wipe E vs
    unfold L2.wipe wipeE
    refine ⟨by rw [List.length_set, List.length_set]; exact h.len, fun j d e => ?_⟩
    by_cases hij : v = j
    · subst hij
      by_cases hl : v < (wipeE ρ vs).length
      · rw [List.getElem?_set_self hl] at e; cases e
      · rw [List.getElem?_eq_none (by rw [List.length_set]; omega)] at e; cases e
    · rw [List.getElem?_set_ne hij] at e ⊢
      exact h.get j d e
/-- a test of a comprehension -/
theorem s_yes : PTs X [] (TTof S X W (fun _ st => .ok true st)) := by
  refine ⟨fun pins s σ H Q I ⟨ρ, m, F, st, E, r, h⟩ => ?_⟩
  exact pts_nil.run pins s σ H Q I (Post.now (P := fun b m' F' H' => Q b H') h r)
theorem s_ifs {c : Expr} {f : Env → St → Out Bool} (h : PT X c (TTof S X W f)) : PTs X [c] (TTof S X W f) := pts_one h
theorem Rel.side {K : PySem.W.Frag} {T : NTabs} (r : Rel K T m F st H) {a : Addr} {o : HO} (ha : a ∉ m) (hF : F a = none) (ht : ∀ u, H a = some u → ∃ xs, u = .lst xs) : Rel K T m F st (upd H a o) := by
  refine ⟨fun b u e => ?_, r.ntb, r.len, r.nd, r.sep, fun i u b h1 h2 => ?_, r.low, fun p hp => ?_⟩
  · have : b ≠ a := fun z => by rw [z, hF] at e; cases e
    rw [upd_ne this]; exact r.sub b u e
  · have : b ≠ a := fun z => ha (z ▸ List.mem_of_getElem? h2)
    rw [upd_ne this]; exact r.obj i u b h1 h2
  · obtain ⟨ps, h1, h2, h3⟩ := r.tabs p hp
    have : p.1 ≠ a := fun z => by
      rw [z] at h1
      obtain ⟨xs, e⟩ := ht _ h1
      cases e
    refine ⟨ps, by rw [upd_ne this]; exact h1, h2, fun pos cv e => ?_⟩
    obtain ⟨c, e1, e2⟩ := h3 pos cv e
    have hc : c ≠ a := fun z => by
      rw [z] at e2
      obtain ⟨xs, e⟩ := ht _ e2
      cases e
    exact ⟨c, e1, by rw [upd_ne hc]; exact e2⟩
/-- a list that stood beside the store is told among what never changes -/
theorem Rel.tell {K : PySem.W.Frag} {T : NTabs} (r : Rel K T m F st H) {a : Addr} {xs : List V} (ha : a ∉ m) (hF : F a = none) (hH : H a = some (.lst xs)) : Mono m F m (upd F a (.lst xs)) ∧ Rel K T m (upd F a (.lst xs)) st H := by
  have M : Mono m F m (upd F a (.lst xs)) := ⟨same_upd hF _, fun _ _ h => h⟩
  refine ⟨M, fun b u e => ?_, fun b u e => ?_, r.len, r.nd, fun b hb => ?_, fun i u b h1 h2 => (r.obj i u b h1 h2).mono M, r.low, r.tabs⟩
  · by_cases hb : b = a
    · subst hb; rw [upd_same] at e; cases e; exact hH
    · rw [upd_ne hb] at e; exact r.sub b u e
  · by_cases hb : b = a
    · subst hb; rw [upd_same] at e; cases e; exact ntb_lst xs
    · rw [upd_ne hb] at e; exact r.ntb b u e
  · have : b ≠ a := fun z => ha (z ▸ hb)
    rw [upd_ne this]; exact r.sep b hb

theorem wipe_get {σ : L2.St} {i : Nat} : ∀ {vs : List Nat}, i < σ.length → (L2.wipe σ vs)[i]? = if i ∈ vs then some none else σ[i]?
  | [], h => by simp [L2.wipe]
  | v :: vs, h => by
    unfold L2.wipe
    by_cases hi : v = i
    · subst hi
      rw [List.getElem?_set_self (by rw [L2.wipe_length]; exact h), if_pos (List.mem_cons_self ..)]
    · rw [List.getElem?_set_ne hi, wipe_get h]
      have : i ≠ v := fun z => hi z.symm
      by_cases hm : i ∈ vs
      · rw [if_pos hm, if_pos (List.mem_cons_of_mem _ hm)]
      · rw [if_neg hm, if_neg (by simp [this, hm])]
theorem wipe_same {σ τ : L2.St} {vs sl : List Nat} (hl : τ.length = σ.length) (hs : ∀ j, j ∉ sl → τ[j]? = (L2.wipe σ vs)[j]?) (hsub : ∀ j ∈ sl, j ∈ vs) : L2.wipe τ vs = L2.wipe σ vs := by
  refine List.ext_getElem? fun i => ?_
  by_cases hi : i < σ.length
  · rw [wipe_get (by omega), wipe_get hi]
    by_cases hm : i ∈ vs
    · rw [if_pos hm, if_pos hm]
    · rw [if_neg hm, if_neg hm, hs i (fun z => hm (hsub i z)), wipe_get hi, if_neg hm]
  · rw [List.getElem?_eq_none (by rw [L2.wipe_length]; omega), List.getElem?_eq_none (by rw [L2.wipe_length]; omega)]

/-- a list comprehension: what is known of the new list -/
theorem i_lc {f : Env → St → Out (List D)} {tg : Tgt} {sl : List Nat} {cd : Env → St → Out Bool} {el : Env → St → Out D} {own : List Nat} {g : TG} {tt : TT} {te : TE} (Xb : Cx) (hK : Xb.K = X.K) (hsl : ∀ j ∈ sl, j ∈ own)
    (hg : g = TGof S Xb tg sl) (ht : tt = TTof S Xb WF cd) (he : te = TEof S Xb WF el) :
    ∀ σ H Q, TEof S X W (fLcL (fLc f tg cd el own)) σ H Q → tLc (TIof S X W f) g tt te own σ H Q := by
  subst hg ht he
  intro σ H Q ⟨ρ, m, F, st, E, r, h⟩
  have h : PD S X W σ m F H Q ((f ρ st).bind fun ds st1 => (lcLoop tg cd el (wipeE ρ own) ds [] st1).bind fun ds st2 => .ok (.lst ds) st2) := by
    unfold fLcL fLc at h
    cases e : f ρ st with
    | ok a st1 => rw [e] at h; exact h
    | exc c fs st1 => rw [e] at h; exact h
    | bad => rw [e] at h; exact h
  refine ⟨ρ, m, F, st, E, r, (Post.bind h).imp (fun ds m1 F1 H1 s1 q J hJ L hL => ?_) fun _ _ _ _ _ y => y⟩
  obtain ⟨st1, r1, q⟩ := q
  have E1 := (E.mono s1.mono).wipe own
  let Wv : Nat → Nat → Hp → Prop := fun i n H' => n = ds.length - i ∧ i ≤ ds.length ∧ ∃ m' F' st' acc accd, Step m1 F1 H1 m' F' H' ∧ Rel X.K S.T m' F' st' H' ∧ H' L = some (.lst acc) ∧ L ∉ m' ∧ F' L = none ∧ Rs X.K m' F' acc accd ∧
    PD S X W σ m1 F1 H1 Q ((lcLoop tg cd el (wipeE ρ own) (ds.drop i) accd st').bind fun ds st2 => .ok (.lst ds) st2)
  have hL1 : L ∉ m1 := r1.notin hL
  have hL2 : F1 L = none := r1.noF hL
  refine ⟨Wv, ⟨ds.length, by simp, Nat.zero_le _, m1, F1, st1, [], [], ⟨Mono.refl _ _, fun b o e _ _ => by rw [upd_ne (ne_of_none e hL)]; exact e, fun _ h => .inl h, fun _ _ h => .inl h⟩, r1.side hL1 hL2 (fun u e => by rw [hL] at e; cases e), upd_same, hL1, hL2, .nil, q⟩, ?_⟩
  rintro i n H2 ⟨rfl, hi, m2, F2, st2, acc, accd, s2, r2, a1, a2, a3, ra, h2⟩
  obtain ⟨j1, j2⟩ := hJ m2 F2 st2 H2 s2.mono r2
  by_cases hlt : i < ds.length
  · obtain ⟨g1, g2⟩ := j2 i ds[i] (List.getElem?_eq_getElem hlt)
    rw [List.drop_eq_getElem_cons hlt] at h2
    refine .inr ⟨g1, fun H' => Wv (i + 1) (ds.length - (i + 1)) H', fun H' w => ⟨_, by omega, w⟩, fun x H3 y => ?_⟩
    obtain ⟨F3, s3, r3, rx⟩ := g2 x H3 y
    have b1 : H3 L = some (.lst acc) := s3.pres L _ a1 a2 (ntb_lst acc)
    have b3 : F3 L = none := by
      cases e : F3 L with
      | none => rfl
      | some o =>
        rcases s3.newF L o e with z | z | ⟨z, nl⟩
        · rw [a3] at z; cases z
        · exact absurd (ntb_lst acc) (z _ a1)
        · rw [a1] at z; exact absurd (Option.some.inj z).symm (nl _)
    have s23 := s2.trans r2 s3
    have ra3 := ra.mono s3.mono
    refine ⟨wipeE ρ own, m2, F3, st2, ds[i], by rw [hK]; exact E1.mono s23.mono, by rw [hK]; exact r3, by rw [hK]; exact rx, ?_⟩
    unfold lcLoop at h2
    cases e : tg ds[i] (wipeE ρ own) with
    | none => simp only [e, Out.bind_bad] at h2; exact h2.elim
    | some ρ3 =>
      simp only [e] at h2
      intro σ3 hl3 hs3 E3
      have hl3' : σ3.length = σ.length := hl3.trans (L2.wipe_length ..)
      refine ⟨wipe_same hl3' hs3 hsl, ρ3, m2, F3, st2, E3, by rw [hK]; exact r3, ?_⟩
      cases ec : cd ρ3 st2 with
      | bad => simp only [ec, Out.calm_bad, Out.bind_bad] at h2; exact h2.elim
      | exc c fs st4 => simp only [ec, Out.calm_exc, Out.bind_bad] at h2; exact h2.elim
      | ok b st4 =>
        simp only [ec, Out.calm_ok, Out.bind_ok] at h2
        intro m4 F4 H4 s4 r4
        rw [hK] at r4
        have c1 : H4 L = some (.lst acc) := s4.pres L _ b1 a2 (ntb_lst acc)
        have c2 : L ∉ m4 := fun z => by
          rcases s4.new L z with z | z
          · exact a2 z
          · exact z _ b1 (ntb_lst acc)
        have c3 : F4 L = none := by
          cases e : F4 L with
          | none => rfl
          | some o =>
            rcases s4.newF L o e with z | z | ⟨z, nl⟩
            · rw [b3] at z; cases z
            · exact absurd (ntb_lst acc) (z _ b1)
            · rw [b1] at z; exact absurd (Option.some.inj z).symm (nl _)
        have s24 := s23.trans r3 s4
        cases b with
        | false =>
          rw [if_neg (by simp)] at h2
          exact iteF ⟨rfl, hlt, m4, F4, st4, acc, accd, s24, r4, c1, c2, c3, ra3.mono s4.mono, h2⟩
        | true =>
          rw [if_pos rfl] at h2
          refine iteT ⟨ρ3, m4, F4, st4, E3.mono s4.mono, by rw [hK]; exact r4, ?_⟩
          cases ee : el ρ3 st4 with
          | bad => simp only [ee, Out.calm_bad, Out.bind_bad] at h2; exact h2.elim
          | exc c fs st5 => simp only [ee, Out.calm_exc, Out.bind_bad] at h2; exact h2.elim
          | ok y st5 =>
            simp only [ee, Out.calm_ok, Out.bind_ok] at h2
            intro m5 F5 H5 s5 r5 v rv
            rw [hK] at r5 rv
            have d1 : H5 L = some (.lst acc) := s5.pres L _ c1 c2 (ntb_lst acc)
            have d2 : L ∉ m5 := fun z => by
              rcases s5.new L z with z | z
              · exact c2 z
              · exact z _ c1 (ntb_lst acc)
            have d3 : F5 L = none := by
              cases e : F5 L with
              | none => rfl
              | some o =>
                rcases s5.newF L o e with z | z | ⟨z, nl⟩
                · rw [c3] at z; cases z
                · exact absurd (ntb_lst acc) (z _ c1)
                · rw [c1] at z; exact absurd (Option.some.inj z).symm (nl _)
            have s25 := s24.trans r4 s5
            have ra5 := (ra3.mono s4.mono).mono s5.mono
            split at h2
            · rename_i hsz
              refine ⟨acc, d1, by rw [ra5.length, sizeLine_eq]; exact hsz, rfl, hlt, m5, F5, st5, acc ++ [v], accd ++ [y], ⟨s25.mono, fun b o eb nb nt => ?_, s25.new, s25.newF⟩, r5.side d2 d3 (fun u e => ⟨acc, by rw [d1] at e; exact (Option.some.inj e).symm⟩), upd_same, d2, d3, ra5.append (.cons rv .nil), h2⟩
              have : b ≠ L := fun z => by rw [z, hL] at eb; cases eb
              rw [upd_ne this]; exact s25.pres b o eb nb nt
            · exact h2.elim
  · have e : i = ds.length := by omega
    subst e
    rw [List.drop_length] at h2
    obtain ⟨M, r3⟩ := r2.tell a2 a3 a1
    refine .inl ⟨j1, h2 m2 (upd F2 L (.lst acc)) H2 ⟨s2.mono.trans M, s2.pres, s2.new, fun b o e => ?_⟩ r3 _ (.lst upd_same (ra.mono M))⟩
    by_cases hb : b = L
    · rw [hb]; exact .inr (.inl (.of hL))
    · rw [upd_ne hb] at e; exact s2.newF b o e
/-- in a block -/
theorem s_lc {elt tgE iter : Expr} {ifs : List Expr} {scope : Scope} {own : List (Str × Nat)} {pos : Pos} {f : Env → St → Out (List D)} {tg : Tgt} {sl : List Nat} {cd : Env → St → Out Bool} {el : Env → St → Out D}
    (hc : X.calm = true) (hN : X.N.Nodup) (hi : PI X tgE iter (TIof S X W f)) (ok : BlkOk X.N X.env.scope scope own) (hsl : ∀ j ∈ sl, j ∈ own.map (·.2))
    (hg : ∀ (s : Shared) (H : Hp) (C : Addr) (cl : List (Str × Addr)) (fp : List Addr), PG (X.blk s H scope (compEnvC scope cl C X.env) fp) tgE (TGof S X tg sl))
    (ht : ∀ (s : Shared) (H : Hp) (C : Addr) (cl : List (Str × Addr)) (fp : List Addr), PTs (X.blk s H scope (compEnvC scope cl C X.env) fp) ifs (TTof S X WF cd))
    (he : ∀ (s : Shared) (H : Hp) (C : Addr) (cl : List (Str × Addr)) (fp : List Addr), PE (X.blk s H scope (compEnvC scope cl C X.env) fp) elt (TEof S X WF el)) (hs : ∀ x, foldedSetIterable iter X.env x = pure x) :
    PE X (.ListComp elt [⟨tgE, iter, ifs, 0⟩] scope pos) (TEof S X W (fLcL (fLc f tg cd el (own.map (·.2))))) :=
  (pe_lc hc hN hi ok hg ht he hs).weak (i_lc (W := W) X rfl hsl rfl rfl rfl)
theorem s_setLc {i : Nat} {y : Str} {py : Pos} {elt tgE iter : Expr} {ifs : List Expr} {scope : Scope} {own : List (Str × Nat)} {pos spos : Pos} {f : Env → St → Out (List D)} {tg : Tgt} {sl : List Nat} {cd : Env → St → Out Bool} {el : Env → St → Out D}
    (hc : X.calm = true) (hN : X.N.Nodup) (hy : X.N[i]? = some y) (hyl : X.env.scope.names.lookup y = some .local) (hsw : swapsWith (.ListComp elt [⟨tgE, iter, ifs, 0⟩] scope pos) (some (.Name y py)) spos.line X.env = pure true)
    (hi : PI X tgE iter (TIof S X W f)) (ok : BlkOk X.N X.env.scope scope own) (hsl : ∀ j ∈ sl, j ∈ own.map (·.2))
    (hg : ∀ (s : Shared) (H : Hp) (C : Addr) (cl : List (Str × Addr)) (fp : List Addr), PG (X.blk s H scope (compEnvC scope cl C X.env) fp) tgE (TGof S X tg sl))
    (ht : ∀ (s : Shared) (H : Hp) (C : Addr) (cl : List (Str × Addr)) (fp : List Addr), PTs (X.blk s H scope (compEnvC scope cl C X.env) fp) ifs (TTof S X WF cd))
    (he : ∀ (s : Shared) (H : Hp) (C : Addr) (cl : List (Str × Addr)) (fp : List Addr), PE (X.blk s H scope (compEnvC scope cl C X.env) fp) elt (TEof S X WF el)) (hs : ∀ x, foldedSetIterable iter X.env x = pure x) :
    PS X (.Assign [.Name y py] (.ListComp elt [⟨tgE, iter, ifs, 0⟩] scope pos) spos) (TSof S X W (gSet i (fLcL (fLc f tg cd el (own.map (·.2)))))) := by
  refine (ps_setLc hc hN hy hyl hsw hi ok hg ht he hs).weak fun D σ H h => ?_
  have h2 : tAsg (TEof S X W (fLcL (fLc f tg cd el (own.map (·.2))))) (gName i) D σ H := i_set D σ H h
  exact i_lc (W := W) X rfl hsl rfl rfl rfl σ H _ h2
end
end MP

set_option maxRecDepth 100000
set_option maxHeartbeats 1000000
/-! MP10: what changes: lists of the store, their methods. -/
namespace MP
open PySem PySem.Spec PyProof.Rows L2

/-! ### the store -/
mutual
theorem lo_mono {a b : Nat} (h : a ≤ b) : ∀ d : D, d.lo a = true → d.lo b = true
  | .non, _ => rfl
  | .bl _, _ => rfl
  | .int _, _ => rfl
  | .str _, _ => rfl
  | .ref i, e => by simp only [D.lo, decide_eq_true_eq] at e ⊢; omega
  | .tup ds, e => los_mono h ds e
  | .lst ds, e => los_mono h ds e
  | .lsk ds, e => los_mono h ds e
  | .xo _ _ _ ds, e => los_mono h ds e
theorem los_mono {a b : Nat} (h : a ≤ b) : ∀ ds : List D, D.los a ds = true → D.los b ds = true
  | [], _ => rfl
  | d :: ds, e => by
    simp only [D.los, Bool.and_eq_true] at e ⊢
    exact ⟨lo_mono h d e.1, los_mono h ds e.2⟩
end
mutual
theorem lo_R {K : PySem.W.Frag} {m : List Addr} {F : Hp} : ∀ {v : V} {d : D}, R K m F v d → d.lo m.length = true
  | _, _, .non => rfl
  | _, _, .bl _ => rfl
  | _, _, .int _ => rfl
  | _, _, .str _ => rfl
  | _, _, .tup _ r => lo_Rs r
  | _, _, .lst _ r => lo_Rs r
  | _, _, .lsk _ r => lo_Rs r
  | _, _, .xo _ _ r => lo_Rs r
  | _, _, .ref h => by
    simp only [D.lo, decide_eq_true_eq]
    exact (List.getElem?_eq_some_iff.mp h).1
theorem lo_Rs {K : PySem.W.Frag} {m : List Addr} {F : Hp} : ∀ {vs : List V} {ds : List D}, Rs K m F vs ds → D.los m.length ds = true
  | _, _, .nil => rfl
  | _, _, .cons r t => by
    simp only [D.los, Bool.and_eq_true]
    exact ⟨lo_R r, lo_Rs t⟩
end
/-- a new object of the store -/
def St.push (st : St) (o : O) : St := { st with objs := st.objs ++ [o] }
/-- an object of the store becomes another -/
def St.put (st : St) (i : Nat) (o : O) : St := { objs := st.objs.set i o, fls := st.fls.map fun p => (p.1, p.2 || (decide (i < p.1) && !(o.lo p.1))) }
section
variable {K : PySem.W.Frag} {T : NTabs} {m : List Addr} {F H : Hp} {st : St}
theorem Rel.box (r : Rel K T m F st H) {p : Addr} {xs : List V} {ds : List D} (hp : H p = none) (rs : Rs K m F xs ds) :
    Step m F H (m ++ [p]) F (upd H p (.lst xs)) ∧ Rel K T (m ++ [p]) F (st.push (.lst ds)) (upd H p (.lst xs)) ∧ (m ++ [p])[st.objs.length]? = some p := by
  have hm : p ∉ m := r.notin hp
  have M : Mono m F (m ++ [p]) F := ⟨Same.refl F, fun i a h => by
    rw [List.getElem?_append_left (List.getElem?_eq_some_iff.mp h).1]; exact h⟩
  have hl : (m ++ [p])[st.objs.length]? = some p := by
    rw [← r.len, List.getElem?_append_right (Nat.le_refl _)]; simp
  refine ⟨⟨M, fun b u e _ _ => same_upd hp _ b u e, fun a h => ?_, fun _ _ h => .inl h⟩, ⟨fun b u e => ?_, r.ntb, ?_, ?_, fun a h => ?_, fun i o a h1 h2 => ?_, fun q hq hb i o hi h1 => ?_, r.tabs.ext (same_upd hp _)⟩, hl⟩
  · rcases List.mem_append.mp h with h | h
    · exact .inl h
    · rw [List.mem_singleton.mp h]; exact .inr (.of hp)
  · exact same_upd hp _ b u (r.sub b u e)
  · simp [St.push, r.len]
  · exact List.nodup_append.mpr ⟨r.nd, by simp, fun a h b h' => by rw [List.mem_singleton.mp h']; exact fun z => hm (z ▸ h)⟩
  · rcases List.mem_append.mp h with h | h
    · exact r.sep a h
    · rw [List.mem_singleton.mp h]; exact r.noF hp
  · by_cases hi : i < m.length
    · rw [List.getElem?_append_left hi] at h2
      have h1 : st.objs[i]? = some o := by
        rw [St.push, List.getElem?_append_left (by rw [← r.len]; exact hi)] at h1; exact h1
      have : a ≠ p := fun z => hm (z ▸ List.mem_of_getElem? h2)
      rw [upd_ne this]; exact (r.obj i o a h1 h2).mono M
    · have : i = m.length := by
        have := (List.getElem?_eq_some_iff.mp h2).1
        rw [List.length_append, List.length_singleton] at this
        omega
      subst this
      rw [List.getElem?_append_right (Nat.le_refl _)] at h2
      simp only [Nat.sub_self, List.getElem?_cons_zero, Option.some.injEq] at h2
      subst h2
      rw [St.push, List.getElem?_append_right (by rw [r.len]; exact Nat.le_refl _), r.len] at h1
      simp only [Nat.sub_self, List.getElem?_cons_zero, Option.some.injEq] at h1
      subst h1
      rw [upd_same]
      exact .lst (rs.mono M)
  · by_cases hj : i < st.objs.length
    · rw [St.push, List.getElem?_append_left hj] at h1
      exact r.low q hq hb i o hi h1
    · have : i = st.objs.length := by
        have := (List.getElem?_eq_some_iff.mp h1).1
        rw [St.push, List.length_append, List.length_singleton] at this
        omega
      subst this
      rw [St.push, List.getElem?_append_right (Nat.le_refl _)] at h1
      simp only [Nat.sub_self, List.getElem?_cons_zero, Option.some.injEq] at h1
      subst h1
      exact los_mono (by rw [r.len]; omega) ds (lo_Rs rs)
theorem Rel.put (r : Rel K T m F st H) {i : Nat} {a : Addr} {o : O} {u : HO} (h1 : m[i]? = some a) (ro : OR K m F o (some u)) (ht : ∃ xs, H a = some (.lst xs)) :
    Step m F H m F (upd H a u) ∧ Rel K T m F (st.put i o) (upd H a u) := by
  have hm : a ∈ m := List.mem_of_getElem? h1
  have hF := r.sep a hm
  refine ⟨⟨Mono.refl m F, fun b v e hb _ => ?_, fun _ h => .inl h, fun _ _ h => .inl h⟩, ⟨fun b v e => ?_, r.ntb, ?_, r.nd, r.sep, fun j o' b h2 h3 => ?_, fun q hq hb j o' hj h2 => ?_, fun p hp => ?_⟩⟩
  · have : b ≠ a := fun z => hb (z ▸ hm)
    rw [upd_ne this]; exact e
  · have : b ≠ a := fun z => by rw [z, hF] at e; cases e
    rw [upd_ne this]; exact r.sub b v e
  · rw [St.put, List.length_set]; exact r.len
  · by_cases hj : i = j
    · subst hj
      rw [h1] at h3; cases h3
      have hl : i < st.objs.length := by rw [← r.len]; exact (List.getElem?_eq_some_iff.mp h1).1
      rw [St.put, List.getElem?_set_self hl] at h2
      cases h2
      rw [upd_same]; exact ro
    · rw [St.put, List.getElem?_set_ne hj] at h2
      have : b ≠ a := fun z => by
        subst z
        have q1 := List.getElem?_eq_some_iff.mp h1
        have q2 := List.getElem?_eq_some_iff.mp h3
        exact hj ((List.getElem_inj r.nd).mp (q1.2.trans q2.2.symm))
      rw [upd_ne this]; exact r.obj j o' b h2 h3
  · simp only [St.put, List.mem_map] at hq
    obtain ⟨q0, hq0, rfl⟩ := hq
    simp only [Bool.or_eq_false_iff, Bool.and_eq_false_iff, decide_eq_false_iff_not, Bool.not_eq_false'] at hb
    by_cases hij : i = j
    · subst hij
      have hl : i < st.objs.length := by rw [← r.len]; exact (List.getElem?_eq_some_iff.mp h1).1
      rw [St.put, List.getElem?_set_self hl] at h2
      cases h2
      rcases hb.2 with z | z
      · exact absurd hj z
      · exact z
    · rw [St.put, List.getElem?_set_ne hij] at h2
      exact r.low q0 hq0 hb.1 j o' hj h2
  · obtain ⟨xs, hx⟩ := ht
    obtain ⟨ps, e1, e2, e3⟩ := r.tabs p hp
    have : p.1 ≠ a := fun z => by rw [z, hx] at e1; cases e1
    refine ⟨ps, by rw [upd_ne this]; exact e1, e2, fun pos cv e => ?_⟩
    obtain ⟨c, f1, f2⟩ := e3 pos cv e
    have : c ≠ a := fun z => by rw [z, hx] at f2; cases f2
    exact ⟨c, f1, by rw [upd_ne this]; exact f2⟩
/-- a list of the store, to be changed -/
theorem ref_of {v : V} {i : Nat} {ds : List D} (r : Rel K T m F st H) (rv : R K m F v (.ref i)) (h : st.objs[i]? = some (.lst ds)) : ∃ a xs, v = .ref a ∧ m[i]? = some a ∧ H a = some (.lst xs) ∧ Rs K m F xs ds := by
  cases rv with
  | ref e =>
    rename_i a
    have z := r.obj i _ a h e
    generalize hh : H a = ha at z
    cases z with
    | lst rs => exact ⟨a, _, rfl, e, hh, rs⟩
end
end MP

set_option maxRecDepth 100000
set_option maxHeartbeats 1000000
/-! MP11: methods of lists and texts, stores to items, several names at once. -/
namespace MP
open PySem PySem.Spec PyProof.Rows L2
section
variable {S : Se} {X : Cx} {W : WX} {σ : L2.St} {m : List Addr} {F H : Hp} {st : St}

/-! ### methods -/
/-- a method of a built-in type, by values, does what o says -/
def OpM (S : Se) (X : Cx) (W : WX) (id : String) (o : D → List D → St → Out D) : Prop :=
  ∃ r : V → List V → Hp → VK → Prop, MtR X id r ∧ ∀ σ m F st H Q v vs d ds, Rel X.K S.T m F st H → R X.K m F v d → Rs X.K m F vs ds → PD S X W σ m F H Q (o d ds st) → r v vs H Q
def isL (st : St) (d : D) : Bool := (lqOf st d).isSome
def isS : D → Bool
  | .str _ => true
  | _ => false
def fMtL (o : D → List D → St → Out D) (f : Env → St → Out D) (g : Env → St → Out (List D)) : Env → St → Out D := fun ρ st => (f ρ st).bind fun d st1 => if isL st1 d = true then (g ρ st1).bind fun ds st2 => o d ds st2 else .bad
def fMtS (o : D → List D → St → Out D) (f : Env → St → Out D) (g : Env → St → Out (List D)) : Env → St → Out D := fun ρ st => (f ρ st).bind fun d st1 => if isS d = true then (g ρ st1).bind fun ds st2 => o d ds st2 else .bad
theorem s_mtL {ob e : Expr} {es : List Expr} {name : Str} {apos cpos : Pos} {id : String} {f : Env → St → Out D} {g : Env → St → Out (List D)} {o : D → List D → St → Out D} (slot : Slot "list" name id) (hty : typeOf (.builtin id) = pure (.type "method_descriptor"))
    (h : OpM S X W id o) (ho : PE X ob (TEof S X W f)) (ha : PA X (e :: es) (TAof S X W g)) (hbase : attributeBase ob name X.env (eval ob X.env) = eval ob X.env)
    (hfew : ((backTo cpos (starEach (e :: es) X.env)).all (fun x => !x.1) && (backToKw cpos (keywordEach [] X.env)).all (fun x => x.1.isSome) && decide ((e :: es).length + ([] : List Keyword).length + (if ([] : List Keyword).isEmpty then 0 else 1) < 30)) = true)
    (hline : (apos.endLine == cpos.line) = true) (hs : starEach (e :: es) X.env = (false, eval e X.env) :: starEach es X.env) (hplain : (backTo cpos (starEach es X.env)).any (·.1) = false) :
    PE X (.Call (.Attribute ob name apos) (e :: es) [] cpos) (TEof S X W (fMtL o f g)) := by
  obtain ⟨r, h1, h2⟩ := h
  refine (pe_bm PySem.F.plainAttrs_list slot hty h1 ho ha hbase hfew hline hs hplain).weak fun σ H Q ⟨ρ, m, F, st, E, rl, h⟩ => ⟨ρ, m, F, st, E, rl, (Post.bind h).imp (fun d m1 F1 H1 s1 q v rv => ?_) fun _ _ _ _ _ y => y⟩
  obtain ⟨st1, r1, q⟩ := q
  split at q
  · rename_i hl
    refine ⟨?_, ρ, m1, F1, st1, E.mono s1.mono, r1, (Post.bind q).imp (fun ds m2 F2 H2 s2 q vs rvs => ?_) fun _ _ _ _ _ y => y⟩
    · cases e : lqOf st1 d with
      | none => simp [isL, e] at hl
      | some ds =>
        obtain ⟨a, xs, rfl, e1, _⟩ := lq_of r1 rv e
        exact .inl ⟨rfl, xs, e1⟩
    · obtain ⟨st2, r2, q⟩ := q
      exact h2 σ m2 F2 st2 H2 Q v vs d ds r2 (rv.mono s2.mono) rvs q
  · exact q.elim
theorem s_mtS {ob e : Expr} {es : List Expr} {name : Str} {apos cpos : Pos} {id : String} {f : Env → St → Out D} {g : Env → St → Out (List D)} {o : D → List D → St → Out D} (slot : Slot "str" name id) (hty : typeOf (.builtin id) = pure (.type "method_descriptor"))
    (h : OpM S X W id o) (ho : PE X ob (TEof S X W f)) (ha : PA X (e :: es) (TAof S X W g)) (hbase : attributeBase ob name X.env (eval ob X.env) = eval ob X.env)
    (hfew : ((backTo cpos (starEach (e :: es) X.env)).all (fun x => !x.1) && (backToKw cpos (keywordEach [] X.env)).all (fun x => x.1.isSome) && decide ((e :: es).length + ([] : List Keyword).length + (if ([] : List Keyword).isEmpty then 0 else 1) < 30)) = true)
    (hline : (apos.endLine == cpos.line) = true) (hs : starEach (e :: es) X.env = (false, eval e X.env) :: starEach es X.env) (hplain : (backTo cpos (starEach es X.env)).any (·.1) = false) :
    PE X (.Call (.Attribute ob name apos) (e :: es) [] cpos) (TEof S X W (fMtS o f g)) := by
  obtain ⟨r, h1, h2⟩ := h
  refine (pe_bm PySem.F.plainAttrs_str slot hty h1 ho ha hbase hfew hline hs hplain).weak fun σ H Q ⟨ρ, m, F, st, E, rl, h⟩ => ⟨ρ, m, F, st, E, rl, (Post.bind h).imp (fun d m1 F1 H1 s1 q v rv => ?_) fun _ _ _ _ _ y => y⟩
  obtain ⟨st1, r1, q⟩ := q
  split at q
  · rename_i hl
    refine ⟨?_, ρ, m1, F1, st1, E.mono s1.mono, r1, (Post.bind q).imp (fun ds m2 F2 H2 s2 q vs rvs => ?_) fun _ _ _ _ _ y => y⟩
    · cases rv <;> first | rfl | (simp [isS] at hl)
    · obtain ⟨st2, r2, q⟩ := q
      exact h2 σ m2 F2 st2 H2 Q v vs d ds r2 (rv.mono s2.mono) rvs q
  · exact q.elim
theorem s_mtL0 {ob : Expr} {name : Str} {apos cpos : Pos} {id : String} {f : Env → St → Out D} {o : D → List D → St → Out D} (slot : Slot "list" name id) (hty : typeOf (.builtin id) = pure (.type "method_descriptor"))
    (h : OpM S X W id o) (ho : PE X ob (TEof S X W f)) (hbase : attributeBase ob name X.env (eval ob X.env) = eval ob X.env) (hline : (apos.endLine == cpos.line) = true) :
    PE X (.Call (.Attribute ob name apos) [] [] cpos) (TEof S X W (fMtL o f fNil)) := by
  obtain ⟨r, h1, h2⟩ := h
  refine (pe_bm0 PySem.F.plainAttrs_list slot hty h1 ho hbase hline).weak fun σ H Q ⟨ρ, m, F, st, E, rl, h⟩ => ⟨ρ, m, F, st, E, rl, (Post.bind h).imp (fun d m1 F1 H1 s1 q v rv => ?_) fun _ _ _ _ _ y => y⟩
  obtain ⟨st1, r1, q⟩ := q
  split at q
  · rename_i hl
    refine ⟨?_, h2 σ m1 F1 st1 H1 Q v [] d [] r1 rv .nil q⟩
    cases e : lqOf st1 d with
    | none => simp [isL, e] at hl
    | some ds =>
      obtain ⟨a, xs, rfl, e1, _⟩ := lq_of r1 rv e
      exact .inl ⟨rfl, xs, e1⟩
  · exact q.elim
/-- the list of the store that a value tells -/
def refOf (st : St) (d : D) : Option (Nat × List D) := match d with
  | .ref i => match st.objs[i]? with
    | some (.lst ds) => some (i, ds)
    | none => none
  | _ => none
theorem ref_at {d : D} {v : V} {i : Nat} {ds : List D} (r : Rel X.K S.T m F st H) (rv : R X.K m F v d) (h : refOf st d = some (i, ds)) : ∃ a xs, v = .ref a ∧ m[i]? = some a ∧ H a = some (.lst xs) ∧ Rs X.K m F xs ds := by
  cases rv with
  | ref e =>
    rename_i j a
    unfold refOf at h
    simp only at h
    split at h
    · rename_i ds' e2
      cases h
      exact ref_of r (.ref e) e2
    · cases h
  | _ => simp [refOf] at h
def mAppend : D → List D → St → Out D := fun d ds st => match refOf st d, ds with
  | some (i, xs), [y] => if xs.length < 16777216 then .ok .non (st.put i (.lst (xs ++ [y]))) else .bad
  | _, _ => .bad
theorem o_append : OpM S X W "list.append" mAppend := by
  refine ⟨_, mt_append, fun σ m F st H Q v vs d ds r rv rs h => ?_⟩
  unfold mAppend at h
  split at h
  · rename_i i xs y e
    split at h
    · rename_i hl
      obtain ⟨a, ws, rfl, h1, h2, h3⟩ := ref_at r rv e
      obtain ⟨w, rfl, rw⟩ := rs.one
      obtain ⟨s, r'⟩ := r.put h1 (.lst (h3.append (.cons rw .nil))) ⟨_, h2⟩
      exact ⟨a, ws, w, rfl, rfl, h2, by rw [h3.length, sizeLine_eq]; exact hl, h _ _ _ s r' _ .non⟩
    · exact h.elim
  · exact h.elim
def mInsert : D → List D → St → Out D := fun d ds st => match refOf st d, ds with
  | some (i, xs), [.int k, y] => if xs.length < 16777216 ∧ 0 ≤ k ∧ k < 9223372036854775808 then .ok .non (st.put i (.lst (xs.take k.toNat ++ [y] ++ xs.drop k.toNat))) else .bad
  | _, _ => .bad
theorem o_insert : OpM S X W "list.insert" mInsert := by
  refine ⟨_, mt_insert, fun σ m F st H Q v vs d ds r rv rs h => ?_⟩
  unfold mInsert at h
  split at h
  · rename_i i xs k y e
    split at h
    · rename_i hl
      obtain ⟨a, ws, rfl, h1, h2, h3⟩ := ref_at r rv e
      obtain ⟨u, w, rfl, ru, rw⟩ := rs.two
      cases ru
      obtain ⟨s, r'⟩ := r.put h1 (.lst (((h3.take k.toNat).append (.cons rw .nil)).append (h3.drop k.toNat))) ⟨_, h2⟩
      exact ⟨a, ws, k, w, rfl, rfl, h2, by rw [h3.length, sizeLine_eq]; exact hl.1, hl.2.1, hl.2.2, h _ _ _ s r' _ .non⟩
    · exact h.elim
  · exact h.elim
def mPop : D → List D → St → Out D := fun d ds st => match refOf st d, ds with
  | some (i, xs), [] => match xs[xs.length - 1]? with
    | some y => .ok y (st.put i (.lst xs.dropLast))
    | none => .bad
  | _, _ => .bad
theorem Rs.dropLast {K : PySem.W.Frag} {vs : List V} {ds : List D} (r : Rs K m F vs ds) : Rs K m F vs.dropLast ds.dropLast := by
  rw [List.dropLast_eq_take, List.dropLast_eq_take, r.length]; exact r.take _
theorem o_pop : OpM S X W "list.pop" mPop := by
  refine ⟨_, mt_pop, fun σ m F st H Q v vs d ds r rv rs h => ?_⟩
  unfold mPop at h
  split at h
  · rename_i i xs e
    split at h
    · rename_i y ey
      obtain ⟨a, ws, rfl, h1, h2, h3⟩ := ref_at r rv e
      obtain ⟨w, e1, rw⟩ := h3.get ey
      cases rs
      obtain ⟨s, r'⟩ := r.put h1 (.lst h3.dropLast) ⟨_, h2⟩
      exact ⟨a, ws, w, rfl, rfl, h2, by rw [h3.length]; exact e1, h _ _ _ s r' _ rw⟩
    · exact h.elim
  · exact h.elim
def mExtend : D → List D → St → Out D := fun d ds st => match refOf st d, ds with
  | some (i, xs), [y] => match lstOf st y with
    | some zs => if xs.length + zs.length ≤ 16777216 then .ok .non (st.put i (.lst (xs ++ zs))) else .bad
    | none => .bad
  | _, _ => .bad
theorem o_extend : OpM S X W "list.extend" mExtend := by
  refine ⟨_, mt_extend, fun σ m F st H Q v vs d ds r rv rs h => ?_⟩
  unfold mExtend at h
  split at h
  · rename_i i xs y e
    split at h
    · rename_i zs ez
      split at h
      · rename_i hl
        obtain ⟨a, ws, rfl, h1, h2, h3⟩ := ref_at r rv e
        obtain ⟨w, rfl, rw⟩ := rs.one
        obtain ⟨b, us, rfl, g1, g2⟩ := lst_of r rw ez
        obtain ⟨s, r'⟩ := r.put h1 (.lst (h3.append g2)) ⟨_, h2⟩
        exact ⟨a, b, ws, us, rfl, rfl, h2, g1, by rw [h3.length, g2.length]; exact lim_le hl, h _ _ _ s r' _ .non⟩
      · exact h.elim
    · exact h.elim
  · exact h.elim
/-- the texts of a list -/
def strsOf : List D → Option (List (List Nat))
  | [] => some []
  | .str s :: ds => match strsOf ds with
    | some ss => some (s :: ss)
    | none => none
  | _ => none
theorem strs_of {K : PySem.W.Frag} : ∀ {vs : List V} {ds : List D} {ss : List (List Nat)}, Rs K m F vs ds → strsOf ds = some ss → vs = (ss.map mk).map V.str
  | _, _, _, .nil, h => by cases h; rfl
  | _, _, _, .cons r t, h => by
    cases r <;> simp only [strsOf] at h <;> try cases h
    rename_i ds x
    cases e : strsOf ds with
    | none => rw [e] at h; cases h
    | some ss =>
      rw [e] at h; cases h
      rw [strs_of t e]; rfl
def mJoin : D → List D → St → Out D := fun d ds st => match d, ds with
  | .str a, [y] => match (seqOf st y).bind strsOf with
    | some ss => if (ss.map (·.length)).sum + ss.length * a.length ≤ 16777216 then .ok (.str (TL.joinL a ss)) st else .bad
    | none => .bad
  | _, _ => .bad
theorem join_mk (a : List Nat) (ss : List (List Nat)) : Txt.join (mk a) (ss.map mk) = mk (TL.joinL a ss) := by
  rw [TL.join_eq]
  refine TL.ext_tl ?_
  rw [TL.tl_join, List.map_map]
  have : (TL.tl ∘ mk) = id := by funext x; rfl
  rw [this, List.map_id]; rfl
theorem o_join : OpM S X W "str.join" mJoin := by
  refine ⟨_, mt_join, fun σ m F st H Q v vs d ds r rv rs h => ?_⟩
  unfold mJoin at h
  split at h
  · rename_i a y
    split at h
    · rename_i ss e
      split at h
      · rename_i hl
        obtain ⟨w, rfl, rw⟩ := rs.one
        cases rv
        cases e1 : seqOf st y with
        | none => rw [e1] at e; cases e
        | some ys =>
          rw [e1] at e
          obtain ⟨b, us, rfl, g1, g2⟩ := seq_of r rw e1
          have e2 := strs_of g2 e
          subst e2
          refine ⟨mk a, b, ss.map mk, rfl, rfl, g1, ?_, ?_⟩
          · rw [List.map_map, List.length_map]
            have : ((fun x => Str.length x) ∘ mk) = (·.length) := by funext x; exact mk_len x
            rw [show ((·.length) ∘ mk : List Nat → Nat) = (·.length) from this, mk_len]
            exact hl
          · rw [join_mk]; exact h.now r _ (.str _)
      · exact h.elim
    · exact h.elim
  · exact h.elim
def mSplit : D → List D → St → Out D := fun d ds st => match d, ds with
  | .str a, [.str b] => if b.isEmpty = false ∧ b.all (· < 256) = true ∧ a.length + 2 ≤ 16777216 then .ok (.lst ((TL.spl b 0 [] a).map .str)) st else .bad
  | _, _ => .bad
theorem o_split : OpM S X W "str.split" mSplit := by
  refine ⟨_, mt_split, fun σ m F st H Q v vs d ds r rv rs h => ?_⟩
  unfold mSplit at h
  split at h
  · rename_i a b
    split at h
    · rename_i hl
      obtain ⟨w, rfl, rw⟩ := rs.one
      cases rv; cases rw
      have hb : b ≠ [] := by
        intro z; rw [z] at hl; simp at hl
      refine ⟨mk a, mk b, rfl, rfl, ?_, ?_, fun p hp => ?_⟩
      · rw [mk_len]
        cases b with
        | nil => exact absurd rfl hb
        | cons _ _ => rfl
      · rw [mk_len]; exact lim_le hl.2.2
      · have e : (Txt.split (mk a) (mk b)).map TL.tl = TL.spl b 0 [] a := by
          refine (TL.split_spl (mk a) (mk b) hb (TL.kind_ok ?_))
          simpa [mk] using hl.2.1
        have rs2 : ∀ ys : List Str, Rs X.K m F (ys.map V.str) ((ys.map TL.tl).map D.str) := fun ys => by
          induction ys with
          | nil => exact .nil
          | cons y ys ih => exact .cons (.str (TL.tl y)) ih
        have := rs2 (Txt.split (mk a) (mk b))
        rw [e] at this
        exact new_lst r this h p hp
    · exact h.elim
  · exact h.elim
end
end MP

set_option maxRecDepth 100000
set_option maxHeartbeats 1000000
/-! MP12: stores. -/
namespace MP
open PySem PySem.Spec PyProof.Rows L2
section
variable {S : Se} {X : Cx} {W : WX} {σ : L2.St} {m : List Addr} {F H : Hp} {st : St}

/-! ### a new list of the store -/
def gBox (i : Nat) (g : Env → St → Out (List D)) : Env → St → SO := fun ρ st => (g ρ st).toS fun ds st1 => if ds.length ≤ 16777216 then .nx (ρ.set i (some (.ref st1.objs.length))) (st1.push (.lst ds)) else .bad
theorem s_box {i : Nat} {x : Str} {es : List Expr} {p pos pos' : Pos} {g : Env → St → Out (List D)} (hN : X.N.Nodup) (hi : X.N[i]? = some x) (hx : Loc X.env.scope x) (he : PA X es (TAof S X W g)) (hs : swapsWith (.List es p) (some (.Name x pos')) pos.line X.env = pure false)
    (hf : X.fn x = true ∨ X.env.scope.names.lookup x = some .local) : PS X (.Assign [.Name x pos'] (.List es p) pos) (TSof S X W (gBox i g)) := by
  refine (ps_set hN hi hx (pe_lst he) hs hf).weak fun D σ H ⟨ρ, m, F, st, E, r, h⟩ => ⟨ρ, m, F, st, E, r, (SPost.bind rfl h).imp (fun ds m1 F1 H1 s1 q vs rs => ?_) fun _ _ _ _ _ y => y⟩
  obtain ⟨st1, r1, q⟩ := q
  split at q
  · rename_i hl
    refine ⟨by rw [rs.length]; exact lim_le hl, fun p hp => ?_⟩
    obtain ⟨s, r2, hix⟩ := r1.box hp rs
    exact q _ _ _ _ (List.length_set ..) s r2 (((E.mono s1.mono).mono s.mono).set (.ref hix) i)
  · exact q.elim

/-! ### o[i] = e, o[i] op= e -/
def putAt (o i v : D) (st : St) : Option St := match refOf st o, i with
  | some (n, xs), .int k => match ixN xs.length k with
    | some j => some (st.put n (.lst (xs.set j v)))
    | none => none
  | _, _ => none
theorem put_at {o i v : D} {ov iv vv : V} {st' : St} {Q : Hp → Prop} (r : Rel X.K S.T m F st H) (ro : R X.K m F ov o) (ri : R X.K m F iv i) (rv : R X.K m F vv v) (h : putAt o i v st = some st')
    (q : ∀ H', Step m F H m F H' → Rel X.K S.T m F st' H' → Q H') : rSetL ov iv vv H Q := by
  unfold putAt at h
  split at h
  · rename_i n xs k e
    split at h
    · rename_i j ej
      cases h
      obtain ⟨a, ws, rfl, h1, h2, h3⟩ := ref_at r ro e
      cases ri
      obtain ⟨s, r'⟩ := r.put h1 (.lst (h3.set rv j)) ⟨_, h2⟩
      exact ⟨a, ws, k, j, rfl, rfl, h2, by rw [h3.length]; exact ej, q _ s r'⟩
    · cases h
  · cases h
def gPut (fe fo fi : Env → St → Out D) : Env → St → SO := fun ρ st => (fe ρ st).toS fun v st1 => (fo ρ st1).toS fun o st2 => (fi ρ st2).toS fun i st3 => match putAt o i v st3 with
  | some st4 => .nx ρ st4
  | none => .bad
theorem s_put {o i e : Expr} {tp pos : Pos} {fe fo fi : Env → St → Out D} (he : PE X e (TEof S X W fe)) (ho : PE X o (TEof S X W fo)) (hi : PE X i (TEof S X W fi))
    (hs : swapsWithSole [.Subscript o i tp] e pos.line X.env = pure false) (hw : swappedStores [.Subscript o i tp] e X.env = pure none) (h1 : (assignEach [.Subscript o i tp] X.env).map (·.2) = [assign (.Subscript o i tp) X.env])
    (ha : ∀ v, assign (.Subscript o i tp) X.env v = (do
      let ov ← holding [v] (eval o X.env)
      let iv ← holding [v, ov] (eval i X.env)
      standAt tp
      holding [v, ov, iv] (setItem ov iv v)
      release [v, ov, iv] [])) : PS X (.Assign [.Subscript o i tp] e pos) (TSof S X W (gPut fe fo fi)) := by
  refine (ps_asg he (pg_sub ho hi set_list ha) hs hw h1).weak fun D σ H ⟨ρ, m, F, st, E, r, h⟩ => ⟨ρ, m, F, st, E, r, (SPost.bind rfl h).imp (fun v m1 F1 H1 s1 q vv rv => ?_) fun _ _ _ _ _ y => y⟩
  obtain ⟨st1, r1, q⟩ := q
  refine ⟨ρ, m1, F1, st1, E.mono s1.mono, r1, (SPost.bind rfl q).imp (fun od m2 F2 H2 s2 q ov ro => ?_) fun _ _ _ _ _ y => y⟩
  obtain ⟨st2, r2, q⟩ := q
  refine ⟨ρ, m2, F2, st2, E.mono (s1.mono.trans s2.mono), r2, (SPost.bind rfl q).imp (fun id m3 F3 H3 s3 q iv ri => ?_) fun _ _ _ _ _ y => y⟩
  obtain ⟨st3, r3, q⟩ := q
  cases ep : putAt od id v st3 with
  | none => simp only [ep] at q; exact q.elim
  | some st4 =>
    simp only [ep] at q
    exact put_at r3 (ro.mono s3.mono) ri ((rv.mono s2.mono).mono s3.mono) ep fun H' s r' => q σ _ _ _ rfl s r' (E.mono (s1.mono.trans (s2.mono.trans s3.mono)))
theorem getL : PGet X (fun o i H Q => ∃ p xs k v, o = .ref p ∧ i = .int k ∧ SqL X.K H p xs ∧ atI xs k = some v ∧ Q v H) := by
  intro pins s σ H o i ov iv Q I ro ri h
  obtain ⟨p, xs, k, z, rfl, rfl, hq, he, q⟩ := h
  cases ro
  obtain ⟨t, rfl⟩ := ri
  obtain ⟨its, r, pl, hz⟩ := I.list hq
  obtain ⟨j, h1, h2, h3, h4, h5⟩ := atI_get he
  obtain ⟨w, ew, rw'⟩ := r.get h2
  have hl := r.length
  have hn := line63
  have fin : EP X pins σ Q w s := ⟨z, H, I, rw', q⟩
  by_cases h0 : 0 ≤ k
  · have hj : k.toNat = j := by
      rw [seqIndex_of h0 h5] at h1
      exact Option.some.inj h1
    exact wpAny_getItem_list pl.isList h0 (by omega) (by rw [hj]; simpa using ew) fin
  · have hj : (k + (its.toArray.size : Int)).toNat = j := by
      rw [seqIndex_neg (by omega) h4] at h1
      rw [List.size_toArray, ← hl]
      exact Option.some.inj h1
    exact wpAny_getItem_list_neg pl.isList (by omega) (by rw [List.size_toArray] <;> omega) (by omega) (by rw [hj]; simpa using ew) fin
def gAugPut (f : Int → Int → Int) (fo fi fe : Env → St → Out D) : Env → St → SO := fun ρ st => (fo ρ st).toS fun o st1 => (fi ρ st1).toS fun i st2 => match refOf st2 o, i with
  | some (_, xs), .int k => match atI xs k with
    | some (.int x) => (fe ρ st2).toS fun y st3 => match y with
      | .int y => match putAt o i (.int (f x y)) st3 with
        | some st4 => .nx ρ st4
        | none => .bad
      | _ => .bad
    | _ => .bad
  | _, _ => .bad
theorem s_augPut {o i e : Expr} {op : Operator} {tp pos : Pos} {f : Int → Int → Int} {fe fo fi : Env → St → Out D} (hp : PIp X op (ipI f)) (ho : PE X o (TEof S X W fo)) (hi : PE X i (TEof S X W fi)) (he : PE X e (TEof S X W fe))
    (ha : ∀ ov iv new, augStore i ov iv new = (do holding [new, ov, iv] (setItem ov iv new); release [new, ov, iv] []; pure .next)) : PS X (.AugAssign (.Subscript o i tp) op e pos) (TSof S X W (gAugPut f fo fi fe)) := by
  refine (ps_augS ho hi getL he hp set_list ha).weak fun D σ H ⟨ρ, m, F, st, E, r, h⟩ => ⟨ρ, m, F, st, E, r, (SPost.bind rfl h).imp (fun od m1 F1 H1 s1 q ov ro => ?_) fun _ _ _ _ _ y => y⟩
  obtain ⟨st1, r1, q⟩ := q
  refine ⟨ρ, m1, F1, st1, E.mono s1.mono, r1, (SPost.bind rfl q).imp (fun id m2 F2 H2 s2 q iv ri => ?_) fun _ _ _ _ _ y => y⟩
  obtain ⟨st2, r2, q⟩ := q
  have ro2 := ro.mono s2.mono
  split at q
  · rename_i n xs k e1
    split at q
    · rename_i x ex
      obtain ⟨a, ws, rfl, g1, g2, g3⟩ := ref_at r2 ro2 e1
      obtain ⟨xv, ev, rx⟩ := g3.at ex
      cases rx
      cases ri
      refine ⟨a, ws, k, _, rfl, rfl, SqL.of g2, ev, ρ, m2, F2, st2, E.mono (s1.mono.trans s2.mono), r2, (SPost.bind rfl q).imp (fun yd m3 F3 H3 s3 q yv ry => ?_) fun _ _ _ _ _ y => y⟩
      obtain ⟨st3, r3, q⟩ := q
      cases ry with
      | int y =>
        simp only at q
        refine ⟨x, y, rfl, rfl, ?_⟩
        cases ep : putAt od (.int k) (.int (f x y)) st3 with
        | none => simp only [ep] at q; exact q.elim
        | some st4 =>
          simp only [ep] at q
          exact put_at r3 (ro2.mono s3.mono) (.int k) (.int _) ep fun H' s r' => q σ _ _ _ rfl s r' (E.mono (s1.mono.trans (s2.mono.trans s3.mono)))
      | _ => exact q.elim
    · exact q.elim
  · exact q.elim
/-- x op= e, whole numbers -/
def gAug (i : Nat) (f : Int → Int → Int) (fe : Env → St → Out D) : Env → St → SO := fun ρ st => match ρ[i]? with
  | some (some (.int x)) => (fe ρ st).toS fun y st1 => match y with
    | .int y => .nx (ρ.set i (some (.int (f x y)))) st1
    | _ => .bad
  | _ => .bad
theorem s_aug {i : Nat} {x : Str} {e : Expr} {op : Operator} {pos pos' : Pos} {f : Int → Int → Int} {fe : Env → St → Out D} (hp : PIp X op (ipI f)) (hN : X.N.Nodup) (hi : X.N[i]? = some x) (hx : Loc X.env.scope x) (he : PE X e (TEof S X W fe))
    (hf : X.fn x = true ∨ X.env.scope.names.lookup x = some .local) : PS X (.AugAssign (.Name x pos') op e pos) (TSof S X W (gAug i f fe)) := by
  refine (ps_aug hN hi hx he hp hf).weak fun D σ H ⟨ρ, m, F, st, E, r, h⟩ => ?_
  unfold gAug at h
  split at h
  · rename_i x e1
    obtain ⟨v, e2, rv⟩ := E.get i _ e1
    cases rv
    refine ⟨_, e2, ρ, m, F, st, E, r, (SPost.bind rfl h).imp (fun y m1 F1 H1 s1 q yv ry => ?_) fun _ _ _ _ _ y => y⟩
    obtain ⟨st1, r1, q⟩ := q
    cases ry with
    | int y => exact ⟨x, y, rfl, rfl, SPost.now q (List.length_set ..) r1 ((E.mono s1.mono).set (.int _) i)⟩
    | _ => exact q.elim
  · exact h.elim

/-! ### a, b = e, f -/
def gPar (i j : Nat) (g : Env → St → Out (List D)) : Env → St → SO := fun ρ st => (g ρ st).toS fun ds st1 => match ds with
  | [x, y] => .nx ((ρ.set i (some x)).set j (some y)) st1
  | _ => .bad
theorem s_par {i j : Nat} {x y : Str} {a b : Expr} {px py pt : Pos} {kt k2 pt2} {pos : Pos} {g : Env → St → Out (List D)} (hc : X.calm = true) (hN : X.N.Nodup) (hi : X.N[i]? = some x) (hj : X.N[j]? = some y) (hij : i ≠ j)
    (hx : X.env.scope.names.lookup x = some .local) (hy : X.env.scope.names.lookup y = some .local) (ha : PA X [a, b] (TAof S X W g))
    (hw : swappedStores [.Tuple [.Name x px, .Name y py] kt pt] (.Tuple [a, b] k2 pt2) X.env = pure (some [x, y]))
    (hs : swapsWithSole [.Tuple [.Name x px, .Name y py] kt pt] (.Tuple [a, b] k2 pt2) pos.line X.env = pure false) :
    PS X (.Assign [.Tuple [.Name x px, .Name y py] kt pt] (.Tuple [a, b] k2 pt2) pos) (TSof S X W (gPar i j g)) := by
  refine (ps_par hc hN hi hj hij hx hy ha hw hs).weak fun D σ H ⟨ρ, m, F, st, E, r, h⟩ => ⟨ρ, m, F, st, E, r, (SPost.bind rfl h).imp (fun ds m1 F1 H1 s1 q vs rs => ?_) fun _ _ _ _ _ y => y⟩
  obtain ⟨st1, r1, q⟩ := q
  split at q
  · obtain ⟨v, w, rfl, rv, rw⟩ := rs.two
    exact ⟨v, w, rfl, SPost.now q (by rw [List.length_set, List.length_set]) r1 (((E.mono s1.mono).set rv i).set rw j)⟩
  · exact q.elim
def gPar3 (i j l : Nat) (g : Env → St → Out (List D)) : Env → St → SO := fun ρ st => (g ρ st).toS fun ds st1 => match ds with
  | [x, y, z] => .nx (((ρ.set i (some x)).set j (some y)).set l (some z)) st1
  | _ => .bad
theorem s_par3 {i j l : Nat} {x y z : Str} {a b c : Expr} {px py pz pt : Pos} {kt k2 pt2} {pos : Pos} {g : Env → St → Out (List D)} (hc : X.calm = true) (hN : X.N.Nodup) (hi : X.N[i]? = some x) (hj : X.N[j]? = some y) (hl : X.N[l]? = some z) (hij : i ≠ j) (hil : i ≠ l) (hjl : j ≠ l)
    (hx : X.env.scope.names.lookup x = some .local) (hy : X.env.scope.names.lookup y = some .local) (hz : X.env.scope.names.lookup z = some .local) (ha : PA X [a, b, c] (TAof S X W g))
    (hw : swappedStores [.Tuple [.Name x px, .Name y py, .Name z pz] kt pt] (.Tuple [a, b, c] k2 pt2) X.env = pure (some [x, y, z]))
    (hs : swapsWithSole [.Tuple [.Name x px, .Name y py, .Name z pz] kt pt] (.Tuple [a, b, c] k2 pt2) pos.line X.env = pure false) :
    PS X (.Assign [.Tuple [.Name x px, .Name y py, .Name z pz] kt pt] (.Tuple [a, b, c] k2 pt2) pos) (TSof S X W (gPar3 i j l g)) := by
  refine (ps_par3 hc hN hi hj hl hij hil hjl hx hy hz ha hw hs).weak fun D σ H ⟨ρ, m, F, st, E, r, h⟩ => ⟨ρ, m, F, st, E, r, (SPost.bind rfl h).imp (fun ds m1 F1 H1 s1 q vs rs => ?_) fun _ _ _ _ _ y => y⟩
  obtain ⟨st1, r1, q⟩ := q
  split at q
  · cases rs with
    | cons ru rs =>
      obtain ⟨v, w, rfl, rv, rw⟩ := Rs.two rs
      exact ⟨_, v, w, rfl, SPost.now q (by rw [List.length_set, List.length_set, List.length_set]) r1 ((((E.mono s1.mono).set ru i).set rv j).set rw l)⟩
  · exact q.elim
end
end MP

set_option maxRecDepth 100000
set_option maxHeartbeats 1000000
/-! MP13: defs and their calls. -/
namespace MP
open PySem PySem.Spec PyProof.Rows L2

/-- what a def promises; gd: where no guard is on the stack -/
structure FnG (P : Program) (w : World) (K : PySem.W.Frag) (mg : Str → Option Value) (base : Heap) (gd : Bool) (lv : Nat) (fa : Addr) (fd : FuncData) (par : List Str) (sp : Sp) : Prop where
  len : ∀ vs H Q E, sp vs H Q E → vs.length = par.length
  go : ∀ (A : Around) (fr : List PySem.Env) (s : Shared) (H : Hp) (ar : Args) (us : List Value) (vs : List V) (Q : VK) (E : XK), (gd = true → A.guards = some []) → Room lv A → Env0 P w K mg base A fr s H → BindsTo s fd ar (par.zip us) → Vals vs us →
    sp vs H Q E → codeAny (model P w) A (.call (.ref fa) ar) (CR (L2.CX P w) fr P w H s Q E) s
theorem FnG.up {P : Program} {w : World} {K : PySem.W.Frag} {mg : Str → Option Value} {base : Heap} {gd : Bool} {i j : Nat} {fa : Addr} {fd : FuncData} {par : List Str} {sp : Sp} (F : FnG P w K mg base gd i fa fd par sp) (h : i ≤ j) : FnG P w K mg base gd j fa fd par sp :=
  ⟨F.len, fun A fr s H ar us vs Q E hg hr => F.go A fr s H ar us vs Q E hg (hr.mono h)⟩

/-! ### the end of a def -/
mutual
def D.nr : D → Bool
  | .ref _ => false
  | .tup ds => D.nrs ds
  | .lst ds => D.nrs ds
  | .lsk ds => D.nrs ds
  | .xo _ _ _ ds => D.nrs ds
  | _ => true
def D.nrs : List D → Bool
  | [] => true
  | d :: ds => d.nr && D.nrs ds
end
/-- what is handed back, told by what never changes: none if that cannot be -/
def thaw (n : Nat) (st : St) (d : D) : Option D := if d.lo n = true then some d else match d with
  | .ref i => match st.objs[i]? with
    | some (.lst ds) => if D.los n ds = true then some (.lst ds) else none
    | none => none
  | _ => none
/-- a def's own objects are forgotten where nothing that stays tells of them -/
def leave (kp : Bool) (st0 : St) (d : D) (st : St) : Out D := match st.fls with
  | (n, b) :: rest => match thaw n st d with
    | some d' => if n = st0.objs.length ∧ b = false ∧ kp = false then .ok d' { objs := st.objs.take n, fls := rest } else .ok d { st with fls := rest }
    | none => .ok d { st with fls := rest }
  | [] => .bad
def leaveX (st0 : St) (c : Nat) (fs : List D) (st : St) : Out D := match st.fls with
  | (n, b) :: rest => if n = st0.objs.length ∧ b = false ∧ D.los n fs = true then .exc c fs { objs := st.objs.take n, fls := rest } else .exc c fs { st with fls := rest }
  | [] => .bad
def enter (st : St) : St := { st with fls := (st.objs.length, false) :: st.fls }
def ended (kp : Bool) (st0 : St) : SO → Out D
  | .nx _ st => leave kp st0 .non st
  | .ret d st => leave kp st0 d st
  | .exc c fs st => leaveX st0 c fs st
  | _ => .bad
/-- a def of n names by its body -/
def runF (kp : Bool) (n : Nat) (body : Env → St → SO) : List D → St → Out D := fun ds st => ended kp st (body (ds.map some ++ List.replicate (n - ds.length) none) (enter st))
/-- the promise -/
def spD (S : Se) (K : PySem.W.Frag) (k : Nat) (f : List D → St → Out D) : Sp := fun vs H Q E => ∃ ds m F st, ds.length = k ∧ Rs K m F vs ds ∧ Rel K S.T m F st H ∧
  Post K S.T m F H (fun d m' F' H' => ∀ v, R K m' F' v d → Q v H') (fun c fs m' F' H' => ∀ cls dx, XR S.g K m' F' c fs cls dx H' → E cls dx H') (f ds st)
theorem Rel.enter {K : PySem.W.Frag} {T : NTabs} {m : List Addr} {F H : Hp} {st : St} (r : Rel K T m F st H) : Rel K T m F (MP.enter st) H := by
  refine ⟨r.sub, r.ntb, r.len, r.nd, r.sep, r.obj, fun p hp hb i o hi h1 => ?_, r.tabs⟩
  rcases List.mem_cons.mp hp with rfl | hp
  · obtain ⟨a, ha⟩ : ∃ a, m[i]? = some a := ⟨_, List.getElem?_eq_getElem (by rw [r.len]; exact hi)⟩
    have z := r.obj i o a h1 ha
    have hm := r.len
    generalize H a = ha at z
    cases z with
    | lst rs => exact hm ▸ lo_Rs rs
  · exact r.low p hp hb i o hi h1
theorem Rel.pop {K : PySem.W.Frag} {T : NTabs} {m : List Addr} {F H : Hp} {st : St} {p : Nat × Bool} {rest : List (Nat × Bool)} (r : Rel K T m F st H) (h : st.fls = p :: rest) : Rel K T m F { st with fls := rest } H :=
  ⟨r.sub, r.ntb, r.len, r.nd, r.sep, r.obj, fun q hq hb i o hi h1 => r.low q (by rw [h]; exact List.mem_cons_of_mem _ hq) hb i o hi h1, r.tabs⟩
section
variable {K : PySem.W.Frag} {m m' : List Addr} {F : Hp}
mutual
/-- what tells of the first n objects alone does so by the first n addresses -/
theorem R.less (n : Nat) : ∀ {v : V} {d : D}, R K m F v d → d.lo n = true → R K (m.take n) F v d
  | _, _, .non, _ => .non
  | _, _, .bl b, _ => .bl b
  | _, _, .int i, _ => .int i
  | _, _, .str x, _ => .str x
  | _, _, .tup h r, e => .tup h (Rs.less n r e)
  | _, _, .lst h r, e => .lst h (Rs.less n r e)
  | _, _, .lsk h r, e => .lsk h (Rs.less n r e)
  | _, _, .xo h l r, e => .xo h l (Rs.less n r e)
  | _, _, .ref h, e => .ref (by
    simp only [D.lo, decide_eq_true_eq] at e
    rw [List.getElem?_take_of_lt e]; exact h)
theorem Rs.less (n : Nat) : ∀ {vs : List V} {ds : List D}, Rs K m F vs ds → D.los n ds = true → Rs K (m.take n) F vs ds
  | _, _, .nil, _ => .nil
  | _, _, .cons r t, e => by
    simp only [D.los, Bool.and_eq_true] at e
    exact .cons (R.less n r e.1) (Rs.less n t e.2)
end
end
theorem nodup_take {m : List Addr} (h : m.Nodup) (n : Nat) : (m.take n).Nodup := List.Sublist.nodup (List.take_sublist n m) h
/-- the store cut to its first n objects; u told beside -/
theorem Rel.cut {K : PySem.W.Frag} {T : NTabs} {m : List Addr} {F H : Hp} {st : St} {n : Nat} {rest : List (Nat × Bool)} (r : Rel K T m F st H) (h : st.fls = (n, false) :: rest) :
    Rel K T (m.take n) F { objs := st.objs.take n, fls := rest } H := by
  refine ⟨r.sub, r.ntb, by rw [List.length_take, List.length_take, r.len], nodup_take r.nd n, fun a ha => r.sep a (List.mem_of_mem_take ha), fun i o a h1 h2 => ?_, fun q hq hb i o hi h1 => ?_, r.tabs⟩
  · have hi : i < n := by
      have := (List.getElem?_eq_some_iff.mp h2).1
      rw [List.length_take] at this; omega
    rw [List.getElem?_take_of_lt hi] at h1 h2
    have lo := r.low (n, false) (by rw [h]; exact List.mem_cons_self ..) rfl i o hi h1
    have z := r.obj i o a h1 h2
    generalize H a = ha at z
    cases z with
    | lst rs => exact .lst (rs.less n lo)
  · have hi' : i < n := by
      have := (List.getElem?_eq_some_iff.mp h1).1
      rw [List.length_take] at this; omega
    rw [List.getElem?_take_of_lt hi'] at h1
    exact r.low q (by rw [h]; exact List.mem_cons_of_mem _ hq) hb i o hi h1
theorem take_eq {K : PySem.W.Frag} {T : NTabs} {m m' : List Addr} {F F' H : Hp} {st : St} (r : Rel K T m F st H) (M : Mono m F m' F') : m'.take st.objs.length = m := by
  rw [← r.len]
  refine List.ext_getElem? fun i => ?_
  by_cases hi : i < m.length
  · rw [List.getElem?_take_of_lt hi, List.getElem?_eq_getElem hi]
    exact M.ix i _ (List.getElem?_eq_getElem hi)
  · rw [List.getElem?_eq_none (by rw [List.length_take]; omega), List.getElem?_eq_none (by omega)]
/-- a def hands back -/
theorem leave_ok {kp : Bool} {K : PySem.W.Frag} {S : Se} {m m' : List Addr} {F F' H H' : Hp} {st0 st : St} {d : D} {v : V} {Q : VK} {Y} (r0 : Rel K S.T m F st0 H) (s : Step m F H m' F' H') (r : Rel K S.T m' F' st H') (rv : R K m' F' v d)
    (h : Post K S.T m F H (fun d m' F' H' => ∀ v, R K m' F' v d → Q v H') Y (leave kp st0 d st)) : Q v H' := by
  unfold leave at h
  split at h
  · rename_i n b rest e
    split at h
    · rename_i d' et
      split at h
      · rename_i hc
        obtain ⟨hn, rfl, _⟩ := hc
        have rc := r.cut e
        have hm : m'.take n = m := by rw [hn]; exact take_eq r0 s.mono
        rw [hm] at rc
        unfold thaw at et
        split at et
        · rename_i hl
          cases et
          have rv' := rv.less n hl
          rw [hm] at rv'
          exact h m F' H' ⟨⟨s.mono.fr, fun _ _ h => h⟩, s.pres, fun _ h => .inl h, s.newF⟩ rc v rv'
        · rename_i hnl
          split at et
          · rename_i i
            split at et
            · rename_i ds eo
              split at et
              · rename_i hds
                cases et
                obtain ⟨a, xs, rfl, g1, g2, g3⟩ := ref_of r rv eo
                have hin : ¬ i < n := fun z => hnl (by simp [D.lo, z])
                have ham : a ∉ m := fun z => by
                  rw [← hm] at z
                  obtain ⟨j, hj, ej⟩ := List.getElem_of_mem z
                  have hj' : j < n := by rw [List.length_take] at hj; omega
                  have e2 : m'[j]? = some a := by
                    rw [List.getElem_take] at ej
                    rw [← ej]
                    exact List.getElem?_eq_getElem (by rw [List.length_take] at hj; omega)
                  have q1 := List.getElem?_eq_some_iff.mp g1
                  have q2 := List.getElem?_eq_some_iff.mp e2
                  have := (List.getElem_inj r.nd).mp (q1.2.trans q2.2.symm)
                  omega
                have hF := r.sep a (List.mem_of_getElem? g1)
                obtain ⟨M, r2⟩ := rc.tell ham hF g2
                have rs := g3.less n hds
                rw [hm] at rs
                refine h m (upd F' a (.lst xs)) H' ⟨⟨s.mono.fr.trans M.fr, fun _ _ h => h⟩, s.pres, fun _ h => .inl h, fun b o eb => ?_⟩ r2 _ (.lst upd_same (rs.mono M))
                by_cases hb : b = a
                · subst hb
                  rcases s.new b (List.mem_of_getElem? g1) with z | z
                  · exact absurd z ham
                  · exact .inr (.inl z)
                · rw [upd_ne hb] at eb; exact s.newF b o eb
              · cases et
            · cases et
          · cases et
      · exact h m' F' H' s (r.pop e) v rv
    · exact h m' F' H' s (r.pop e) v rv
  · exact h.elim
theorem XR.less {g : XG} {K : PySem.W.Frag} {m : List Addr} {F H : Hp} {c : Nat} {fs : List D} {cls : Value} {dx : Option Addr} {n : Nat} (h : XR g K m F c fs cls dx H) (hl : D.los n fs = true) : XR g K (m.take n) F c fs cls dx H := by
  obtain ⟨h1, h2⟩ := h
  refine ⟨h1, ?_⟩
  rcases h2 with h2 | ⟨d, vs, e1, e2, e3, e4, e5, us, e6, e7⟩
  · exact .inl h2
  · exact .inr ⟨d, vs, e1, e2, fun z => e3 (List.mem_of_mem_take z), e4, e5, us, e6.less n hl, e7⟩
/-- a def's exception -/
theorem leaveX_ok {K : PySem.W.Frag} {S : Se} {m m' : List Addr} {F F' H H' : Hp} {st0 st : St} {c : Nat} {fs : List D} {cls : Value} {dx : Option Addr} {P} {E : XK} (r0 : Rel K S.T m F st0 H) (s : Step m F H m' F' H') (r : Rel K S.T m' F' st H') (x : XR S.g K m' F' c fs cls dx H')
    (h : Post K S.T m F H P (fun c fs m' F' H' => ∀ cls dx, XR S.g K m' F' c fs cls dx H' → E cls dx H') (leaveX st0 c fs st)) : E cls dx H' := by
  unfold leaveX at h
  split at h
  · rename_i n b rest e
    split at h
    · rename_i hc
      obtain ⟨hn, rfl, hl⟩ := hc
      have rc := r.cut e
      have hm : m'.take n = m := by rw [hn]; exact take_eq r0 s.mono
      rw [hm] at rc
      have x' := x.less hl
      rw [hm] at x'
      exact h m F' H' ⟨⟨s.mono.fr, fun _ _ h => h⟩, s.pres, fun _ h => .inl h, s.newF⟩ rc cls dx x'
    · exact h m' F' H' s (r.pop e) cls dx x
  · exact h.elim
end MP

set_option maxRecDepth 100000
set_option maxHeartbeats 1000000
/-! MP14: the rule for a def, and its calls. -/
namespace MP
open PySem PySem.Spec PyProof.Rows L2

/-- what a def's body wants of exceptions -/
abbrev WE0 (E : XK) : WX := fun cls d _ H => E cls d H
theorem envR_start {K : PySem.W.Frag} {m : List Addr} {F : Hp} {N : List Str} {vs : List V} {ds : List D} (r : Rs K m F vs ds) : EnvR K m F (L2.start N vs) (ds.map some ++ List.replicate (N.length - ds.length) none) := by
  unfold L2.start
  refine ⟨?_, fun i d h => ?_⟩
  · rw [List.length_append, List.length_append, List.length_map, List.length_map, r.length, List.length_replicate, List.length_replicate]
  · by_cases hi : i < ds.length
    · rw [List.getElem?_append_left (by simpa using hi), List.getElem?_map] at h
      cases e : ds[i]? with
      | none => rw [e] at h; cases h
      | some x =>
        rw [e] at h; cases h
        obtain ⟨v, h1, h2⟩ := r.get e
        refine ⟨v, ?_, h2⟩
        rw [List.getElem?_append_left (by rw [List.length_map, r.length]; exact hi), List.getElem?_map, h1]; rfl
    · rw [List.getElem?_append_right (by simpa using hi), List.getElem?_replicate] at h
      split at h <;> cases h
/-- what a body does, as the call tells it -/
theorem ended_post {kp : Bool} {S : Se} {X : Cx} {n : Nat} {m : List Addr} {F H : Hp} {st : St} {o : SO} {Q : VK} {E : XK} (r : Rel X.K S.T m F st H)
    (h : Post X.K S.T m F H (fun d m' F' H' => ∀ v, R X.K m' F' v d → Q v H') (fun c fs m' F' H' => ∀ cls dx, XR S.g X.K m' F' c fs cls dx H' → E cls dx H') (ended kp st o)) :
    SPost S X (WE0 E) n { nx := fun _ H' => Q .non H', rt := Q } m F H o := by
  cases o with
  | nx ρ st' => exact fun σ' m' F' H' _ s r' _ => leave_ok r s r' .non h
  | ret d st' => exact fun v m' F' H' s r' rv => leave_ok r s r' rv h
  | exc c fs st' => exact fun σ' m' F' H' s r' _ cls dx x => leaveX_ok r s r' x h
  | brk ρ st' => exact h.elim
  | cont ρ st' => exact h.elim
  | bad => exact h.elim
section
variable {P : Program} {w : World} {K : PySem.W.Frag} {mg : Str → Option Value} {base : Heap}
/-- THE RULE for a def: its body by rules -/
theorem fnG_of {kp : Bool} {S : Se} {gd : Bool} {k : Nat} {f : Addr} {name qual : Str} {params : Arguments} {body : List Stmt} {scope : Scope} {dV kV doc pm cdv ct oc : Value} {an od : Option Addr} {osl : Array (Option Value)} {N ps : List Str} {b : Env → St → SO}
    (lk : K.lookup f = some ⟨oc, od, .func (PySem.W.fnOf name qual params body scope dV kV doc pm an cdv ct), osl⟩) (hcd : PySem.W.codeIn K cdv qual = true) (Sc : FnScope N ps scope)
    (hbody : ∀ (A : Around) (fr : List PySem.Env) (s : Shared) (H : Hp) (E : XK), (gd = true → A.guards = some []) → Room k (A.deeper (envOfC qual scope s.heap.objs.size f cdv)) →
      PSs (cxOf (L2.CX P w) P w K mg base N qual scope f cdv A fr s H E) body (TSof S (cxOf (L2.CX P w) P w K mg base N qual scope f cdv A fr s H E) (WE0 E) b)) :
    FnG P w K mg base gd (k + 1) f (PySem.W.fnOf name qual params body scope dV kV doc pm an cdv ct) ps (spD S K ps.length (runF kp N.length b)) := by
  refine ⟨fun vs H Q E ⟨ds, m, F, st, hl, rs, _⟩ => by rw [rs.length, hl], fun A outer s H args us vs Q E hg hr e0 hb r hsp => ?_⟩
  obtain ⟨ds, m, F, st, hdl, rs, rl, hp⟩ := hsp
  have hl : vs.length = ps.length := by rw [rs.length, hdl]
  have KX : K.In s.heap := e0.mod.kin.keeps fun b o e => (e0.bs b o e).1
  have lim : s.heap.NoLimit := e0.mod.nolimit.keeps fun b o e => (e0.bs b o e).1
  have hkind : ∀ y ∈ ps.zip us, scope.names.lookup y.1 = some .local ∨ (scope.names.lookup y.1 = some .cell ∧ ((cellsFrom (s.heap.objs.size + 1) scope.names []).lookup y.1).isSome = true) := fun ⟨n, v⟩ hy => by
    rcases Sc.par n (List.of_mem_zip hy).1 with q | q
    · exact .inl q
    · exact .inr ⟨q, PySem.W.cellsFrom_some _ _ _ (.inl q)⟩
  refine codeAny_call_function hr.depth (KX _ _ lk) rfl Sc.co Sc.gen rfl (PySem.W.codeRec_of KX hcd) (hb _ _ _ _ ?_)
  refine wpAny_newFunctionEnv_cells Sc.kind hkind fun env he s1 x => ?_
  subst he
  refine ⟨lim.keeps x.toInCall.keep, codeAny_func ?_⟩
  have ht := hbody A outer s H E hg (hr.deeper _)
  have I : Inv (cxOf (L2.CX P w) P w K mg base N qual scope f cdv A outer s H E) [] (L2.start N vs) H s1 := inv_start Sc hr.hd e0 hl r x
  have hq : TSof S (cxOf (L2.CX P w) P w K mg base N qual scope f cdv A outer s H E) (WE0 E) b { nx := fun _ H' => Q .non H', rt := Q } (L2.start N vs) H :=
    ⟨_, m, F, enter st, envR_start rs, rl.enter, ended_post rl hp⟩
  refine wpAny_mono (ht.run [] s1 (L2.start N vs) H _ I hq) (fun fl s' hs => ?_) fun e s' hs => hs
  have fin : ∀ {σ' : L2.St} {H' : Hp} {v : V} {u : Value}, Inv (cxOf (L2.CX P w) P w K mg base N qual scope f cdv A outer s H E) [] σ' H' s' → RelV v u → Q v H' → CE outer P w H s Q u s' :=
    fun {σ' H' v u} J rv q => ⟨v, H', J.os, J.bare, J.base, J.hok, rv, q⟩
  cases fl with
  | ret u =>
    obtain ⟨v, σ', H', J, rv, q⟩ := hs
    exact fin J rv q
  | next =>
    obtain ⟨σ', H', J, q⟩ := hs
    exact fin (v := V.non) (u := Value.none) J rfl q
  | brk =>
    obtain ⟨_, _, _, q⟩ := hs
    exact False.elim q
  | cont =>
    obtain ⟨_, _, _, q⟩ := hs
    exact False.elim q
/-- .. as the head hands it out -/
theorem funG {kp : Bool} {S : Se} {gd : Bool} {x qual : Str} {st : Stmt} {f : Addr} {fd : FuncData} {N ps : List Str} {k : Nat} {b : Env → St → SO} (F : L2.Fun K x qual st f fd) (Sc : FnScope N ps (defScope st))
    (hbody : ∀ (cdv : Value) (A : Around) (fr : List PySem.Env) (s : Shared) (H : Hp) (E : XK), (gd = true → A.guards = some []) → Room k (A.deeper (envOfC qual (defScope st) s.heap.objs.size f cdv)) →
      PSs (cxOf (L2.CX P w) P w K mg base N qual (defScope st) f cdv A fr s H E) (defBody st) (TSof S (cxOf (L2.CX P w) P w K mg base N qual (defScope st) f cdv A fr s H E) (WE0 E) b)) :
    FnG P w K mg base gd (k + 1) f fd ps (spD S K ps.length (runF kp N.length b)) := by
  obtain ⟨oc, od, kV, doc, pm, an, cdv, ct, osl, rfl, lk, hcd⟩ := F.ex
  exact fnG_of lk hcd Sc (hbody cdv)
end

/-! ### calls -/
def fDef (n : Nat) (h : List D → St → Out D) (f : Env → St → Out (List D)) : Env → St → Out D := fun ρ st => (f ρ st).bind fun ds st1 => if ds.length = n then h ds st1 else .bad
section
variable {S : Se} {X : Cx} {W : WX} {gd : Bool} {k : Nat} {f : Addr} {fd : FuncData} {ps : List Str} {h : List D → St → Out D} {x : Str} {p pos : Pos} {e : Expr} {es : List Expr} {fa : Env → St → Out (List D)}
theorem run_fnG {pins : List (Addr × Obj)} {σ : L2.St} {H : Hp} {s : Shared} {Q : VK} {us : List Value} {vs : List V} {sp : Sp} {E : L2.St → XK} (F : FnG X.prog X.w X.K X.mg X.base gd k f fd ps sp) (hG : gd = true → X.A.guards = some []) (hr : Room k X.A) (hb : Binds X.K fd ps []) (hx : PassesAt (L2.CX X.prog X.w) X σ (E σ))
    (I : Inv X pins σ H s) (r : Vals vs us) (h : sp vs H Q (E σ)) : wpAny (model X.prog X.w) X.A (call (.ref f) us) (EP X pins σ Q) X.xe s := by
  have hl : us.length = ps.length := by rw [← r.length]; exact F.len _ _ _ _ h
  have b := hb s us I.kIn (by rw [List.append_nil]; exact hl)
  rw [List.append_nil] at b
  refine wpAny_call (codeAny_mono (F.go X.A X.stack s H ⟨us, []⟩ us vs Q (E σ) hG hr I.env0 b r h) fun r s' hq => ?_)
  cases r with
  | error e => exact hx pins H s e s' I hq
  | ok fl =>
    cases fl with
    | ret u => exact I.after hq
    | next => exact False.elim hq
    | brk => exact False.elim hq
    | cont => exact False.elim hq
theorem i_def {n : Nat} : ∀ σ H Q, TEof S X W (fDef n h fa) σ H Q → tCallS (spD S X.K n h) (WE W) (TAof S X W fa) σ H Q := by
  intro σ H Q ⟨ρ, m, F, st, E, r, q⟩
  refine ⟨ρ, m, F, st, E, r, (Post.bind q).imp (fun ds m1 F1 H1 s1 q vs rvs => ?_) fun _ _ _ _ _ y => y⟩
  obtain ⟨st1, r1, q⟩ := q
  split at q
  · rename_i hn
    exact ⟨ds, m1, F1, st1, hn, rvs, r1, q⟩
  · exact q.elim
theorem s_call (F : FnG X.prog X.w X.K X.mg X.base gd k f fd ps (spD S X.K ps.length h)) (hG : gd = true → X.A.guards = some []) (hr : Room k X.A) (hg : Gl X x) (hm : X.mg x = some (.ref f)) (hk : PySem.W.keepIn X.K (.ref f) = true) (hb : Binds X.K fd ps []) (tk : Takes X W)
    (ha : PA X (e :: es) (TAof S X W fa)) (hdb : (x == ("__debug__" : Str)) = false := by decide) (he : starEach (e :: es) X.env = (false, eval e X.env) :: starEach es X.env := by rfl) (hpl : (backTo pos (starEach es X.env)).any (·.1) = false := by rfl) :
    PE X (.Call (.Name x p) (e :: es) [] pos) (TEof S X W (fDef ps.length h fa)) := by
  have z : PE X (.Call (.Name x p) (e :: es) [] pos) (tCallS (spD S X.K ps.length h) (WE W) (TAof S X W fa)) := by
    refine ⟨fun pins s σ H Q I h => ?_⟩
    refine wpAny_Call_Name_kw (ld_glob I hg hm ?_ hdb)
    refine PySem.W.callWith_K (h₀ := X.base) I.ok.mod.kin hk (thn (ha.run pos pins s σ H _ I h) fun us s1 ⟨vs, H1, I1, r, q⟩ => ⟨I1.kIn, ?_⟩) he hpl
    exact run_fnG F hG hr hb (passAt tk σ) I1 r q
  exact z.weak i_def
theorem s_call0 (F : FnG X.prog X.w X.K X.mg X.base gd k f fd [] (spD S X.K 0 h)) (hG : gd = true → X.A.guards = some []) (hr : Room k X.A) (hg : Gl X x) (hm : X.mg x = some (.ref f)) (hk : PySem.W.keepIn X.K (.ref f) = true) (hb : Binds X.K fd [] []) (tk : Takes X W)
    (hdb : (x == ("__debug__" : Str)) = false := by decide) : PE X (.Call (.Name x p) [] [] pos) (TEof S X W (fDef 0 h fNil)) := by
  have z : PE X (.Call (.Name x p) [] [] pos) (tCallS (spD S X.K 0 h) (WE W) tNil) := by
    refine ⟨fun pins s σ H Q I h => ?_⟩
    refine wpAny_Call_Name_kw (ld_glob I hg hm ?_ hdb)
    exact PySem.W.callWith_K0 I.kIn hk (run_fnG (us := []) F hG hr hb (passAt tk σ) I .nil h)
  refine z.weak fun σ H Q ⟨ρ, m, F, st, E, r, q⟩ => ⟨[], m, F, st, rfl, .nil, r, q⟩
end
end MP

set_option maxRecDepth 100000
set_option maxHeartbeats 4000000
/-! MX1: an own exception's __init__ that begins with super().__init__(..), its class standing over others of the text's and ValueError. -/
namespace MP
open PySem PySem.Spec PyProof.Rows L2 PySem.W

theorem lookup_nodup {α : Type} {x : Str} {u : α} : ∀ {l : List (Str × α)}, (l.map (·.1)).Nodup → (x, u) ∈ l → l.lookup x = some u
  | [], _, h => by cases h
  | (y, w) :: l, nd, h => by
    have nd2 := List.nodup_cons.mp nd
    rcases List.mem_cons.mp h with e | hm
    · cases e
      simp [List.lookup]
    · have ne : (x == y) = false := by
        cases q : x == y with
        | false => rfl
        | true =>
          have e : x = y := by simpa using q
          subst e
          exact absurd (List.mem_map.mpr ⟨(x, u), hm, rfl⟩ : x ∈ l.map (·.1)) nd2.1
      rw [List.lookup, ne]
      exact lookup_nodup nd2.2 hm
theorem rev_zip_get {α : Type} {ps : List Str} {us : List α} {i : Nat} {x : Str} {u : α} (nd : ps.Nodup) (hl : ps.length = us.length) (h1 : ps[i]? = some x) (h2 : us[i]? = some u) : (ps.zip us).reverse.lookup x = some u := by
  refine lookup_nodup ?_ (List.mem_reverse.mpr ?_)
  · rw [List.map_reverse, (List.reverse_perm _).nodup_iff, List.map_fst_zip (Nat.le_of_eq hl)]
    exact nd
  · exact List.mem_of_getElem? (i := i) (by rw [List.getElem?_zip_eq_some]; exact ⟨h1, h2⟩)

/-- what is asked of the __init__'s scope: nothing but parameters, globals and the class -/
structure SupS (ps : List Str) (sc : Scope) : Prop where
  kind : sc.kind = .function
  co : sc.isCoroutine = false
  gen : sc.isGenerator = false
  nd : ps.Nodup
  par : ∀ x ∈ ps, sc.names.lookup x = some .local
  nocell : ∀ y ∈ sc.names, y.2 ≠ .cell
  free : ∀ y ∈ sc.names, y.2 = .free → y.1 = "__class__"
  sup : sc.names.lookup ("super" : Str) = some .globalImplicit
  cls : sc.names.lookup ("__class__" : Str) = some .free

def supCx (CX : CXT) (P : Program) (w : World) (K : Frag) (mg : Str → Option Value) (base : Heap) (N : List Str) (qual : Str) (scope : Scope) (f : Addr) (cd : Value) (cc : Addr) (A : Around) (outer : List PySem.Env) (s : Shared) (H : Hp) (E : XK) : Cx where
  prog := P
  w := w
  K := K
  mg := mg
  base := base
  A := A.deeper (ksEnv qual scope s.heap.objs.size f cd cc)
  N := N
  s_0 := s
  H_0 := H
  env := ksEnv qual scope s.heap.objs.size f cd cc
  outer := outer
  stack := ksEnv qual scope s.heap.objs.size f cd cc :: outer
  ex := []
  fn := fun _ => false
  calm := true
  pn := []
  xe := fun e s' => wpAny (model P w) (A.deeper (ksEnv qual scope s.heap.objs.size f cd cc)) (leaving (ksEnv qual scope s.heap.objs.size f cd cc) e) (fun _ s'' => CX outer H s E e s'') (fun e' s'' => CX outer H s E e' s'') s'

section
variable {CX : CXT} {P : Program} {w : World} {K : Frag} {mg : Str → Option Value} {base : Heap} {ps : List Str} {qual : Str} {scope : Scope} {f cc D : Addr} {cd : Value} {A : Around} {outer : List PySem.Env} {s : Shared} {H : Hp} {E : XK} {us : List Value} {vs : List V}
theorem sup_start {cl : Value} {cld : Option Addr} {csl : Array (Option Value)} (S : SupS ps scope) (hcell : K.lookup cc = some ⟨cl, cld, .cell (some (.ref D)), csl⟩) (hd : A.handled = none) (e0 : Env0 P w K mg base A outer s H) (hl : vs.length = ps.length) (r : Vals vs us)
    {h₁ : Heap} {tk : Nat} (hns : h₁.Ns s.heap.objs.size fun y => (ps.zip us).reverse.lookup y) (kp : ∀ b o, s.heap.get? b = some o → h₁.get? b = some o) :
    Inv (supCx CX P w K mg base ps qual scope f cd cc A outer s H E) [] (vs.map some) H { s with heap := h₁, toks := tk } := by
  have hcb := e0.mod.kin _ _ hcell
  obtain ⟨hcs, hcn⟩ := e0.bs _ _ hcb
  have one : ∀ {y : Str} {c : Addr}, ([(("__class__" : Str), cc)] : List (Str × Addr)).lookup y = some c → y = "__class__" ∧ c = cc := fun {y c} e => by
    rw [List.lookup] at e
    split at e
    · rename_i q
      cases e
      exact ⟨by simpa using q, rfl⟩
    · cases e
  have noA : ∀ b : Addr, b ∉ (supCx CX P w K mg base ps qual scope f cd cc A outer s H E).ex := fun b z => absurd (show b ∈ ([] : List Addr) from z) (by simp)
  have ho0 : base.objs.size ≤ s.heap.objs.size := e0.bsz
  refine ⟨⟨e0.mod, S.kind, rfl, rfl, Nat.le_refl _, fun x y c e1 e2 => (one e1).1.trans (one e2).1.symm, fun x hx => ?_, fun x c z _ => (Bool.noConfusion (show false = true from z)), fun _ => hd, Around.frames_deeper e0.frames, .inr ⟨rfl, rfl⟩, fun b z => absurd z (noA b), e0.bs, e0.bsz, fun b _ _ => noA b,
      fun b z => absurd z (noA b), e0.funs, e0.frf⟩,
    rfl, e0.bare, Un.kept kp, ⟨_, hns, fun i x v e1 e2 e3 => ?_⟩, fun x c e => ?_, e0.hok.fresh (Nat.le_refl _), fun x c e => ?_, fun q hq => absurd (show q ∈ ([] : List (Addr × Obj)) ++ [] from hq) (by simp), e0.hok.kept kp, by rw [List.length_map, hl]; rfl⟩
  · have hx : scope.names.lookup x = some .cell ∨ scope.names.lookup x = some .free := hx
    rcases hx with hx | hx
    · exact absurd rfl (S.nocell _ (PySem.mem_of_lookup hx))
    · have ex : x = "__class__" := S.free _ (PySem.mem_of_lookup hx) rfl
      rw [ex]
      exact ⟨cc, by show List.lookup ("__class__" : Str) [(("__class__" : Str), cc)] = some cc; simp [List.lookup]⟩
  · have e1 : ps[i]? = some x := e1
    rw [List.getElem?_map] at e2
    cases q : vs[i]? with
    | none => rw [q] at e2; cases e2
    | some v' =>
      rw [q] at e2; cases e2
      obtain ⟨u, hu, rv⟩ := r.get q
      exact ⟨u, rv, .inl ⟨S.par x (List.mem_of_getElem? e1), rev_zip_get S.nd (hl.symm.trans r.length) e1 hu⟩⟩
  · rw [(one e).2]
    exact ⟨_, _, kp _ _ hcs, rfl⟩
  · rw [(one e).2]
    exact hcn

/-- THE RULE: the first statement is super().__init__(..) of what does not change the heap, the rest goes by rules -/
theorem fn_super {k : Nat} {dV kV doc pm ct oc cl ccl : Value} {an od cld cdd : Option Addr} {osl csl ccs : Array (Option Value)} {params : Arguments} {cda : Addr} {vc : Array Value} {file : Str} {tf : Tok} {cdD : ClassData} {ar : Arg} {e : Expr} {es : List Expr} {rest : List Stmt}
    {p0 p1 p2 p3 p4 : Pos} {sp : Sp} {ta : TA} {t : TS} {pl : Addr → Sem Bool}
    (lk : K.lookup f = some ⟨oc, od, .func (ksFn "__init__" qual params (.Expr (.Call (.Attribute (.Call (.Name "super" p0) [] [] p1) "__init__" p2) (e :: es) [] p3) p4 :: rest) scope dV kV doc pm an (.ref cda) ct cc), osl⟩)
    (hcd : codeIn K (.ref cda) qual = true) (S : SupS ps scope) (hcell : K.lookup cc = some ⟨cl, cld, .cell (some (.ref D)), csl⟩) (hD : clsIn K D = some cdD) (hcode : K.lookup cda = some ⟨ccl, cdd, .fields vc, ccs⟩) (hvc : vc[2]? = some (.str file tf))
    (hfile : ((P.main.file : Str) == file) = true) (htop : (P.main.scope.names.lookup ("super" : Str)).isSome = false) (hsup : mg "super" = none) (hoq : nsIn K cStatics "thirdparty.any" = some none) (hpar : (params.posonlyargs ++ params.args).head? = some ar) (har : ps[0]? = some ar.arg)
    (len : ∀ vs H Q E, sp vs H Q E → vs.length = ps.length)
    (hsp : ∀ vs H Q E, sp vs H Q E → ∃ (a C : Addr) (ws : List V), vs = .ref a :: ws ∧ OexC K C ∧ mroIn K C (.ref D) = some true ∧ ks_superIn K C D "__init__" = some (some (.builtin "ValueError.__init__")) ∧ subIn K (.ref C) (.type "ValueError") = some true ∧ H a = some (exo a C none) ∧
      ta (vs.map some) H (fun us H' => H' = H ∧ us.length ≤ 1000) ∧ t { nx := fun _ H' => Q .non H', rt := Q } (vs.map some) H)
    (hargs : ∀ (A : Around) (outer : List PySem.Env) (s : Shared) (H : Hp) (E : XK), PA (supCx CX P w K mg base ps qual scope f (.ref cda) cc A outer s H E) (e :: es) ta)
    (hrest : ∀ (A : Around) (outer : List PySem.Env) (s : Shared) (H : Hp) (E : XK), PSs (supCx CX P w K mg base ps qual scope f (.ref cda) cc A outer s H E) rest t)
    (hst : ∀ env : PySem.Env, starEach (e :: es) env = (false, eval e env) :: starEach es env) (hpl : ∀ env : PySem.Env, (backTo p3 (starEach es env)).any (·.1) = false)
    (hev : ∀ (L : Addr), eval (.Call (.Attribute (.Call (.Name "super" p0) [] [] p1) "__init__" p2) (e :: es) [] p3) (ksEnv qual scope L f (.ref cda) cc) = (do
      let ov ← attributeBase (.Call (.Name "super" p0) [] [] p1) "__init__" (ksEnv qual scope L f (.ref cda) cc) (eval (.Call (.Name "super" p0) [] [] p1) (ksEnv qual scope L f (.ref cda) cc))
      standAt p2.atName
      let (g, first) ← holding [ov] (getMethod ov "__init__" (pl L))
      callWith p3 g first (backTo p3 (starEach (e :: es) (ksEnv qual scope L f (.ref cda) cc))) []))
    (hsw : ∀ (L : Addr), swapsWith (.Call (.Attribute (.Call (.Name "super" p0) [] [] p1) "__init__" p2) (e :: es) [] p3) none p4.line (ksEnv qual scope L f (.ref cda) cc) = pure false)
    (hin : ∀ (L : Addr), interactive (ksEnv qual scope L f (.ref cda) cc) = false) :
    FnOk P w K mg base CX k f (ksFn "__init__" qual params (.Expr (.Call (.Attribute (.Call (.Name "super" p0) [] [] p1) "__init__" p2) (e :: es) [] p3) p4 :: rest) scope dV kV doc pm an (.ref cda) ct cc) ps sp := by
  refine ⟨len, fun A outer s H args us vs Q E hr e0 hb r hs => ?_⟩
  obtain ⟨hp, g0, dr, tk, os⟩ := s
  have hl := len _ _ _ _ hs
  obtain ⟨a, C, ws, rfl, T, hmro, hsi, hsub, hea, hta, hti⟩ := hsp _ _ _ _ hs
  have KX : K.In hp := e0.mod.kin.keeps fun b o e => (e0.bs b o e).1
  have lim : hp.NoLimit := e0.mod.nolimit.keeps fun b o e => (e0.bs b o e).1
  refine ks_codeAny_call_defAt hr.depth (KX _ _ lk) rfl lim (codeRec_of KX hcd) rfl (hb) S.nocell (fun x hx => S.par _ (List.of_mem_zip hx).1) (fun h₁ hns hk₁ => ?_) S.co S.gen S.kind
  have I : Inv (supCx CX P w K mg base ps qual scope f (.ref cda) cc A outer ⟨hp, g0, dr, tk, os⟩ H E) [] ((V.ref a :: ws).map some) H ⟨h₁, g0, dr, tk + (ps.zip us).length, os⟩ := sup_start S hcell hr.hd e0 hl r hns hk₁
  obtain ⟨oD, hD1, hD2⟩ : ∃ oD, h₁.get? D = some oD ∧ oD.data = .cls cdD := by
    unfold clsIn at hD
    split at hD
    · rename_i c d cd' sl ho
      cases hD
      exact ⟨_, I.kIn _ _ ho, rfl⟩
    · cases hD
  obtain ⟨cdC, hcC⟩ : ∃ cdC, clsIn K C = some cdC := by
    cases hc : clsIn K C with
    | none => unfold ks_superIn at hsi; rw [hc] at hsi; cases hsi
    | some cd => exact ⟨cd, rfl⟩
  have hsi' := hsi
  unfold ks_superIn at hsi'
  rw [hcC] at hsi'
  obtain ⟨t1, ho⟩ := exo_at I.hok hea
  have u0 : us[0]? = some (Value.ref a) := by
    cases r with
    | cons ra rt => exact congrArg some ra
  refine ks_wpAt_execs_cons (ks_wpAt_Expr_any (ks_wpAt_MethodCall (pl := pl hp.objs.size) ?_ (hev _)) (hin _) (hsw _))
  refine ks_wpAt_super_base (env := ksEnv qual scope hp.objs.size f (.ref cda) cc) S.sup S.cls rfl rfl (I.kIn _ _ lk) rfl hpar rfl (I.kIn _ _ hcode) rfl hvc hfile htop ?_
  obtain ⟨mb, hb1, hb2⟩ := e0.mod.blt
  refine ks_loadName_global S.kind S.sup (PySem.Calls.loadGlobal_builtin (mg := mg) (mb := mb) (e0.mod.glob.keeps I.bk) hsup (hb1.keeps I.bk) ((hb2 _ (by decide +kernel)).trans (by kernel_rfl)) ⟨rfl, ?_⟩)
  refine wpAny_loadName_free S.kind S.cls rfl ⟨_, I.kIn _ _ hcell, rfl⟩ ?_
  refine wpAny_loadName_local S.kind (S.par _ (List.mem_of_getElem? har)) hns (rev_zip_get S.nd (hl.symm.trans r.length) har u0) ?_
  refine ks_wpAny_isType_cls hD1 hD2 ⟨rfl, ?_⟩
  refine ks_wpAny_call_super hD1 hD2 ho rfl (fun c e => by cases e) (looks_mroIn I.kIn hmro) (fun h2 e2 k2 => ?_)
  have I2 : Inv (supCx CX P w K mg base ps qual scope f (.ref cda) cc A outer ⟨hp, g0, dr, tk, os⟩ H E) [] ((V.ref a :: ws).map some) H ⟨h2, g0, dr, tk + (ps.zip us).length, os⟩ := I.kept k2
  have ia : InstAt h2 a ({ cls := .ref C, dict := none, data := .fields #[.ref t1, .none, .none, .none, .bool false, .none] } : Obj) C none := ⟨k2 _ _ ho, rfl, rfl, trivial⟩
  refine kxs_getMethod kxs_ValueError e2 (looks_opaque I2.kIn hoq) (l₀ := cdC.mro) (fun A Q E s k q => wpAny_bind ((looks_clsIn I2.kIn hcC) A _ E s k (wpAny_pure q))) rfl I2.kIn hsi' (ia.type.andThen (looks_subIn I2.kIn hsub)) (ks_ne I2.kIn ia hcC) (by decide) ?_
  have kp : ∀ b o, h2.get? b = some o → (h2.push (kxs_mw "ValueError.__init__" a)).get? b = some o := fun b o e => Heap.get?_push_of_some _ e
  have hu : (h2.push (kxs_mw "ValueError.__init__" a)).get? h2.objs.size = some (kxs_mw "ValueError.__init__" a) := Heap.get?_push_size _ rfl
  have I3 : Inv (supCx CX P w K mg base ps qual scope f (.ref cda) cc A outer ⟨hp, g0, dr, tk, os⟩ H E) [(h2.objs.size, kxs_mw "ValueError.__init__" a)] ((V.ref a :: ws).map some) H ⟨h2.push (kxs_mw "ValueError.__init__" a), g0, dr, tk + (ps.zip us).length + 1, os⟩ := by
    refine (I2.kept (t' := tk + (ps.zip us).length + 1) kp).pins_of fun p hpm => ?_
    rw [List.mem_singleton.mp hpm]
    exact ⟨hu, I2.hok.fresh (Nat.le_refl _), Nat.ne_of_gt I2.lt, I2.nofs (Nat.le_refl _), fun v z => by cases z⟩
  have ha := (hargs A outer ⟨hp, g0, dr, tk, os⟩ H E).run p3 _ _ _ H _ I3 hta
  show wpAny _ _ (callWith p3 (.ref h2.objs.size) [] (backTo p3 (starEach (e :: es) (ksEnv qual scope hp.objs.size f (.ref cda) cc))) []) _ _ _
  have ha : wpAny (model P w) (A.deeper (ksEnv qual scope hp.objs.size f (.ref cda) cc)) (spliced (backTo p3 (starEach (e :: es) (ksEnv qual scope hp.objs.size f (.ref cda) cc)))) _ _ _ := ha
  rw [hst] at ha ⊢
  refine kxs_callWith (i := "ValueError.__init__") (x := a) (by show (false || (backTo p3 (starEach es _)).any (·.1)) = false; rw [hpl]; rfl) (PySem.Calls.evalArgs_plain (thn ha fun us2 s3 hh => ?_))
  obtain ⟨vs2, H2, I4, r2, eH, hz⟩ := hh
  subst eH
  obtain ⟨hu4, _⟩ := I4.pin _ (List.mem_append_right _ (List.mem_singleton.mpr rfl))
  refine ⟨hu4, ?_⟩
  obtain ⟨nm, q, N, bs, bm, sn, sub, ab, col, dd, k0, k1, k2, k3, k5, hC, hbm⟩ := T.cls
  have hC' := I4.kIn _ _ hC
  obtain ⟨t4, ho4⟩ := exo_at I4.hok hea
  obtain ⟨h4, g4, dr4, tk4, os4⟩ := s3
  have hz2 : us2.length ≤ sizeLine := by
    rw [← Paired.length r2, sizeLine_eq]; omega
  refine wpAny_call (codeAny_of_tree ?_)
  show wpAny _ (A.deeper _).in1 (callAny (.ref h2.objs.size) ⟨[] ++ us2, []⟩) _ _ _
  simp only [callAny, List.nil_append]
  refine wpAny_bind (wpAny_load hu4 ?_)
  simp only [kxs_mw, show (Value.type "method-wrapper" == Value.type "method" || Value.type "method-wrapper" == Value.type "builtin_function_or_method" || Value.type "method-wrapper" == Value.type "method-wrapper") = true by decide, if_true]
  refine KFB.if_so (by decide) ?_
  refine wpAny_bind (check_bound_init F.excBase_ValueError.toExcCallFacts hC' ho4 rfl ?_)
  refine wpAny_bind (wpAny_pure (wpAny_pure ?_))
  refine ⟨plainId_quiet F.excBase_ValueError.init.plain _, codeAny_builtin F.excBase_ValueError.initEntry ?_⟩
  refine exc_init_tree (cls := .ref C) (t0 := t4) (dv := none) (c2 := .none) (c3 := .none) (b4 := .bool false) ho4 hz2 fun h' kk e' t' => ?_
  have J := I4.write (t' := tk4) (x := a) (e := a) (o := exo a C none) (by rw [hea]; exact True.intro) (.inl rfl) kk ⟨_, e'⟩ (exo_ok e')
  have eu : upd H2 a (exo a C none) = H2 := by
    funext b
    by_cases hb : b = a
    · rw [hb, upd_same, hea]
    · rw [upd_ne hb]
  rw [eu] at J
  refine wpAt_of_wpAny ?_
  refine wpAny_mono ((hrest A outer ⟨hp, g0, dr, tk, os⟩ H2 E).run _ _ _ H2 _ J hti) (fun fl s' hs => ?_) fun e s' hs => hs
  have fin : ∀ {σ' : L2.St} {H' : Hp} {v : V} {u : Value}, Inv (supCx CX P w K mg base ps qual scope f (.ref cda) cc A outer ⟨hp, g0, dr, tk, os⟩ H2 E) [(h2.objs.size, kxs_mw "ValueError.__init__" a)] σ' H' s' → RelV v u → Q v H' → CE outer P w H2 ⟨hp, g0, dr, tk, os⟩ Q u s' :=
    fun {σ' H' v u} J rv q => ⟨v, H', J.os, J.bare, J.base, J.hok, rv, q⟩
  cases fl with
  | ret u =>
    obtain ⟨v, σ', H', J, rv, q⟩ := hs
    exact fin J rv q
  | next =>
    obtain ⟨σ', H', J, q⟩ := hs
    exact fin (v := V.non) (u := Value.none) J rfl q
  | brk =>
    obtain ⟨_, _, _, q⟩ := hs
    exact False.elim q
  | cont =>
    obtain ⟨_, _, _, q⟩ := hs
    exact False.elim q
end
end MP

set_option maxRecDepth 100000
set_option maxHeartbeats 1000000
/-! MX2: own exceptions made and raised. -/
namespace MP
open PySem PySem.Spec PyProof.Rows L2 PySem.W

/-! ### a class without __init__ of its own, made of nothing -/
theorem pmk_own0 {X : Cx} {C : Addr} {bmB : List Value} {B newId initId : String} {x : Str} {p pos : Pos} (F : ExcBaseFacts B newId initId bmB) (q : excIn X.K C bmB newId = true) (gC : X.mg x = some (.ref C)) (kC : keepIn X.K (.ref C) = true) (r : Raises X (.ref C)) (hg : Gl X x)
    (hdb : (x == ("__debug__" : Str)) = false := by decide) : PMk X (.Call (.Name x p) [] [] pos) (fun _ H Q => Q (.ref C) none H) := by
  intro pins s σ H Q I h
  refine wpAny_Call_Name_kw (ld_glob I hg gC ?_ hdb)
  refine callWith_K0 I.kIn kC ?_
  obtain ⟨bm, N, nm, qn, bs, hdct, sn, sub, ab, col, dd, k0, k1, k2, k3, k5, mN, hC, hN, hni, T⟩ := exc_obj I.kIn q
  refine wpAny_call_exc_subT F T hC hN hni (fun h' e hm => ?_) (by show 0 ≤ sizeLine; exact Nat.zero_le _)
  exact mk_of I hm r h (I.hok.gone hm.new)

/-! ### a class with an __init__ that stores what it is handed -/
structure InitC (K : Frag) (C D : Addr) (fs : List Str) : Prop where
  oex : OexC K C
  mro : mroIn K C (.ref D) = some true
  sup : ks_superIn K C D "__init__" = some (some (.builtin "ValueError.__init__"))
  sub : subIn K (.ref C) (.type "ValueError") = some true
  nf : ∀ f ∈ fs, findIn K (.ref C) f = some none
/-- what the __init__ leaves: the exception's dict -/
def sp1 (K : Frag) (D : Addr) (f1 : Str) : Sp := fun vs H Q _ => ∃ (a C : Addr) (y1 : V), vs = [.ref a, y1] ∧ InitC K C D [f1] ∧ H a = some (exo a C none) ∧ ∀ dx, H dx = none → dx ≠ a → Q .non (upd (upd H dx (exd dx [(f1, y1)])) a (exo a C (some dx)))
def sp2 (K : Frag) (D : Addr) (f1 f2 : Str) : Sp := fun vs H Q _ => ∃ (a C : Addr) (y1 y2 : V), vs = [.ref a, y1, y2] ∧ InitC K C D [f1, f2] ∧ H a = some (exo a C none) ∧
  ∀ dx, H dx = none → dx ≠ a → Q .non (upd (upd (upd H dx (exd dx [(f1, y1)])) a (exo a C (some dx))) dx (exd dx [(f2, y2), (f1, y1)]))
/-- what is known of the def that an own exception's __init__ is -/
structure SupK (P : Program) (K : Frag) (mg : Str → Option Value) (ps : List Str) (qual : Str) (scope : Scope) (params : Arguments) (D cda cc : Addr) : Prop where
  hcd : codeIn K (.ref cda) qual = true
  S : SupS ps scope
  cell : ∃ (cl : Value) (cld : Option Addr) (csl : Array (Option Value)), K.lookup cc = some ⟨cl, cld, .cell (some (.ref D)), csl⟩
  cls : ∃ cdD, clsIn K D = some cdD
  code : ∃ (ccl : Value) (cdd : Option Addr) (vc : Array Value) (ccs : Array (Option Value)) (file : Str) (tf : Tok), K.lookup cda = some ⟨ccl, cdd, .fields vc, ccs⟩ ∧ vc[2]? = some (.str file tf) ∧ ((P.main.file : Str) == file) = true
  top : (P.main.scope.names.lookup ("super" : Str)).isSome = false
  sup : mg "super" = none
  opq : nsIn K cStatics "thirdparty.any" = some none
  par : ∃ ar : Arg, (params.posonlyargs ++ params.args).head? = some ar ∧ ps[0]? = some ar.arg
section
variable {CX : CXT} {P : Program} {w : World} {K : Frag} {mg : Str → Option Value} {base : Heap} {qual : Str} {scope : Scope} {f cc D cda : Addr} {k : Nat} {dV kV doc pm ct oc : Value} {an od : Option Addr} {osl : Array (Option Value)} {params : Arguments} {p0 p1 p2 p3 p4 : Pos}
theorem pv_sup {A : Around} {outer : List PySem.Env} {s : Shared} {H : Hp} {E : XK} {ps : List Str} {i : Nat} {x : Str} {pos : Pos} (S : SupS ps scope) (hi : ps[i]? = some x) (hd : (x == ("__debug__" : Str)) = false) (hcd : (x == ("__classdict__" : Str)) = false) :
    PE (supCx CX P w K mg base ps qual scope f (.ref cda) cc A outer s H E) (.Name x pos) (tVar i) := pe_var hi (.inl (S.par x (List.mem_of_getElem? hi))) hd hcd
theorem no_inter {ps : List Str} {L : Addr} {cd : Value} (S : SupS ps scope) : interactive (ksEnv qual scope L f cd cc) = false := by
  unfold interactive
  rw [show (ksEnv qual scope L f cd cc).scope.kind = ScopeKind.function from S.kind]
  rfl
theorem fn_init1 {pl : Addr → Sem Bool} {sf x1 f1 : Str} {q1 q2 q3 q4 q5 : Pos} (G : SupK P K mg [sf, x1] qual scope params D cda cc)
    (lk : K.lookup f = some ⟨oc, od, .func (ksFn "__init__" qual params [.Expr (.Call (.Attribute (.Call (.Name "super" p0) [] [] p1) "__init__" p2) [.Name x1 q1] [] p3) p4, .Assign [.Attribute (.Name sf q2) f1 q3] (.Name x1 q4) q5] scope dV kV doc pm an (.ref cda) ct cc), osl⟩)
    (hev : ∀ (L : Addr), eval (.Call (.Attribute (.Call (.Name "super" p0) [] [] p1) "__init__" p2) [.Name x1 q1] [] p3) (ksEnv qual scope L f (.ref cda) cc) = (do
      let ov ← attributeBase (.Call (.Name "super" p0) [] [] p1) "__init__" (ksEnv qual scope L f (.ref cda) cc) (eval (.Call (.Name "super" p0) [] [] p1) (ksEnv qual scope L f (.ref cda) cc))
      standAt p2.atName
      let (g, first) ← holding [ov] (getMethod ov "__init__" (pl L))
      callWith p3 g first (backTo p3 (starEach [.Name x1 q1] (ksEnv qual scope L f (.ref cda) cc))) []))
    (d1 : (x1 == ("__debug__" : Str)) = false) (d2 : (x1 == ("__classdict__" : Str)) = false) (d3 : (sf == ("__debug__" : Str)) = false) (d4 : (sf == ("__classdict__" : Str)) = false) :
    FnOk P w K mg base CX k f (ksFn "__init__" qual params [.Expr (.Call (.Attribute (.Call (.Name "super" p0) [] [] p1) "__init__" p2) [.Name x1 q1] [] p3) p4, .Assign [.Attribute (.Name sf q2) f1 q3] (.Name x1 q4) q5] scope dV kV doc pm an (.ref cda) ct cc) [sf, x1] (sp1 K D f1) := by
  obtain ⟨cl, cld, csl, hcell⟩ := G.cell
  obtain ⟨cdD, hD⟩ := G.cls
  obtain ⟨ccl, cdd, vc, ccs, file, tf, c1, c2, c3⟩ := G.code
  obtain ⟨ar, a1, a2⟩ := G.par
  refine fn_super (t := tOst K f1 (tVar 0) (tVar 1)) lk G.hcd G.S hcell hD c1 c2 c3 G.top G.sup G.opq a1 a2 (fun vs H Q E ⟨a, C, y1, e, _⟩ => by rw [e]; rfl) (fun vs H Q E h => ?_)
    (fun A outer s H E => pa_cons (pv_sup (i := 1) G.S rfl d1 d2) pa_nil) (fun A outer s H E => pss_one (ps_ost (pv_sup (i := 0) G.S rfl d3 d4) (pv_sup (i := 1) G.S rfl d1 d2)))
    (fun env => rfl) (fun env => rfl) hev (fun L => rfl) (fun L => no_inter G.S)
  obtain ⟨a, C, y1, rfl, T, ha, hq⟩ := h
  exact ⟨a, C, [y1], rfl, T.oex, T.mro, T.sup, T.sub, ha, ⟨y1, rfl, rfl, (by show 1 ≤ 1000; decide)⟩, y1, rfl, .ref a, rfl, a, C, rfl, T.oex, T.nf _ (by simp), .inl ⟨ha, fun dx n ne => hq dx n ne⟩⟩
theorem fn_init2 {pl : Addr → Sem Bool} {sf x1 f1 x2 f2 : Str} {q1 q2 q3 q4 q5 q6 r1 r2 r3 r4 : Pos} (G : SupK P K mg [sf, x1, x2] qual scope params D cda cc)
    (lk : K.lookup f = some ⟨oc, od, .func (ksFn "__init__" qual params [.Expr (.Call (.Attribute (.Call (.Name "super" p0) [] [] p1) "__init__" p2) [.Name x1 q1, .Name x2 q6] [] p3) p4, .Assign [.Attribute (.Name sf q2) f1 q3] (.Name x1 q4) q5,
      .Assign [.Attribute (.Name sf r1) f2 r2] (.Name x2 r3) r4] scope dV kV doc pm an (.ref cda) ct cc), osl⟩)
    (hev : ∀ (L : Addr), eval (.Call (.Attribute (.Call (.Name "super" p0) [] [] p1) "__init__" p2) [.Name x1 q1, .Name x2 q6] [] p3) (ksEnv qual scope L f (.ref cda) cc) = (do
      let ov ← attributeBase (.Call (.Name "super" p0) [] [] p1) "__init__" (ksEnv qual scope L f (.ref cda) cc) (eval (.Call (.Name "super" p0) [] [] p1) (ksEnv qual scope L f (.ref cda) cc))
      standAt p2.atName
      let (g, first) ← holding [ov] (getMethod ov "__init__" (pl L))
      callWith p3 g first (backTo p3 (starEach [.Name x1 q1, .Name x2 q6] (ksEnv qual scope L f (.ref cda) cc))) []))
    (d1 : (x1 == ("__debug__" : Str)) = false) (d2 : (x1 == ("__classdict__" : Str)) = false) (d3 : (sf == ("__debug__" : Str)) = false) (d4 : (sf == ("__classdict__" : Str)) = false) (d5 : (x2 == ("__debug__" : Str)) = false) (d6 : (x2 == ("__classdict__" : Str)) = false) :
    FnOk P w K mg base CX k f (ksFn "__init__" qual params [.Expr (.Call (.Attribute (.Call (.Name "super" p0) [] [] p1) "__init__" p2) [.Name x1 q1, .Name x2 q6] [] p3) p4, .Assign [.Attribute (.Name sf q2) f1 q3] (.Name x1 q4) q5,
      .Assign [.Attribute (.Name sf r1) f2 r2] (.Name x2 r3) r4] scope dV kV doc pm an (.ref cda) ct cc) [sf, x1, x2] (sp2 K D f1 f2) := by
  obtain ⟨cl, cld, csl, hcell⟩ := G.cell
  obtain ⟨cdD, hD⟩ := G.cls
  obtain ⟨ccl, cdd, vc, ccs, file, tf, c1, c2, c3⟩ := G.code
  obtain ⟨ar, a1, a2⟩ := G.par
  refine fn_super (t := tSeq (tOst K f1 (tVar 0) (tVar 1)) (tOst K f2 (tVar 0) (tVar 2))) lk G.hcd G.S hcell hD c1 c2 c3 G.top G.sup G.opq a1 a2 (fun vs H Q E ⟨a, C, y1, y2, e, _⟩ => by rw [e]; rfl) (fun vs H Q E h => ?_)
    (fun A outer s H E => pa_cons (pv_sup (i := 1) G.S rfl d1 d2) (pa_cons (pv_sup (i := 2) G.S rfl d5 d6) pa_nil))
    (fun A outer s H E => pss_cons (ps_ost (pv_sup (i := 0) G.S rfl d3 d4) (pv_sup (i := 1) G.S rfl d1 d2)) (pss_one (ps_ost (pv_sup (i := 0) G.S rfl d3 d4) (pv_sup (i := 2) G.S rfl d5 d6))))
    (fun env => rfl) (fun env => rfl) hev (fun L => rfl) (fun L => no_inter G.S)
  obtain ⟨a, C, y1, y2, rfl, T, ha, hq⟩ := h
  refine ⟨a, C, [y1, y2], rfl, T.oex, T.mro, T.sup, T.sub, ha, ⟨y1, rfl, y2, rfl, rfl, (by show 2 ≤ 1000; decide)⟩, y1, rfl, .ref a, rfl, a, C, rfl, T.oex, T.nf _ (by simp), .inl ⟨ha, fun dx n ne => ?_⟩⟩
  exact ⟨y2, rfl, .ref a, rfl, a, C, rfl, T.oex, T.nf _ (by simp), .inr ⟨dx, _, upd_same, by rw [upd_ne ne]; exact upd_same, (by show 1 ≤ 900; decide), hq dx n ne⟩⟩
end
/-- C(e, ..) by such an __init__: the exception's dict is new, nothing else has changed -/
def tMk (C : Addr) (fs : List Str) (ta : TA) : L2.St → Hp → XK → Prop := fun σ H Q => ta σ H fun vs H1 => vs.length = fs.length ∧ ∀ dx, H1 dx = none → Q (.ref C) (some dx) (upd H1 dx (.xd (fs.zip vs).reverse))
theorem mk_heap {H1 : Hp} {a dx : Addr} {C : Addr} {fs fs' : List (Str × V)} (na : H1 a = none) (ne : dx ≠ a) : upd (del (upd (upd (upd H1 a (exo a C none)) dx (exd dx fs)) a (exo a C (some dx))) a) dx (.xd fs') = upd H1 dx (.xd fs') := by
  funext b
  by_cases h1 : b = dx
  · rw [h1, upd_same, upd_same]
  · rw [upd_ne h1, upd_ne h1]
    by_cases h2 : b = a
    · rw [h2, del_same, na]
    · rw [del_ne h2, upd_ne h2, upd_ne h1, upd_ne h2]
theorem mk_heap2 {H1 : Hp} {a dx : Addr} {C : Addr} {fs fs2 fs' : List (Str × V)} (na : H1 a = none) (ne : dx ≠ a) : upd (del (upd (upd (upd (upd H1 a (exo a C none)) dx (exd dx fs)) a (exo a C (some dx))) dx (exd dx fs2)) a) dx (.xd fs') = upd H1 dx (.xd fs') := by
  funext b
  by_cases h1 : b = dx
  · rw [h1, upd_same, upd_same]
  · rw [upd_ne h1, upd_ne h1]
    by_cases h2 : b = a
    · rw [h2, del_same, na]
    · rw [del_ne h2, upd_ne h1, upd_ne h2, upd_ne h1, upd_ne h2]
theorem none_upd {H1 : Hp} {a dx : Addr} {o : HO} (n : upd H1 a o dx = none) : dx ≠ a ∧ H1 dx = none := by
  by_cases h : dx = a
  · rw [h, upd_same] at n; cases n
  · rw [upd_ne h] at n; exact ⟨h, n⟩
theorem mk1_imp {K : Frag} {C D : Addr} {f1 : Str} (T : InitC K C D [f1]) {ta : TA} (hm : ∀ σ H Q Q', ta σ H Q → (∀ vs H', Q vs H' → Q' vs H') → ta σ H Q') {σ : L2.St} {H : Hp} {Q : XK} (h : tMk C [f1] ta σ H Q) : tMkO C (sp1 K D f1) [] ta σ H Q := by
  refine hm σ H _ _ h fun vs H1 ⟨hl, q⟩ => ?_
  match vs, hl with
  | [y1], _ =>
    refine ⟨by show 1 ≤ 1000; decide, fun a na => ⟨a, C, y1, rfl, T, upd_same, fun dx n ne => ⟨rfl, dx, [(f1, y1)], upd_same, by rw [upd_ne ne]; exact upd_same, (none_upd n).2, ?_⟩⟩⟩
    rw [mk_heap na ne]
    exact q dx (none_upd n).2
theorem mk2_imp {K : Frag} {C D : Addr} {f1 f2 : Str} (T : InitC K C D [f1, f2]) {ta : TA} (hm : ∀ σ H Q Q', ta σ H Q → (∀ vs H', Q vs H' → Q' vs H') → ta σ H Q') {σ : L2.St} {H : Hp} {Q : XK} (h : tMk C [f1, f2] ta σ H Q) : tMkO C (sp2 K D f1 f2) [] ta σ H Q := by
  refine hm σ H _ _ h fun vs H1 ⟨hl, q⟩ => ?_
  match vs, hl with
  | [y1, y2], _ =>
    refine ⟨by show 2 ≤ 1000; decide, fun a na => ⟨a, C, y1, y2, rfl, T, upd_same, fun dx n ne => ⟨rfl, dx, [(f2, y2), (f1, y1)], ?_, upd_same, (none_upd n).2, ?_⟩⟩⟩
    · rw [upd_ne (Ne.symm ne)]; exact upd_same
    · rw [mk_heap2 na ne]
      exact q dx (none_upd n).2
end MP

set_option maxRecDepth 100000
set_option maxHeartbeats 1000000
/-! MX3: raise, by the interpreter's outcomes. -/
namespace MP
open PySem PySem.Spec PyProof.Rows L2 PySem.W

theorem PMk.weak {X : Cx} {e : Expr} {t t' : L2.St → Hp → XK → Prop} (h : PMk X e t) (w : ∀ σ H Q, t' σ H Q → t σ H Q) : PMk X e t' := fun pins s σ H Q I q => h pins s σ H Q I (w σ H Q q)
section
variable {S : Se} {X : Cx} {W : WX}
theorem TAof.mono {fa : Env → St → Out (List D)} : ∀ σ H Q Q', TAof S X W fa σ H Q → (∀ vs H', Q vs H' → Q' vs H') → TAof S X W fa σ H Q' := by
  intro σ H Q Q' ⟨ρ, m, F, st, E, r, h⟩ hq
  exact ⟨ρ, m, F, st, E, r, h.imp (fun ds m1 F1 H1 s1 q vs rvs => hq _ _ (q vs rvs)) fun _ _ _ _ _ y => y⟩
def gRaise (c n : Nat) (f : Env → St → Out (List D)) : Env → St → SO := fun ρ st => (f ρ st).toS fun ds st1 => if ds.length = n then .exc c ds st1 else .bad
theorem s_raise {c : Nat} {C : Addr} {fs : List Str} {e : Expr} {pos : Pos} {fa : Env → St → Out (List D)} (hc : X.calm = true) (tk : Takes X W) (he : PMk X e (tMk C fs (TAof S X W fa))) (ga : S.g.at_ c = C) (gf : S.g.fs c = fs) (nd : fs.Nodup) :
    PS X (.Raise (some e) none pos) (TSof S X W (gRaise c fs.length fa)) := by
  refine (ps_raise hc tk he).weak fun D σ H ⟨ρ, m, F, st, E, r, h⟩ => ⟨ρ, m, F, st, E, r, (SPost.bind rfl h).imp (fun ds m1 F1 H1 s1 q vs rvs => ?_) fun _ _ _ _ _ y => y⟩
  obtain ⟨st1, r1, q⟩ := q
  split at q
  · rename_i hl
    refine ⟨rvs.length.trans hl, fun dx hn => ?_⟩
    have r2 : Rel X.K S.T m1 F1 st1 (upd H1 dx (.xd (fs.zip vs).reverse)) := r1.side (r1.notin hn) (r1.noF hn) fun u e => by rw [hn] at e; cases e
    have st2 : Step m1 F1 H1 m1 F1 (upd H1 dx (.xd (fs.zip vs).reverse)) := ⟨Mono.refl _ _, fun b u e _ _ => same_upd hn _ b u e, fun _ h => .inl h, fun _ _ h => .inl h⟩
    refine q σ m1 F1 _ st2 r2 rfl (.ref C) (some dx) ⟨by rw [ga], .inr ⟨dx, _, rfl, upd_same, r1.notin hn, r1.noF hn, by rw [gf, hl], vs, rvs, fun i f v e1 e2 => ?_⟩⟩
    rw [gf] at e1
    exact rev_zip_get nd (hl.symm.trans rvs.length.symm) e1 e2
  · exact q.elim
/-- raise C() of a class that stores nothing -/
def gRaise0 (c : Nat) : Env → St → SO := fun _ st => .exc c [] st
theorem s_raise0 {c : Nat} {C : Addr} {e : Expr} {pos : Pos} (hc : X.calm = true) (tk : Takes X W) (he : PMk X e (fun _ H Q => Q (.ref C) none H)) (ga : S.g.at_ c = C) (gf : S.g.fs c = []) : PS X (.Raise (some e) none pos) (TSof S X W (gRaise0 c)) := by
  refine (ps_raise hc tk he).weak fun D σ H ⟨ρ, m, F, st, E, r, h⟩ => ?_
  exact h σ m F H (Step.refl _ _ _) r rfl (.ref C) none ⟨by rw [ga], .inl ⟨gf, rfl⟩⟩
/-- the three ways -/
theorem s_raiseN {c : Nat} {C : Addr} {bmB : List Value} {B newId initId : String} {x : Str} {p pos pos' : Pos} (hc : X.calm = true) (tk : Takes X W) (F : ExcBaseFacts B newId initId bmB) (q : excIn X.K C bmB newId = true) (gC : X.mg x = some (.ref C)) (kC : keepIn X.K (.ref C) = true) (r : Raises X (.ref C)) (hg : Gl X x)
    (ga : S.g.at_ c = C) (gf : S.g.fs c = []) (hdb : (x == ("__debug__" : Str)) = false := by decide) : PS X (.Raise (some (.Call (.Name x p) [] [] pos)) none pos') (TSof S X W (gRaise0 c)) := s_raise0 hc tk (pmk_own0 F q gC kC r hg hdb) ga gf
section
variable {x f1 f2 : Str} {C Dc fI : Addr} {k c : Nat} {fd : FuncData} {ps : List Str} {e : Expr} {es : List Expr} {fa : Env → St → Out (List D)} {p pos pos' : Pos}
theorem s_raise1 (hc : X.calm = true) (tk : Takes X W) (T : InitC X.K C Dc [f1]) (iC : findIn X.K (.ref C) "__init__" = some (some (.ref fI))) (tI : typeIn X.K (.ref fI) = some (.type "function")) (F1 : FnOk X.prog X.w X.K X.mg X.base (L2.CX X.prog X.w) k fI fd ps (sp1 X.K Dc f1)) (hr : Room (k + 1) X.A)
    (hb : Binds X.K fd ps []) (hg : Gl X x) (hm : X.mg x = some (.ref C)) (ha : PA X (e :: es) (TAof S X W fa)) (ga : S.g.at_ c = C) (gf : S.g.fs c = [f1])
    (hdb : (x == ("__debug__" : Str)) = false := by decide) (he : starEach (e :: es) X.env = (false, eval e X.env) :: starEach es X.env := by rfl) (hpl : (backTo pos (starEach es X.env)).any (·.1) = false := by rfl) :
    PS X (.Raise (some (.Call (.Name x p) (e :: es) [] pos)) none pos') (TSof S X W (gRaise c 1 fa)) :=
  s_raise hc tk (PMk.weak (pmk_oex T.oex iC tI F1 hr hb .nil passL hg hm ha hdb he hpl) fun σ H Q h => mk1_imp T TAof.mono h) ga gf (by simp)
theorem s_raise2 (hc : X.calm = true) (tk : Takes X W) (T : InitC X.K C Dc [f1, f2]) (iC : findIn X.K (.ref C) "__init__" = some (some (.ref fI))) (tI : typeIn X.K (.ref fI) = some (.type "function")) (F1 : FnOk X.prog X.w X.K X.mg X.base (L2.CX X.prog X.w) k fI fd ps (sp2 X.K Dc f1 f2)) (hr : Room (k + 1) X.A)
    (hb : Binds X.K fd ps []) (hg : Gl X x) (hm : X.mg x = some (.ref C)) (ha : PA X (e :: es) (TAof S X W fa)) (ga : S.g.at_ c = C) (gf : S.g.fs c = [f1, f2]) (nd : [f1, f2].Nodup)
    (hdb : (x == ("__debug__" : Str)) = false := by decide) (he : starEach (e :: es) X.env = (false, eval e X.env) :: starEach es X.env := by rfl) (hpl : (backTo pos (starEach es X.env)).any (·.1) = false := by rfl) :
    PS X (.Raise (some (.Call (.Name x p) (e :: es) [] pos)) none pos') (TSof S X W (gRaise c 2 fa)) :=
  s_raise hc tk (PMk.weak (pmk_oex T.oex iC tI F1 hr hb .nil passL hg hm ha hdb he hpl) fun σ H Q h => mk2_imp T TAof.mono h) ga gf nd
end
end
end MP

set_option maxRecDepth 100000
set_option maxHeartbeats 2000000
/-! MX4: try with several clauses, some of them with a name. -/
namespace MP
open PySem PySem.Spec PyProof.Rows L2

def noName (D : Ends) (i : Nat) : Ends := { nx := fun σ H => D.nx (σ.set i none) H, rt := D.rt, bk := fun σ H => D.bk (σ.set i none) H, ct := fun σ H => D.ct (σ.set i none) H }
structure Cl where
  c : Value
  i : Option Nat
  ts : Addr → Value → Option Addr → TS
/-- what the clauses wish -/
def wCl (K : PySem.W.Frag) (Wout : WX) (D : Ends) : List Cl → WX
  | [] => Wout
  | l :: r => fun cls d σ H => ∃ b, PySem.W.exmOne K cls l.c = some b ∧ (b = true → ∀ a, H a = none → match l.i with
      | none => l.ts a cls d D σ H
      | some i => l.ts a cls d (noName D i) (σ.set i (some (.ref a))) H) ∧ (b = false → wCl K Wout D r cls d σ H)
/-- a suite, whatever exception it is that was caught -/
def Suite (X : Cx) (body : List Stmt) (ts : Addr → Value → Option Addr → TS) : Prop := ∀ (a : Addr) (oe : Obj) (cls : Value) (d : Option Addr) (pn : List (Addr × Obj)), Zc cls d oe → (∃ vs, oe.data = .fields vs) → PSs (X.suite a ((a, oe) :: pn)) body (ts a cls d)
inductive HCl (X : Cx) : List ExceptHandler → List Cl → Prop
  | nil : HCl X [] []
  | plain {x : Str} {c : Value} {ts : Addr → Value → Option Addr → TS} {b₀ : Stmt} {bs : List Stmt} {q1 q2 : Pos} {hs : List ExceptHandler} {l : List Cl} (hn : Names X x c) (hb : Suite X (b₀ :: bs) ts) (r : HCl X hs l) :
      HCl X (.ExceptHandler (some (.Name x q1)) none (b₀ :: bs) q2 :: hs) (⟨c, none, ts⟩ :: l)
  | named {x n : Str} {c : Value} {i : Nat} {ts : Addr → Value → Option Addr → TS} {b₀ : Stmt} {bs : List Stmt} {q1 q2 : Pos} {hs : List ExceptHandler} {l : List Cl} (hn : Names X x c) (hN : X.N.Nodup) (hi : X.N[i]? = some n) (hl : X.env.kindOf n = some .local) (hb : Suite X (b₀ :: bs) ts) (r : HCl X hs l) :
      HCl X (.ExceptHandler (some (.Name x q1)) (some n) (b₀ :: bs) q2 :: hs) (⟨c, some i, ts⟩ :: l)
section
variable {X : Cx} {body : List Stmt} {h₀ : ExceptHandler} {hds : List ExceptHandler} {l : List Cl} {pos : Pos} {tb : WX → TS} {Wout : WX}
theorem ps_try_cl (hs : X.stack = X.env :: X.outer) (hf : X.env.frame = some X.env.locals) (tk : Takes X Wout)
    (hb : ∀ (W : WX) (pn : List (Addr × Obj)) (xe : Value → Shared → Prop), Takes (X.tr pn xe) W → PassesOwn (model X.prog X.w) X.A X.env xe → PSs (X.tr pn xe) body (tb W)) (hh : HCl X (h₀ :: hds) l) :
    PS X (.Try body (h₀ :: hds) [] [] pos) (fun D σ H => tb (wCl X.K Wout D l) D σ H) := by
  refine ⟨fun pins s σ H D I h => wpAny_Try_except ?_⟩
  have okX := I.ok
  have frX : X.A.frames = some (X.env :: X.outer) := okX.frames.trans (congrArg some hs)
  let caught : Value → Shared → Prop := fun e s₁ => wpAny (model X.prog X.w) X.A (noteFrame e X.env) (fun _ s₂ => wpAny (model X.prog X.w) X.A (setFlight e none) (fun _ s₃ => wpAny (model X.prog X.w) X.A (handleBy e X.env (h₀ :: hds)) (SP X pins D) X.xe s₃) X.xe s₂) X.xe s₁
  have takesC : Takes (X.tr (X.pn ++ pins) caught) (wCl X.K Wout D l) := by
    rintro u s' ⟨a, B, sI, pins', σ', H', cls, d, rfl, J', nb, up, sky, na, os, ag, wish⟩
    have J : Inv X pins σ' H' sI := J'.ofTry okX
    have skyX : Sky B (X.env :: X.outer) a (Zc cls d) X.env.locals s'.heap := hs ▸ sky
    show wpAny (model X.prog X.w) X.A (noteFrame (.ref a) X.env) (fun _ s₂ => wpAny (model X.prog X.w) X.A (setFlight (.ref a) none) (fun _ s₃ => wpAny (model X.prog X.w) X.A (handleBy (.ref a) X.env (h₀ :: hds)) (SP X pins D) X.xe s₃) X.xe s₂) X.xe s'
    refine Sky.land Zc.steady frX hf skyX fun g fl ug => ?_
    have Jg : Inv X pins σ' H' { s' with heap := g } := J.landed nb fl.1 (up.trans ug) os ag
    obtain ⟨oe, vs, heo, hz, hdt⟩ := fl.there
    have offF : a ∉ frs (X.env :: X.outer) := fun hm => by
      obtain ⟨_, o', e', hnf⟩ := fl.2.2.1.mem hm
      rw [heo] at e'; cases e'
      exact hnf _ hdt
    have offL : a ≠ X.env.locals := fun z => offF (List.mem_filterMap.mpr ⟨X.env, List.mem_cons_self, hf.trans (congrArg some z.symm)⟩)
    have offO : a ∉ X.fs := fun hm => by
      obtain ⟨e, he, q⟩ := List.mem_filterMap.mp hm
      exact offF (List.mem_filterMap.mpr ⟨e, List.mem_cons_of_mem _ he, q⟩)
    have Sg := Jg.suite heo hdt na offL offO
    have run : ∀ {hs' : List ExceptHandler} {l' : List Cl}, HCl X hs' l' → wCl X.K Wout D l' cls d σ' H' → wpAny (model X.prog X.w) X.A (handleBy (.ref a) X.env hs') (SP X pins D) X.xe { s' with heap := g } := by
      intro hs' l' hk
      induction hk with
      | nil =>
        intro wl
        refine wpAny_handleBy_nil ?_
        obtain ⟨k1, k2, k3, o1, v1, T, oT, t1, e1, z1, d1, f1, rest⟩ := id fl
        unfold PySem.passOn
        refine wpAny_bind (wpAny_field e1 d1 f1 ?_)
        rw [if_neg (show ¬ ((Value.ref T == Value.none) = true) from by simp)]
        have on : wpAny (model X.prog X.w) X.A (setFlight (.ref a) X.env.frame) (fun _ s4 => wpAny (model X.prog X.w) X.A (throw (.ref a) : Sem Flow) (SP X pins D) X.xe s4) X.xe { s' with heap := g } := by
          rw [hf]
          exact HandSPX.setFlight_upZ fl fun g4 hh4 u4 => wpAny_throw (tk _ _ ⟨a, B, sI, pins, σ', H', cls, d, rfl, J, nb, (up.trans ug).trans u4, .inr (.inr (hs ▸ hh4)), na, os, ag, wl⟩)
        first
          | exact wpAny_bind (wpAny_pure (wpAny_bind on))
          | exact wpAny_bind on
      | @plain x c ts b₀ bs q1 q2 hs2 l2 hn hsu r ih =>
        rintro ⟨b, hb1, hyes, hno⟩
        refine wpAny_handleBy_cons (codeAny_handlers_test ?_) (by intro q; cases q)
        have LT : PySem.W.Looks (model X.prog X.w) g (typeOf (.ref a)) cls := fun A Q E s k q => wpAny_typeOf_ref (k _ _ heo) (hz.1 ▸ q)
        have LM := PySem.W.exm_one (M := model X.prog X.w) Jg.kIn LT hb1
        have nameIs : ∀ {Q : Value → Shared → Prop} {E : Value → Shared → Prop}, Q c { s' with heap := g } → wpAny (model X.prog X.w) (X.A.mark (some (.ref a))) (eval (.Name x q1) X.env) Q E { s' with heap := g } := fun {Q E} q => by
          obtain ⟨hg, hdb, hm | ⟨hm, hv, hnn⟩⟩ := hn
          · exact ld_glob (X := X.suite a ((a, oe) :: (X.pn ++ pins))) Sg hg hm q hdb
          · exact ld_blt (X := X.suite a ((a, oe) :: (X.pn ++ pins))) Sg hg hm hv q hnn hdb
        refine nameIs (LM.here ?_)
        cases b with
        | false => exact (show wpAny _ X.A (handleBy (.ref a) X.env hs2) _ _ _ from ih (hno rfl))
        | true =>
          refine codeAny_handlers_suite (HandSPX.lands_againZ fl fun g4 fl4 u4 => ?_)
          have J4 : Inv X pins σ' H' { s' with heap := g4 } := J.landed nb fl4.1 ((up.trans ug).trans u4) os ag
          obtain ⟨o4, v4, e4, z4, d4⟩ := fl4.there
          refine wpAny_mono ((hsu a o4 cls d (X.pn ++ pins) z4 ⟨_, d4⟩).run [] _ _ H' _ (J4.suite e4 d4 na offL offO) (hyes rfl a na)) (fun f s6 hsp => ?_) fun _ _ z => False.elim z
          cases f with
          | next => obtain ⟨σ6, H6, S6, q6⟩ := hsp; exact ⟨_, _, S6.unsuite okX, q6⟩
          | brk => obtain ⟨σ6, H6, S6, q6⟩ := hsp; exact ⟨_, _, S6.unsuite okX, q6⟩
          | cont => obtain ⟨σ6, H6, S6, q6⟩ := hsp; exact ⟨_, _, S6.unsuite okX, q6⟩
          | ret u => obtain ⟨v6, σ6, H6, S6, r6, q6⟩ := hsp; exact ⟨_, _, _, S6.unsuite okX, r6, q6⟩
      | @named x n c i ts b₀ bs q1 q2 hs2 l2 hn hN hi hln hsu r ih =>
        rintro ⟨b, hb1, hyes, hno⟩
        refine wpAny_handleBy_cons (codeAny_handlers_test ?_) (by intro q; cases q)
        have LT : PySem.W.Looks (model X.prog X.w) g (typeOf (.ref a)) cls := fun A Q E s k q => wpAny_typeOf_ref (k _ _ heo) (hz.1 ▸ q)
        have LM := PySem.W.exm_one (M := model X.prog X.w) Jg.kIn LT hb1
        have nameIs : ∀ {Q : Value → Shared → Prop} {E : Value → Shared → Prop}, Q c { s' with heap := g } → wpAny (model X.prog X.w) (X.A.mark (some (.ref a))) (eval (.Name x q1) X.env) Q E { s' with heap := g } := fun {Q E} q => by
          obtain ⟨hg, hdb, hm | ⟨hm, hv, hnn⟩⟩ := hn
          · exact ld_glob (X := X.suite a ((a, oe) :: (X.pn ++ pins))) Sg hg hm q hdb
          · exact ld_blt (X := X.suite a ((a, oe) :: (X.pn ++ pins))) Sg hg hm hv q hnn hdb
        refine nameIs (LM.here ?_)
        cases b with
        | false => exact (show wpAny _ X.A (handleBy (.ref a) X.env hs2) _ _ _ from ih (hno rfl))
        | true =>
          refine codeAny_handlers_suite_as (HandSPX.lands_againZ fl fun g4 fl4 u4 => ?_)
          have J4 : Inv X pins σ' H' { s' with heap := g4 } := J.landed nb fl4.1 ((up.trans ug).trans u4) os ag
          obtain ⟨o4, v4, e4, z4, d4⟩ := fl4.there
          refine store_ok (X := X.suite a ((a, o4) :: (X.pn ++ pins))) (v := .ref a) (J4.suite e4 d4 na offL offO) hN hi (.inl hln) rfl (fun s5 S5 => ?_) (.inr hln)
          refine wpAny_mono ((hsu a o4 cls d (X.pn ++ pins) z4 ⟨_, d4⟩).run [] s5 _ H' _ S5 (hyes rfl a na)) (fun f s6 hsp => ?_) fun _ _ z => False.elim z
          have goes : ∀ {σ6 : L2.St} {H6 : Hp} {Q : Shared → Prop}, Inv (X.suite a ((a, o4) :: (X.pn ++ pins))) [] σ6 H6 s6 → (∀ s7, Inv X pins (σ6.set i none) H6 s7 → Q s7) →
              wpAny (model X.prog X.w) X.A (do bindName X.env n .none; unbindBehindTheSuite X.env n q2) (fun _ s7 => Q s7) X.xe s6 := fun {σ6 H6 Q} S6 hq => gone_ok (S6.unsuite okX) hN hi hln hq
          cases f with
          | next => obtain ⟨σ6, H6, S6, q6⟩ := hsp; exact goes S6 fun s7 J7 => ⟨_, _, J7, q6⟩
          | brk => obtain ⟨σ6, H6, S6, q6⟩ := hsp; exact goes S6 fun s7 J7 => ⟨_, _, J7, q6⟩
          | cont => obtain ⟨σ6, H6, S6, q6⟩ := hsp; exact goes S6 fun s7 J7 => ⟨_, _, J7, q6⟩
          | ret u => obtain ⟨v6, σ6, H6, S6, r6, q6⟩ := hsp; exact goes S6 fun s7 J7 => ⟨_, _, _, J7, r6, q6⟩
    exact run hh wish
  refine wpAny_mono ((hb (wCl X.K Wout D l) (X.pn ++ pins) caught takesC PassesOwn.looking).run [] s σ H D (I.toTry _) h) (fun f s1 hsp => ?_) fun e s1 he => he
  cases f with
  | next => obtain ⟨σ', H', J', q⟩ := hsp; exact wpAny_execs_nil ⟨σ', H', J'.ofTry okX, q⟩
  | brk => obtain ⟨σ', H', J', q⟩ := hsp; exact ⟨σ', H', J'.ofTry okX, q⟩
  | cont => obtain ⟨σ', H', J', q⟩ := hsp; exact ⟨σ', H', J'.ofTry okX, q⟩
  | ret u => obtain ⟨v, σ', H', J', r, q⟩ := hsp; exact ⟨v, σ', H', J'.ofTry okX, r, q⟩
end
end MP

set_option maxRecDepth 100000
set_option maxHeartbeats 1000000
/-! MX5: try, by the interpreter's outcomes. -/
namespace MP
open PySem PySem.Spec PyProof.Rows L2

/-- a clause: which classes it takes; what its suite does -/
inductive HD where
  /-- its suite does not look at the exception -/
  | any (cs : Nat → Bool) (s : Env → St → SO)
  /-- its suite looks at the fields of the class c0; the name's slot -/
  | fld (cs : Nat → Bool) (c0 i : Nat) (f : List D → St → SO)
  /-- nothing is told of its suite -/
  | no (cs : Nat → Bool)
def SO.unname (i : Nat) : SO → SO
  | .nx ρ st => .nx (ρ.set i none) st
  | .brk ρ st => .brk (ρ.set i none) st
  | .cont ρ st => .cont (ρ.set i none) st
  | .exc _ _ _ => .bad
  | x => x
def SO.noX : SO → SO
  | .exc _ _ _ => .bad
  | x => x
def pick (n c : Nat) (ds : List D) (st : St) : List HD → SO
  | [] => .exc c ds st
  | .any cs s :: r => if cs c = true then (s (List.replicate n none) st).noX else pick n c ds st r
  | .fld cs c0 i f :: r => if cs c = true then (if c = c0 then (f ds st).unname i else .bad) else pick n c ds st r
  | .no cs :: r => if cs c = true then .bad else pick n c ds st r
def gTry (n nc : Nat) (body : Env → St → SO) (hs : List HD) : Env → St → SO := fun ρ st => match body ρ st with
  | .exc c ds st1 => if c < nc then pick n c ds st1 hs else .bad
  | x => x

theorem PSs.bad {X : Cx} {b : List Stmt} : PSs X b (fun _ _ _ => False) := ⟨fun _ _ _ _ _ _ h => h.elim⟩
theorem PSs.pre {X : Cx} {b : List Stmt} {t : TS} {p : Prop} (h : p → PSs X b t) : PSs X b (fun D σ H => p ∧ t D σ H) := ⟨fun pins s σ H D I q => (h q.1).run pins s σ H D I q.2⟩

section
variable {S : Se} {X : Cx}
/-- the exception of the class c0 stands at a, its dict at d -/
def envX (n i a d : Nat) (ns : List Str) (ds : List D) : Env := (List.replicate n none).set i (some (.xo a d ns ds))
/-- the clauses of the text, as told -/
inductive HdR (S : Se) (X : Cx) (nc : Nat) : List ExceptHandler → List HD → Prop
  | nil : HdR S X nc [] []
  | any {x : Str} {cv : Value} {cs : Nat → Bool} {s : Env → St → SO} {b₀ : Stmt} {bs : List Stmt} {q1 q2 : Pos} {hs : List ExceptHandler} {l : List HD} (hn : Names X x cv) (hc : ∀ c, c < nc → PySem.W.exmOne X.K (.ref (S.g.at_ c)) cv = some (cs c))
      (hb : ∀ (a : Addr) (oe : Obj) (pn : List (Addr × Obj)), PSs (X.suite a ((a, oe) :: pn)) (b₀ :: bs) (TSof S (X.suite a ((a, oe) :: pn)) (fun _ _ _ _ => False) s)) (r : HdR S X nc hs l) : HdR S X nc (.ExceptHandler (some (.Name x q1)) none (b₀ :: bs) q2 :: hs) (.any cs s :: l)
  | fld {x n : Str} {cv : Value} {cs : Nat → Bool} {c0 i : Nat} {f : List D → St → SO} {s : Addr → Addr → Env → St → SO} {b₀ : Stmt} {bs : List Stmt} {q1 q2 : Pos} {hs : List ExceptHandler} {l : List HD} (hn : Names X x cv) (hc : ∀ c, c < nc → PySem.W.exmOne X.K (.ref (S.g.at_ c)) cv = some (cs c))
      (hN : X.N.Nodup) (hi : X.N[i]? = some n) (hl : X.env.kindOf n = some .local) (hf : S.g.fs c0 ≠ [])
      (hb : ∀ (a d : Addr) (oe : Obj) (pn : List (Addr × Obj)), Zc (.ref (S.g.at_ c0)) (some d) oe → (∃ vs, oe.data = .fields vs) → PSs (X.suite a ((a, oe) :: pn)) (b₀ :: bs) (TSof S (X.suite a ((a, oe) :: pn)) (fun _ _ _ _ => False) (s a d)))
      (he : ∀ (a d : Addr) (ds : List D) (st : St), ds.length = (S.g.fs c0).length → s a d (envX X.N.length i a d (S.g.fs c0) ds) st = f ds st) (r : HdR S X nc hs l) : HdR S X nc (.ExceptHandler (some (.Name x q1)) (some n) (b₀ :: bs) q2 :: hs) (.fld cs c0 i f :: l)
  | noA {x n : Str} {cv : Value} {cs : Nat → Bool} {i : Nat} {b₀ : Stmt} {bs : List Stmt} {q1 q2 : Pos} {hs : List ExceptHandler} {l : List HD} (hn : Names X x cv) (hc : ∀ c, c < nc → PySem.W.exmOne X.K (.ref (S.g.at_ c)) cv = some (cs c))
      (hN : X.N.Nodup) (hi : X.N[i]? = some n) (hl : X.env.kindOf n = some .local) (r : HdR S X nc hs l) : HdR S X nc (.ExceptHandler (some (.Name x q1)) (some n) (b₀ :: bs) q2 :: hs) (.no cs :: l)
/-- an exception's dict is known from now on -/
theorem Rel.tellX {K : PySem.W.Frag} {T : NTabs} {m : List Addr} {F H : Hp} {st : St} (r : Rel K T m F st H) {a : Addr} {fs : List (Str × V)} (ha : a ∉ m) (hF : F a = none) (hH : H a = some (.xd fs)) :
    Mono m F m (upd F a (.xd fs)) ∧ Rel K T m (upd F a (.xd fs)) st H ∧ Step m F H m (upd F a (.xd fs)) H := by
  have M : Mono m F m (upd F a (.xd fs)) := ⟨same_upd hF _, fun _ _ h => h⟩
  refine ⟨M, ⟨fun b u e => ?_, fun b u e => ?_, r.len, r.nd, fun b hb => ?_, fun i u b h1 h2 => (r.obj i u b h1 h2).mono M, r.low, r.tabs⟩, ⟨M, fun _ _ h _ _ => h, fun _ h => .inl h, fun b o e => ?_⟩⟩
  · by_cases hb : b = a
    · subst hb; rw [upd_same] at e; cases e; exact hH
    · rw [upd_ne hb] at e; exact r.sub b u e
  · by_cases hb : b = a
    · subst hb; rw [upd_same] at e; cases e; exact fun ps z => by cases z
    · rw [upd_ne hb] at e; exact r.ntb b u e
  · have : b ≠ a := fun z => ha (z ▸ hb)
    rw [upd_ne this]; exact r.sep b hb
  · by_cases hb : b = a
    · subst hb; rw [upd_same] at e; cases e; exact .inr (.inr ⟨hH, fun xs z => by cases z⟩)
    · rw [upd_ne hb] at e; exact .inl e
theorem EnvR.none {K : PySem.W.Frag} {m : List Addr} {F : Hp} {σ : L2.St} : EnvR K m F σ (List.replicate σ.length Option.none) := by
  refine ⟨by rw [List.length_replicate], fun i d h => ?_⟩
  rw [List.getElem?_replicate] at h
  split at h <;> cases h
theorem EnvR.unset {K : PySem.W.Frag} {m : List Addr} {F : Hp} {σ : L2.St} {ρ : Env} (E : EnvR K m F σ ρ) (i : Nat) : EnvR K m F (σ.set i Option.none) (ρ.set i Option.none) := by
  refine ⟨by rw [List.length_set, List.length_set]; exact E.len, fun j e h => ?_⟩
  by_cases hij : i = j
  · subst hij
    by_cases hl : i < ρ.length
    · rw [List.getElem?_set_self hl] at h; cases h
    · rw [List.getElem?_eq_none (by rw [List.length_set]; omega)] at h; cases h
  · rw [List.getElem?_set_ne hij] at h ⊢
    exact E.get j e h
theorem spost_noX {W W' : WX} {n : Nat} {D : Ends} {m : List Addr} {F H : Hp} {o : SO} (h : SPost S X W n D m F H o.noX) : SPost S X W' n D m F H o := by
  cases o with
  | exc c fs st => exact h.elim
  | nx ρ st => exact h
  | ret d st => exact h
  | brk ρ st => exact h
  | cont ρ st => exact h
  | bad => exact h
theorem spost_unname {W W' : WX} {n i : Nat} {D : Ends} {m : List Addr} {F H : Hp} {o : SO} (h : SPost S X W n D m F H (o.unname i)) : SPost S X W' n (noName D i) m F H o := by
  cases o with
  | exc c fs st => exact h.elim
  | nx ρ st => exact fun σ' m' F' H' hn s r E => h (σ'.set i Option.none) m' F' H' (by rw [List.length_set]; exact hn) s r (E.unset i)
  | ret d st => exact h
  | brk ρ st => exact fun σ' m' F' H' hn s r E => h (σ'.set i Option.none) m' F' H' (by rw [List.length_set]; exact hn) s r (E.unset i)
  | cont ρ st => exact fun σ' m' F' H' hn s r E => h (σ'.set i Option.none) m' F' H' (by rw [List.length_set]; exact hn) s r (E.unset i)
  | bad => exact h
/-- the clauses' readings -/
theorem hd_cl {nc : Nat} {hs : List ExceptHandler} {l : List HD} (h : HdR S X nc hs l) : ∃ cl : List Cl, HCl X hs cl ∧ ∀ (W : WX) (D : Ends) (c : Nat) (ds : List MP.D) (m : List Addr) (F H : Hp) (st : St) (σ : L2.St) (cls : Value) (dx : Option Addr), c < nc → σ.length = X.N.length → Rel X.K S.T m F st H → XR S.g X.K m F c ds cls dx H →
    SPost S X W σ.length D m F H (pick X.N.length c ds st l) → wCl X.K W D cl cls dx σ H := by
  induction h with
  | nil => exact ⟨[], .nil, fun W D c ds m F H st σ cls dx hc hl r x h => h σ m F H (Step.refl _ _ _) r rfl cls dx x⟩
  | @any x cv cs s b₀ bs q1 q2 hs l hn hcs hb hr ih =>
    obtain ⟨cl, h1, h2⟩ := ih
    refine ⟨⟨cv, none, fun a cls d => TSof S X (fun _ _ _ _ => False) s⟩ :: cl, .plain hn (fun a oe cls d pn _ _ => hb a oe pn) h1, fun W D c ds m F H st σ cls dx hc hl r xr h => ?_⟩
    refine ⟨cs c, by rw [xr.1]; exact hcs c hc, fun e a na => ?_, fun e => ?_⟩
    · unfold pick at h
      rw [if_pos e] at h
      exact ⟨_, m, F, st, EnvR.none, r, spost_noX (by rw [hl] at h ⊢; exact h)⟩
    · unfold pick at h
      rw [if_neg (by rw [e]; simp)] at h
      exact h2 W D c ds m F H st σ cls dx hc hl r xr h
  | @fld x n cv cs c0 i f s b₀ bs q1 q2 hs l hn hcs hN hi hln hf hb he hr ih =>
    obtain ⟨cl, h1, h2⟩ := ih
    refine ⟨⟨cv, some i, fun a cls d D σ H => ∃ dd, (cls = .ref (S.g.at_ c0) ∧ d = some dd) ∧ TSof S X (fun _ _ _ _ => False) (s a dd) D σ H⟩ :: cl, .named hn hN hi hln (fun a oe cls d pn hz hv => ?_) h1, fun W D c ds m F H st σ cls dx hc hl r xr h => ?_⟩
    · refine ⟨fun pins s' σ H D I ⟨dd, ⟨e1, e2⟩, q⟩ => ?_⟩
      subst e1; subst e2
      exact (hb a dd oe pn hz hv).run pins s' σ H D I q
    · refine ⟨cs c, by rw [xr.1]; exact hcs c hc, fun e a na => ?_, fun e => ?_⟩
      · unfold pick at h
        rw [if_pos e] at h
        split at h
        · rename_i ec
          subst ec
          obtain ⟨x1, x2⟩ := xr
          rcases x2 with ⟨z, _⟩ | ⟨dd, fs, d1, d2, d3, d4, d5, vs, d6, d7⟩
          · exact absurd z hf
          · obtain ⟨M, r2, s2⟩ := r.tellX d3 d4 d2
            refine ⟨dd, ⟨x1, d1⟩, envX X.N.length i a dd (S.g.fs c) ds, m, _, st, ?_, r2, ?_⟩
            · unfold envX
              rw [← hl]
              exact EnvR.none.set (.xo upd_same d7 (d6.mono M)) i
            · rw [he a dd ds st d5.symm]
              have h3 := SPost.later (K := X.K) s2 r2 h
              rw [List.length_set]
              exact spost_unname h3
        · exact h.elim
      · unfold pick at h
        rw [if_neg (by rw [e]; simp)] at h
        exact h2 W D c ds m F H st σ cls dx hc hl r xr h
  | @noA x n cv cs i b₀ bs q1 q2 hs l hn hcs hN hi hln hr ih =>
    obtain ⟨cl, h1, h2⟩ := ih
    refine ⟨⟨cv, some i, fun _ _ _ _ _ _ => False⟩ :: cl, .named hn hN hi hln (fun a oe cls d pn hz hv => PSs.bad) h1, fun W D c ds m F H st σ cls dx hc hl r xr h => ?_⟩
    refine ⟨cs c, by rw [xr.1]; exact hcs c hc, fun e a na => ?_, fun e => ?_⟩
    · unfold pick at h
      rw [if_pos e] at h
      exact h
    · unfold pick at h
      rw [if_neg (by rw [e]; simp)] at h
      exact h2 W D c ds m F H st σ cls dx hc hl r xr h
end
section
variable {S : Se} {X : Cx} {W : WX}
theorem s_try {nc : Nat} {body : List Stmt} {h₀ : ExceptHandler} {hds : List ExceptHandler} {l : List HD} {pos : Pos} {f : Env → St → SO} (hs : X.stack = X.env :: X.outer) (hf : X.env.frame = some X.env.locals) (tk : Takes X W)
    (hb : ∀ (W' : WX) (pn : List (Addr × Obj)) (xe : Value → Shared → Prop), Takes (X.tr pn xe) W' → PassesOwn (model X.prog X.w) X.A X.env xe → PSs (X.tr pn xe) body (TSof S (X.tr pn xe) W' f)) (hh : HdR S X nc (h₀ :: hds) l) :
    PS X (.Try body (h₀ :: hds) [] [] pos) (TSof S X W (gTry X.N.length nc f l)) := by
  obtain ⟨cl, h1, h2⟩ := hd_cl hh
  refine ⟨fun pins s σ H D I q => ?_⟩
  have hlen := I.len
  refine (ps_try_cl (pos := pos) (tb := fun W' => TSof S X W' f) hs hf tk hb h1).run pins s σ H D I ?_
  obtain ⟨ρ, m, F, st, E, r, h⟩ := q
  refine ⟨ρ, m, F, st, E, r, ?_⟩
  unfold gTry at h
  cases e : f ρ st with
  | exc c ds st1 =>
    rw [e] at h
    have h : SPost S X W σ.length D m F H (if c < nc then pick X.N.length c ds st1 l else .bad) := h
    split at h
    · rename_i hc
      intro σ' m' F' H' s' r' hl' cls dx xr
      refine h2 W D c ds m' F' H' st1 σ' cls dx hc (hl'.trans hlen) r' xr ?_
      rw [hl']
      exact SPost.later (K := X.K) s' r' h
    · exact h.elim
  | nx ρ' st' => rw [e] at h; exact h
  | ret d st' => rw [e] at h; exact h
  | brk ρ' st' => rw [e] at h; exact h
  | cont ρ' st' => rw [e] at h; exact h
  | bad => rw [e] at h; exact h

/-! ### err.f in a suite -/
def fXf (i : Nat) (a d : Addr) (f : Str) : Env → St → Out D := fun ρ st => match ρ[i]? with
  | some (some (.xo a' d' ns ds)) => if a' = a ∧ d' = d then (match ns.idxOf? f with
      | some j => (match ds[j]? with
        | some x => .ok x st
        | none => .bad)
      | none => .bad) else .bad
  | _ => .bad
theorem idxOf_get {α : Type} [BEq α] [LawfulBEq α] {x : α} : ∀ {l : List α} {j : Nat}, l.idxOf? x = some j → l[j]? = some x
  | [], j, h => by cases h
  | y :: l, j, h => by
    rw [List.idxOf?_cons] at h
    split at h
    · rename_i e
      cases h
      rw [beq_iff_eq.mp e]; rfl
    · cases q : l.idxOf? x with
      | none => rw [q] at h; cases h
      | some k =>
        rw [q] at h; cases h
        show l[k]? = some x
        exact idxOf_get q
theorem s_xf {i : Nat} {a d C : Addr} {oe : Obj} {pn : List (Addr × Obj)} {x f : Str} {pos p : Pos} (T : XfC X.K C) (hno : PySem.W.findIn X.K (.ref C) f = some none) (hz : Zc (.ref C) (some d) oe) (hf : ∃ vs, oe.data = .fields vs)
    (hN : X.N[i]? = some x) (hv : Vis X.env.scope x) (hd : (x == ("__debug__" : Str)) = false) (hcd : (x == ("__classdict__" : Str)) = false) (hb : attributeBase (.Name x p) f X.env (eval (.Name x p) X.env) = eval (.Name x p) X.env) :
    PE (X.suite a ((a, oe) :: pn)) (.Attribute (.Name x p) f pos) (TEof S (X.suite a ((a, oe) :: pn)) W (fXf i a d f)) := by
  refine (pe_xf (te := tVar i) T hno hz hf (pe_var hN hv hd hcd) hb).weak fun σ H Q ⟨ρ, m, F, st, E, r, h⟩ => ?_
  unfold fXf at h
  split at h
  · rename_i a' d' ns ds e
    obtain ⟨v, hs, rv⟩ := E.get i _ e
    split at h
    · rename_i ead
      obtain ⟨rfl, rfl⟩ := ead
      split at h
      · rename_i j ej
        split at h
        · rename_i y ey
          cases rv with
          | xo hF hl rs =>
            obtain ⟨w, hw, rw'⟩ := rs.get ey
            exact ⟨_, hs, rfl, rfl, _, _, w, rfl, r.sub _ _ hF, hl j f w (idxOf_get ej) hw, h.now r w rw'⟩
        · exact h.elim
      · exact h.elim
    · exact h.elim
  · exact h.elim
end
end MP

set_option maxRecDepth 100000
set_option maxHeartbeats 1000000
/-! MX6: f(lambda: ..), f the def that hears what comes of it. -/
namespace MP
open PySem PySem.Spec PyProof.Rows L2 LamX

theorem Rel.extN {K : PySem.W.Frag} {T : NTabs} {m : List Addr} {F H H1 : Hp} {st : St} (r : Rel K T m F st H) (e : ExtN H H1) (t : Tabs T H1) : Rel K T m F st H1 := by
  refine ⟨fun b o h => e b o (r.sub b o h) (r.ntb b o h), r.ntb, r.len, r.nd, r.sep, fun i o a h1 h2 => ?_, r.low, t⟩
  have z := r.obj i o a h1 h2
  generalize hh : H a = ha at z
  cases z with
  | lst rs =>
    rw [e a _ hh fun ps z => by cases z]
    exact .lst rs
theorem Step.extN {m : List Addr} {F H H1 : Hp} (e : ExtN H H1) : Step m F H m F H1 := ⟨Mono.refl m F, fun b o h _ n => e b o h n, fun _ h => .inl h, fun _ _ h => .inl h⟩

def heardB (n nc : Nat) (told : List Nat) (l : List HD) (o : Out D) : Out D := match o with
  | .ok d st => .ok (.tup [.str told, d]) st
  | .exc c ds st => if c < nc then (match pick n c ds st l with
    | .ret d st2 => .ok d st2
    | .nx _ st2 => .ok .non st2
    | _ => .bad) else .bad
  | .bad => .bad
def fHeard (n nc : Nat) (told : List Nat) (l : List HD) (fb : Env → St → Out D) : Env → St → Out D := fun ρ st => heardB n nc told l (fb ρ st)
section
variable {S : Se} {X : Cx} {W : WX}
/-- what is wished of an exception of the lambda -/
def EH (S : Se) (X : Cx) (n nc : Nat) (l : List HD) (Q : VK) : XK := fun cls d H' => ∃ (c : Nat) (ds : List D) (m : List Addr) (F : Hp) (st : St), c < nc ∧ Rel X.K S.T m F st H' ∧ XR S.g X.K m F c ds cls d H' ∧
  SPost S X (fun _ _ _ _ => False) n { nx := fun _ H' => Q .non H', rt := Q } m F H' (pick n c ds st l)
def QH (told : Str) (Q : VK) : VK := fun v H1 => [V.str told, v].length ≤ sizeLine ∧ ∀ p, H1 p = none → Q (.ref p) (upd H1 p (.tup [.str told, v]))
def TTH (S : Se) (X : Cx) (n nc : Nat) (told : Str) (l : List HD) : (XK → Hp → VK → Prop) → Hp → VK → Prop := fun tl H Q => tl (EH S X n nc l Q) H (QH told Q)
theorem heard_gives {Ng : List Str} {x a q told : Str} {sg : Scope} {g : Addr} {cdg : Value} {j nc : Nat} {p1 p2 p3 p4 p5 p6 : Pos} {x1 : Nat} {h₀ : ExceptHandler} {hds : List ExceptHandler} {l : List HD} (h0 : ∀ f : Addr, (L2.start Ng [V.ref f])[0]? = some (some (V.ref f)))
    (hh : ∀ (s : Shared) (H : Hp), HdR S (cxOf C8.CX0 X.prog X.w X.K X.mg X.base Ng x sg g cdg X.A X.stack s H C8.E0).nox nc (h₀ :: hds) l) :
    GivesTo X Ng x sg g cdg [.Try [.Return (some (.Tuple [.Constant (.str told) j p1, .Call (.Name a p2) [] [] p3] x1 p4)) p5] (h₀ :: hds) [] [] p6] a q (TTH S X Ng.length nc told l) := by
  intro f c' s H Q tl act hc h
  obtain ⟨cl, h1, h2⟩ := hd_cl (hh s H)
  refine ⟨_, pss_one (ps_try_cl (X := (cxOf C8.CX0 X.prog X.w X.K X.mg X.base Ng x sg g cdg X.A X.stack s H C8.E0).nox)
    (tb := fun W D σ H => ∃ Ech : XK, (∀ cls d σ' H', σ'.length = Ng.length → Ech cls d H' → W cls d σ' H') ∧ σ[0]? = some (some (.ref f)) ∧ H c' = some (CodeO c' q) ∧ tl Ech H (QH told D.rt)) rfl rfl LamX.takes0 (fun W pn xe tk _ => ?_) h1), ?_⟩
  · refine ⟨fun pins s' σ H' D I h' => ?_⟩
    obtain ⟨Ech, hW, e1, e2, e3⟩ := h'
    have tk' : Takes ((cxOf C8.CX0 X.prog X.w X.K X.mg X.base Ng x sg g cdg X.A X.stack s H C8.E0).nox.tr pn xe) (fun cls d σ H => σ.length = Ng.length → W cls d σ H) := fun u s' ⟨a, B, sI, pins, σ, H, cls, d, e, I, nb, up, sky, na, os, ag, w⟩ =>
      tk u s' ⟨a, B, sI, pins, σ, H, cls, d, e, I, nb, up, sky, na, os, ag, w I.len⟩
    have hp := act (fun cls d σ H => σ.length = Ng.length → W cls d σ H) pn xe Ech p2 p3 tk' fun cls d σ' H' z hl => hW _ _ _ _ hl z
    have hq := pss_one (ps_ret (pos := p5) (pe_tup (pos := p4) (x1 := x1) (pa_cons (pe_str (x := told) (j := j) (pos := p1)) (pa_cons hp pa_nil))))
    exact hq.run pins s' σ H' D I ⟨e1, e2, e3⟩
  · exact ⟨EH S X Ng.length nc l Q, fun cls d σ' H' hl ⟨c, ds, m, F, st, hc, r, xr, hp⟩ => h2 _ _ c ds m F H' st σ' cls d hc hl r xr (by rw [hl]; exact hp), h0 f, hc, h⟩
theorem heard_in {n nc : Nat} {told : Str} {l : List HD} {fb : Env → St → Out D} {σ : L2.St} {H : Hp} {Q : VK} (h : TEof S X W (fHeard n nc told.cps.toList l fb) σ H Q) (hs : sizeLine ≥ 2) : tLam S.T (TTH S X n nc told l) (fun E => TEof S X (WE0 E) fb) σ H Q := by
  obtain ⟨ρ, m, F, st, E, r, h⟩ := h
  refine ⟨r.tabs, fun H1 eN t1 => ⟨ρ, m, F, st, E, r.extN eN t1, ?_⟩⟩
  have s1 : Step m F H m F H1 := Step.extN eN
  unfold fHeard at h
  cases e : fb ρ st with
  | ok d st1 =>
    rw [e] at h
    intro m' F' H' s' r' v rv
    refine ⟨hs, fun p hp => ?_⟩
    obtain ⟨s2, r2⟩ := r'.frz (o := .tup [.str told, v]) hp fun ps z => by cases z
    refine h m' _ _ ((s1.trans (r.extN eN t1) s').trans r' s2) r2 (.ref p) (.tup (.inl (.inl upd_same)) (.cons ?_ (.cons (rv.mono s2.mono) .nil)))
    exact .str told.cps.toList
  | exc c ds st1 =>
    rw [e] at h
    intro m' F' H' s' r' cls dx xr
    have h : Post X.K S.T m F H _ _ (if c < nc then (match pick n c ds st1 l with
      | .ret d st2 => .ok d st2
      | .nx _ st2 => .ok .non st2
      | _ => .bad) else .bad) := h
    split at h
    · rename_i hc
      refine ⟨c, ds, m', F', st1, hc, r', xr, ?_⟩
      have s2 := s1.trans (r.extN eN t1) s'
      cases e2 : pick n c ds st1 l with
      | ret d st2 => rw [e2] at h; exact fun v m2 F2 H2 s3 r3 rv => h m2 F2 H2 (s2.trans r' s3) r3 v rv
      | nx ρ2 st2 => rw [e2] at h; exact fun σ2 m2 F2 H2 _ s3 r3 _ => h m2 F2 H2 (s2.trans r' s3) r3 .non .non
      | exc c2 ds2 st2 => rw [e2] at h; exact h.elim
      | brk ρ2 st2 => rw [e2] at h; exact h.elim
      | cont ρ2 st2 => rw [e2] at h; exact h.elim
      | bad => rw [e2] at h; exact h.elim
    · exact h.elim
  | bad => rw [e] at h; exact h.elim
theorem s_heard {tl : List Nat} {x a told : Str} (htl : told.cps.toList = tl) {g c P : Addr} {k nc : Nat} {pg : Arguments} {h₀ : ExceptHandler} {hds : List ExceptHandler} {l : List HD} {sg : Scope} {dV kV doc pm cdv ct oc : Value} {an od : Option Addr} {osl : Array (Option Value)} {Ng : List Str} {j x1 : Nat} {q1 q2 q3 q4 q5 q6 : Pos}
    {params : Arguments} {body : Expr} {scope : Scope} {fb : Env → St → Out D} {p lpos pos : Pos} (hg : Gl X x) (hm : X.mg x = some (.ref g)) (hk : PySem.W.keepIn X.K (.ref g) = true)
    (lk : X.K.lookup g = some ⟨oc, od, .func (PySem.W.fnOf x x pg [.Try [.Return (some (.Tuple [.Constant (.str told) j q1, .Call (.Name a q2) [] [] q3] x1 q4)) q5] (h₀ :: hds) [] [] q6] sg dV kV doc pm an cdv ct), osl⟩) (hcg : PySem.W.codeIn X.K cdv x = true)
    (hb : L2.Binds X.K (PySem.W.fnOf x x pg [.Try [.Return (some (.Tuple [.Constant (.str told) j q1, .Call (.Name a q2) [] [] q3] x1 q4)) q5] (h₀ :: hds) [] [] q6] sg dV kV doc pm an cdv ct) [a] []) (Sg : FnScope Ng [a] sg) (hNg : Ng[0]? = some a) (hva : Vis sg a)
    (h0 : ∀ f : Addr, (L2.start Ng [V.ref f])[0]? = some (some (V.ref f))) (hh : ∀ (s : Shared) (H : Hp), HdR S (cxOf C8.CX0 X.prog X.w X.K X.mg X.base Ng x sg g cdv X.A X.stack s H C8.E0).nox nc (h₀ :: hds) l)
    (TB : TabB X.base X.mg c P) (hcode : X.env.code = .ref c) (hmT : (P, X.env.qual ++ "<lambda>") ∈ S.T) (hu : ∀ p ∈ S.T, p.1 = P → p.2 = X.env.qual ++ "<lambda>") (hr : Room (k + 2) X.A) (L : LamS X.env.scope scope) (hdef : defaultsOf params X.env = ([], []))
    (hbind : ∀ (q : Str) (cl : List (Str × Addr)) (pm cv ctv : Value), bindArgs (PySem.W.kla_fn "<lambda>" q params body scope cl pm cv ctv) ⟨[], []⟩ = pure [])
    (hbody : ∀ (A : Around) (outer : List PySem.Env) (s : Shared) (H : Hp) (E : XK) (f c' : Addr), Room k (A.deeper (lamEnv X scope s.heap.objs.size f c')) → PE (lamCx X A outer s H E scope f c') body (TEof S (lamCx X A outer s H E scope f c') (WE0 E) fb))
    (hdb : (x == ("__debug__" : Str)) = false := by decide) (hd : (a == ("__debug__" : Str)) = false := by decide) (hcd : (a == ("__classdict__" : Str)) = false := by decide) :
    PE X (.Call (.Name x p) [.Lambda params body scope lpos] [] pos) (TEof S X W (fHeard Ng.length nc tl l fb)) := by
  subst htl
  have z := pe_lamcall (p := p) (lpos := lpos) (pos := pos) (T := S.T) (t := fun E => TEof S X (WE0 E) fb) hg hm hk lk hcg hb Sg hNg hva (heard_gives h0 hh) TB hcode hmT hu hr L hdef hbind hbody hdb hd hcd
  exact z.weak fun σ H Q h => heard_in h (by rw [sizeLine_eq]; decide)
end
end MP

set_option maxRecDepth 100000
set_option maxHeartbeats 1000000
/-! MX7: the end of a law: its def, told by the interpreter, answers yes at every script. -/
namespace MP
open PySem PySem.Spec PyProof.Rows L2 LamX

/-- the first store: nothing in it -/
def st0 : St := ⟨[], []⟩
theorem rs_ints {K : PySem.W.Frag} {m : List Addr} {F : Hp} : ∀ ns : List Int, Rs K m F (ns.map V.int) (ns.map D.int)
  | [] => .nil
  | n :: ns => .cons (.int n) (rs_ints ns)
section
variable {P : Program} {w : World} {K : PySem.W.Frag} {mg mb : Str → Option Value} {S : Se} {k : Nat} {fa a : Addr} {cs : List (Addr × Addr)} {fd : FuncData} {x : Str} {h : List D → St → Out D} {s₁ : Shared} {vs : List Value} {ns : List Int}
/-- the script's object, as the abstract heap may tell it -/
abbrev scr (vs : List Value) : Obj := { cls := .type "list", data := .seq vs.toArray }
abbrev hp0 (K : PySem.W.Frag) (a : Addr) (cs : List (Addr × Addr)) (vs : List Value) (ns : List Int) : Hp := fun b => if b ∈ cs.map (·.2) then some (.tbl #[]) else if b = a ∧ K.lookup a = none then some (.frz (scr vs) (.lst (ns.map V.int))) else none
theorem lawG_call (KX : K.In s₁.heap) (hns : s₁.heap.Ns mainGlobals mg) (hb : s₁.heap.Ns builtinsNs mb) (hbb : ∀ x : Str, x ≠ "__name__" → mb x = bootBuiltins x) (hlim : s₁.heap.NoLimit) (hg : s₁.gens = #[])
    (hT : ∀ p ∈ cs, s₁.heap.get? p.2 = some { cls := .none, data := .fields #[] }) (nT : ∀ p ∈ cs, K.lookup p.2 = none) (C : ∀ p ∈ cs, PySem.W.CodeHd s₁.heap p.1 p.2)
    (hbm : ∃ (bm : Addr) (ob : Obj), mg "__builtins__" = some (.ref bm) ∧ bm ≠ builtinsNs ∧ s₁.heap.get? bm = some ob ∧ ob.cls = .type "module" ∧ ob.dict = some builtinsNs ∧ ob.data = .plain)
    (ha : s₁.heap.get? a = some (scr vs)) (hi : IntsAre vs ns) (hl : ns.length ≤ sizeLine) (hr : Room k callerA)
    (F : ∀ base : Heap, K.In base → base.Ns mainGlobals mg → (∀ p ∈ cs, TabB base mg p.1 p.2) → FnG P w K mg base true k fa fd [x] (spD S K 1 h)) (hbind : ∀ (s : Shared) (u : Value), BindsTo s fd ⟨[u], []⟩ [(x, u)])
    (hST : ∀ p ∈ S.T, ∃ q ∈ cs, q.2 = p.1) (hans : ∃ st, h [.lsk (ns.map D.int)] st0 = .ok (.bl true) st) :
    codeAny (model P w) callerA (.call (.ref fa) ⟨[.ref a], []⟩) (fun r s' => r = .ok (.ret (.bool true)) ∧ OldK s₁.heap s'.heap ∧ s'.os = s₁.os ∧ AllBare s'.gens) s₁ := by
  have rv := vals_ints hi
  have tabAt : ∀ {b : Addr}, b ∈ cs.map (·.2) → s₁.heap.get? b = some { cls := .none, data := .fields #[] } := fun {b} hb => by
    obtain ⟨p, hp, rfl⟩ := List.mem_map.mp hb
    exact hT p hp
  have inT : ∀ p ∈ cs, p.2 ∈ cs.map (·.2) := fun p hp => List.mem_map_of_mem hp
  have aT : a ∉ cs.map (·.2) := fun z => by
    have q := (tabAt z).symm.trans ha
    cases q
  obtain ⟨H, eH⟩ : ∃ H, H = hp0 K a cs vs ns := ⟨_, rfl⟩
  have Htab : ∀ {b : Addr}, b ∈ cs.map (·.2) → H b = some (.tbl #[]) := fun {b} hb => by rw [eH]; exact if_pos hb
  have Hother : ∀ {b : Addr}, b ∉ cs.map (·.2) → H b = none ∨ (b = a ∧ K.lookup a = none ∧ H b = some (.frz (scr vs) (.lst (ns.map V.int)))) := fun {b} hb => by
    rw [eH]
    by_cases hq : b = a ∧ K.lookup a = none
    · exact .inr ⟨hq.1, hq.2, (if_neg hb).trans (if_pos hq)⟩
    · exact .inl ((if_neg hb).trans (if_neg hq))
  have lenV : vs.length = ns.length := hi.length
  have hS : SqL K H a (ns.map V.int) := by
    cases hk : K.lookup a with
    | none => exact .inl (.inr ⟨scr vs, by rw [eH]; exact (if_neg aT).trans (if_pos ⟨rfl, hk⟩)⟩)
    | some o =>
      have e := (KX a o hk).symm.trans ha
      cases e
      exact .inr ⟨_, vs.toArray, _, hk, rfl, rfl, rfl, by rw [List.size_toArray, lenV]; exact hl, by simpa using rv⟩
  have hok : HOk P w H s₁.heap := fun b u z => by
    by_cases hb : b ∈ cs.map (·.2)
    · rw [Htab hb] at z; cases z
      exact tabAt hb
    · rcases Hother hb with q | ⟨rfl, _, q⟩
      · rw [q] at z; cases z
      · rw [q] at z; cases z
        exact ⟨ha, by rw [List.length_map]; exact hl, vs, _, rv, ha⟩
  -- what is no list and no empty table is not tracked
  have free : ∀ {b : Addr} {o : Obj}, s₁.heap.get? b = some o → (∀ v n, o.data ≠ .seq v n) → o.data ≠ .fields #[] → H b = none := fun {b o} e h1 h2 => by
    by_cases hb : b ∈ cs.map (·.2)
    · rw [tabAt hb] at e; cases e
      exact absurd rfl h2
    · rcases Hother hb with q | ⟨rfl, _, _⟩
      · exact q
      · rw [ha] at e; cases e
        exact absurd rfl (h1 _ _)
  have keepNs : ∀ {b : Addr} {m : Str → Option Value}, s₁.heap.Ns b m → (hidT s₁.heap H).Ns b m := fun {b m} ⟨o, es, ep, e, d, r⟩ =>
    ⟨o, es, ep, hidT_get e (free e (fun v n z => by rw [d] at z; cases z) fun z => by rw [d] at z; cases z), d, r⟩
  have KB : K.In (hidT s₁.heap H) := fun b o e => hidT_get (KX b o e) (by
    by_cases hb : b ∈ cs.map (·.2)
    · obtain ⟨p, hp, rfl⟩ := List.mem_map.mp hb
      rw [nT p hp] at e; cases e
    · rcases Hother hb with q | ⟨rfl, hk, _⟩
      · exact q
      · rw [hk] at e; cases e)
  have TB : ∀ p ∈ cs, TabB (hidT s₁.heap H) mg p.1 p.2 := fun p hp => by
    refine ⟨?_, ?_, fun z => ?_⟩
    · obtain ⟨o, us, file, tf, flags, tg, inF, text, tt, e1, r1, r2, r3, rest⟩ := C p hp
      exact ⟨o, us, file, tf, flags, tg, inF, text, tt, hidT_get e1 (free e1 (fun v n z => by rw [r2] at z; cases z) fun z => by rw [r2] at z; cases z; simp at r3), r1, r2, r3, rest⟩
    · obtain ⟨bm, ob, b1, b2, b3, b4, b5, b6⟩ := hbm
      refine ⟨bm, ob, b1, b2, fun q => ?_, fun q => ?_, hidT_get b3 (free b3 (fun v n z => by rw [b6] at z; cases z) fun z => by rw [b6] at z; cases z), b4, b5, b6⟩
      · obtain ⟨o, es, ep, e, hd, _⟩ := hns
        rw [q, e] at b3; cases b3
        rw [hd] at b6; cases b6
      · rw [q, hT p hp] at b3; cases b3
        cases b6
    · obtain ⟨o, es, ep, e, hd, _⟩ := hns
      rw [z, hT p hp] at e; cases e
      cases hd
  have e0 : Env0 P w K mg (hidT s₁.heap H) callerA [] s₁ H := ⟨rfl, ⟨KB, keepNs hns, ⟨mb, keepNs hb, hbb⟩, let ⟨mc, h1, h2⟩ := hlim; ⟨mc, keepNs h1, h2⟩⟩, fun b o e => of_hidT e, Nat.le_of_eq (hidT_size _ _), trivial, fun b hb => (List.not_mem_nil hb).elim, hok, .of_eq hg⟩
  -- the interpreter's store: nothing yet; of the heap the script is known
  obtain ⟨F0, eF⟩ : ∃ F0 : Hp, F0 = fun b => if b ∈ cs.map (·.2) then none else H b := ⟨_, rfl⟩
  have F0o : ∀ b o, F0 b = some o → H b = some o ∧ b ∉ cs.map (·.2) := fun b o e => by
    rw [eF] at e
    have e : (if b ∈ cs.map (·.2) then none else H b) = some o := e
    by_cases hb : b ∈ cs.map (·.2)
    · rw [if_pos hb] at e; cases e
    · rw [if_neg hb] at e; exact ⟨e, hb⟩
  have rel : Rel K S.T [] F0 st0 H := by
    refine ⟨fun b o e => (F0o b o e).1, fun b o e ps z => ?_, rfl, List.nodup_nil, fun _ h => (List.not_mem_nil h).elim, fun i o a h => by simp [st0] at h, fun p h => (List.not_mem_nil h).elim, fun p hp => ?_⟩
    · obtain ⟨e1, e2⟩ := F0o b o e
      rcases Hother e2 with q | ⟨_, _, q⟩
      · rw [q] at e1; cases e1
      · rw [q] at e1; cases e1; cases z
    · obtain ⟨q, hq, eq⟩ := hST p hp
      rw [← eq]
      exact TabS.nil (by rw [eq]; exact Htab (eq ▸ inT q hq))
  have hSF : SqL K F0 a (ns.map V.int) := by
    rcases hS with (z | ⟨o, z⟩) | z
    · exact .inl (.inl (by rw [eF]; exact (if_neg aT).trans z))
    · exact .inl (.inr ⟨o, by rw [eF]; exact (if_neg aT).trans z⟩)
    · exact .inr z
  obtain ⟨st, hst⟩ := hans
  have hsp : spD S K 1 h [.ref a] H (fun v _ => v = .bl true) fun _ _ _ => False :=
    ⟨[.lsk (ns.map D.int)], [], F0, st0, rfl, .cons (.lsk hSF (rs_ints ns)) .nil, rel, by rw [hst]; exact fun m' F' H' _ _ v rv => by cases rv; rfl⟩
  refine codeAny_mono ((F _ KB (keepNs hns) TB).go callerA [] s₁ H ⟨[.ref a], []⟩ [.ref a] [.ref a] _ _ (fun _ => rfl) hr e0 (hbind s₁ (.ref a)) (.cons rfl .nil) hsp) fun r s' z => ?_
  cases r with
  | error e =>
    obtain ⟨_, _, _, _, _, _, _, _, _, _, _, _, q⟩ := z
    exact q.elim
  | ok fl =>
    cases fl with
    | next => exact z.elim
    | brk => exact z.elim
    | cont => exact z.elim
    | ret u =>
      obtain ⟨v, H', os, bare, un, hok', r', q⟩ := z
      have q' : v = .bl true := q
      subst q'
      obtain rfl : u = Value.bool true := r'
      have same : ∀ b o, b ∉ cs.map (·.2) → s₁.heap.get? b = some o → s'.heap.get? b = some o := fun b o nb e => by
        rcases Hother nb with q | ⟨rfl, _, q⟩
        · exact un.keep b o e q (fun z => (List.not_mem_nil z).elim) (by simp)
        · obtain ⟨e2, _⟩ := hok' _ _ (un.frzs _ _ _ q)
          rw [ha] at e; cases e
          exact e2
      have more : ∀ p ∈ cs, ∃ ps : Array Value, s'.heap.get? p.2 = some { cls := .none, data := .fields ps } := fun p hp => by
        obtain ⟨ps, z⟩ := un.tbls p.2 #[] (Htab (inT p hp))
        exact ⟨_, hok' p.2 _ z⟩
      refine ⟨rfl, ⟨fun b o e => ?_, fun b o e => ?_⟩, os, bare⟩
      · by_cases nb : b ∈ cs.map (·.2)
        · obtain ⟨p, hp, rfl⟩ := List.mem_map.mp nb
          obtain ⟨ps, hps⟩ := more p hp
          rw [hT p hp] at e; cases e
          exact .inr (.inl ⟨((C p hp).tab (hT p hp)).isCodeTable, rfl, #[], ps, rfl, by rw [Array.empty_append]; exact hps⟩)
        · exact .inl (same b o nb e)
      · by_cases nb : b ∈ cs.map (·.2)
        · obtain ⟨p, hp, rfl⟩ := List.mem_map.mp nb
          obtain ⟨ps, hps⟩ := more p hp
          exact ⟨_, hps⟩
        · exact ⟨o, same b o nb e⟩
end
/-- what is known of the law's def at the head's heap -/
def LawG (l : PySem.W.OpenLaw) (w : World) (K : PySem.W.Frag) (k n : Nat) (x : Str) (mg : Str → Option Value) (fa : Addr) (hp : Heap) : Prop :=
  ∃ (fd : FuncData) (cs : List (Addr × Addr)) (S : Se) (h : List D → St → Out D), (∀ p ∈ cs, hp.get? p.2 = some { cls := .none, data := .fields #[] }) ∧ (∀ p ∈ cs, K.lookup p.2 = none) ∧ (∀ p ∈ cs, PySem.W.CodeHd hp p.1 p.2) ∧ (∀ (s : Shared) (u : Value), BindsTo s fd ⟨[u], []⟩ [(x, u)]) ∧
    (∀ p ∈ S.T, ∃ q ∈ cs, q.2 = p.1) ∧ (∀ ns : List Int, ns.length ≤ n → (∀ z ∈ ns, Builtin.Int.intBits z ≤ 1048576) → ∃ st, h [.lsk (ns.map D.int)] st0 = .ok (.bl true) st) ∧
    ∀ base : Heap, K.In base → base.Ns mainGlobals mg → (∀ p ∈ cs, TabB base mg p.1 p.2) → FnG l.prog w K mg base true k fa fd [x] (spD S K 1 h)
theorem walk_mp {l : PySem.W.OpenLaw} {n k : Nat} {q : Program} {loose : List Str} {XP : (Str → Option Value) → Heap → Prop} {YP : World → Heap → Prop} {d : DefRec} {K : Params → PySem.W.Frag} {x : Str}
    (hn : l.most = some n) (hn2 : n ≤ sizeLine) (hdf : d.params.defaults = []) (hr : Room k callerA) (hY : ∀ (w : World) (h : Heap), YP w h → (K w.params).In h)
    (F : ∀ (w : World) (mg : Str → Option Value) (fa : Addr) (h : Heap), YP w h → (K w.params).In h → h.Ns mainGlobals mg → mg d.name = some (.ref fa) → LawG l w (K w.params) k n x mg fa h) :
    PySem.W.WalkO q loose XP YP l.row.toRowW d [] (fun f vs => PySem.call f vs) := by
  refine Att.attach_callB hn hdf fun w s₀ s₁ mg mb fa o pm cd doc a vs ns G Y ho hd hcd hmg hobj hints hlen hbits hg => ?_
  have KX := hY w _ Y
  obtain ⟨fd, cs, S, h, c1, c2, c3, c4, c5, c6, c7⟩ := F w mg fa _ Y KX G.T.g hmg
  exact lawG_call KX G.T.g G.T.b G.T.builtins G.T.nolimit hg c1 c2 c3 G.T.bmain hobj hints (Nat.le_trans hlen hn2) hr c7 c4 c5 (c6 ns hlen hbits)
end MP

set_option maxRecDepth 100000
set_option maxHeartbeats 1000000
/-! MX8: constants of the text, isinstance, repr, all, any, sum. -/
namespace MP
open PySem PySem.Spec PyProof.Rows L2

/-! ### constants of the text -/
def atomD : Value → Option D
  | .none => some .non
  | .bool b => some (.bl b)
  | .int i _ => some (.int i)
  | .str x _ => some (.str x.cps.toList)
  | _ => none
def atomsD : List Value → Option (List D)
  | [] => some []
  | u :: us => match atomD u, atomsD us with
    | some d, some ds => some (d :: ds)
    | _, _ => none
theorem atom_of {K : PySem.W.Frag} {u : Value} {d : D} (h : atomD u = some d) : ∃ v, RelV v u ∧ ∀ m F, R K m F v d := by
  cases u with
  | none => cases h; exact ⟨.non, rfl, fun _ _ => .non⟩
  | bool b => cases h; exact ⟨.bl b, rfl, fun _ _ => .bl b⟩
  | int i t => cases h; exact ⟨.int i, ⟨t, rfl⟩, fun _ _ => .int i⟩
  | str x t => cases h; exact ⟨.str x, ⟨t, rfl⟩, fun _ _ => .str x.cps.toList⟩
  | _ => cases h
theorem atoms_of {K : PySem.W.Frag} : ∀ {us : List Value} {ds : List D}, atomsD us = some ds → ∃ vs, Vals vs us ∧ ∀ m F, Rs K m F vs ds
  | [], _, h => by cases h; exact ⟨[], .nil, fun _ _ => .nil⟩
  | u :: us, ds, h => by
    unfold atomsD at h
    split at h
    · rename_i d ds' e1 e2
      cases h
      obtain ⟨v, r1, r2⟩ := atom_of (K := K) e1
      obtain ⟨vs, s1, s2⟩ := atoms_of (K := K) e2
      exact ⟨v :: vs, .cons r1 s1, fun m F => .cons (r2 m F) (s2 m F)⟩
    · cases h
section
variable {S : Se} {X : Cx} {W : WX} {σ : L2.St} {m : List Addr} {F H : Hp} {st : St} {Q : VK} {x : Str} {pos : Pos}
theorem s_gatom {u : Value} {d : D} (hg : Gl X x) (hm : X.mg x = some u) (hd : atomD u = some d) (hdb : (x == ("__debug__" : Str)) = false := by decide) : PE X (.Name x pos) (TEof S X W (fC d)) := by
  obtain ⟨v, r1, r2⟩ := atom_of (K := X.K) hd
  exact s_c (pe_glob hg hm r1 hdb) r2
theorem s_gtup {a : Addr} {dd : Option Addr} {us : List Value} {n : Nat} {sl : Array (Option Value)} {ds : List D} (hg : Gl X x) (hm : X.mg x = some (.ref a)) (hk : X.K.lookup a = some ⟨.type "tuple", dd, .seq us.toArray n, sl⟩) (hd : atomsD us = some ds) (hl : us.length ≤ 16777216)
    (hdb : (x == ("__debug__" : Str)) = false := by decide) : PE X (.Name x pos) (TEof S X W (fC (.tup ds))) := by
  obtain ⟨vs, r1, r2⟩ := atoms_of (K := X.K) hd
  refine s_c (pe_glob (v := .ref a) hg hm rfl hdb) fun m F => .tup (.inr ⟨_, us.toArray, n, hk, rfl, rfl, ?_, by simpa using r1⟩) (r2 m F)
  rw [List.size_toArray]; exact lim_le hl

/-! ### isinstance -/
def tyN : D → Option String
  | .non => some "NoneType"
  | .bl _ => some "bool"
  | .int _ => some "int"
  | .str _ => some "str"
  | .tup _ => some "tuple"
  | .lst _ => some "list"
  | .lsk _ => some "list"
  | _ => none
theorem tyX_of {v : V} {d : D} {t : String} (sub : Same F H) (rv : R X.K m F v d) (h : tyN d = some t) : TyX X.K H v (.type t) := by
  cases rv with
  | non => cases h; exact .base .non
  | bl b => cases h; exact .base (.bl b)
  | int i => cases h; exact .base (.int i)
  | str x => cases h; exact .base (.str _)
  | tup e _ =>
    cases h
    rcases sub.sqt e with (e | ⟨o, e⟩) | ⟨o, its, n, e1, e2, _⟩
    · exact .base (.tup e)
    · exact .fTuple e
    · exact .kTuple e1 e2
  | lst e _ => cases h; exact .base (.lst (sub _ _ e))
  | lsk e _ =>
    cases h
    rcases sub.seq e with (e | ⟨o, e⟩) | ⟨o, its, n, e1, e2, _⟩
    · exact .base (.lst e)
    · exact .base (.frz e)
    · exact .kList e1 e2
  | ref e => cases h
  | xo _ _ _ => cases h
/-- of a list of the store too -/
def isI (tab : String → Option Bool) (st : St) : D → Option Bool
  | .ref i => match st.objs[i]? with
    | some (.lst _) => tab "list"
    | none => none
  | d => (tyN d).bind tab
def fIsi (tab : String → Option Bool) (f : Env → St → Out D) : Env → St → Out D := fun ρ st => (f ρ st).bind fun d st1 => match isI tab st1 d with
  | some b => .ok (.bl b) st1
  | none => .bad
theorem s_isi {T tx : String} {tab : String → Option Bool} {e : Expr} {f : Env → St → Out D} {p p2 : Pos} (hg : Gl X "isinstance") (hm : X.mg "isinstance" = none) (hgT : Gl X (PySem.Str.ofString tx)) (hmT : X.mg (PySem.Str.ofString tx) = none) (hvT : bootBuiltins (PySem.Str.ofString tx) = some (.type T)) (hnT : PySem.Str.ofString tx ≠ "__name__") (hdT : (PySem.Str.ofString tx == ("__debug__" : Str)) = false)
    (htab : ∀ t b, tab t = some b → PySem.W.kitOne X.K (.type t) (.type T) = some b) (he : PE X e (TEof S X W f))
    (h1 : starEach [e, .Name (PySem.Str.ofString tx) p2] X.env = (false, eval e X.env) :: starEach [.Name (PySem.Str.ofString tx) p2] X.env) (h2 : (backTo pos (starEach [.Name (PySem.Str.ofString tx) p2] X.env)).any (·.1) = false) :
    PE X (.Call (.Name "isinstance" p) [e, .Name (PySem.Str.ofString tx) p2] [] pos) (TEof S X W (fIsi tab f)) := by
  have z := pe_callB (p := p) (pos := pos) call_isi hg hm (by kernel_rfl) (pa_cons he (pa_cons (pe_bltn (v := .ty T) (pos := p2) hgT hmT hvT rfl hnT hdT) pa_nil) h1) (by decide) (by decide) h1 h2
  refine z.weak fun σ H Q ⟨ρ, m, F, st, E, r, h⟩ => ⟨ρ, m, F, st, E, r, (Post.bind h).imp (fun d m1 F1 H1 s1 q v rv => ?_) fun _ _ _ _ _ y => y⟩
  obtain ⟨st1, r1, q⟩ := q
  split at q
  · rename_i b eb
    obtain ⟨t, h1, h2⟩ : ∃ t : String, TyX X.K H1 v (.type t) ∧ tab t = some b := by
      unfold isI at eb
      split at eb
      · rename_i i
        split at eb
        · rename_i ds eo
          obtain ⟨a, xs, rfl, g1, g2, g3⟩ := ref_of r1 rv eo
          exact ⟨"list", .base (.lst g2), eb⟩
        · cases eb
      · cases et : tyN d with
        | none => rw [et] at eb; cases eb
        | some t => rw [et] at eb; exact ⟨t, tyX_of r1.sub rv et, eb⟩
    exact ⟨v, .ty T, _, _, b, rfl, .ty T, h1, htab t b h2, q.now r1 _ (.bl b)⟩
  · exact q.elim
end

/-! ### repr -/
mutual
theorem py_nodict : ∀ d : D, d.py.hasDict = false
  | .non => rfl
  | .bl _ => rfl
  | .int _ => rfl
  | .str _ => rfl
  | .tup ds => by simp only [D.py, PyData.hasDict]; exact pys_nodict ds
  | .lst ds => by simp only [D.py, PyData.hasDict]; exact pys_nodict ds
  | .lsk ds => by simp only [D.py, PyData.hasDict]; exact pys_nodict ds
  | .ref _ => rfl
  | .xo _ _ _ _ => rfl
theorem pys_nodict : ∀ ds : List D, PyData.hasDictAll (D.pys ds) = false
  | [] => rfl
  | d :: ds => by simp only [D.pys, PyData.hasDictAll, py_nodict d, pys_nodict ds, Bool.or_self]
end
def reprOk (d : D) : Bool := d.noref && d.py.showable && decide (d.py.shown.length ≤ 16777216) && decide (d.py.depth ≤ 90)
def cRepr : List D → St → Out D := fun ds st => match ds with
  | [d] => if reprOk d = true then .ok (.str d.py.shown.cps.toList) st else .bad
  | _ => .bad
section
variable {S : Se} {X : Cx} {W : WX}
theorem call_reprD (hG : X.A.guards = some []) (hU : X.A.units + 100 < cLine) : CallR X (.builtin "repr") (fun vs H Q => ∃ v d, vs = [v] ∧ Dp X.K H v d ∧ d.showable = true ∧ d.hasDict = false ∧ d.shown.length ≤ sizeLine ∧ d.depth ≤ 90 ∧ Q (.str d.shown) H) := by
  intro pins s σ H vs us Q I r h
  obtain ⟨v, d, rfl, dp, hs, hn, hz, hd, q⟩ := h
  obtain ⟨u, rfl, rv⟩ : ∃ u, us = [u] ∧ RelV v u := by
    cases r with
    | cons a b => cases b; exact ⟨_, rfl, a⟩
  obtain ⟨as, rd⟩ := Dp.reads I d v u dp rv
  have fin : ∀ (h' : Heap) (tk tk' : Nat), (∀ b o, s.heap.get? b = some o → h'.get? b = some o) → EP X pins σ Q (.str d.shown tk') { s with heap := h', toks := tk } := fun h' tk tk' k => ⟨.str d.shown, H, I.kept k, ⟨_, rfl⟩, q⟩
  cases rd with
  | none => exact PySem.P.repr_of_none (by simpa only [PyData.shown] using fin s.heap (s.toks + 1) s.toks fun _ _ e => e)
  | bool b => exact PySem.P.repr_of_bool (by simpa only [PyData.shown] using fin s.heap (s.toks + 1) s.toks fun _ _ e => e)
  | int i t => exact PySem.P.repr_of_int (by simpa [PyData.showable] using hs) (by simpa only [PyData.shown] using fin s.heap (s.toks + 1) s.toks fun _ _ e => e)
  | str x t => exact PySem.P.repr_of_str (by simpa only [PyData.shown] using fin s.heap (s.toks + 1) s.toks fun _ _ e => e) (by simpa only [PyData.shown] using hz)
  | list h1 h2 h3 h4 => exact repr_of_reads' (.list h1 h2 h3 h4) hs (PyData.noDict_hsm hn) hG (by omega) (fun _ _ e => e) (fun h' u tk k => fin h' tk u k) hz
  | tuple h1 h2 h3 h4 => exact repr_of_reads' (.tuple h1 h2 h3 h4) hs (PyData.noDict_hsm hn) hG (by omega) (fun _ _ e => e) (fun h' u tk k => fin h' tk u k) hz
  | dict h1 h2 h3 h4 h5 => simp [PyData.hasDict] at hn
theorem o_repr (hG : X.A.guards = some []) (hU : X.A.units + 100 < cLine) : OpC S X W (.builtin "repr") cRepr := by
  refine ⟨_, call_reprD hG hU, fun σ m F st H Q vs ds r rs h => ?_⟩
  unfold cRepr at h
  split at h
  · split at h
    · rename_i d e
      obtain ⟨v, rfl, rv⟩ := rs.one
      unfold reprOk at e
      simp only [Bool.and_eq_true, decide_eq_true_eq] at e
      obtain ⟨⟨⟨e1, e2⟩, e3⟩, e4⟩ := e
      exact ⟨v, d.py, rfl, dp_of r.sub rv e1, e2, py_nodict d, lim_le e3, e4, h.now r _ (.str _)⟩
    · exact h.elim
  · exact h.elim

/-! ### all, any, sum -/
def bls : List D → Option (List Bool)
  | [] => some []
  | .bl b :: ds => (bls ds).map (b :: ·)
  | _ :: _ => none
theorem rs_bls {K : PySem.W.Frag} {m : List Addr} {F : Hp} : ∀ {vs : List V} {ds : List D} {bs : List Bool}, Rs K m F vs ds → bls ds = some bs → vs = bs.map V.bl
  | _, _, _, .nil, h => by cases h; rfl
  | _, _, _, .cons r t, h => by
    cases r with
    | bl b =>
      unfold bls at h
      obtain ⟨cs, e, rfl⟩ := Option.map_eq_some_iff.mp h
      rw [rs_bls t e]; rfl
    | _ => cases h
def insD : List D → Option (List Int)
  | [] => some []
  | .int b :: ds => (insD ds).map (b :: ·)
  | _ :: _ => none
theorem rs_ins {K : PySem.W.Frag} {m : List Addr} {F : Hp} : ∀ {vs : List V} {ds : List D} {bs : List Int}, Rs K m F vs ds → insD ds = some bs → vs = bs.map V.int
  | _, _, _, .nil, h => by cases h; rfl
  | _, _, _, .cons r t, h => by
    cases r with
    | int b =>
      unfold insD at h
      obtain ⟨cs, e, rfl⟩ := Option.map_eq_some_iff.mp h
      rw [rs_ins t e]; rfl
    | _ => cases h
def cBls (f : List Bool → Bool) : List D → St → Out D := fun ds st => match ds with
  | [x] => match (lqOf st x).bind bls with
    | some bs => .ok (.bl (f bs)) st
    | none => .bad
  | _ => .bad
theorem o_all (hc : X.calm = true) : OpC S X W (.builtin "all") (cBls fun bs => bs.all id) := by
  refine ⟨_, cr_all hc, fun σ m F st H Q vs ds r rs h => ?_⟩
  unfold cBls at h
  split at h
  · split at h
    · rename_i e
      obtain ⟨ds, e1, e2⟩ := Option.bind_eq_some_iff.mp e
      obtain ⟨v, rfl, rv⟩ := rs.one
      obtain ⟨a, xs, rfl, g1, g2⟩ := lq_of r rv e1
      rw [rs_bls g2 e2] at g1
      exact ⟨a, _, rfl, g1, h.now r _ (.bl _)⟩
    · exact h.elim
  · exact h.elim
theorem o_any (hc : X.calm = true) : OpC S X W (.builtin "any") (cBls fun bs => bs.any id) := by
  refine ⟨_, cr_any hc, fun σ m F st H Q vs ds r rs h => ?_⟩
  unfold cBls at h
  split at h
  · split at h
    · rename_i e
      obtain ⟨ds, e1, e2⟩ := Option.bind_eq_some_iff.mp e
      obtain ⟨v, rfl, rv⟩ := rs.one
      obtain ⟨a, xs, rfl, g1, g2⟩ := lq_of r rv e1
      rw [rs_bls g2 e2] at g1
      exact ⟨a, _, rfl, g1, h.now r _ (.bl _)⟩
    · exact h.elim
  · exact h.elim
end
end MP

set_option maxRecDepth 100000
set_option maxHeartbeats 1000000
/-! MX9: what the printed proofs lean on. -/
theorem L2.Room.u100 {k : Nat} {A : PySem.Around} (r : L2.Room k A) : A.units + 100 < PySem.cLine := by have := r.un; omega
namespace MP
open PySem PySem.Spec PyProof.Rows L2 LamX
section
variable {S : Se} {X : Cx} {W : WX}
theorem s_strL {x : Str} {l : List Nat} {j pos} (h : x.cps.toList = l) : PE X (.Constant (.str x) j pos) (TEof S X W (fC (.str l))) := h ▸ s_str
/-- a list that will change -/
def fBox (g : Env → St → Out (List D)) : Env → St → Out D := fun ρ st => (g ρ st).bind fun ds st1 => if ds.length ≤ 16777216 then .ok (.ref st1.objs.length) (st1.push (.lst ds)) else .bad
theorem s_boxE {es : List Expr} {pos : Pos} {g : Env → St → Out (List D)} (h : PA X es (TAof S X W g)) : PE X (.List es pos) (TEof S X W (fBox g)) := by
  refine (pe_lst h).weak fun σ H Q ⟨ρ, m, F, st, E, r, h⟩ => ⟨ρ, m, F, st, E, r, (Post.bind h).imp (fun ds m1 F1 H1 s1 q vs rs => ?_) fun _ _ _ _ _ y => y⟩
  obtain ⟨st1, r1, q⟩ := q
  split at q
  · rename_i hl
    refine ⟨by rw [rs.length]; exact lim_le hl, fun p hp => ?_⟩
    obtain ⟨s2, r2, h2⟩ := r1.box hp rs
    exact q _ _ _ s2 r2 (.ref p) (.ref h2)
  · exact q.elim
/-- .. what a comprehension gives -/
def fUp (f : Env → St → Out D) : Env → St → Out D := f
end
/-- a field of the caught exception -/
def fDs (ds : List D) (j : Nat) : Env → St → Out D := fun _ st => match ds[j]? with
  | some x => .ok x st
  | none => .bad
theorem fXf_env {n i a d j : Nat} {ns : List Str} {ds : List D} {f : Str} {ρ : Env} {st : St} (hi : i < n) (hj : ns.idxOf? f = some j) : fXf i a d f (envX n i a d ns ds) st = fDs ds j ρ st := by
  unfold fXf envX fDs
  rw [List.getElem?_set_self (by rw [List.length_replicate]; exact hi)]
  simp only [and_self, if_true, hj]
  try (cases ds[j]? <;> rfl)
/-! isinstance of a built-in type: the answers -/
def tyL : List String := ["NoneType", "bool", "int", "str", "tuple", "list"]
def tabT (T : String) : String → Option Bool := fun t => if t ∈ tyL then some (t == T || (t == "bool" && T == "int")) else none
theorem kit_all {K : PySem.W.Frag} {T : String} (h : (tyL.all fun t => decide (PySem.W.kitOne K (.type t) (.type T) = some (t == T || (t == "bool" && T == "int")))) = true) : ∀ t b, tabT T t = some b → PySem.W.kitOne K (.type t) (.type T) = some b := fun t b e => by
  unfold tabT at e
  split at e
  · rename_i ht
    have z := of_decide_eq_true (List.all_eq_true.mp h t ht)
    rw [z]; exact e
  · cases e
theorem kit_str (K : PySem.W.Frag) : ∀ t b, tabT "str" t = some b → PySem.W.kitOne K (.type t) (.type "str") = some b := kit_all (by kernel_rfl)
theorem kit_int (K : PySem.W.Frag) : ∀ t b, tabT "int" t = some b → PySem.W.kitOne K (.type t) (.type "int") = some b := kit_all (by kernel_rfl)
theorem kit_tuple (K : PySem.W.Frag) : ∀ t b, tabT "tuple" t = some b → PySem.W.kitOne K (.type t) (.type "tuple") = some b := kit_all (by kernel_rfl)
theorem kit_list (K : PySem.W.Frag) : ∀ t b, tabT "list" t = some b → PySem.W.kitOne K (.type t) (.type "list") = some b := kit_all (by kernel_rfl)
theorem kit_bool (K : PySem.W.Frag) : ∀ t b, tabT "bool" t = some b → PySem.W.kitOne K (.type t) (.type "bool") = some b := kit_all (by kernel_rfl)
/-- the tables of the defs of the top are empty -/
def OwnTabs (q : Program) (mg : Str → Option Value) (K : PySem.W.Frag) (h : Heap) : Prop := ∀ (x : Str) (fa : Addr), ((recsOf q).any fun e => e.name == x) = true → mg x = some (.ref fa) → OwnTab K fa h
theorem walk_mpT {l : PySem.W.OpenLaw} {n k : Nat} {q : Program} {loose : List Str} {XP : (Str → Option Value) → Heap → Prop} {YP : World → Heap → Prop} {d : DefRec} {K : Params → PySem.W.Frag} {x : Str}
    (hn : l.most = some n) (hn2 : n ≤ sizeLine) (hdf : d.params.defaults = []) (hr : Room k callerA) (hY : ∀ (w : World) (h : Heap), YP w h → (K w.params).In h)
    (F : ∀ (w : World) (mg : Str → Option Value) (fa : Addr) (h : Heap), YP w h → (K w.params).In h → h.Ns mainGlobals mg → mg d.name = some (.ref fa) → OwnTabs q mg (K w.params) h → LawG l w (K w.params) k n x mg fa h) :
    PySem.W.WalkO q loose XP YP l.row.toRowW d [] (fun f vs => PySem.call f vs) := by
  refine Att.attach_callB hn hdf fun w s₀ s₁ mg mb fa o pm cd doc a vs ns G Y ho hd hcd hmg hobj hints hlen hbits hg => ?_
  have KX := hY w _ Y
  have own : OwnTabs q mg (K w.params) s₁.heap := fun x fa' hx hm c P o1 fd1 e dd vs1 sl k1 k2 k3 k4 k5 => by
    obtain ⟨dL, m1, m2⟩ := List.any_eq_true.mp hx
    have m3 : dL.name = x := beq_iff_eq.mp m2
    obtain ⟨a', o', fd', c', P', h1, h2, h3, h4, h5, h6⟩ := G.T.tab dL m1
    rw [m3, hm] at h1; cases h1
    rw [KX _ _ k1] at h2; cases h2
    rw [k2] at h3; cases h3
    rw [k3] at h4; cases h4
    obtain ⟨⟨oc, vc, e1, _, e3, e4⟩, hP⟩ := h6
    rw [KX _ _ k4] at e1; cases e1
    cases e3
    rw [k5] at e4; cases e4
    exact hP
  obtain ⟨fd, cs, S, h, c1, c2, c3, c4, c5, c6, c7⟩ := F w mg fa _ Y KX G.T.g hmg own
  exact lawG_call KX G.T.g G.T.b G.T.builtins G.T.nolimit hg c1 c2 c3 G.T.bmain hobj hints (Nat.le_trans hlen hn2) hr c7 c4 c5 (c6 ns hlen hbits)
end MP

set_option maxRecDepth 100000
set_option maxHeartbeats 1000000
/-! MR1: reckoning with the interpreter: defs that leave the store as it was. -/
namespace MP
open PySem

/-- each running def began with no more objects than stand now -/
def Fine (st : St) : Prop := ∀ p ∈ st.fls, p.1 ≤ st.objs.length
theorem run_pure {n : Nat} {b : Env → St → SO} {ds : List D} {st : St} {d : D} (h : b (ds.map some ++ List.replicate (n - ds.length) none) (enter st) = .ret d (enter st)) (hd : d.lo st.objs.length = true) : runF false n b ds st = .ok d st := by
  unfold runF
  rw [h]
  show leave false st d (enter st) = _
  unfold leave enter thaw
  simp [hd]
/-- .. that made objects of its own -/
theorem run_own {n : Nat} {b : Env → St → SO} {ds : List D} {st : St} {d : D} {more : List O} (h : b (ds.map some ++ List.replicate (n - ds.length) none) (enter st) = .ret d { objs := st.objs ++ more, fls := (st.objs.length, false) :: st.fls }) (hd : d.lo st.objs.length = true) :
    runF false n b ds st = .ok d st := by
  unfold runF
  rw [h]
  unfold ended leave thaw
  simp [hd]
end MP

set_option maxRecDepth 100000
set_option maxHeartbeats 1000000
/-! MR2: values that show and that are themselves. -/
namespace MP
open PySem

mutual
/-- nothing of the store, signs that are signs, ints of at most twelve figures -/
def D.pl : D → Bool
  | .int i => decide (i.natAbs < 10 ^ 12)
  | .str s => s.all fun c => decide (c < 1114112)
  | .tup ds => D.pls ds
  | .lst ds => D.pls ds
  | .lsk ds => D.pls ds
  | .ref _ => false
  | .xo _ _ _ _ => false
  | _ => true
def D.pls : List D → Bool
  | [] => true
  | d :: ds => d.pl && D.pls ds
end
mutual
def D.wt : D → Nat
  | .int _ => 64
  | .str s => s.length
  | .tup ds => D.wts ds
  | .lst ds => D.wts ds
  | .lsk ds => D.wts ds
  | _ => 0
def D.wts : List D → Nat
  | [] => 0
  | d :: ds => d.wt + 1 + D.wts ds
end
mutual
def D.dp : D → Nat
  | .tup ds => D.dps ds + 1
  | .lst ds => D.dps ds + 1
  | .lsk ds => D.dps ds + 1
  | _ => 0
def D.dps : List D → Nat
  | [] => 0
  | d :: ds => max d.dp (D.dps ds)
end
theorem log_lt {n : Nat} (h : n < 10 ^ 12) : n.log2 < 40 := by
  by_cases z : n = 0
  · subst z; decide
  · exact (Nat.log2_lt z).mpr (Nat.lt_trans h (by decide))
mutual
theorem pl_facts : ∀ d : D, d.pl = true → d.noref = true ∧ d.py.canLay0 = true ∧ d.py.intsShort 13 = true ∧ d.py.showable = true ∧ d.py.depth = d.dp ∧ d.py.weight ≤ d.wt
  | .non, _ => ⟨rfl, rfl, rfl, rfl, rfl, Nat.le_refl _⟩
  | .bl _, _ => ⟨rfl, rfl, rfl, rfl, rfl, Nat.le_refl _⟩
  | .int i, h => by
    simp only [D.pl, decide_eq_true_eq] at h
    have hl := log_lt h
    refine ⟨rfl, rfl, ?_, ?_, rfl, ?_⟩
    · simp only [D.py, PyData.intsShort, decide_eq_true_eq]; exact PyData.shown_int_le h
    · simp only [D.py, PyData.showable, decide_eq_true_eq]; omega
    · simp only [D.py, PyData.weight, D.wt]; split <;> omega
  | .str s, h => by
    simp only [D.pl, List.all_eq_true, decide_eq_true_eq] at h
    refine ⟨rfl, ?_, rfl, rfl, rfl, ?_⟩
    · simp only [D.py, PyData.canLay0, PyData.strOk]
      simpa using h
    · simp [D.py, PyData.weight, D.wt]
  | .tup ds, h => by
    obtain ⟨h1, h2, h3, h4, h5, h6⟩ := pls_facts ds (by simpa [D.pl] using h)
    exact ⟨by simpa [D.noref] using h1, by simpa [D.py, PyData.canLay0] using h2, by simpa [D.py, PyData.intsShort] using h3, by simpa [D.py, PyData.showable] using h4, by simpa [D.py, PyData.depth, D.dp] using h5, by simpa [D.py, PyData.weight, D.wt] using h6⟩
  | .lst ds, h => by
    obtain ⟨h1, h2, h3, h4, h5, h6⟩ := pls_facts ds (by simpa [D.pl] using h)
    exact ⟨by simpa [D.noref] using h1, by simpa [D.py, PyData.canLay0] using h2, by simpa [D.py, PyData.intsShort] using h3, by simpa [D.py, PyData.showable] using h4, by simpa [D.py, PyData.depth, D.dp] using h5, by simpa [D.py, PyData.weight, D.wt] using h6⟩
  | .lsk ds, h => by
    obtain ⟨h1, h2, h3, h4, h5, h6⟩ := pls_facts ds (by simpa [D.pl] using h)
    exact ⟨by simpa [D.noref] using h1, by simpa [D.py, PyData.canLay0] using h2, by simpa [D.py, PyData.intsShort] using h3, by simpa [D.py, PyData.showable] using h4, by simpa [D.py, PyData.depth, D.dp] using h5, by simpa [D.py, PyData.weight, D.wt] using h6⟩
  | .ref _, h => by simp [D.pl] at h
  | .xo _ _ _ _, h => by simp [D.pl] at h
theorem pls_facts : ∀ ds : List D, D.pls ds = true → D.norefs ds = true ∧ PyData.canLayAll0 (D.pys ds) = true ∧ PyData.intsShortAll 13 (D.pys ds) = true ∧ PyData.showableAll (D.pys ds) = true ∧ PyData.depthAll (D.pys ds) = D.dps ds ∧ PyData.weightAll (D.pys ds) ≤ D.wts ds
  | [], _ => ⟨rfl, rfl, rfl, rfl, rfl, Nat.le_refl _⟩
  | d :: ds, h => by
    simp only [D.pls, Bool.and_eq_true] at h
    obtain ⟨h1, h2, h3, h4, h5, h6⟩ := pl_facts d h.1
    obtain ⟨k1, k2, k3, k4, k5, k6⟩ := pls_facts ds h.2
    refine ⟨by simp [D.norefs, h1, k1], by simp [D.pys, PyData.canLayAll0, h2, k2], by simp [D.pys, PyData.intsShortAll, h3, k3], by simp [D.pys, PyData.showableAll, h4, k4], by simp [D.pys, PyData.depthAll, D.dps, h5, k5], ?_⟩
    simp only [D.pys, PyData.weightAll, D.wts]; omega
end
theorem reprOk_of {d : D} (h : d.pl = true) (hw : d.wt ≤ 1048576) (hd : d.dp ≤ 64) : reprOk d = true := by
  obtain ⟨h1, h2, h3, h4, h5, h6⟩ := pl_facts d h
  have hl : d.py.layable0 = true := by
    simp only [PyData.layable0, h2, h5, Bool.true_and, Bool.and_eq_true, decide_eq_true_eq]
    exact ⟨hd, Nat.le_trans h6 (Nat.le_trans hw (by decide))⟩
  have := PyData.shown_le_of_layable0 hl h3
  simp only [reprOk, h1, h4, Bool.and_eq_true, decide_eq_true_eq, h5]
  exact ⟨⟨⟨trivial, trivial⟩, by omega⟩, by omega⟩
theorem shp_of {d : D} (h : d.pl = true) (hd : d.dp ≤ 64) : shp d = true := by
  obtain ⟨h1, h2, h3, h4, h5, h6⟩ := pl_facts d h
  simp [shp, SeqAt.shaped, h1, h2, h5, hd]
theorem top_pl {d : D} {st : St} (h : d.pl = true) : top st d = d := by
  cases d <;> first | rfl | simp [D.pl] at h
theorem eqS_self : ∀ d : D, d.pl = true → eqS d d = some true ∨ eqS d d = none := by
  intro d h
  cases d <;> simp [eqS]
theorem eqD_self {d : D} {st : St} (h : d.pl = true) (hd : d.dp ≤ 64) : eqD st d d = some true := by
  unfold eqD
  rcases eqS_self d h with e | e
  · rw [e]
  · rw [e]
    simp only [top_pl h, shp_of h hd, and_self, if_true]
    rw [SeqAt.eqv_refl _ (pl_facts d h).2.1]
theorem opEq_self {d : D} {st : St} (h : d.pl = true) (hd : d.dp ≤ 64) : opEq d d st = .ok (.bl true) st := by
  unfold opEq; rw [eqD_self h hd]
theorem opNe_self {d : D} {st : St} (h : d.pl = true) (hd : d.dp ≤ 64) : opNe d d st = .ok (.bl false) st := by
  unfold opNe; rw [eqD_self h hd]; rfl
theorem cRepr_of {d : D} {st : St} (h : d.pl = true) (hw : d.wt ≤ 1048576) (hd : d.dp ≤ 64) : cRepr [d] st = .ok (.str d.py.shown.cps.toList) st := by
  simp only [cRepr, reprOk_of h hw hd, if_true]
/-- repr(x) == repr(x) and x == x -/
theorem alike_self {d : D} {st : St} (h : d.pl = true) (hw : d.wt ≤ 1048576) (hd : d.dp ≤ 64) :
    (fAnd (f2 opEq (fCall cRepr (fCons (fVar 0) (fNil))) (fCall cRepr (fCons (fVar 1) (fNil)))) (f2 opEq (fVar 0) (fVar 1))) [some d, some d] st = .ok (.bl true) st := by
  simp [fAnd, f2, fCall, fCons, fVar, fNil, cRepr_of h hw hd, opEq_self h hd]
  simp [opEq, eqD, eqS]
theorem pls_append {a b : List D} : D.pls (a ++ b) = (D.pls a && D.pls b) := by
  induction a with
  | nil => simp [D.pls]
  | cons x xs ih => simp [D.pls, ih, Bool.and_assoc]
theorem wts_append {a b : List D} : D.wts (a ++ b) = D.wts a + D.wts b := by
  induction a with
  | nil => simp [D.wts]
  | cons x xs ih => simp [D.wts, ih]; omega
theorem pls_iff {ds : List D} : D.pls ds = true ↔ ∀ d ∈ ds, d.pl = true := by
  induction ds with
  | nil => simp [D.pls]
  | cons x xs ih => simp [D.pls, ih]
theorem wts_le {n : Nat} {ds : List D} (h : ∀ d ∈ ds, d.wt ≤ n) : D.wts ds ≤ ds.length * (n + 1) := by
  induction ds with
  | nil => simp [D.wts]
  | cons x xs ih =>
    have h1 := h x List.mem_cons_self
    have h2 := ih fun d hd => h d (List.mem_cons_of_mem _ hd)
    simp only [D.wts, List.length_cons, Nat.succ_mul]; omega
theorem dps_le {n : Nat} {ds : List D} (h : ∀ d ∈ ds, d.dp ≤ n) : D.dps ds ≤ n := by
  induction ds with
  | nil => simp [D.dps]
  | cons x xs ih =>
    have h1 := h x List.mem_cons_self
    have h2 := ih fun d hd => h d (List.mem_cons_of_mem _ hd)
    simp only [D.dps]; omega
/-- what holds nothing of the store lies below everything -/
theorem los_iff {n : Nat} {ds : List D} : D.los n ds = true ↔ ∀ d ∈ ds, d.lo n = true := by
  induction ds with
  | nil => simp [D.los]
  | cons x xs ih => simp [D.los, ih]
mutual
theorem lo_pl (n : Nat) : ∀ d : D, d.pl = true → d.lo n = true
  | .non, _ => rfl
  | .bl _, _ => rfl
  | .int _, _ => rfl
  | .str _, _ => rfl
  | .tup ds, h => los_pl n ds (by simpa [D.pl] using h)
  | .lst ds, h => los_pl n ds (by simpa [D.pl] using h)
  | .lsk ds, h => los_pl n ds (by simpa [D.pl] using h)
  | .ref _, h => by simp [D.pl] at h
  | .xo _ _ _ _, h => by simp [D.pl] at h
theorem los_pl (n : Nat) : ∀ ds : List D, D.pls ds = true → D.los n ds = true
  | [], _ => rfl
  | d :: ds, h => by
    simp only [D.pls, Bool.and_eq_true] at h
    simp [D.los, lo_pl n d h.1, los_pl n ds h.2]
end
end MP

set_option maxRecDepth 100000
set_option maxHeartbeats 4000000
/-! MR3: what the combinators reckon, for simp; what is drawn from the bag. -/
namespace MP
open PySem L2

theorem run_end {n : Nat} {b : Env → St → SO} {ds : List D} {st : St} {d : D} {objs : List O} (h : b (ds.map some ++ List.replicate (n - ds.length) none) (enter st) = .ret d { objs := objs, fls := (st.objs.length, false) :: st.fls }) (hd : d.lo st.objs.length = true) :
    runF false n b ds st = .ok d { objs := objs.take st.objs.length, fls := st.fls } := by
  unfold runF
  rw [h]
  unfold ended leave thaw
  simp [hd]
theorem put_pls {st : St} {i : Nat} {ds : List D} (h : D.pls ds = true) : st.put i (.lst ds) = { objs := st.objs.set i (.lst ds), fls := st.fls } := by
  unfold St.put
  congr 1
  conv => rhs; rw [← List.map_id st.fls]
  refine List.map_congr_left fun p hp => ?_
  simp [O.lo, los_pl p.1 ds h]

/-! ### the bag from which laws draw -/
def bagO (b0 b1 b2 : Int) (cs : List Int) : List D := [.int b0, .int b1, .int b2, .lst (cs.map .int)]
structure Bag (objs : List O) (i n : Nat) : Prop where
  ex : ∃ (b0 b1 b2 : Int) (cs : List Int), objs[i]? = some (.lst (bagO b0 b1 b2 cs)) ∧ 0 ≤ b0 ∧ 0 ≤ b1 ∧ b1 < 2147483647 ∧ 0 ≤ b2 ∧ b2 ≤ (n : Int) ∧ (∀ c ∈ cs, 0 ≤ c) ∧ cs.length ≤ 1000
def b_take : Env → St → SO := gSeq (gIf (fB (f2 opEq (f2 opIdx (fVar 0) (fC (.int 0))) (fC (.int 0)))) (gSeq (gSet 2 (f2 opIdx (f2 opAdd (fSlc (f2 opIdx (fVar 0) (fC (.int 3))) (fPart (f2 opIdx (fVar 0) (fC (.int 2)))) (fNoP)) (fLst (fCons (fC (.int 0)) (fNil)))) (fC (.int 0)))) (gSeq (gAugPut (fun x y => x + y) (fVar 0) (fC (.int 2)) (fC (.int 1))) (gSeq (gIf (fB (f2 opGe (fVar 2) (f2 opPow (fC (.int 10)) (fC (.int 18))))) (gSeq (gPut (fVar 2) (fVar 0) (fC (.int 0))) (gNx)) (gNx)) (gSeq (gSet 3 (f2 opAdd (f2 opAdd (f2 opMul (f2 opIdx (fVar 0) (fC (.int 1))) (fC (.int 48271))) (f2 opMod (fCall cInt (fCons (fVar 2) (fNil))) (fC (.int 2147483647)))) (f2 opMul (fC (.int 7919)) (f2 opIdx (fVar 0) (fC (.int 2)))))) (gSeq (gPut (f2 opMod (fCall cInt (fCons (fVar 3) (fNil))) (fC (.int 2147483647))) (fVar 0) (fC (.int 1))) (gNx)))))) (gNx)) (gSeq (gIf (fB (f2 opGt (f2 opIdx (fVar 0) (fC (.int 0))) (fC (.int 0)))) (gSeq (gSet 4 (f2 opMod (fCall cInt (fCons (f2 opIdx (fVar 0) (fC (.int 0))) (fNil))) (fVar 1))) (gSeq (gPut (f2 opDiv (fCall cInt (fCons (f2 opIdx (fVar 0) (fC (.int 0))) (fNil))) (fVar 1)) (fVar 0) (fC (.int 0))) (gSeq (gRet (fVar 4)) (gNx)))) (gNx)) (gSeq (gSet 5 (f2 opMod (fCall cInt (fCons (f2 opMul (f2 opAdd (f2 opIdx (fVar 0) (fC (.int 1))) (fC (.int 1))) (fC (.int 39373))) (fNil))) (fC (.int 1000000007)))) (gSeq (gSet 6 (f2 opMod (fCall cInt (fCons (f2 opMul (f2 opMod (fCall cInt (fCons (f2 opMul (fVar 5) (fVar 5)) (fNil))) (fC (.int 998244353))) (fC (.int 30011))) (fNil))) (fC (.int 998244353)))) (gSeq (gRet (f2 opMod (fCall cInt (fCons (f2 opDiv (fVar 6) (fC (.int 7))) (fNil))) (fVar 1))) (gNx)))))
theorem cMul_of {a b : Int} (ha : 0 ≤ a) (ha' : a < 2 ^ 250) (hb : 0 ≤ b) (hb' : b < 2 ^ 250) : cMul a b = true := by
  have f : ∀ z : Int, 0 ≤ z → z < 2 ^ 250 → z.natAbs.log2 < 251 := fun z h0 h1 => by
    by_cases hz : z.natAbs = 0
    · rw [hz]; decide
    · refine (Nat.log2_lt hz).mpr ?_
      have : ((z.natAbs : Nat) : Int) = z := Int.natAbs_of_nonneg h0
      have h2 : ((z.natAbs : Nat) : Int) < ((2 ^ 250 : Nat) : Int) := by rw [this]; exact_mod_cast h1
      have h3 : z.natAbs < 2 ^ 250 := by exact_mod_cast h2
      exact Nat.lt_trans h3 (by decide)
  have h1 := f a ha ha'
  have h2 := f b hb hb'
  simp only [cMul, decide_eq_true_eq]; omega
theorem cDiv_of {a b : Int} (hb : 0 < b) (hb' : b < 2 ^ 250) : cDiv a b = true := by
  have hz : b.natAbs ≠ 0 := by omega
  have : b.natAbs.log2 < 251 := by
    refine (Nat.log2_lt hz).mpr ?_
    have e : ((b.natAbs : Nat) : Int) = b := Int.natAbs_of_nonneg (by omega)
    have h2 : ((b.natAbs : Nat) : Int) < ((2 ^ 250 : Nat) : Int) := by rw [e]; exact_mod_cast hb'
    have h3 : b.natAbs < 2 ^ 250 := by exact_mod_cast h2
    exact Nat.lt_trans h3 (by decide)
  simp only [cDiv, hb, decide_true, Bool.true_and, decide_eq_true_eq]; omega
theorem two64 : (2 : Int) ^ 64 = 18446744073709551616 := by decide
theorem lt1000 {z : Int} (h : z < 2 ^ 200) : z < 2 ^ 250 := Int.lt_trans h (by decide)
theorem bag_pls {b0 b1 b2 : Int} {cs : List Int} {n : Nat} : D.los n (bagO b0 b1 b2 cs) = true := by
  have : D.los n (cs.map D.int) = true := los_iff.mpr fun d hd => by
    obtain ⟨c, _, rfl⟩ := List.mem_map.mp hd
    rfl
  simp [bagO, D.los, D.lo, this]
theorem put_bag {st : St} {i : Nat} {b0 b1 b2 : Int} {cs : List Int} : st.put i (.lst (bagO b0 b1 b2 cs)) = { objs := st.objs.set i (.lst (bagO b0 b1 b2 cs)), fls := st.fls } := by
  unfold St.put
  congr 1
  conv => rhs; rw [← List.map_id st.fls]
  refine List.map_congr_left fun p hp => ?_
  simp [O.lo, bag_pls]
theorem cut_ints {cs : List Int} {lo hi : Option Int} : cut (cs.map D.int) lo hi = (cut cs lo hi).map D.int := by
  simp [cut, List.map_drop, List.map_take]
theorem first_cell {cs : List Int} (h : ∀ c ∈ cs, 0 ≤ c) : ∃ c : Int, 0 ≤ c ∧ atI (cs.map D.int ++ [D.int 0]) 0 = some (.int c) := by
  cases cs with
  | nil => exact ⟨0, Int.le_refl _, rfl⟩
  | cons c cs => exact ⟨c, h c List.mem_cons_self, by simp [atI, ixN]; rw [if_pos (by omega)]; rfl⟩
theorem opIdx_bag {st : St} {i : Nat} {b0 b1 b2 : Int} {cs : List Int} (e : st.objs[i]? = some (.lst (bagO b0 b1 b2 cs))) :
    opIdx (.ref i) (.int 0) st = .ok (.int b0) st ∧ opIdx (.ref i) (.int 1) st = .ok (.int b1) st ∧ opIdx (.ref i) (.int 2) st = .ok (.int b2) st ∧ opIdx (.ref i) (.int 3) st = .ok (.lst (cs.map .int)) st := by
  refine ⟨?_, ?_, ?_, ?_⟩ <;> simp [opIdx, seqOf, lstOf, e, bagO, atI, ixN]
theorem put_at_bag {st : St} {i : Nat} {b0 b1 b2 : Int} {cs : List Int} (e : st.objs[i]? = some (.lst (bagO b0 b1 b2 cs))) (z : Int) :
    putAt (.ref i) (.int 0) (.int z) st = some { objs := st.objs.set i (.lst (bagO z b1 b2 cs)), fls := st.fls } ∧ putAt (.ref i) (.int 1) (.int z) st = some { objs := st.objs.set i (.lst (bagO b0 z b2 cs)), fls := st.fls } ∧ putAt (.ref i) (.int 2) (.int z) st = some { objs := st.objs.set i (.lst (bagO b0 b1 z cs)), fls := st.fls } := by
  refine ⟨?_, ?_, ?_⟩
  · rw [← put_bag]; simp [putAt, refOf, e, bagO, ixN]
  · rw [← put_bag]; simp [putAt, refOf, e, bagO, ixN]
  · rw [← put_bag]; simp [putAt, refOf, e, bagO, ixN]
/-- behind the first part of the draw -/
def b_take2 : Env → St → SO := gSeq (gIf (fB (f2 opGt (f2 opIdx (fVar 0) (fC (.int 0))) (fC (.int 0)))) (gSeq (gSet 4 (f2 opMod (fCall cInt (fCons (f2 opIdx (fVar 0) (fC (.int 0))) (fNil))) (fVar 1))) (gSeq (gPut (f2 opDiv (fCall cInt (fCons (f2 opIdx (fVar 0) (fC (.int 0))) (fNil))) (fVar 1)) (fVar 0) (fC (.int 0))) (gSeq (gRet (fVar 4)) (gNx)))) (gNx)) (gSeq (gSet 5 (f2 opMod (fCall cInt (fCons (f2 opMul (f2 opAdd (f2 opIdx (fVar 0) (fC (.int 1))) (fC (.int 1))) (fC (.int 39373))) (fNil))) (fC (.int 1000000007)))) (gSeq (gSet 6 (f2 opMod (fCall cInt (fCons (f2 opMul (f2 opMod (fCall cInt (fCons (f2 opMul (fVar 5) (fVar 5)) (fNil))) (fC (.int 998244353))) (fC (.int 30011))) (fNil))) (fC (.int 998244353)))) (gSeq (gRet (f2 opMod (fCall cInt (fCons (f2 opDiv (fVar 6) (fC (.int 7))) (fNil))) (fVar 1))) (gNx))))
theorem take2_ok {st : St} {i n : Nat} {many : Int} {y z : Option D} (B : Bag st.objs i n) (h0 : 0 < many) (h1 : many < 2 ^ 200) :
    ∃ (d : Int) (o : O), b_take2 [some (.ref i), some (.int many), y, z, none, none, none] st = .ret (.int d) { objs := st.objs.set i o, fls := st.fls } ∧ 0 ≤ d ∧ d < many ∧ Bag (st.objs.set i o) i n := by
  obtain ⟨b0, b1, b2, cs, e, p0, p1, p2, p3, p4, p5, p6⟩ := B.ex
  have hi : i < st.objs.length := by
    rcases Nat.lt_or_ge i st.objs.length with h | h
    · exact h
    · rw [List.getElem?_eq_none h] at e; cases e
  obtain ⟨i0, i1, i2, i3⟩ := opIdx_bag e
  have hm : cMod b0 many = true := by simp [cMod, h0]
  have hd : cDiv b0 many = true := cDiv_of h0 (lt1000 h1)
  by_cases hb : 0 < b0
  · refine ⟨b0 % many, .lst (bagO (b0 / many) b1 b2 cs), ?_, Int.emod_nonneg _ (by omega), Int.emod_lt_of_pos _ h0, ⟨b0 / many, b1, b2, cs, by simp [hi], Int.ediv_nonneg p0 (by omega), p1, p2, p3, p4, p5, p6⟩⟩
    obtain ⟨w0, w1, w2⟩ := put_at_bag e (b0 / many)
    simp [b_take2, gSeq, gIf, fB, f2, fVar, fC, i0, i1, i2, i3, opOrd, hb, gSet, fCall, fCons, fNil, cInt, opI, hm, gPut, hd, w0, gRet]
  · have hb0 : b0 = 0 := by omega
    subst hb0
    have g1 : cMul (b1 + 1) 39373 = true := cMul_of (by omega) (lt1000 (by omega)) (by decide) (by decide)
    generalize hB : (b1 + 1) * 39373 % 1000000007 = bg
    have B0 : 0 ≤ bg := by omega
    have B1 : bg < 1000000007 := by omega
    have g2 : cMul bg bg = true := cMul_of B0 (lt1000 (by omega)) B0 (lt1000 (by omega))
    generalize hC : bg * bg % 998244353 = bh
    have C0 : 0 ≤ bh := by omega
    have C1 : bh < 998244353 := by omega
    have g3 : cMul bh 30011 = true := cMul_of C0 (lt1000 (by omega)) (by decide) (by decide)
    generalize hD : bh * 30011 % 998244353 = sc
    have m1 : ∀ x : Int, cMod x 1000000007 = true := fun x => by simp [cMod]
    have m2 : ∀ x : Int, cMod x 998244353 = true := fun x => by simp [cMod]
    have m3 : ∀ x : Int, cMod x many = true := fun x => by simp [cMod, h0]
    have m4 : ∀ x : Int, cDiv x 7 = true := fun x => cDiv_of (by decide) (by decide)
    refine ⟨sc / 7 % many, .lst (bagO 0 b1 b2 cs), ?_, Int.emod_nonneg _ (by omega), Int.emod_lt_of_pos _ h0, ⟨0, b1, b2, cs, by simp [hi], Int.le_refl _, p1, p2, p3, p4, p5, p6⟩⟩
    have same : st.objs.set i (.lst (bagO 0 b1 b2 cs)) = st.objs := by
      have := List.getElem?_eq_some_iff.mp e
      obtain ⟨_, e'⟩ := this
      rw [← e', List.set_getElem_self]
    rw [same]
    simp [b_take2, gSeq, gIf, fB, f2, fVar, fC, i0, i1, i2, i3, opOrd, gSet, fCall, fCons, fNil, cInt, opI, opMul, opAdd, gRet, gNx, g1, hB, m1, g2, hC, m2, g3, hD, m3, m4]
theorem take_ok {st : St} {i n : Nat} {many : Int} (B : Bag st.objs i n) (hn : n < 2 ^ 64) (h0 : 0 < many) (h1 : many < 2 ^ 200) :
    ∃ (d : Int) (o : O), runF false 7 b_take [.ref i, .int many] st = .ok (.int d) { objs := st.objs.set i o, fls := st.fls } ∧ 0 ≤ d ∧ d < many ∧ Bag (st.objs.set i o) i (n + 1) := by
  have key : ∃ (d : Int) (o : O), b_take [some (.ref i), some (.int many), none, none, none, none, none] (enter st) = .ret (.int d) { objs := st.objs.set i o, fls := (st.objs.length, false) :: st.fls } ∧ 0 ≤ d ∧ d < many ∧ Bag (st.objs.set i o) i (n + 1) := by
    obtain ⟨b0, b1, b2, cs, e, p0, p1, p2, p3, p4, p5, p6⟩ := B.ex
    have hi : i < st.objs.length := by
      rcases Nat.lt_or_ge i st.objs.length with h | h
      · exact h
      · rw [List.getElem?_eq_none h] at e; cases e
    obtain ⟨st1, es1⟩ : ∃ s, s = enter st := ⟨_, rfl⟩
    have eo : st1.objs = st.objs := by rw [es1]; rfl
    have ef : st1.fls = (st.objs.length, false) :: st.fls := by rw [es1]; rfl
    rw [← es1]
    have e1 : st1.objs[i]? = some (.lst (bagO b0 b1 b2 cs)) := by rw [eo]; exact e
    obtain ⟨i0, i1, i2, i3⟩ := opIdx_bag e1
    by_cases hb : b0 = 0
    · subst hb
      have hcs := cut_ints (cs := cs) (lo := some b2) (hi := none)
      have hpos : ∀ c ∈ cut cs (some b2) none, 0 ≤ c := fun c hc => p5 c (List.mem_of_mem_drop (List.mem_of_mem_take hc))
      have hlen : (cut cs (some b2) none).length ≤ 1000 := by
        simp only [cut, List.length_take, List.length_drop]; omega
      obtain ⟨c, c0, ec⟩ := first_cell hpos
      obtain ⟨_, _, w2⟩ := put_at_bag e1 (b2 + 1)
      obtain ⟨st2, es2⟩ : ∃ s : St, s = { objs := st1.objs.set i (.lst (bagO 0 b1 (b2 + 1) cs)), fls := st1.fls } := ⟨_, rfl⟩
      have e2 : st2.objs[i]? = some (.lst (bagO 0 b1 (b2 + 1) cs)) := by rw [es2]; simp [eo, hi]
      -- the great cell
      obtain ⟨c', st3, c1, es3, e3⟩ : ∃ (c' : Int) (st3 : St), 0 ≤ c' ∧ st3 = { objs := st.objs.set i (.lst (bagO c' b1 (b2 + 1) cs)), fls := (st.objs.length, false) :: st.fls } ∧
          (gIf (fB (f2 opGe (fVar 2) (f2 opPow (fC (.int 10)) (fC (.int 18))))) (gSeq (gPut (fVar 2) (fVar 0) (fC (.int 0))) (gNx)) (gNx)) [some (.ref i), some (.int many), some (.int c), none, none, none, none] st2 = .nx [some (.ref i), some (.int many), some (.int c), none, none, none, none] st3 := by
        have hp : cPow 10 18 = true := by decide
        obtain ⟨w0, _, _⟩ := put_at_bag e2 c
        by_cases hc : (1000000000000000000 : Int) ≤ c
        · refine ⟨c, _, c0, rfl, ?_⟩
          simp [gIf, fB, f2, fVar, fC, opI, hp, opOrd, gSeq, gPut, gNx, w0]
          simp [es2, eo, ef]
          intro hh; omega
        · refine ⟨0, _, Int.le_refl _, rfl, ?_⟩
          simp [gIf, fB, f2, fVar, fC, opI, hp, opOrd, gSeq, gPut, gNx, w0]
          simp [es2, eo, ef]
          intro hh; omega
      have e4 : st3.objs[i]? = some (.lst (bagO c' b1 (b2 + 1) cs)) := by rw [es3]; simp [hi]
      obtain ⟨j0, j1, j2, j3⟩ := opIdx_bag e4
      have g1 : cMul b1 48271 = true := cMul_of p1 (lt1000 (by omega)) (by decide) (by decide)
      have g2 : cMul 7919 (b2 + 1) = true := cMul_of (by decide) (by decide) (by omega) (lt1000 (by
        have : ((n : Nat) : Int) < ((2 ^ 64 : Nat) : Int) := by exact_mod_cast hn
        have t : ((2 ^ 64 : Nat) : Int) + 1 < 2 ^ 200 := by decide
        omega))
      have m1 : ∀ x : Int, cMod x 2147483647 = true := fun x => by simp [cMod]
      obtain ⟨s', hs'⟩ : ∃ s' : Int, s' = b1 * 48271 + c % 2147483647 + 7919 * (b2 + 1) := ⟨_, rfl⟩
      obtain ⟨_, w1, _⟩ := put_at_bag e4 (s' % 2147483647)
      have B' : Bag (st3.objs.set i (.lst (bagO c' (s' % 2147483647) (b2 + 1) cs))) i (n + 1) := ⟨c', s' % 2147483647, b2 + 1, cs, by rw [es3]; simp [hi], c1, by omega, by omega, by omega, by push_cast; omega, p5, p6⟩
      obtain ⟨d, o, r1, r2, r3, r4⟩ := take2_ok (st := { objs := st3.objs.set i (.lst (bagO c' (s' % 2147483647) (b2 + 1) cs)), fls := st3.fls }) (many := many) (y := some (.int c)) (z := some (.int s')) B' h0 h1
      refine ⟨d, o, ?_, r2, r3, by simpa [es3] using r4⟩
      have first : b_take = gSeq (gIf (fB (f2 opEq (f2 opIdx (fVar 0) (fC (.int 0))) (fC (.int 0)))) (gSeq (gSet 2 (f2 opIdx (f2 opAdd (fSlc (f2 opIdx (fVar 0) (fC (.int 3))) (fPart (f2 opIdx (fVar 0) (fC (.int 2)))) (fNoP)) (fLst (fCons (fC (.int 0)) (fNil)))) (fC (.int 0)))) (gSeq (gAugPut (fun x y => x + y) (fVar 0) (fC (.int 2)) (fC (.int 1))) (gSeq (gIf (fB (f2 opGe (fVar 2) (f2 opPow (fC (.int 10)) (fC (.int 18))))) (gSeq (gPut (fVar 2) (fVar 0) (fC (.int 0))) (gNx)) (gNx)) (gSeq (gSet 3 (f2 opAdd (f2 opAdd (f2 opMul (f2 opIdx (fVar 0) (fC (.int 1))) (fC (.int 48271))) (f2 opMod (fCall cInt (fCons (fVar 2) (fNil))) (fC (.int 2147483647)))) (f2 opMul (fC (.int 7919)) (f2 opIdx (fVar 0) (fC (.int 2)))))) (gSeq (gPut (f2 opMod (fCall cInt (fCons (fVar 3) (fNil))) (fC (.int 2147483647))) (fVar 0) (fC (.int 1))) (gNx)))))) (gNx)) b_take2 := rfl
      generalize hg : (gIf (fB (f2 opGe (fVar 2) (f2 opPow (fC (.int 10)) (fC (.int 18))))) (gSeq (gPut (fVar 2) (fVar 0) (fC (.int 0))) (gNx)) (gNx)) = gg at e3 first
      rw [first]
      have eqz : ∀ st : St, opEq (.int 0) (.int 0) st = .ok (.bl true) st := fun st => by simp [opEq, eqD, eqS]
      have rf : refOf st1 (.ref i) = some (i, bagO 0 b1 b2 cs) := by simp [refOf, e1]
      have a2 : atI (bagO 0 b1 b2 cs) 2 = some (.int b2) := by simp [bagO, atI, ixN]
      have hl2 : (cut cs (some b2) none).length + 1 ≤ 16777216 := by omega
      subst es2
      have ix : ∀ st : St, opIdx (.lst ((cut cs (some b2) none).map D.int ++ [D.int 0])) (.int 0) st = .ok (.int c) st := fun st => by simp [opIdx, seqOf, lstOf, ec]
      have sl : opSlc (.lst (cs.map .int)) (some b2) none st1 = .ok (.lst ((cut cs (some b2) none).map .int)) st1 := by simp [opSlc, lqOf, lstOf, hcs]
      have m2 : ∀ x : Int, cMod x many = true := fun x => by simp [cMod, h0]
      simp [gSeq, gIf, fB, f2, fVar, fC, i0, i1, i2, i3, eqz, gSet, fSlc, fPart, fNoP, fLst, fCons, fNil, sl, lstOf, opAdd, hl2, ix, gAugPut, rf, a2, w2, e3, j0, j1, j2, j3, opMul, g1, g2, opI, m1, fCall, cInt, gPut, ← hs', w1, gNx, r1]
      simp [es3]
    · have eqz : ∀ st : St, opEq (.int b0) (.int 0) st = .ok (.bl false) st := fun st => by simp [opEq, eqD, eqS, hb]
      obtain ⟨d, o, r1, r2, r3, r4⟩ := take2_ok (st := st1) (many := many) (y := none) (z := none) (by rw [eo]; exact B) h0 h1
      refine ⟨d, o, ?_, r2, r3, by
        obtain ⟨b0, b1, b2, cs, e, p0, p1, p2, p3, p4, p5, p6⟩ := r4.ex
        exact ⟨b0, b1, b2, cs, by rw [← eo]; exact e, p0, p1, p2, p3, by push_cast; omega, p5, p6⟩⟩
      have first : b_take = gSeq (gIf (fB (f2 opEq (f2 opIdx (fVar 0) (fC (.int 0))) (fC (.int 0)))) (gSeq (gSet 2 (f2 opIdx (f2 opAdd (fSlc (f2 opIdx (fVar 0) (fC (.int 3))) (fPart (f2 opIdx (fVar 0) (fC (.int 2)))) (fNoP)) (fLst (fCons (fC (.int 0)) (fNil)))) (fC (.int 0)))) (gSeq (gAugPut (fun x y => x + y) (fVar 0) (fC (.int 2)) (fC (.int 1))) (gSeq (gIf (fB (f2 opGe (fVar 2) (f2 opPow (fC (.int 10)) (fC (.int 18))))) (gSeq (gPut (fVar 2) (fVar 0) (fC (.int 0))) (gNx)) (gNx)) (gSeq (gSet 3 (f2 opAdd (f2 opAdd (f2 opMul (f2 opIdx (fVar 0) (fC (.int 1))) (fC (.int 48271))) (f2 opMod (fCall cInt (fCons (fVar 2) (fNil))) (fC (.int 2147483647)))) (f2 opMul (fC (.int 7919)) (f2 opIdx (fVar 0) (fC (.int 2)))))) (gSeq (gPut (f2 opMod (fCall cInt (fCons (fVar 3) (fNil))) (fC (.int 2147483647))) (fVar 0) (fC (.int 1))) (gNx)))))) (gNx)) b_take2 := rfl
      rw [first]
      unfold gSeq gIf
      simp [fB, f2, fVar, fC, i0, eqz, gNx, r1, eo, ef]
  obtain ⟨d, o, r1, r2, r3, r4⟩ := key
  refine ⟨d, o, ?_, r2, r3, r4⟩
  have z := run_end (n := 7) (b := b_take) (ds := [.ref i, .int many]) (st := st) r1 rfl
  rw [z]
  simp [List.take_of_length_le]
end MP

set_option maxRecDepth 100000
set_option maxHeartbeats 1000000
/-! MR4: texts, comprehensions, lists of the store. -/
namespace MP
open PySem L2

theorem atI_nat {α : Type} {t : List α} {e : Nat} (h : e < t.length) : atI t (e : Int) = t[e]? := by
  unfold atI ixN
  simp [h]
theorem atI_zero {α : Type} {x : α} {t : List α} : atI (x :: t) 0 = some x := by
  rw [show (0 : Int) = ((0 : Nat) : Int) from rfl, atI_nat (by simp)]; rfl
theorem atI_last {α : Type} {x : α} {t : List α} : atI (t ++ [x]) (-1) = some x := by
  simp [atI, ixN]
  rw [show ((-1 : Int) + ((t.length : Int) + 1)).toNat = t.length from by omega, if_pos (by omega)]
  exact List.getElem?_concat_length
theorem sIx_none (n d : Nat) : HT.sIx n d none = d := rfl
theorem sIx_some {n d : Nat} {k : Nat} : HT.sIx n d (some (k : Int)) = min k n := HT.sIx_nat n d k
theorem cut_nat {α : Type} {t : List α} {i j : Nat} (h1 : i ≤ j) (h2 : j ≤ t.length) : cut t (some (i : Int)) (some (j : Int)) = (t.drop i).take (j - i) := by
  unfold cut
  rw [sIx_some, sIx_some, Nat.min_eq_left h2, Nat.min_eq_left (by omega)]
theorem cut_init {α : Type} {t : List α} {x : α} : cut (t ++ [x]) none (some (-1)) = t := by
  unfold cut
  simp [HT.sIx]
  rw [show ((-1 : Int) + ((t.length : Int) + 1)).toNat = t.length from by omega]
  simp
/-- a sign of a text -/
theorem opIdx_str {t : List Nat} {e : Nat} {st : St} (ht : t.length ≤ 16777216) (h : e < t.length) : opIdx (.str t) (.int (e : Int)) st = .ok (.str [t[e]]) st := by
  simp [opIdx, ht, atI_nat h, h]
theorem opIdx_str0 {c : Nat} {t : List Nat} {st : St} (ht : (c :: t).length ≤ 16777216) : opIdx (.str (c :: t)) (.int 0) st = .ok (.str [c]) st := by
  unfold opIdx
  simp only [ht, if_true, atI_zero]
theorem cLen_str {t : List Nat} {st : St} (ht : t.length ≤ 16777216) : cLen [.str t] st = .ok (.int t.length) st := by
  simp [cLen, ht]
/-- == of texts, of ints -/
theorem opEq_str {a b : List Nat} {st : St} : opEq (.str a) (.str b) st = .ok (.bl (decide (a = b))) st := by simp [opEq, eqD, eqS]
theorem opNe_str {a b : List Nat} {st : St} : opNe (.str a) (.str b) st = .ok (.bl !(decide (a = b))) st := by simp [opNe, eqD, eqS]
theorem opEq_int {a b : Int} {st : St} : opEq (.int a) (.int b) st = .ok (.bl (decide (a = b))) st := by simp [opEq, eqD, eqS]
theorem opNe_int {a b : Int} {st : St} : opNe (.int a) (.int b) st = .ok (.bl !(decide (a = b))) st := by simp [opNe, eqD, eqS]
/-- in: a text among texts -/
theorem inD_strs {r : List Nat} {L : List (List Nat)} {st : St} {y : D} (h : seqOf st y = some (L.map .str)) (hy : ∀ z, y ≠ .str z) : inD st (.str r) y = some (L.contains r) := by
  have h1 : (L.map D.str).all flat = true := by simp [List.all_eq_true, flat]
  have h2 : ((L.map D.str).any fun y => eqF y (.str r)) = L.contains r := by
    rw [List.any_map, List.contains_eq_any_beq]
    congr 1
    funext x
    show (x == r) = (r == x)
    exact BEq.comm
  unfold inD
  split
  · exact absurd rfl (hy _)
  · rw [h]
    simp only [flat, h1, and_self, if_true, h2]
theorem opIn_tup {r : List Nat} {L : List (List Nat)} {st : St} : opIn (.str r) (.tup (L.map .str)) st = .ok (.bl (L.contains r)) st := by
  unfold opIn; rw [inD_strs (L := L) rfl (fun z => by simp)]
theorem opNotIn_tup {r : List Nat} {L : List (List Nat)} {st : St} : opNotIn (.str r) (.tup (L.map .str)) st = .ok (.bl !(L.contains r)) st := by
  unfold opNotIn; rw [inD_strs (L := L) rfl (fun z => by simp)]
theorem opIn_lst {r : List Nat} {L : List (List Nat)} {st : St} : opIn (.str r) (.lst (L.map .str)) st = .ok (.bl (L.contains r)) st := by
  unfold opIn; rw [inD_strs (L := L) rfl (fun z => by simp)]
theorem opIn_sign {c : Nat} {z : List Nat} {st : St} : opIn (.str [c]) (.str z) st = .ok (.bl (decide (c ∈ z))) st := rfl
theorem opNotIn_sign {c : Nat} {z : List Nat} {st : St} : opNotIn (.str [c]) (.str z) st = .ok (.bl !(decide (c ∈ z))) st := rfl
/-- a comprehension that draws nothing and changes nothing -/
theorem lc_pure {tg : Tgt} {cd : Env → St → Out Bool} {el : Env → St → Out D} {ρ : Env} {st : St} {p : D → Bool} {f : D → D} : ∀ (ds acc : List D), (∀ d ∈ ds, ∃ ρ1, tg d ρ = some ρ1 ∧ cd ρ1 st = .ok (p d) st ∧ (p d = true → el ρ1 st = .ok (f d) st)) → acc.length + ds.length ≤ 16777216 →
    lcLoop tg cd el ρ ds acc st = .ok (acc ++ (ds.filter p).map f) st
  | [], acc, _, _ => by simp [lcLoop]
  | d :: ds, acc, h, hl => by
    obtain ⟨ρ1, e1, e2, e3⟩ := h d List.mem_cons_self
    have r := fun acc hl => lc_pure (tg := tg) (cd := cd) (el := el) (ρ := ρ) (st := st) (p := p) (f := f) ds acc (fun d hd => h d (List.mem_cons_of_mem _ hd)) hl
    simp only [List.length_cons] at hl
    unfold lcLoop
    simp only [e1, e2, Out.calm, Out.bind_ok]
    cases hp : p d with
    | true =>
      rw [if_pos rfl, e3 hp]
      simp only [Out.calm, Out.bind_ok]
      rw [if_pos (by omega), r _ (by simp; omega)]
      simp [hp]
    | false =>
      rw [if_neg (by decide), r _ (by omega)]
      simp [hp]
/-- over the signs of a text, one name, no store -/
theorem lc_signs {s : List Nat} {k : Nat} {cd : Env → St → Out Bool} {el : Env → St → Out D} {ρ : Env} {st : St} {fi : Env → St → Out (List D)} (p : Nat → Bool) (f : Nat → D) (hi : fi ρ st = .ok (s.map fun c => .str [c]) st)
    (hc : ∀ c ∈ s, cd ((wipeE ρ [k]).set k (some (.str [c]))) st = .ok (p c) st) (he : ∀ c ∈ s, p c = true → el ((wipeE ρ [k]).set k (some (.str [c]))) st = .ok (f c) st) (hl : s.length ≤ 16777216) :
    fLcL (fLc fi (tgName k) cd el [k]) ρ st = .ok (.lst ((s.filter p).map f)) st := by
  unfold fLcL fLc
  rw [hi]
  simp only [Out.bind_ok]
  have un : ∀ c : Nat, ∃ x : Nat, (D.str [c]) = .str [x] ∧ x = c := fun c => ⟨c, rfl, rfl⟩
  have z := lc_pure (tg := tgName k) (cd := cd) (el := el) (ρ := wipeE ρ [k]) (st := st) (p := fun d => match d with | .str [c] => p c | _ => false) (f := fun d => match d with | .str [c] => f c | _ => .non) (s.map fun c => .str [c]) [] (fun d hd => by
    obtain ⟨c, hc', rfl⟩ := List.mem_map.mp hd
    exact ⟨_, rfl, hc c hc', he c hc'⟩) (by simpa using hl)
  rw [z]
  simp only [Out.bind_ok, List.nil_append]
  congr 2
  clear z hc he hi hl un
  induction s with
  | nil => rfl
  | cons c s ih =>
    simp only [List.map_cons, List.filter_cons]
    by_cases hp : p c = true
    · rw [if_pos hp, if_pos hp, List.map_cons, List.map_cons, ih]
    · rw [if_neg hp, if_neg hp, ih]
mutual
theorem nr_lo (n : Nat) : ∀ d : D, d.nr = true → d.lo n = true
  | .non, _ => rfl
  | .bl _, _ => rfl
  | .int _, _ => rfl
  | .str _, _ => rfl
  | .tup ds, h => nrs_los n ds (by simpa [D.nr] using h)
  | .lst ds, h => nrs_los n ds (by simpa [D.nr] using h)
  | .lsk ds, h => nrs_los n ds (by simpa [D.nr] using h)
  | .ref _, h => by simp [D.nr] at h
  | .xo _ _ _ ds, h => nrs_los n ds (by simpa [D.nr] using h)
theorem nrs_los (n : Nat) : ∀ ds : List D, D.nrs ds = true → D.los n ds = true
  | [], _ => rfl
  | d :: ds, h => by
    simp only [D.nrs, Bool.and_eq_true] at h
    simp [D.los, nr_lo n d h.1, nrs_los n ds h.2]
end
theorem nrs_append {a b : List D} : D.nrs (a ++ b) = (D.nrs a && D.nrs b) := by
  induction a with
  | nil => simp [D.nrs]
  | cons x xs ih => simp [D.nrs, ih, Bool.and_assoc]
theorem put_nrs {st : St} {i : Nat} {ds : List D} (h : D.nrs ds = true) : st.put i (.lst ds) = { objs := st.objs.set i (.lst ds), fls := st.fls } := by
  unfold St.put
  congr 1
  conv => rhs; rw [← List.map_id st.fls]
  refine List.map_congr_left fun p hp => ?_
  simp [O.lo, nrs_los p.1 ds h]
/-- append at the last object -/
theorem append_last {os : List O} {fl : List (Nat × Bool)} {acc : List D} {y : D} (h : D.nrs (acc ++ [y]) = true) (hl : acc.length < 16777216) :
    mAppend (.ref os.length) [y] ⟨os ++ [.lst acc], fl⟩ = .ok .non ⟨os ++ [.lst (acc ++ [y])], fl⟩ := by
  simp only [mAppend, refOf, List.getElem?_concat_length, hl, if_true, put_nrs h]
  simp
end MP

set_option maxRecDepth 100000
set_option maxHeartbeats 1000000
/-! MR5: the bag, what is drawn from a list. -/
namespace MP
open PySem L2

def b_bag : Env → St → SO := gSeq (gRet (fBox (fCons (fC (.int 0)) (fCons (fC (.int 1234567891)) (fCons (fC (.int 0)) (fCons (fLcL (fLc (fIt (fSlc (fVar 0) (fNoP) (fPart (fC (.int 63))))) (tgName 1) (fun _ st => .ok true st) (fCall cAbs (fCons (fVar 1) (fNil))) [1])) (fNil))))))) (gNx)
theorem sIx_le {n d : Nat} {o : Option Int} (h : d ≤ n) : HT.sIx n d o ≤ n ∨ True := .inr trivial
theorem bag_ok {ns : List Int} (h : ns.length ≤ 63) (st : St) : ∃ o, runF true 2 b_bag [.lsk (ns.map D.int)] st = .ok (.ref st.objs.length) { objs := st.objs ++ [o], fls := st.fls } ∧ Bag (st.objs ++ [o]) st.objs.length 0 := by
  obtain ⟨cs, hcs⟩ : ∃ cs, cs = cut ns none (some 63) := ⟨_, rfl⟩
  have hlen : cs.length ≤ 63 := by rw [hcs]; simp only [cut, List.length_take, List.length_drop]; omega
  refine ⟨.lst (bagO 0 1234567891 0 (cs.map fun c => (c.natAbs : Int))), ?_, ⟨0, 1234567891, 0, cs.map fun c => (c.natAbs : Int), by simp, by decide, by decide, by decide, by decide, by decide, fun c hc => ?_, by rw [List.length_map]; omega⟩⟩
  · have hit : (fIt (fSlc (fVar 0) (fNoP) (fPart (fC (.int 63))))) [some (.lsk (ns.map D.int)), none] (enter st) = .ok (cs.map .int) (enter st) := by
      simp [fIt, fSlc, fVar, fNoP, fPart, fC, opSlc, lqOf, itemsOf, cut_ints, hcs]
    have z := lc_pure (tg := tgName 1) (cd := fun _ st => .ok true st) (el := fCall cAbs (fCons (fVar 1) (fNil))) (ρ := wipeE [some (.lsk (ns.map D.int)), none] [1]) (st := enter st) (p := fun _ => true) (f := fun d => match d with | .int c => .int c.natAbs | _ => .non) (cs.map .int) [] (fun d hd => by
      obtain ⟨c, _, rfl⟩ := List.mem_map.mp hd
      exact ⟨_, rfl, rfl, fun _ => by simp [wipeE, fCall, fCons, fVar, fNil, cAbs]⟩) (by simp; omega)
    have lc : (fLcL (fLc (fIt (fSlc (fVar 0) (fNoP) (fPart (fC (.int 63))))) (tgName 1) (fun _ st => .ok true st) (fCall cAbs (fCons (fVar 1) (fNil))) [1])) [some (.lsk (ns.map D.int)), none] (enter st) = .ok (.lst ((cs.map fun c => (c.natAbs : Int)).map .int)) (enter st) := by
      unfold fLcL fLc
      rw [hit, Out.bind_ok, z]
      simp [List.filter_eq_self.mpr, Function.comp_def]
    have hb : D.nrs (bagO 0 1234567891 0 (cs.map fun c => (c.natAbs : Int))) = true := by
      have : D.nrs ((cs.map fun c => (c.natAbs : Int)).map D.int) = true := by
        generalize cs.map (fun c => (c.natAbs : Int)) = l
        induction l with
        | nil => rfl
        | cons x l ih => simpa [D.nrs, D.nr] using ih
      simp only [bagO, D.nrs, D.nr, this, Bool.and_true]
    unfold runF b_bag
    have e0 : List.map some [D.lsk (ns.map D.int)] ++ List.replicate (2 - [D.lsk (ns.map D.int)].length) none = [some (.lsk (ns.map D.int)), none] := rfl
    rw [e0]
    simp only [gSeq, gRet, fBox, fCons, fC, Out.bind_ok, lc, fNil]
    simp only [List.length_cons, List.length_nil, show 0 + 1 + 1 + 1 + 1 ≤ 16777216 by decide, if_true, Out.toS_ok, SO.seq_ret]
    unfold ended leave thaw
    simp [enter, St.push, bagO, D.lo]
    split <;> rfl
  · obtain ⟨x, _, rfl⟩ := List.mem_map.mp hc
    exact Int.natCast_nonneg _
def b_some : Env → St → SO := gSeq (gRet (f2 opIdx (fVar 1) (fDef 2 (runF false 7 b_take) (fCons (fVar 0) (fCons (fCall cLen (fCons (fVar 1) (fNil))) (fNil)))))) (gNx)
theorem some_ok {st : St} {i n : Nat} {ds : List D} {x : D} (hx : x = .lst ds ∨ x = .tup ds) (B : Bag st.objs i n) (hn : n < 2 ^ 64) (h0 : ds ≠ []) (hl : ds.length ≤ 16777216) (hr : D.nrs ds = true) :
    ∃ (d : D) (o : O), d ∈ ds ∧ runF false 2 b_some [.ref i, x] st = .ok d { objs := st.objs.set i o, fls := st.fls } ∧ Bag (st.objs.set i o) i (n + 1) := by
  have hp : 0 < ds.length := List.length_pos_iff.mpr h0
  obtain ⟨k, o, e, k0, k1, B'⟩ := take_ok (st := enter st) (i := i) (n := n) (many := (ds.length : Int)) B hn (by omega) (Int.lt_of_le_of_lt (show (ds.length : Int) ≤ 16777216 by omega) (by decide))
  obtain ⟨j, rfl⟩ : ∃ j : Nat, k = (j : Int) := ⟨k.toNat, by omega⟩
  have hj : j < ds.length := by omega
  have nr : ∀ d ∈ ds, d.nr = true := by
    intro d hd
    clear e B' k1 k0 hj hp h0 hl hx
    induction ds with
    | nil => cases hd
    | cons y ys ih =>
      simp only [D.nrs, Bool.and_eq_true] at hr
      rcases List.mem_cons.mp hd with rfl | hd
      · exact hr.1
      · exact ih hr.2 hd
  have ix : ∀ st : St, opIdx x (.int (j : Int)) st = .ok ds[j] st := fun st => by
    rcases hx with rfl | rfl
    · simp [opIdx, seqOf, lstOf, atI_nat hj, hj]
    · simp [opIdx, seqOf, atI_nat hj, hj]
  have ln : ∀ st : St, cLen [x] st = .ok (.int (ds.length : Int)) st := fun st => by
    rcases hx with rfl | rfl <;> rfl
  refine ⟨ds[j], o, List.getElem_mem hj, ?_, B'⟩
  have z := run_end (n := 2) (b := b_some) (ds := [.ref i, x]) (st := st) (d := ds[j]) (objs := st.objs.set i o) (by
    simp [b_some, gSeq, gRet, f2, fVar, fDef, fCons, fNil, fCall, ln, e, ix]
    exact ⟨rfl, rfl⟩) (nr_lo _ _ (nr _ (List.getElem_mem hj)))
  rw [z]
  simp [List.take_of_length_le]
end MP

set_option maxRecDepth 100000
set_option maxHeartbeats 4000000
namespace K02
open PySem PySem.Spec PyProof.Rows L2 MP
abbrev D := MP.D
abbrev St := MP.St
abbrev Env := MP.Env
def top (i : Nat) : Stmt := PySem.Challenge.pw_mostwebs_k02_tokens_with_their_places.main.body.getD i (.Pass ⟨0, 0, 0, 0⟩)
abbrev d_DIGITS : D := .str [48, 49, 50, 51, 52, 53, 54, 55, 56, 57]
abbrev d_LETTERS : D := .str [97, 98, 99, 100, 101, 102, 103, 104, 105, 106, 107, 108, 109, 110, 111, 112, 113, 114, 115, 116, 117, 118, 119, 120, 121, 122]
abbrev d_MOST_FIGURES : D := .int 4
abbrev d_MOST_LETTERS : D := .int 8
abbrev d_MOST_SIGNS : D := .int 20000
abbrev d_RESERVED : List D := [.str [97, 108, 108], .str [97, 110, 100], .str [97, 110, 115, 119, 101, 114], .str [98, 97, 99, 107], .str [98, 111, 116, 104], .str [99, 111, 108, 111, 117, 114], .str [101, 108, 115, 101], .str [101, 110, 100], .str [105, 102], .str [105, 110], .str [105, 115], .str [107, 105, 110, 100], .str [109, 101, 110, 117], .str [110, 111, 110, 101], .str [110, 111, 116], .str [111, 102], .str [111, 110], .str [111, 110, 101], .str [111, 114], .str [111, 118, 101, 114], .str [112, 108, 97, 99, 101, 115], .str [112, 114, 111, 103, 114, 97, 109], .str [114, 101, 108, 97, 116, 105, 111, 110], .str [115, 97, 109, 101], .str [115, 101, 116], .str [115, 104, 97, 114, 101], .str [115, 111, 109, 101], .str [115, 116, 105, 108, 108], .str [116, 105, 101], .str [116, 111], .str [119, 97, 121, 115], .str [119, 101, 98], .str [119, 104, 105, 108, 101], .str [119, 105, 116, 104], .str [120], .str [121], .str [121, 101, 115], .str [122]]
structure Vv where
  f_end_of_run : Addr
  f_is_figures : Addr
  f_is_name : Addr
  f_run_token : Addr
  f_token_at : Addr
  f_tokens : Addr
  f__law_words : Addr
  f__law_is_name : Addr
  f__law_bag : Addr
  f__law_take : Addr
  f__law_some : Addr
  f__law_alike : Addr
  f__law_run : Addr
  f__law_tokens : Addr
  f__law_heard : Addr
  f_law : Addr
  u_DIGITS : Value
  u_LETTERS : Value
  u_MOST_FIGURES : Value
  u_MOST_LETTERS : Value
  u_MOST_SIGNS : Value
  a_RESERVED : Addr
  dd_RESERVED : Option Addr
  us_RESERVED : List Value
  n_RESERVED : Nat
  sl_RESERVED : Array (Option Value)
  c_BadText : Addr
  c_BadKind : Addr
  c_BadWeb : Addr
  c_BadProgram : Addr
  c_NoCommand : Addr
  c_Nothing : Addr
  c_TooLarge : Addr
  i_TooLarge : Addr
  D_TooLarge : Addr
structure TX (K : PySem.W.Frag) (mg : Str → Option Value) (v : Vv) (S : Se) : Prop where
  g_end_of_run : mg "end_of_run" = some (.ref v.f_end_of_run)
  kf_end_of_run : PySem.W.keepIn K (.ref v.f_end_of_run) = true
  g_is_figures : mg "is_figures" = some (.ref v.f_is_figures)
  kf_is_figures : PySem.W.keepIn K (.ref v.f_is_figures) = true
  g_is_name : mg "is_name" = some (.ref v.f_is_name)
  kf_is_name : PySem.W.keepIn K (.ref v.f_is_name) = true
  g_run_token : mg "run_token" = some (.ref v.f_run_token)
  kf_run_token : PySem.W.keepIn K (.ref v.f_run_token) = true
  g_token_at : mg "token_at" = some (.ref v.f_token_at)
  kf_token_at : PySem.W.keepIn K (.ref v.f_token_at) = true
  g_tokens : mg "tokens" = some (.ref v.f_tokens)
  kf_tokens : PySem.W.keepIn K (.ref v.f_tokens) = true
  g__law_words : mg "_law_words" = some (.ref v.f__law_words)
  kf__law_words : PySem.W.keepIn K (.ref v.f__law_words) = true
  g__law_is_name : mg "_law_is_name" = some (.ref v.f__law_is_name)
  kf__law_is_name : PySem.W.keepIn K (.ref v.f__law_is_name) = true
  g__law_bag : mg "_law_bag" = some (.ref v.f__law_bag)
  kf__law_bag : PySem.W.keepIn K (.ref v.f__law_bag) = true
  g__law_take : mg "_law_take" = some (.ref v.f__law_take)
  kf__law_take : PySem.W.keepIn K (.ref v.f__law_take) = true
  g__law_some : mg "_law_some" = some (.ref v.f__law_some)
  kf__law_some : PySem.W.keepIn K (.ref v.f__law_some) = true
  g__law_alike : mg "_law_alike" = some (.ref v.f__law_alike)
  kf__law_alike : PySem.W.keepIn K (.ref v.f__law_alike) = true
  g__law_run : mg "_law_run" = some (.ref v.f__law_run)
  kf__law_run : PySem.W.keepIn K (.ref v.f__law_run) = true
  g__law_tokens : mg "_law_tokens" = some (.ref v.f__law_tokens)
  kf__law_tokens : PySem.W.keepIn K (.ref v.f__law_tokens) = true
  g__law_heard : mg "_law_heard" = some (.ref v.f__law_heard)
  kf__law_heard : PySem.W.keepIn K (.ref v.f__law_heard) = true
  g_law : mg "law" = some (.ref v.f_law)
  kf_law : PySem.W.keepIn K (.ref v.f_law) = true
  c_DIGITS : mg "DIGITS" = some v.u_DIGITS
  d_DIGITS : atomD v.u_DIGITS = some d_DIGITS
  c_LETTERS : mg "LETTERS" = some v.u_LETTERS
  d_LETTERS : atomD v.u_LETTERS = some d_LETTERS
  c_MOST_FIGURES : mg "MOST_FIGURES" = some v.u_MOST_FIGURES
  d_MOST_FIGURES : atomD v.u_MOST_FIGURES = some d_MOST_FIGURES
  c_MOST_LETTERS : mg "MOST_LETTERS" = some v.u_MOST_LETTERS
  d_MOST_LETTERS : atomD v.u_MOST_LETTERS = some d_MOST_LETTERS
  c_MOST_SIGNS : mg "MOST_SIGNS" = some v.u_MOST_SIGNS
  d_MOST_SIGNS : atomD v.u_MOST_SIGNS = some d_MOST_SIGNS
  c_RESERVED : mg "RESERVED" = some (.ref v.a_RESERVED)
  k_RESERVED : K.lookup v.a_RESERVED = some ⟨.type "tuple", v.dd_RESERVED, .seq v.us_RESERVED.toArray v.n_RESERVED, v.sl_RESERVED⟩
  d_RESERVED : atomsD v.us_RESERVED = some d_RESERVED
  l_RESERVED : v.us_RESERVED.length ≤ 16777216
  n_abs : mg "abs" = none
  n_all : mg "all" = none
  n_int : mg "int" = none
  n_isinstance : mg "isinstance" = none
  n_len : mg "len" = none
  n_range : mg "range" = none
  n_repr : mg "repr" = none
  n_str : mg "str" = none
  n_tuple : mg "tuple" = none
  g_BadText : mg "BadText" = some (.ref v.c_BadText)
  at_BadText : S.g.at_ 0 = v.c_BadText
  fs_BadText : S.g.fs 0 = (["line", "column"] : List Str)
  g_BadKind : mg "BadKind" = some (.ref v.c_BadKind)
  at_BadKind : S.g.at_ 1 = v.c_BadKind
  fs_BadKind : S.g.fs 1 = (["where", "fault"] : List Str)
  g_BadWeb : mg "BadWeb" = some (.ref v.c_BadWeb)
  at_BadWeb : S.g.at_ 2 = v.c_BadWeb
  fs_BadWeb : S.g.fs 2 = (["where", "fault"] : List Str)
  g_BadProgram : mg "BadProgram" = some (.ref v.c_BadProgram)
  at_BadProgram : S.g.at_ 3 = v.c_BadProgram
  fs_BadProgram : S.g.fs 3 = (["where", "fault"] : List Str)
  g_NoCommand : mg "NoCommand" = some (.ref v.c_NoCommand)
  at_NoCommand : S.g.at_ 4 = v.c_NoCommand
  fs_NoCommand : S.g.fs 4 = (["line"] : List Str)
  g_Nothing : mg "Nothing" = some (.ref v.c_Nothing)
  at_Nothing : S.g.at_ 5 = v.c_Nothing
  fs_Nothing : S.g.fs 5 = ([] : List Str)
  g_TooLarge : mg "TooLarge" = some (.ref v.c_TooLarge)
  at_TooLarge : S.g.at_ 6 = v.c_TooLarge
  fs_TooLarge : S.g.fs 6 = (["what", "limit"] : List Str)
  xm : ∀ c, c < 7 → ∀ d, d < 7 → PySem.W.exmOne K (.ref (S.g.at_ c)) (.ref (S.g.at_ d)) = some (decide (c = d))
  xf_TooLarge : XfC K (S.g.at_ 6)
  no_TooLarge_what : PySem.W.findIn K (.ref (S.g.at_ 6)) "what" = some none
  no_TooLarge_limit : PySem.W.findIn K (.ref (S.g.at_ 6)) "limit" = some none
  x_Nothing : PySem.W.excIn K v.c_Nothing ([.type "ValueError", .type "Exception", .type "BaseException", .type "object"]) "ValueError.__new__" = true
  kp_Nothing : PySem.W.keepIn K (.ref v.c_Nothing) = true
  sb_Nothing : PySem.W.subIn K (.ref v.c_Nothing) (.type "BaseException") = some true
  tb_Nothing : PySem.W.typeIn K (.ref v.c_Nothing) = some (.type "type")
  ic_TooLarge : InitC K v.c_TooLarge v.D_TooLarge ["what", "limit"]
  fi_TooLarge : PySem.W.findIn K (.ref v.c_TooLarge) "__init__" = some (some (.ref v.i_TooLarge))
  ti_TooLarge : PySem.W.typeIn K (.ref v.i_TooLarge) = some (.type "function")
section
variable {P : Program} {w : World} {K : PySem.W.Frag} {mg : Str → Option Value} {base : Heap} {v : Vv} {S : Se}
abbrev st_end_of_run : Stmt := top 20
abbrev N_end_of_run : List Str := ["text", "begin", "end"]
def b_end_of_run : Env → St → SO := gSeq (gSet 2 (fVar 1)) (gSeq (gWhile (fun _ _ => 1000000) (fAndT (fB (f2 opLt (fVar 2) (fCall cLen (fCons (fVar 0) (fNil))))) (fB (f2 opIn (f2 opIdx (fVar 0) (fVar 2)) (f2 opAdd (fC d_LETTERS) (fC d_DIGITS))))) (gSeq (gSet 2 (f2 opAdd (fVar 2) (fC (.int 1)))) (gNx))) (gSeq (gRet (fVar 2)) (gNx)))
def h_end_of_run : List D → St → Out D := runF false 3 b_end_of_run
theorem sc_end_of_run : FnScope N_end_of_run ["text", "begin"] (defScope st_end_of_run) := ⟨rfl, rfl, rfl, by decide +kernel, rfl, by decide +kernel, by decide +kernel⟩
theorem w_end_of_run (T : TX K mg v S)  {f : Addr} {fd : FuncData} (F : L2.Fun K "end_of_run" "end_of_run" st_end_of_run f fd) : FnG P w K mg base false 1 f fd ["text", "begin"] (spD S K 2 h_end_of_run) :=
  have SC := sc_end_of_run
  funG (kp := false) (b := b_end_of_run) (N := N_end_of_run) (ps := ["text", "begin"]) F SC fun cdv A fr s H E hg hr => ss_cons (s_set (i := 2) SC.nd rfl (.inl rfl) (s_var (i := 1) rfl (.inl rfl) rfl rfl) rfl (.inl rfl)) (ss_cons (s_while (passes_of rfl) (PW.pt (s_andT (s_cmpT o_lt rfl (s_var (i := 2) rfl (.inl rfl) rfl rfl) (s_callB o_len rfl T.n_len (by kernel_rfl) (s_cons (s_var (i := 0) rfl (.inl rfl) rfl rfl) (s_nil) rfl) (by decide) (by decide) rfl rfl)) (pw_and1 (s_cmpT o_in rfl (s_idx (fun _ _ => rfl) (s_var (i := 0) rfl (.inl rfl) rfl rfl) (s_var (i := 2) rfl (.inl rfl) rfl rfl)) (s_bin o_add (s_gatom rfl T.c_LETTERS T.d_LETTERS) (s_gatom rfl T.c_DIGITS T.d_DIGITS)))))) (ss_cons (s_set (i := 2) SC.nd rfl (.inl rfl) (s_bin o_add (s_var (i := 2) rfl (.inl rfl) rfl rfl) (s_int)) rfl (.inl rfl)) (ss_nil))) (ss_cons (s_ret (s_var (i := 2) rfl (.inl rfl) rfl rfl)) (ss_nil)))
abbrev st_is_figures : Stmt := top 21
abbrev N_is_figures : List Str := ["run", "most", "sign"]
def b_is_figures : Env → St → SO := gSeq (gIf (fOrT (fNotT (fB (fCall (cBls fun bs => bs.all id) (fCons (fLcL (fLc (fIt (fVar 0)) (tgName 2) (fun _ st => .ok true st) (f2 opIn (fVar 2) (fC d_DIGITS)) [2])) (fNil))))) (fNotT (fB (fChain opLe opLe (fC (.int 1)) (fCall cLen (fCons (fVar 0) (fNil))) (fVar 1))))) (gSeq (gRet (fC (.bl false))) (gNx)) (gNx)) (gSeq (gRet (fOr (f2 opEq (fVar 0) (fC (.str [48]))) (f2 opNe (f2 opIdx (fVar 0) (fC (.int 0))) (fC (.str [48]))))) (gNx))
def h_is_figures : List D → St → Out D := runF false 3 b_is_figures
theorem sc_is_figures : FnScope N_is_figures ["run", "most"] (defScope st_is_figures) := ⟨rfl, rfl, rfl, by decide +kernel, rfl, by decide +kernel, by decide +kernel⟩
theorem w_is_figures (T : TX K mg v S)  {f : Addr} {fd : FuncData} (F : L2.Fun K "is_figures" "is_figures" st_is_figures f fd) : FnG P w K mg base false 1 f fd ["run", "most"] (spD S K 2 h_is_figures) :=
  have SC := sc_is_figures
  funG (kp := false) (b := b_is_figures) (N := N_is_figures) (ps := ["run", "most"]) F SC fun cdv A fr s H E hg hr => ss_cons (s_iff (PW.pt (s_orT (s_notT (s_val (s_callB (o_all rfl) rfl T.n_all (by kernel_rfl) (s_cons (s_lc (own := [("sign", 2)]) rfl SC.nd (s_it (s_var (i := 0) rfl (.inl rfl) rfl rfl)) (blkOk_by (N := N_is_figures) (sc := defScope st_is_figures) (by decide +kernel)) (by decide) (fun _ _ _ _ _ => t_name SC.nd rfl (.inl rfl) (.inr rfl)) (fun _ _ _ _ _ => s_yes) (fun _ _ _ _ _ => s_cmp o_in rfl (s_var (i := 2) rfl (.inl rfl) rfl rfl) (s_gatom rfl T.c_DIGITS T.d_DIGITS)) (fun _ => rfl)) (s_nil) rfl) (by decide) (by decide) rfl rfl) (fun _ => rfl))) (pw_or1 (s_notT (s_chainT o_le o_le rfl (s_int) (s_callB o_len rfl T.n_len (by kernel_rfl) (s_cons (s_var (i := 0) rfl (.inl rfl) rfl rfl) (s_nil) rfl) (by decide) (by decide) rfl rfl) (s_var (i := 1) rfl (.inl rfl) rfl rfl)))))) (ss_cons (s_ret (s_bl)) (ss_nil)) (ss_nil)) (ss_cons (s_ret (s_or (s_cmp (o_eq hr.units) rfl (s_var (i := 0) rfl (.inl rfl) rfl rfl) (s_strL (by decide +kernel))) (pe_one (s_cmp (o_ne hr.units) rfl (s_idx (fun _ _ => rfl) (s_var (i := 0) rfl (.inl rfl) rfl rfl) (s_int)) (s_strL (by decide +kernel)))))) (ss_nil))
abbrev st_is_name : Stmt := top 16
abbrev N_is_name : List Str := ["thing", "sign"]
def b_is_name : Env → St → SO := gSeq (gIf (fOrT (fNotT (fB (fIsi (tabT "str") (fVar 0)))) (fOrT (fNotT (fB (fChain opLe opLe (fC (.int 1)) (fCall cLen (fCons (fVar 0) (fNil))) (fC d_MOST_LETTERS)))) (fB (f2 opNotIn (f2 opIdx (fVar 0) (fC (.int 0))) (fC d_LETTERS))))) (gSeq (gRet (fC (.bl false))) (gNx)) (gNx)) (gSeq (gRet (fAnd (f2 opNotIn (fVar 0) (fC (.tup d_RESERVED))) (fCall (cBls fun bs => bs.all id) (fCons (fLcL (fLc (fIt (fVar 0)) (tgName 1) (fun _ st => .ok true st) (f2 opIn (fVar 1) (f2 opAdd (fC d_LETTERS) (fC d_DIGITS))) [1])) (fNil))))) (gNx))
def h_is_name : List D → St → Out D := runF false 2 b_is_name
theorem sc_is_name : FnScope N_is_name ["thing"] (defScope st_is_name) := ⟨rfl, rfl, rfl, by decide +kernel, rfl, by decide +kernel, by decide +kernel⟩
theorem w_is_name (T : TX K mg v S)  {f : Addr} {fd : FuncData} (F : L2.Fun K "is_name" "is_name" st_is_name f fd) : FnG P w K mg base false 1 f fd ["thing"] (spD S K 1 h_is_name) :=
  have SC := sc_is_name
  funG (kp := false) (b := b_is_name) (N := N_is_name) (ps := ["thing"]) F SC fun cdv A fr s H E hg hr => ss_cons (s_iff (PW.pt (s_orT (s_notT (s_val (s_isi (tx := "str") (T := "str") rfl T.n_isinstance rfl T.n_str (by kernel_rfl) (by decide) (by decide) (kit_str _) (s_var (i := 0) rfl (.inl rfl) rfl rfl) rfl rfl) (fun _ => rfl))) (s_orT (s_notT (s_chainT o_le o_le rfl (s_int) (s_callB o_len rfl T.n_len (by kernel_rfl) (s_cons (s_var (i := 0) rfl (.inl rfl) rfl rfl) (s_nil) rfl) (by decide) (by decide) rfl rfl) (s_gatom rfl T.c_MOST_LETTERS T.d_MOST_LETTERS))) (pw_or1 (s_cmpT o_notIn rfl (s_idx (fun _ _ => rfl) (s_var (i := 0) rfl (.inl rfl) rfl rfl) (s_int)) (s_gatom rfl T.c_LETTERS T.d_LETTERS)))))) (ss_cons (s_ret (s_bl)) (ss_nil)) (ss_nil)) (ss_cons (s_ret (s_and (s_cmp o_notIn rfl (s_var (i := 0) rfl (.inl rfl) rfl rfl) (s_gtup rfl T.c_RESERVED T.k_RESERVED T.d_RESERVED T.l_RESERVED)) (pe_one (s_callB (o_all rfl) rfl T.n_all (by kernel_rfl) (s_cons (s_lc (own := [("sign", 1)]) rfl SC.nd (s_it (s_var (i := 0) rfl (.inl rfl) rfl rfl)) (blkOk_by (N := N_is_name) (sc := defScope st_is_name) (by decide +kernel)) (by decide) (fun _ _ _ _ _ => t_name SC.nd rfl (.inl rfl) (.inr rfl)) (fun _ _ _ _ _ => s_yes) (fun _ _ _ _ _ => s_cmp o_in rfl (s_var (i := 1) rfl (.inl rfl) rfl rfl) (s_bin o_add (s_gatom rfl T.c_LETTERS T.d_LETTERS) (s_gatom rfl T.c_DIGITS T.d_DIGITS))) (fun _ => rfl)) (s_nil) rfl) (by decide) (by decide) rfl rfl)))) (ss_nil))
abbrev st_run_token : Stmt := top 22
abbrev N_run_token : List Str := ["run"]
def b_run_token : Env → St → SO := gSeq (gIf (fB (f2 opIn (fVar 0) (fC (.tup d_RESERVED)))) (gSeq (gRet (fTup (fCons (fC (.str [107, 101, 121])) (fCons (fVar 0) (fNil))))) (gNx)) (gNx)) (gSeq (gIf (fB (fDef 1 h_is_name (fCons (fVar 0) (fNil)))) (gSeq (gRet (fTup (fCons (fC (.str [110, 97, 109, 101])) (fCons (fVar 0) (fNil))))) (gNx)) (gNx)) (gSeq (gRet (fIf (fB (fDef 2 h_is_figures (fCons (fVar 0) (fCons (fC d_MOST_FIGURES) (fNil))))) (fTup (fCons (fC (.str [110, 117, 109, 98, 101, 114])) (fCons (fCall cInt (fCons (fVar 0) (fNil))) (fNil)))) (fTup (fCons (fC (.str [98, 97, 100])) (fCons (fC (.str [])) (fNil)))))) (gNx)))
def h_run_token : List D → St → Out D := runF false 1 b_run_token
theorem sc_run_token : FnScope N_run_token ["run"] (defScope st_run_token) := ⟨rfl, rfl, rfl, by decide +kernel, rfl, by decide +kernel, by decide +kernel⟩
theorem w_run_token (T : TX K mg v S) {fd_is_figures : FuncData} (G_is_figures : FnG P w K mg base false 1 v.f_is_figures fd_is_figures ["run", "most"] (spD S K 2 h_is_figures)) (B_is_figures : Binds K fd_is_figures ["run", "most"] []) {fd_is_name : FuncData} (G_is_name : FnG P w K mg base false 1 v.f_is_name fd_is_name ["thing"] (spD S K 1 h_is_name)) (B_is_name : Binds K fd_is_name ["thing"] []) {f : Addr} {fd : FuncData} (F : L2.Fun K "run_token" "run_token" st_run_token f fd) : FnG P w K mg base false 2 f fd ["run"] (spD S K 1 h_run_token) :=
  have SC := sc_run_token
  funG (kp := false) (b := b_run_token) (N := N_run_token) (ps := ["run"]) F SC fun cdv A fr s H E hg hr => ss_cons (s_iff (s_cmpT o_in rfl (s_var (i := 0) rfl (.inl rfl) rfl rfl) (s_gtup rfl T.c_RESERVED T.k_RESERVED T.d_RESERVED T.l_RESERVED)) (ss_cons (s_ret (s_tup (s_cons (s_strL (by decide +kernel)) (s_cons (s_var (i := 0) rfl (.inl rfl) rfl rfl) (s_nil) rfl) rfl))) (ss_nil)) (ss_nil)) (ss_cons (s_iff (s_val (s_call (ps := ["thing"]) (h := h_is_name) (G_is_name.up (by decide)) (by intro z; cases z) hr rfl T.g_is_name T.kf_is_name B_is_name (takes_of rfl rfl rfl rfl) (s_cons (s_var (i := 0) rfl (.inl rfl) rfl rfl) (s_nil) rfl)) (fun _ => rfl)) (ss_cons (s_ret (s_tup (s_cons (s_strL (by decide +kernel)) (s_cons (s_var (i := 0) rfl (.inl rfl) rfl rfl) (s_nil) rfl) rfl))) (ss_nil)) (ss_nil)) (ss_cons (s_ret (s_if (s_val (s_call (ps := ["run", "most"]) (h := h_is_figures) (G_is_figures.up (by decide)) (by intro z; cases z) hr rfl T.g_is_figures T.kf_is_figures B_is_figures (takes_of rfl rfl rfl rfl) (s_cons (s_var (i := 0) rfl (.inl rfl) rfl rfl) (s_cons (s_gatom rfl T.c_MOST_FIGURES T.d_MOST_FIGURES) (s_nil) rfl) rfl)) (fun _ => rfl)) (s_tup (s_cons (s_strL (by decide +kernel)) (s_cons (s_callTy o_int rfl T.n_int (by kernel_rfl) (s_cons (s_var (i := 0) rfl (.inl rfl) rfl rfl) (s_nil) rfl) (by decide) (by decide) rfl rfl) (s_nil) rfl) rfl)) (s_tup (s_cons (s_strL (by decide +kernel)) (s_cons (s_strL (by decide +kernel)) (s_nil) rfl) rfl)))) (ss_nil)))
abbrev st_token_at : Stmt := top 23
abbrev N_token_at : List Str := ["text", "begin", "end"]
def b_token_at : Env → St → SO := gSeq (gIf (fB (f2 opEq (f2 opIdx (fVar 0) (fVar 1)) (fC (.str [10])))) (gSeq (gRet (fTup (fCons (fC (.str [108, 105, 110, 101])) (fCons (fC (.str [])) (fCons (f2 opAdd (fVar 1) (fC (.int 1))) (fNil)))))) (gNx)) (gNx)) (gSeq (gIf (fB (f2 opIn (f2 opIdx (fVar 0) (fVar 1)) (fC (.str [40, 41])))) (gSeq (gRet (fTup (fCons (fC (.str [109, 97, 114, 107])) (fCons (f2 opIdx (fVar 0) (fVar 1)) (fCons (f2 opAdd (fVar 1) (fC (.int 1))) (fNil)))))) (gNx)) (gNx)) (gSeq (gSet 2 (fDef 2 h_end_of_run (fCons (fVar 0) (fCons (fVar 1) (fNil))))) (gSeq (gRet (fIf (fB (f2 opGt (fVar 2) (fVar 1))) (f2 opAdd (fDef 1 h_run_token (fCons (fSlc (fVar 0) (fPart (fVar 1)) (fPart (fVar 2))) (fNil))) (fTup (fCons (fVar 2) (fNil)))) (fTup (fCons (fC (.str [98, 97, 100])) (fCons (fC (.str [])) (fCons (fVar 1) (fNil))))))) (gNx))))
def h_token_at : List D → St → Out D := runF false 3 b_token_at
theorem sc_token_at : FnScope N_token_at ["text", "begin"] (defScope st_token_at) := ⟨rfl, rfl, rfl, by decide +kernel, rfl, by decide +kernel, by decide +kernel⟩
theorem w_token_at (T : TX K mg v S) {fd_end_of_run : FuncData} (G_end_of_run : FnG P w K mg base false 1 v.f_end_of_run fd_end_of_run ["text", "begin"] (spD S K 2 h_end_of_run)) (B_end_of_run : Binds K fd_end_of_run ["text", "begin"] []) {fd_run_token : FuncData} (G_run_token : FnG P w K mg base false 2 v.f_run_token fd_run_token ["run"] (spD S K 1 h_run_token)) (B_run_token : Binds K fd_run_token ["run"] []) {f : Addr} {fd : FuncData} (F : L2.Fun K "token_at" "token_at" st_token_at f fd) : FnG P w K mg base false 3 f fd ["text", "begin"] (spD S K 2 h_token_at) :=
  have SC := sc_token_at
  funG (kp := false) (b := b_token_at) (N := N_token_at) (ps := ["text", "begin"]) F SC fun cdv A fr s H E hg hr => ss_cons (s_iff (s_cmpT (o_eq hr.units) rfl (s_idx (fun _ _ => rfl) (s_var (i := 0) rfl (.inl rfl) rfl rfl) (s_var (i := 1) rfl (.inl rfl) rfl rfl)) (s_strL (by decide +kernel))) (ss_cons (s_ret (s_tup (s_cons (s_strL (by decide +kernel)) (s_cons (s_strL (by decide +kernel)) (s_cons (s_bin o_add (s_var (i := 1) rfl (.inl rfl) rfl rfl) (s_int)) (s_nil) rfl) rfl) rfl))) (ss_nil)) (ss_nil)) (ss_cons (s_iff (s_cmpT o_in rfl (s_idx (fun _ _ => rfl) (s_var (i := 0) rfl (.inl rfl) rfl rfl) (s_var (i := 1) rfl (.inl rfl) rfl rfl)) (s_strL (by decide +kernel))) (ss_cons (s_ret (s_tup (s_cons (s_strL (by decide +kernel)) (s_cons (s_idx (fun _ _ => rfl) (s_var (i := 0) rfl (.inl rfl) rfl rfl) (s_var (i := 1) rfl (.inl rfl) rfl rfl)) (s_cons (s_bin o_add (s_var (i := 1) rfl (.inl rfl) rfl rfl) (s_int)) (s_nil) rfl) rfl) rfl))) (ss_nil)) (ss_nil)) (ss_cons (s_set (i := 2) SC.nd rfl (.inl rfl) (s_call (ps := ["text", "begin"]) (h := h_end_of_run) (G_end_of_run.up (by decide)) (by intro z; cases z) hr rfl T.g_end_of_run T.kf_end_of_run B_end_of_run (takes_of rfl rfl rfl rfl) (s_cons (s_var (i := 0) rfl (.inl rfl) rfl rfl) (s_cons (s_var (i := 1) rfl (.inl rfl) rfl rfl) (s_nil) rfl) rfl)) rfl (.inl rfl)) (ss_cons (s_ret (s_if (s_cmpT o_gt rfl (s_var (i := 2) rfl (.inl rfl) rfl rfl) (s_var (i := 1) rfl (.inl rfl) rfl rfl)) (s_bin o_add (s_call (ps := ["run"]) (h := h_run_token) (G_run_token.up (by decide)) (by intro z; cases z) hr rfl T.g_run_token T.kf_run_token B_run_token (takes_of rfl rfl rfl rfl) (s_cons (s_slc (s_var (i := 0) rfl (.inl rfl) rfl rfl) (s_part (s_var (i := 1) rfl (.inl rfl) rfl rfl)) (s_part (s_var (i := 2) rfl (.inl rfl) rfl rfl))) (s_nil) rfl)) (s_tup (s_cons (s_var (i := 2) rfl (.inl rfl) rfl rfl) (s_nil) rfl))) (s_tup (s_cons (s_strL (by decide +kernel)) (s_cons (s_strL (by decide +kernel)) (s_cons (s_var (i := 1) rfl (.inl rfl) rfl rfl) (s_nil) rfl) rfl) rfl)))) (ss_nil))))
abbrev st_tokens : Stmt := top 24
abbrev N_tokens : List Str := ["text", "found", "at", "line", "first", "word", "content", "end"]
def b_tokens : Env → St → SO := gSeq (gIf (fNotT (fB (fIsi (tabT "str") (fVar 0)))) (gSeq (gRaise0 5) (gNx)) (gNx)) (gSeq (gIf (fB (f2 opGt (fCall cLen (fCons (fVar 0) (fNil))) (fC d_MOST_SIGNS))) (gSeq (gRaise 6 2 (fCons (fC (.str [115, 105, 103, 110, 115])) (fCons (fC d_MOST_SIGNS) (fNil)))) (gNx)) (gNx)) (gSeq (gSet 1 (fBox (fNil))) (gSeq (gAsg (fTup (fCons (fC (.int 0)) (fCons (fC (.int 1)) (fCons (fC (.int 0)) (fNil))))) (tgTup 3 (tgCons (tgName 2) (tgCons (tgName 3) (tgCons (tgName 4) (tgNil)))))) (gSeq (gWhile (fun _ _ => 1000000) (fB (f2 opLt (fVar 2) (fCall cLen (fCons (fVar 0) (fNil))))) (gSeq (gIf (fB (f2 opEq (f2 opIdx (fVar 0) (fVar 2)) (fC (.str [32])))) (gSeq (gSet 2 (f2 opAdd (fVar 2) (fC (.int 1)))) (gNx)) (gSeq (gAsg (fDef 2 h_token_at (fCons (fVar 0) (fCons (fVar 2) (fNil)))) (tgTup 3 (tgCons (tgName 5) (tgCons (tgName 6) (tgCons (tgName 7) (tgNil)))))) (gSeq (gExpr (fMtL mAppend (fVar 1) (fCons (fTup (fCons (fVar 5) (fCons (fVar 6) (fCons (fVar 3) (fCons (f2 opAdd (f2 opSub (fVar 2) (fVar 4)) (fC (.int 1))) (fNil)))))) (fNil)))) (gSeq (gIf (fB (f2 opEq (fVar 5) (fC (.str [98, 97, 100])))) (gSeq (gRet (fCall cTup (fCons (fVar 1) (fNil)))) (gNx)) (gNx)) (gSeq (gSet 2 (fVar 7)) (gSeq (gIf (fB (f2 opEq (fVar 5) (fC (.str [108, 105, 110, 101])))) (gSeq (gPar 3 4 (fCons (f2 opAdd (fVar 3) (fC (.int 1))) (fCons (fVar 7) (fNil)))) (gNx)) (gNx)) (gNx))))))) (gNx))) (gSeq (gExpr (fMtL mAppend (fVar 1) (fCons (fTup (fCons (fC (.str [101, 110, 100])) (fCons (fC (.str [])) (fCons (fVar 3) (fCons (f2 opAdd (f2 opSub (fVar 2) (fVar 4)) (fC (.int 1))) (fNil)))))) (fNil)))) (gSeq (gRet (fCall cTup (fCons (fVar 1) (fNil)))) (gNx)))))))
def h_tokens : List D → St → Out D := runF false 8 b_tokens
theorem sc_tokens : FnScope N_tokens ["text"] (defScope st_tokens) := ⟨rfl, rfl, rfl, by decide +kernel, rfl, by decide +kernel, by decide +kernel⟩
theorem w_tokens (T : TX K mg v S) {fd_token_at : FuncData} (G_token_at : FnG P w K mg base false 3 v.f_token_at fd_token_at ["text", "begin"] (spD S K 2 h_token_at)) (B_token_at : Binds K fd_token_at ["text", "begin"] []) {fdI_TooLarge : FuncData} (I_TooLarge : FnOk P w K mg base (L2.CX P w) 0 v.i_TooLarge fdI_TooLarge ["self", "what", "limit"] (sp2 K v.D_TooLarge "what" "limit")) (BI_TooLarge : Binds K fdI_TooLarge ["self", "what", "limit"] []) {f : Addr} {fd : FuncData} (F : L2.Fun K "tokens" "tokens" st_tokens f fd) : FnG P w K mg base false 4 f fd ["text"] (spD S K 1 h_tokens) :=
  have SC := sc_tokens
  funG (kp := false) (b := b_tokens) (N := N_tokens) (ps := ["text"]) F SC fun cdv A fr s H E hg hr => ss_cons (s_iff (s_notT (s_val (s_isi (tx := "str") (T := "str") rfl T.n_isinstance rfl T.n_str (by kernel_rfl) (by decide) (by decide) (kit_str _) (s_var (i := 0) rfl (.inl rfl) rfl rfl) rfl rfl) (fun _ => rfl))) (ss_cons (s_raiseN rfl (takes_of rfl rfl rfl rfl) PySem.F.excBase_ValueError T.x_Nothing T.g_Nothing T.kp_Nothing (raises_own T.sb_Nothing T.tb_Nothing) rfl T.at_Nothing T.fs_Nothing) (ss_nil)) (ss_nil)) (ss_cons (s_iff (s_cmpT o_gt rfl (s_callB o_len rfl T.n_len (by kernel_rfl) (s_cons (s_var (i := 0) rfl (.inl rfl) rfl rfl) (s_nil) rfl) (by decide) (by decide) rfl rfl) (s_gatom rfl T.c_MOST_SIGNS T.d_MOST_SIGNS)) (ss_cons (s_raise2 rfl (takes_of rfl rfl rfl rfl) T.ic_TooLarge T.fi_TooLarge T.ti_TooLarge I_TooLarge (hr.mono (by decide)) BI_TooLarge rfl T.g_TooLarge (s_cons (s_strL (by decide +kernel)) (s_cons (s_gatom rfl T.c_MOST_SIGNS T.d_MOST_SIGNS) (s_nil) rfl) rfl) T.at_TooLarge T.fs_TooLarge (by decide)) (ss_nil)) (ss_nil)) (ss_cons (s_set (i := 1) SC.nd rfl (.inl rfl) (s_boxE (s_nil)) rfl (.inl rfl)) (ss_cons (s_asg (s_tup (s_cons (s_int) (s_cons (s_int) (s_cons (s_int) (s_nil) rfl) rfl) rfl)) (t_tup rfl (t_cons (t_name SC.nd rfl (.inl rfl) (.inl rfl)) (t_cons (t_name SC.nd rfl (.inl rfl) (.inl rfl)) (t_cons (t_name SC.nd rfl (.inl rfl) (.inl rfl)) (t_nil) rfl) rfl) rfl) rfl rfl) rfl rfl rfl) (ss_cons (s_while (passes_of rfl) (s_cmpT o_lt rfl (s_var (i := 2) rfl (.inl rfl) rfl rfl) (s_callB o_len rfl T.n_len (by kernel_rfl) (s_cons (s_var (i := 0) rfl (.inl rfl) rfl rfl) (s_nil) rfl) (by decide) (by decide) rfl rfl)) (ss_cons (s_iff (s_cmpT (o_eq hr.units) rfl (s_idx (fun _ _ => rfl) (s_var (i := 0) rfl (.inl rfl) rfl rfl) (s_var (i := 2) rfl (.inl rfl) rfl rfl)) (s_strL (by decide +kernel))) (ss_cons (s_set (i := 2) SC.nd rfl (.inl rfl) (s_bin o_add (s_var (i := 2) rfl (.inl rfl) rfl rfl) (s_int)) rfl (.inl rfl)) (ss_nil)) (ss_cons (s_asg (s_call (ps := ["text", "begin"]) (h := h_token_at) (G_token_at.up (by decide)) (by intro z; cases z) hr rfl T.g_token_at T.kf_token_at B_token_at (takes_of rfl rfl rfl rfl) (s_cons (s_var (i := 0) rfl (.inl rfl) rfl rfl) (s_cons (s_var (i := 2) rfl (.inl rfl) rfl rfl) (s_nil) rfl) rfl)) (t_tup rfl (t_cons (t_name SC.nd rfl (.inl rfl) (.inl rfl)) (t_cons (t_name SC.nd rfl (.inl rfl) (.inl rfl)) (t_cons (t_name SC.nd rfl (.inl rfl) (.inl rfl)) (t_nil) rfl) rfl) rfl) rfl rfl) rfl rfl rfl) (ss_cons (s_expr (s_mtL PySem.F.slot_list_append PySem.F.type_list_append o_append (s_var (i := 1) rfl (.inl rfl) rfl rfl) (s_cons (s_tup (s_cons (s_var (i := 5) rfl (.inl rfl) rfl rfl) (s_cons (s_var (i := 6) rfl (.inl rfl) rfl rfl) (s_cons (s_var (i := 3) rfl (.inl rfl) rfl rfl) (s_cons (s_bin o_add (s_bin o_sub (s_var (i := 2) rfl (.inl rfl) rfl rfl) (s_var (i := 4) rfl (.inl rfl) rfl rfl)) (s_int)) (s_nil) rfl) rfl) rfl) rfl)) (s_nil) rfl) rfl rfl rfl rfl rfl) rfl) (ss_cons (s_iff (s_cmpT (o_eq hr.units) rfl (s_var (i := 5) rfl (.inl rfl) rfl rfl) (s_strL (by decide +kernel))) (ss_cons (s_ret (s_callTy o_tup rfl T.n_tuple (by kernel_rfl) (s_cons (s_var (i := 1) rfl (.inl rfl) rfl rfl) (s_nil) rfl) (by decide) (by decide) rfl rfl)) (ss_nil)) (ss_nil)) (ss_cons (s_set (i := 2) SC.nd rfl (.inl rfl) (s_var (i := 7) rfl (.inl rfl) rfl rfl) rfl (.inl rfl)) (ss_cons (s_iff (s_cmpT (o_eq hr.units) rfl (s_var (i := 5) rfl (.inl rfl) rfl rfl) (s_strL (by decide +kernel))) (ss_cons (s_par (i := 3) (j := 4) rfl SC.nd rfl rfl (by decide) rfl rfl (s_cons (s_bin o_add (s_var (i := 3) rfl (.inl rfl) rfl rfl) (s_int)) (s_cons (s_var (i := 7) rfl (.inl rfl) rfl rfl) (s_nil) rfl) rfl) rfl rfl) (ss_nil)) (ss_nil)) (ss_nil))))))) (ss_nil))) (ss_cons (s_expr (s_mtL PySem.F.slot_list_append PySem.F.type_list_append o_append (s_var (i := 1) rfl (.inl rfl) rfl rfl) (s_cons (s_tup (s_cons (s_strL (by decide +kernel)) (s_cons (s_strL (by decide +kernel)) (s_cons (s_var (i := 3) rfl (.inl rfl) rfl rfl) (s_cons (s_bin o_add (s_bin o_sub (s_var (i := 2) rfl (.inl rfl) rfl rfl) (s_var (i := 4) rfl (.inl rfl) rfl rfl)) (s_int)) (s_nil) rfl) rfl) rfl) rfl)) (s_nil) rfl) rfl rfl rfl rfl rfl) rfl) (ss_cons (s_ret (s_callTy o_tup rfl T.n_tuple (by kernel_rfl) (s_cons (s_var (i := 1) rfl (.inl rfl) rfl rfl) (s_nil) rfl) (by decide) (by decide) rfl rfl)) (ss_nil)))))))
abbrev st__law_words : Stmt := top 26
abbrev N__law_words : List Str := []
def b__law_words : Env → St → SO := gSeq (gRet (fMtS mSplit (fC (.str [97, 108, 108, 32, 97, 110, 100, 32, 97, 110, 115, 119, 101, 114, 32, 98, 97, 99, 107, 32, 98, 111, 116, 104, 32, 99, 111, 108, 111, 117, 114, 32, 101, 108, 115, 101, 32, 101, 110, 100, 32, 105, 102, 32, 105, 110, 32, 105, 115, 32, 107, 105, 110, 100, 32, 109, 101, 110, 117, 32, 110, 111, 110, 101, 32, 110, 111, 116, 32, 111, 102, 32, 111, 110, 32, 111, 110, 101, 32, 111, 114, 32, 111, 118, 101, 114, 32, 112, 108, 97, 99, 101, 115, 32, 112, 114, 111, 103, 114, 97, 109, 32, 114, 101, 108, 97, 116, 105, 111, 110, 32, 115, 97, 109, 101, 32, 115, 101, 116, 32, 115, 104, 97, 114, 101, 32, 115, 111, 109, 101, 32, 115, 116, 105, 108, 108, 32, 116, 105, 101, 32, 116, 111, 32, 119, 97, 121, 115, 32, 119, 101, 98, 32, 119, 104, 105, 108, 101, 32, 119, 105, 116, 104, 32, 120, 32, 121, 32, 121, 101, 115, 32, 122])) (fCons (fC (.str [32])) (fNil)))) (gNx)
def h__law_words : List D → St → Out D := runF false 0 b__law_words
theorem sc__law_words : FnScope N__law_words [] (defScope st__law_words) := ⟨rfl, rfl, rfl, by decide +kernel, rfl, by decide +kernel, by decide +kernel⟩
theorem w__law_words (T : TX K mg v S)  {f : Addr} {fd : FuncData} (F : L2.Fun K "_law_words" "_law_words" st__law_words f fd) : FnG P w K mg base false 1 f fd [] (spD S K 0 h__law_words) :=
  have SC := sc__law_words
  funG (kp := false) (b := b__law_words) (N := N__law_words) (ps := []) F SC fun cdv A fr s H E hg hr => ss_cons (s_ret (s_mtS PySem.F.slot_str_split PySem.F.type_str_split o_split (s_strL (by decide +kernel)) (s_cons (s_strL (by decide +kernel)) (s_nil) rfl) rfl rfl rfl rfl rfl)) (ss_nil)
abbrev st__law_is_name : Stmt := top 27
abbrev N__law_is_name : List Str := ["thing", "sign"]
def b__law_is_name : Env → St → SO := gSeq (gIf (fOrT (fNotT (fB (fIsi (tabT "str") (fVar 0)))) (fOrT (fNotT (fB (fChain opLe opLe (fC (.int 1)) (fCall cLen (fCons (fVar 0) (fNil))) (fC (.int 8))))) (fOrT (fNotT (fB (fChain opLe opLe (fC (.str [97])) (f2 opIdx (fVar 0) (fC (.int 0))) (fC (.str [122]))))) (fB (f2 opIn (fVar 0) (fDef 0 h__law_words fNil)))))) (gSeq (gRet (fC (.bl false))) (gNx)) (gNx)) (gSeq (gRet (f2 opEq (fLcL (fLc (fIt (fVar 0)) (tgName 1) (fNotT (fOrT (fB (fChain opLe opLe (fC (.str [97])) (fVar 1) (fC (.str [122])))) (fB (fChain opLe opLe (fC (.str [48])) (fVar 1) (fC (.str [57])))))) (fVar 1) [1])) (fLst (fNil)))) (gNx))
def h__law_is_name : List D → St → Out D := runF false 2 b__law_is_name
theorem sc__law_is_name : FnScope N__law_is_name ["thing"] (defScope st__law_is_name) := ⟨rfl, rfl, rfl, by decide +kernel, rfl, by decide +kernel, by decide +kernel⟩
theorem w__law_is_name (T : TX K mg v S) {fd__law_words : FuncData} (G__law_words : FnG P w K mg base false 1 v.f__law_words fd__law_words [] (spD S K 0 h__law_words)) (B__law_words : Binds K fd__law_words [] []) {f : Addr} {fd : FuncData} (F : L2.Fun K "_law_is_name" "_law_is_name" st__law_is_name f fd) : FnG P w K mg base false 2 f fd ["thing"] (spD S K 1 h__law_is_name) :=
  have SC := sc__law_is_name
  funG (kp := false) (b := b__law_is_name) (N := N__law_is_name) (ps := ["thing"]) F SC fun cdv A fr s H E hg hr => ss_cons (s_iff (PW.pt (s_orT (s_notT (s_val (s_isi (tx := "str") (T := "str") rfl T.n_isinstance rfl T.n_str (by kernel_rfl) (by decide) (by decide) (kit_str _) (s_var (i := 0) rfl (.inl rfl) rfl rfl) rfl rfl) (fun _ => rfl))) (s_orT (s_notT (s_chainT o_le o_le rfl (s_int) (s_callB o_len rfl T.n_len (by kernel_rfl) (s_cons (s_var (i := 0) rfl (.inl rfl) rfl rfl) (s_nil) rfl) (by decide) (by decide) rfl rfl) (s_int))) (s_orT (s_notT (s_chainT o_le o_le rfl (s_strL (by decide +kernel)) (s_idx (fun _ _ => rfl) (s_var (i := 0) rfl (.inl rfl) rfl rfl) (s_int)) (s_strL (by decide +kernel)))) (pw_or1 (s_cmpT o_in rfl (s_var (i := 0) rfl (.inl rfl) rfl rfl) (s_call0 (h := h__law_words) (G__law_words.up (by decide)) (by intro z; cases z) hr rfl T.g__law_words T.kf__law_words B__law_words (takes_of rfl rfl rfl rfl)))))))) (ss_cons (s_ret (s_bl)) (ss_nil)) (ss_nil)) (ss_cons (s_ret (s_cmp (o_eq hr.units) rfl (s_lc (own := [("sign", 1)]) rfl SC.nd (s_it (s_var (i := 0) rfl (.inl rfl) rfl rfl)) (blkOk_by (N := N__law_is_name) (sc := defScope st__law_is_name) (by decide +kernel)) (by decide) (fun _ _ _ _ _ => t_name SC.nd rfl (.inl rfl) (.inr rfl)) (fun _ _ _ _ _ => (s_ifs (s_notT (PW.pt (s_orT (s_chainT o_le o_le rfl (s_strL (by decide +kernel)) (s_var (i := 1) rfl (.inl rfl) rfl rfl) (s_strL (by decide +kernel))) (pw_or1 (s_chainT o_le o_le rfl (s_strL (by decide +kernel)) (s_var (i := 1) rfl (.inl rfl) rfl rfl) (s_strL (by decide +kernel))))))))) (fun _ _ _ _ _ => s_var (i := 1) rfl (.inl rfl) rfl rfl) (fun _ => rfl)) (s_lst (s_nil)))) (ss_nil))
abbrev st__law_bag : Stmt := top 28
abbrev N__law_bag : List Str := ["script", "cell"]
def b__law_bag : Env → St → SO := gSeq (gRet (fBox (fCons (fC (.int 0)) (fCons (fC (.int 1234567891)) (fCons (fC (.int 0)) (fCons (fLcL (fLc (fIt (fSlc (fVar 0) (fNoP) (fPart (fC (.int 63))))) (tgName 1) (fun _ st => .ok true st) (fCall cAbs (fCons (fVar 1) (fNil))) [1])) (fNil))))))) (gNx)
def h__law_bag : List D → St → Out D := runF true 2 b__law_bag
theorem sc__law_bag : FnScope N__law_bag ["script"] (defScope st__law_bag) := ⟨rfl, rfl, rfl, by decide +kernel, rfl, by decide +kernel, by decide +kernel⟩
theorem w__law_bag (T : TX K mg v S)  {f : Addr} {fd : FuncData} (F : L2.Fun K "_law_bag" "_law_bag" st__law_bag f fd) : FnG P w K mg base false 1 f fd ["script"] (spD S K 1 h__law_bag) :=
  have SC := sc__law_bag
  funG (kp := true) (b := b__law_bag) (N := N__law_bag) (ps := ["script"]) F SC fun cdv A fr s H E hg hr => ss_cons (s_ret (s_boxE (s_cons (s_int) (s_cons (s_int) (s_cons (s_int) (s_cons (s_lc (own := [("cell", 1)]) rfl SC.nd (s_it (s_slc (s_var (i := 0) rfl (.inl rfl) rfl rfl) (s_noP) (s_part (s_int)))) (blkOk_by (N := N__law_bag) (sc := defScope st__law_bag) (by decide +kernel)) (by decide) (fun _ _ _ _ _ => t_name SC.nd rfl (.inl rfl) (.inr rfl)) (fun _ _ _ _ _ => s_yes) (fun _ _ _ _ _ => s_callB o_abs rfl T.n_abs (by kernel_rfl) (s_cons (s_var (i := 1) rfl (.inl rfl) rfl rfl) (s_nil) rfl) (by decide) (by decide) rfl rfl) (fun _ => rfl)) (s_nil) rfl) rfl) rfl) rfl))) (ss_nil)
abbrev st__law_take : Stmt := top 29
abbrev N__law_take : List Str := ["bag", "many", "cell", "stirred", "drawn", "begin", "second"]
def b__law_take : Env → St → SO := gSeq (gIf (fB (f2 opEq (f2 opIdx (fVar 0) (fC (.int 0))) (fC (.int 0)))) (gSeq (gSet 2 (f2 opIdx (f2 opAdd (fSlc (f2 opIdx (fVar 0) (fC (.int 3))) (fPart (f2 opIdx (fVar 0) (fC (.int 2)))) (fNoP)) (fLst (fCons (fC (.int 0)) (fNil)))) (fC (.int 0)))) (gSeq (gAugPut (fun x y => x + y) (fVar 0) (fC (.int 2)) (fC (.int 1))) (gSeq (gIf (fB (f2 opGe (fVar 2) (f2 opPow (fC (.int 10)) (fC (.int 18))))) (gSeq (gPut (fVar 2) (fVar 0) (fC (.int 0))) (gNx)) (gNx)) (gSeq (gSet 3 (f2 opAdd (f2 opAdd (f2 opMul (f2 opIdx (fVar 0) (fC (.int 1))) (fC (.int 48271))) (f2 opMod (fCall cInt (fCons (fVar 2) (fNil))) (fC (.int 2147483647)))) (f2 opMul (fC (.int 7919)) (f2 opIdx (fVar 0) (fC (.int 2)))))) (gSeq (gPut (f2 opMod (fCall cInt (fCons (fVar 3) (fNil))) (fC (.int 2147483647))) (fVar 0) (fC (.int 1))) (gNx)))))) (gNx)) (gSeq (gIf (fB (f2 opGt (f2 opIdx (fVar 0) (fC (.int 0))) (fC (.int 0)))) (gSeq (gSet 4 (f2 opMod (fCall cInt (fCons (f2 opIdx (fVar 0) (fC (.int 0))) (fNil))) (fVar 1))) (gSeq (gPut (f2 opDiv (fCall cInt (fCons (f2 opIdx (fVar 0) (fC (.int 0))) (fNil))) (fVar 1)) (fVar 0) (fC (.int 0))) (gSeq (gRet (fVar 4)) (gNx)))) (gNx)) (gSeq (gSet 5 (f2 opMod (fCall cInt (fCons (f2 opMul (f2 opAdd (f2 opIdx (fVar 0) (fC (.int 1))) (fC (.int 1))) (fC (.int 39373))) (fNil))) (fC (.int 1000000007)))) (gSeq (gSet 6 (f2 opMod (fCall cInt (fCons (f2 opMul (f2 opMod (fCall cInt (fCons (f2 opMul (fVar 5) (fVar 5)) (fNil))) (fC (.int 998244353))) (fC (.int 30011))) (fNil))) (fC (.int 998244353)))) (gSeq (gRet (f2 opMod (fCall cInt (fCons (f2 opDiv (fVar 6) (fC (.int 7))) (fNil))) (fVar 1))) (gNx)))))
def h__law_take : List D → St → Out D := runF false 7 b__law_take
theorem sc__law_take : FnScope N__law_take ["bag", "many"] (defScope st__law_take) := ⟨rfl, rfl, rfl, by decide +kernel, rfl, by decide +kernel, by decide +kernel⟩
theorem w__law_take (T : TX K mg v S)  {f : Addr} {fd : FuncData} (F : L2.Fun K "_law_take" "_law_take" st__law_take f fd) : FnG P w K mg base false 1 f fd ["bag", "many"] (spD S K 2 h__law_take) :=
  have SC := sc__law_take
  funG (kp := false) (b := b__law_take) (N := N__law_take) (ps := ["bag", "many"]) F SC fun cdv A fr s H E hg hr => ss_cons (s_iff (s_cmpT (o_eq hr.units) rfl (s_idx (fun _ _ => rfl) (s_var (i := 0) rfl (.inl rfl) rfl rfl) (s_int)) (s_int)) (ss_cons (s_set (i := 2) SC.nd rfl (.inl rfl) (s_idx (fun _ _ => rfl) (s_bin o_add (s_slc (s_idx (fun _ _ => rfl) (s_var (i := 0) rfl (.inl rfl) rfl rfl) (s_int)) (s_part (s_idx (fun _ _ => rfl) (s_var (i := 0) rfl (.inl rfl) rfl rfl) (s_int))) (s_noP)) (s_lst (s_cons (s_int) (s_nil) rfl))) (s_int)) rfl (.inl rfl)) (ss_cons (s_augPut ip_add (s_var (i := 0) rfl (.inl rfl) rfl rfl) (s_int) (s_int) (fun _ _ _ => rfl)) (ss_cons (s_iff (s_cmpT o_ge rfl (s_var (i := 2) rfl (.inl rfl) rfl rfl) (s_bin o_pow (s_int) (s_int))) (ss_cons (s_put (s_var (i := 2) rfl (.inl rfl) rfl rfl) (s_var (i := 0) rfl (.inl rfl) rfl rfl) (s_int) rfl rfl rfl (fun _ => rfl)) (ss_nil)) (ss_nil)) (ss_cons (s_set (i := 3) SC.nd rfl (.inl rfl) (s_bin o_add (s_bin o_add (s_bin o_mul (s_idx (fun _ _ => rfl) (s_var (i := 0) rfl (.inl rfl) rfl rfl) (s_int)) (s_int)) (s_bin o_mod (s_callTy o_int rfl T.n_int (by kernel_rfl) (s_cons (s_var (i := 2) rfl (.inl rfl) rfl rfl) (s_nil) rfl) (by decide) (by decide) rfl rfl) (s_int))) (s_bin o_mul (s_int) (s_idx (fun _ _ => rfl) (s_var (i := 0) rfl (.inl rfl) rfl rfl) (s_int)))) rfl (.inl rfl)) (ss_cons (s_put (s_bin o_mod (s_callTy o_int rfl T.n_int (by kernel_rfl) (s_cons (s_var (i := 3) rfl (.inl rfl) rfl rfl) (s_nil) rfl) (by decide) (by decide) rfl rfl) (s_int)) (s_var (i := 0) rfl (.inl rfl) rfl rfl) (s_int) rfl rfl rfl (fun _ => rfl)) (ss_nil)))))) (ss_nil)) (ss_cons (s_iff (s_cmpT o_gt rfl (s_idx (fun _ _ => rfl) (s_var (i := 0) rfl (.inl rfl) rfl rfl) (s_int)) (s_int)) (ss_cons (s_set (i := 4) SC.nd rfl (.inl rfl) (s_bin o_mod (s_callTy o_int rfl T.n_int (by kernel_rfl) (s_cons (s_idx (fun _ _ => rfl) (s_var (i := 0) rfl (.inl rfl) rfl rfl) (s_int)) (s_nil) rfl) (by decide) (by decide) rfl rfl) (s_var (i := 1) rfl (.inl rfl) rfl rfl)) rfl (.inl rfl)) (ss_cons (s_put (s_bin o_div (s_callTy o_int rfl T.n_int (by kernel_rfl) (s_cons (s_idx (fun _ _ => rfl) (s_var (i := 0) rfl (.inl rfl) rfl rfl) (s_int)) (s_nil) rfl) (by decide) (by decide) rfl rfl) (s_var (i := 1) rfl (.inl rfl) rfl rfl)) (s_var (i := 0) rfl (.inl rfl) rfl rfl) (s_int) rfl rfl rfl (fun _ => rfl)) (ss_cons (s_ret (s_var (i := 4) rfl (.inl rfl) rfl rfl)) (ss_nil)))) (ss_nil)) (ss_cons (s_set (i := 5) SC.nd rfl (.inl rfl) (s_bin o_mod (s_callTy o_int rfl T.n_int (by kernel_rfl) (s_cons (s_bin o_mul (s_bin o_add (s_idx (fun _ _ => rfl) (s_var (i := 0) rfl (.inl rfl) rfl rfl) (s_int)) (s_int)) (s_int)) (s_nil) rfl) (by decide) (by decide) rfl rfl) (s_int)) rfl (.inl rfl)) (ss_cons (s_set (i := 6) SC.nd rfl (.inl rfl) (s_bin o_mod (s_callTy o_int rfl T.n_int (by kernel_rfl) (s_cons (s_bin o_mul (s_bin o_mod (s_callTy o_int rfl T.n_int (by kernel_rfl) (s_cons (s_bin o_mul (s_var (i := 5) rfl (.inl rfl) rfl rfl) (s_var (i := 5) rfl (.inl rfl) rfl rfl)) (s_nil) rfl) (by decide) (by decide) rfl rfl) (s_int)) (s_int)) (s_nil) rfl) (by decide) (by decide) rfl rfl) (s_int)) rfl (.inl rfl)) (ss_cons (s_ret (s_bin o_mod (s_callTy o_int rfl T.n_int (by kernel_rfl) (s_cons (s_bin o_div (s_var (i := 6) rfl (.inl rfl) rfl rfl) (s_int)) (s_nil) rfl) (by decide) (by decide) rfl rfl) (s_var (i := 1) rfl (.inl rfl) rfl rfl))) (ss_nil)))))
abbrev st__law_some : Stmt := top 30
abbrev N__law_some : List Str := ["bag", "things"]
def b__law_some : Env → St → SO := gSeq (gRet (f2 opIdx (fVar 1) (fDef 2 h__law_take (fCons (fVar 0) (fCons (fCall cLen (fCons (fVar 1) (fNil))) (fNil)))))) (gNx)
def h__law_some : List D → St → Out D := runF false 2 b__law_some
theorem sc__law_some : FnScope N__law_some ["bag", "things"] (defScope st__law_some) := ⟨rfl, rfl, rfl, by decide +kernel, rfl, by decide +kernel, by decide +kernel⟩
theorem w__law_some (T : TX K mg v S) {fd__law_take : FuncData} (G__law_take : FnG P w K mg base false 1 v.f__law_take fd__law_take ["bag", "many"] (spD S K 2 h__law_take)) (B__law_take : Binds K fd__law_take ["bag", "many"] []) {f : Addr} {fd : FuncData} (F : L2.Fun K "_law_some" "_law_some" st__law_some f fd) : FnG P w K mg base false 2 f fd ["bag", "things"] (spD S K 2 h__law_some) :=
  have SC := sc__law_some
  funG (kp := false) (b := b__law_some) (N := N__law_some) (ps := ["bag", "things"]) F SC fun cdv A fr s H E hg hr => ss_cons (s_ret (s_idx (fun _ _ => rfl) (s_var (i := 1) rfl (.inl rfl) rfl rfl) (s_call (ps := ["bag", "many"]) (h := h__law_take) (G__law_take.up (by decide)) (by intro z; cases z) hr rfl T.g__law_take T.kf__law_take B__law_take (takes_of rfl rfl rfl rfl) (s_cons (s_var (i := 0) rfl (.inl rfl) rfl rfl) (s_cons (s_callB o_len rfl T.n_len (by kernel_rfl) (s_cons (s_var (i := 1) rfl (.inl rfl) rfl rfl) (s_nil) rfl) (by decide) (by decide) rfl rfl) (s_nil) rfl) rfl)))) (ss_nil)
abbrev st__law_alike : Stmt := top 31
abbrev N__law_alike : List Str := ["found", "due"]
def b__law_alike : Env → St → SO := gSeq (gRet (fAnd (f2 opEq (fCall cRepr (fCons (fVar 0) (fNil))) (fCall cRepr (fCons (fVar 1) (fNil)))) (f2 opEq (fVar 0) (fVar 1)))) (gNx)
def h__law_alike : List D → St → Out D := runF false 2 b__law_alike
theorem sc__law_alike : FnScope N__law_alike ["found", "due"] (defScope st__law_alike) := ⟨rfl, rfl, rfl, by decide +kernel, rfl, by decide +kernel, by decide +kernel⟩
theorem w__law_alike (T : TX K mg v S)  {f : Addr} {fd : FuncData} (F : L2.Fun K "_law_alike" "_law_alike" st__law_alike f fd) : FnG P w K mg base true 1 f fd ["found", "due"] (spD S K 2 h__law_alike) :=
  have SC := sc__law_alike
  funG (kp := false) (b := b__law_alike) (N := N__law_alike) (ps := ["found", "due"]) F SC fun cdv A fr s H E hg hr => ss_cons (s_ret (s_and (s_cmp (o_eq hr.units) rfl (s_callB (o_repr (hg rfl) hr.u100) rfl T.n_repr (by kernel_rfl) (s_cons (s_var (i := 0) rfl (.inl rfl) rfl rfl) (s_nil) rfl) (by decide) (by decide) rfl rfl) (s_callB (o_repr (hg rfl) hr.u100) rfl T.n_repr (by kernel_rfl) (s_cons (s_var (i := 1) rfl (.inl rfl) rfl rfl) (s_nil) rfl) (by decide) (by decide) rfl rfl)) (pe_one (s_cmp (o_eq hr.units) rfl (s_var (i := 0) rfl (.inl rfl) rfl rfl) (s_var (i := 1) rfl (.inl rfl) rfl rfl))))) (ss_nil)
abbrev st__law_run : Stmt := top 33
abbrev N__law_run : List Str := ["run", "sign"]
def b__law_run : Env → St → SO := gSeq (gIf (fB (f2 opIn (fVar 0) (fDef 0 h__law_words fNil))) (gSeq (gRet (fTup (fCons (fC (.str [107, 101, 121])) (fCons (fVar 0) (fNil))))) (gNx)) (gNx)) (gSeq (gIf (fB (fDef 1 h__law_is_name (fCons (fVar 0) (fNil)))) (gSeq (gRet (fTup (fCons (fC (.str [110, 97, 109, 101])) (fCons (fVar 0) (fNil))))) (gNx)) (gNx)) (gSeq (gIf (fAndT (fB (f2 opEq (fLcL (fLc (fIt (fVar 0)) (tgName 1) (fNotT (fB (fChain opLe opLe (fC (.str [48])) (fVar 1) (fC (.str [57]))))) (fVar 1) [1])) (fLst (fNil)))) (fAndT (fB (f2 opLe (fCall cLen (fCons (fVar 0) (fNil))) (fC (.int 4)))) (fOrT (fB (f2 opEq (fVar 0) (fC (.str [48])))) (fB (f2 opNe (f2 opIdx (fVar 0) (fC (.int 0))) (fC (.str [48]))))))) (gSeq (gRet (fTup (fCons (fC (.str [110, 117, 109, 98, 101, 114])) (fCons (fCall cInt (fCons (fVar 0) (fNil))) (fNil))))) (gNx)) (gNx)) (gSeq (gRet (fTup (fCons (fC (.str [98, 97, 100])) (fCons (fC (.str [])) (fNil))))) (gNx))))
def h__law_run : List D → St → Out D := runF false 2 b__law_run
theorem sc__law_run : FnScope N__law_run ["run"] (defScope st__law_run) := ⟨rfl, rfl, rfl, by decide +kernel, rfl, by decide +kernel, by decide +kernel⟩
theorem w__law_run (T : TX K mg v S) {fd__law_is_name : FuncData} (G__law_is_name : FnG P w K mg base false 2 v.f__law_is_name fd__law_is_name ["thing"] (spD S K 1 h__law_is_name)) (B__law_is_name : Binds K fd__law_is_name ["thing"] []) {fd__law_words : FuncData} (G__law_words : FnG P w K mg base false 1 v.f__law_words fd__law_words [] (spD S K 0 h__law_words)) (B__law_words : Binds K fd__law_words [] []) {f : Addr} {fd : FuncData} (F : L2.Fun K "_law_run" "_law_run" st__law_run f fd) : FnG P w K mg base false 3 f fd ["run"] (spD S K 1 h__law_run) :=
  have SC := sc__law_run
  funG (kp := false) (b := b__law_run) (N := N__law_run) (ps := ["run"]) F SC fun cdv A fr s H E hg hr => ss_cons (s_iff (s_cmpT o_in rfl (s_var (i := 0) rfl (.inl rfl) rfl rfl) (s_call0 (h := h__law_words) (G__law_words.up (by decide)) (by intro z; cases z) hr rfl T.g__law_words T.kf__law_words B__law_words (takes_of rfl rfl rfl rfl))) (ss_cons (s_ret (s_tup (s_cons (s_strL (by decide +kernel)) (s_cons (s_var (i := 0) rfl (.inl rfl) rfl rfl) (s_nil) rfl) rfl))) (ss_nil)) (ss_nil)) (ss_cons (s_iff (s_val (s_call (ps := ["thing"]) (h := h__law_is_name) (G__law_is_name.up (by decide)) (by intro z; cases z) hr rfl T.g__law_is_name T.kf__law_is_name B__law_is_name (takes_of rfl rfl rfl rfl) (s_cons (s_var (i := 0) rfl (.inl rfl) rfl rfl) (s_nil) rfl)) (fun _ => rfl)) (ss_cons (s_ret (s_tup (s_cons (s_strL (by decide +kernel)) (s_cons (s_var (i := 0) rfl (.inl rfl) rfl rfl) (s_nil) rfl) rfl))) (ss_nil)) (ss_nil)) (ss_cons (s_iff (PW.pt (s_andT (s_cmpT (o_eq hr.units) rfl (s_lc (own := [("sign", 1)]) rfl SC.nd (s_it (s_var (i := 0) rfl (.inl rfl) rfl rfl)) (blkOk_by (N := N__law_run) (sc := defScope st__law_run) (by decide +kernel)) (by decide) (fun _ _ _ _ _ => t_name SC.nd rfl (.inl rfl) (.inr rfl)) (fun _ _ _ _ _ => (s_ifs (s_notT (s_chainT o_le o_le rfl (s_strL (by decide +kernel)) (s_var (i := 1) rfl (.inl rfl) rfl rfl) (s_strL (by decide +kernel)))))) (fun _ _ _ _ _ => s_var (i := 1) rfl (.inl rfl) rfl rfl) (fun _ => rfl)) (s_lst (s_nil))) (s_andT (s_cmpT o_le rfl (s_callB o_len rfl T.n_len (by kernel_rfl) (s_cons (s_var (i := 0) rfl (.inl rfl) rfl rfl) (s_nil) rfl) (by decide) (by decide) rfl rfl) (s_int)) (pw_and1 (PW.pt (s_orT (s_cmpT (o_eq hr.units) rfl (s_var (i := 0) rfl (.inl rfl) rfl rfl) (s_strL (by decide +kernel))) (pw_or1 (s_cmpT (o_ne hr.units) rfl (s_idx (fun _ _ => rfl) (s_var (i := 0) rfl (.inl rfl) rfl rfl) (s_int)) (s_strL (by decide +kernel)))))))))) (ss_cons (s_ret (s_tup (s_cons (s_strL (by decide +kernel)) (s_cons (s_callTy o_int rfl T.n_int (by kernel_rfl) (s_cons (s_var (i := 0) rfl (.inl rfl) rfl rfl) (s_nil) rfl) (by decide) (by decide) rfl rfl) (s_nil) rfl) rfl))) (ss_nil)) (ss_nil)) (ss_cons (s_ret (s_tup (s_cons (s_strL (by decide +kernel)) (s_cons (s_strL (by decide +kernel)) (s_nil) rfl) rfl))) (ss_nil))))
abbrev st__law_tokens : Stmt := top 34
abbrev N__law_tokens : List Str := ["text", "found", "line", "column", "run", "sign"]
def b__law_tokens : Env → St → SO := gSeq (gAsg (fTup (fCons (fBox (fNil)) (fCons (fC (.int 1)) (fCons (fC (.int 1)) (fCons (fC (.str [])) (fNil)))))) (tgTup 4 (tgCons (tgName 1) (tgCons (tgName 2) (tgCons (tgName 3) (tgCons (tgName 4) (tgNil))))))) (gSeq (gFor (fIt (f2 opAdd (fVar 0) (fC (.str [10])))) (tgName 5) (gSeq (gIf (fOrT (fB (fChain opLe opLe (fC (.str [97])) (fVar 5) (fC (.str [122])))) (fB (fChain opLe opLe (fC (.str [48])) (fVar 5) (fC (.str [57]))))) (gSeq (gSet 4 (f2 opAdd (fVar 4) (fVar 5))) (gSeq (gAug 3 (fun x y => x + y) (fC (.int 1))) (gSeq (gCont) (gNx)))) (gNx)) (gSeq (gIf (fB (f2 opNe (fVar 4) (fC (.str [])))) (gSeq (gExpr (fMtL mAppend (fVar 1) (fCons (f2 opAdd (fDef 1 h__law_run (fCons (fVar 4) (fNil))) (fTup (fCons (fVar 2) (fCons (f2 opSub (fVar 3) (fCall cLen (fCons (fVar 4) (fNil)))) (fNil))))) (fNil)))) (gSeq (gSet 4 (fC (.str []))) (gSeq (gIf (fB (f2 opEq (f2 opIdx (f2 opIdx (fVar 1) (f1 opNeg (fC (.int 1)))) (fC (.int 0))) (fC (.str [98, 97, 100])))) (gSeq (gRet (fVar 1)) (gNx)) (gNx)) (gNx)))) (gNx)) (gSeq (gIf (fB (f2 opEq (fVar 5) (fC (.str [10])))) (gSeq (gExpr (fMtL mAppend (fVar 1) (fCons (fTup (fCons (fC (.str [108, 105, 110, 101])) (fCons (fC (.str [])) (fCons (fVar 2) (fCons (fVar 3) (fNil)))))) (fNil)))) (gSeq (gPar 2 3 (fCons (f2 opAdd (fVar 2) (fC (.int 1))) (fCons (fC (.int 1)) (fNil)))) (gSeq (gCont) (gNx)))) (gNx)) (gSeq (gIf (fB (f2 opNe (fVar 5) (fC (.str [32])))) (gSeq (gExpr (fMtL mAppend (fVar 1) (fCons (f2 opAdd (fIf (fB (f2 opIn (fVar 5) (fC (.str [40, 41])))) (fTup (fCons (fC (.str [109, 97, 114, 107])) (fCons (fVar 5) (fNil)))) (fTup (fCons (fC (.str [98, 97, 100])) (fCons (fC (.str [])) (fNil))))) (fTup (fCons (fVar 2) (fCons (fVar 3) (fNil))))) (fNil)))) (gSeq (gIf (fB (f2 opEq (f2 opIdx (f2 opIdx (fVar 1) (f1 opNeg (fC (.int 1)))) (fC (.int 0))) (fC (.str [98, 97, 100])))) (gSeq (gRet (fVar 1)) (gNx)) (gNx)) (gNx))) (gNx)) (gSeq (gAug 3 (fun x y => x + y) (fC (.int 1))) (gNx))))))) (gSeq (gRet (f2 opAdd (fSlc (fVar 1) (fNoP) (fPart (f1 opNeg (fC (.int 1))))) (fLst (fCons (f2 opAdd (fTup (fCons (fC (.str [101, 110, 100])) (fCons (fC (.str [])) (fNil)))) (fSlc (f2 opIdx (fVar 1) (f1 opNeg (fC (.int 1)))) (fPart (fC (.int 2))) (fNoP))) (fNil))))) (gNx)))
def h__law_tokens : List D → St → Out D := runF false 6 b__law_tokens
theorem sc__law_tokens : FnScope N__law_tokens ["text"] (defScope st__law_tokens) := ⟨rfl, rfl, rfl, by decide +kernel, rfl, by decide +kernel, by decide +kernel⟩
theorem w__law_tokens (T : TX K mg v S) {fd__law_run : FuncData} (G__law_run : FnG P w K mg base false 3 v.f__law_run fd__law_run ["run"] (spD S K 1 h__law_run)) (B__law_run : Binds K fd__law_run ["run"] []) {f : Addr} {fd : FuncData} (F : L2.Fun K "_law_tokens" "_law_tokens" st__law_tokens f fd) : FnG P w K mg base false 4 f fd ["text"] (spD S K 1 h__law_tokens) :=
  have SC := sc__law_tokens
  funG (kp := false) (b := b__law_tokens) (N := N__law_tokens) (ps := ["text"]) F SC fun cdv A fr s H E hg hr => ss_cons (s_asg (s_tup (s_cons (s_boxE (s_nil)) (s_cons (s_int) (s_cons (s_int) (s_cons (s_strL (by decide +kernel)) (s_nil) rfl) rfl) rfl) rfl)) (t_tup rfl (t_cons (t_name SC.nd rfl (.inl rfl) (.inl rfl)) (t_cons (t_name SC.nd rfl (.inl rfl) (.inl rfl)) (t_cons (t_name SC.nd rfl (.inl rfl) (.inl rfl)) (t_cons (t_name SC.nd rfl (.inl rfl) (.inl rfl)) (t_nil) rfl) rfl) rfl) rfl) rfl rfl) rfl rfl rfl) (ss_cons (s_for (passes_of rfl) rfl (s_it (s_bin o_add (s_var (i := 0) rfl (.inl rfl) rfl rfl) (s_strL (by decide +kernel)))) (t_name SC.nd rfl (.inl rfl) (.inl rfl)) (ss_cons (s_iff (PW.pt (s_orT (s_chainT o_le o_le rfl (s_strL (by decide +kernel)) (s_var (i := 5) rfl (.inl rfl) rfl rfl) (s_strL (by decide +kernel))) (pw_or1 (s_chainT o_le o_le rfl (s_strL (by decide +kernel)) (s_var (i := 5) rfl (.inl rfl) rfl rfl) (s_strL (by decide +kernel)))))) (ss_cons (s_set (i := 4) SC.nd rfl (.inl rfl) (s_bin o_add (s_var (i := 4) rfl (.inl rfl) rfl rfl) (s_var (i := 5) rfl (.inl rfl) rfl rfl)) rfl (.inl rfl)) (ss_cons (s_aug (i := 3) ip_add SC.nd rfl (.inl rfl) (s_int) (.inl rfl)) (ss_cons (s_cont) (ss_nil)))) (ss_nil)) (ss_cons (s_iff (s_cmpT (o_ne hr.units) rfl (s_var (i := 4) rfl (.inl rfl) rfl rfl) (s_strL (by decide +kernel))) (ss_cons (s_expr (s_mtL PySem.F.slot_list_append PySem.F.type_list_append o_append (s_var (i := 1) rfl (.inl rfl) rfl rfl) (s_cons (s_bin o_add (s_call (ps := ["run"]) (h := h__law_run) (G__law_run.up (by decide)) (by intro z; cases z) hr rfl T.g__law_run T.kf__law_run B__law_run (takes_of rfl rfl rfl rfl) (s_cons (s_var (i := 4) rfl (.inl rfl) rfl rfl) (s_nil) rfl)) (s_tup (s_cons (s_var (i := 2) rfl (.inl rfl) rfl rfl) (s_cons (s_bin o_sub (s_var (i := 3) rfl (.inl rfl) rfl rfl) (s_callB o_len rfl T.n_len (by kernel_rfl) (s_cons (s_var (i := 4) rfl (.inl rfl) rfl rfl) (s_nil) rfl) (by decide) (by decide) rfl rfl)) (s_nil) rfl) rfl))) (s_nil) rfl) rfl rfl rfl rfl rfl) rfl) (ss_cons (s_set (i := 4) SC.nd rfl (.inl rfl) (s_strL (by decide +kernel)) rfl (.inl rfl)) (ss_cons (s_iff (s_cmpT (o_eq hr.units) rfl (s_idx (fun _ _ => rfl) (s_idx (fun _ _ => rfl) (s_var (i := 1) rfl (.inl rfl) rfl rfl) (s_neg (s_int))) (s_int)) (s_strL (by decide +kernel))) (ss_cons (s_ret (s_var (i := 1) rfl (.inl rfl) rfl rfl)) (ss_nil)) (ss_nil)) (ss_nil)))) (ss_nil)) (ss_cons (s_iff (s_cmpT (o_eq hr.units) rfl (s_var (i := 5) rfl (.inl rfl) rfl rfl) (s_strL (by decide +kernel))) (ss_cons (s_expr (s_mtL PySem.F.slot_list_append PySem.F.type_list_append o_append (s_var (i := 1) rfl (.inl rfl) rfl rfl) (s_cons (s_tup (s_cons (s_strL (by decide +kernel)) (s_cons (s_strL (by decide +kernel)) (s_cons (s_var (i := 2) rfl (.inl rfl) rfl rfl) (s_cons (s_var (i := 3) rfl (.inl rfl) rfl rfl) (s_nil) rfl) rfl) rfl) rfl)) (s_nil) rfl) rfl rfl rfl rfl rfl) rfl) (ss_cons (s_par (i := 2) (j := 3) rfl SC.nd rfl rfl (by decide) rfl rfl (s_cons (s_bin o_add (s_var (i := 2) rfl (.inl rfl) rfl rfl) (s_int)) (s_cons (s_int) (s_nil) rfl) rfl) rfl rfl) (ss_cons (s_cont) (ss_nil)))) (ss_nil)) (ss_cons (s_iff (s_cmpT (o_ne hr.units) rfl (s_var (i := 5) rfl (.inl rfl) rfl rfl) (s_strL (by decide +kernel))) (ss_cons (s_expr (s_mtL PySem.F.slot_list_append PySem.F.type_list_append o_append (s_var (i := 1) rfl (.inl rfl) rfl rfl) (s_cons (s_bin o_add (s_if (s_cmpT o_in rfl (s_var (i := 5) rfl (.inl rfl) rfl rfl) (s_strL (by decide +kernel))) (s_tup (s_cons (s_strL (by decide +kernel)) (s_cons (s_var (i := 5) rfl (.inl rfl) rfl rfl) (s_nil) rfl) rfl)) (s_tup (s_cons (s_strL (by decide +kernel)) (s_cons (s_strL (by decide +kernel)) (s_nil) rfl) rfl))) (s_tup (s_cons (s_var (i := 2) rfl (.inl rfl) rfl rfl) (s_cons (s_var (i := 3) rfl (.inl rfl) rfl rfl) (s_nil) rfl) rfl))) (s_nil) rfl) rfl rfl rfl rfl rfl) rfl) (ss_cons (s_iff (s_cmpT (o_eq hr.units) rfl (s_idx (fun _ _ => rfl) (s_idx (fun _ _ => rfl) (s_var (i := 1) rfl (.inl rfl) rfl rfl) (s_neg (s_int))) (s_int)) (s_strL (by decide +kernel))) (ss_cons (s_ret (s_var (i := 1) rfl (.inl rfl) rfl rfl)) (ss_nil)) (ss_nil)) (ss_nil))) (ss_nil)) (ss_cons (s_aug (i := 3) ip_add SC.nd rfl (.inl rfl) (s_int) (.inl rfl)) (ss_nil)))))) (fun _ => rfl)) (ss_cons (s_ret (s_bin o_add (s_slc (s_var (i := 1) rfl (.inl rfl) rfl rfl) (s_noP) (s_part (s_neg (s_int)))) (s_lst (s_cons (s_bin o_add (s_tup (s_cons (s_strL (by decide +kernel)) (s_cons (s_strL (by decide +kernel)) (s_nil) rfl) rfl)) (s_slc (s_idx (fun _ _ => rfl) (s_var (i := 1) rfl (.inl rfl) rfl rfl) (s_neg (s_int))) (s_part (s_int)) (s_noP))) (s_nil) rfl)))) (ss_nil)))
abbrev st__law_heard : Stmt := top 32
abbrev N__law_heard : List Str := ["call", "error"]
theorem sc__law_heard : FnScope N__law_heard ["call"] (defScope st__law_heard) := ⟨rfl, rfl, rfl, by decide +kernel, rfl, by decide +kernel, by decide +kernel⟩
abbrev told__law_heard : List Nat := [116, 111, 108, 100]
def sd_TooLarge (a d : Nat) : Env → St → SO := gSeq (gRet (fTup (fCons (fC (.str [84, 111, 111, 76, 97, 114, 103, 101])) (fCons (fXf 1 a d "what") (fCons (fXf 1 a d "limit") (fNil)))))) gNx
def sf_TooLarge (ds : List D) (st : St) : SO := gSeq (gRet (fTup (fCons (fC (.str [84, 111, 111, 76, 97, 114, 103, 101])) (fCons (fDs ds 0) (fCons (fDs ds 1) (fNil)))))) gNx [] st
theorem se_TooLarge (a d : Nat) (ds : List D) (st : St) : sd_TooLarge a d (envX 2 1 a d ["what", "limit"] ds) st = sf_TooLarge ds st := by
    have e2 : ∀ st, fXf 1 a d "limit" (envX 2 1 a d ["what", "limit"] ds) st = fDs ds 1 [] st := fun st => fXf_env (by decide) (by decide +kernel)
    have e1 : ∀ st, fXf 1 a d "what" (envX 2 1 a d ["what", "limit"] ds) st = fDs ds 0 [] st := fun st => fXf_env (by decide) (by decide +kernel)
    unfold sd_TooLarge sf_TooLarge
    simp only [gSeq, gRet, fTup, fCons, fC, fNil, e2, e1]
def hs__law_heard : List HD := [.any (fun c => decide (c = 5)) (gSeq (gRet (fTup (fCons (fC (.str [78, 111, 116, 104, 105, 110, 103])) (fNil)))) (gNx)), .no (fun c => decide (c = 0)), .no (fun c => decide (c = 1)), .no (fun c => decide (c = 2)), .no (fun c => decide (c = 3)), .no (fun c => decide (c = 4)), .fld (fun c => decide (c = 6)) 6 1 sf_TooLarge]
theorem hd__law_heard {X : Cx} {g : Addr} {cdv : Value} (T : TX X.K X.mg v S) (s : Shared) (H : Hp) : HdR S (cxOf C8.CX0 X.prog X.w X.K X.mg X.base N__law_heard "_law_heard" (defScope st__law_heard) g cdv X.A X.stack s H C8.E0).nox 7 (match defBody st__law_heard with | [.Try _ hs _ _ _] => hs | _ => []) hs__law_heard :=
  HdR.any ⟨rfl, rfl, .inl T.g_Nothing⟩ (fun c hc => by have z := T.xm c hc 5 (by decide); rw [T.at_Nothing] at z; exact z) (fun a oe pn => ss_cons (s_ret (s_tup (s_cons (s_strL (by decide +kernel)) (s_nil) rfl))) (ss_nil)) (HdR.noA (i := 1) ⟨rfl, rfl, .inl T.g_BadText⟩ (fun c hc => by have z := T.xm c hc 0 (by decide); rw [T.at_BadText] at z; exact z) sc__law_heard.nd rfl rfl (HdR.noA (i := 1) ⟨rfl, rfl, .inl T.g_BadKind⟩ (fun c hc => by have z := T.xm c hc 1 (by decide); rw [T.at_BadKind] at z; exact z) sc__law_heard.nd rfl rfl (HdR.noA (i := 1) ⟨rfl, rfl, .inl T.g_BadWeb⟩ (fun c hc => by have z := T.xm c hc 2 (by decide); rw [T.at_BadWeb] at z; exact z) sc__law_heard.nd rfl rfl (HdR.noA (i := 1) ⟨rfl, rfl, .inl T.g_BadProgram⟩ (fun c hc => by have z := T.xm c hc 3 (by decide); rw [T.at_BadProgram] at z; exact z) sc__law_heard.nd rfl rfl (HdR.noA (i := 1) ⟨rfl, rfl, .inl T.g_NoCommand⟩ (fun c hc => by have z := T.xm c hc 4 (by decide); rw [T.at_NoCommand] at z; exact z) sc__law_heard.nd rfl rfl (HdR.fld (s := sd_TooLarge) ⟨rfl, rfl, .inl T.g_TooLarge⟩ (fun c hc => by have z := T.xm c hc 6 (by decide); rw [T.at_TooLarge] at z; exact z) sc__law_heard.nd rfl rfl (by rw [T.fs_TooLarge]; exact List.cons_ne_nil _ _) (fun a d oe pn hz hv => ss_cons (s_ret (s_tup (s_cons (s_strL (by decide +kernel)) (s_cons (s_xf T.xf_TooLarge T.no_TooLarge_what hz hv rfl (.inl rfl) rfl rfl rfl) (s_cons (s_xf T.xf_TooLarge T.no_TooLarge_limit hz hv rfl (.inl rfl) rfl rfl rfl) (s_nil) rfl) rfl) rfl))) ss_nil) (fun a d ds st _ => by rw [T.fs_TooLarge]; exact se_TooLarge a d ds st) (HdR.nil)))))))
abbrev st_law : Stmt := top 35
abbrev N_law : List Str := ["script", "bag", "turn", "words", "odd", "parts", "lap", "text", "long", "thing"]
def b_law : Env → St → SO := gSeq (gSet 1 (fDef 1 h__law_bag (fCons (fVar 0) (fNil)))) (gSeq (gFor (fRg1 (fCons (fC (.int 6)) (fNil))) (tgName 2) (gSeq (gSet 3 (f2 opAdd (fDef 0 h__law_words fNil) (fLst (fCons (fC (.str [97])) (fCons (fC (.str [98, 55])) (fCons (fC (.str [108, 111, 110, 103, 110, 97, 109, 101])) (fCons (fC (.str [110, 97, 109, 101, 57])) (fCons (fC (.str [48])) (fCons (fC (.str [55])) (fCons (fC (.str [50, 48])) (fCons (fC (.str [57, 57, 57, 57])) (fCons (fC (.str [40])) (fCons (fC (.str [41])) (fCons (fC (.str [10])) (fCons (fC (.str [10])) (fNil)))))))))))))))) (gSeq (gSet 4 (fLst (fCons (fC (.str [48, 48])) (fCons (fC (.str [48, 55])) (fCons (fC (.str [49, 48, 48, 48, 48])) (fCons (fC (.str [55, 97])) (fCons (fC (.str [116, 111, 111, 108, 111, 110, 103, 110, 97, 109, 101])) (fCons (fC (.str [65])) (fCons (fC (.str [45])) (fCons (fC (.str [58])) (fCons (fC (.str [120, 49])) (fCons (fC (.str [120, 121, 122])) (fNil))))))))))))) (gSeq (gSet 5 (fBox (fNil))) (gSeq (gFor (fRg1 (fCons (fDef 2 h__law_take (fCons (fVar 1) (fCons (fC (.int 30)) (fNil)))) (fNil))) (tgName 6) (gSeq (gExpr (fMtL mAppend (fVar 5) (fCons (f2 opAdd (fDef 2 h__law_some (fCons (fVar 1) (fCons (fIf (fB (f2 opGt (fDef 2 h__law_take (fCons (fVar 1) (fCons (fC (.int 12)) (fNil)))) (fC (.int 0)))) (fVar 3) (fVar 4)) (fNil)))) (fDef 2 h__law_some (fCons (fVar 1) (fCons (fLst (fCons (fC (.str [32])) (fCons (fC (.str [32])) (fCons (fC (.str [32])) (fCons (fC (.str [32, 32])) (fCons (fC (.str [])) (fCons (fC (.str [10])) (fNil)))))))) (fNil))))) (fNil)))) (gNx))) (gSeq (gSet 7 (fMtS mJoin (fC (.str [])) (fCons (fVar 5) (fNil)))) (gSeq (gIf (fNotT (fB (fDef 2 h__law_alike (fCons (fDef 1 h_tokens (fCons (fVar 7) (fNil))) (fCons (fCall cTup (fCons (fDef 1 h__law_tokens (fCons (fVar 7) (fNil))) (fNil))) (fNil)))))) (gSeq (gRet (fC (.bl false))) (gNx)) (gNx)) (gNx)))))))) (gSeq (gSet 8 (f2 opAdd (f2 opMul (fC (.str [32])) (fC (.int 19999))) (fC (.str [97])))) (gSeq (gIf (fOrT (fNotT (fB (fDef 2 h__law_alike (fCons (fDef 1 h_tokens (fCons (fVar 8) (fNil))) (fCons (fTup (fCons (fTup (fCons (fC (.str [110, 97, 109, 101])) (fCons (fC (.str [97])) (fCons (fC (.int 1)) (fCons (fC (.int 20000)) (fNil)))))) (fCons (fTup (fCons (fC (.str [101, 110, 100])) (fCons (fC (.str [])) (fCons (fC (.int 1)) (fCons (fC (.int 20001)) (fNil)))))) (fNil)))) (fNil)))))) (fB (f2 opNe (fHeard 2 7 told__law_heard hs__law_heard (fDef 1 h_tokens (fCons (f2 opAdd (fVar 8) (fC (.str [32]))) (fNil)))) (fTup (fCons (fC (.str [84, 111, 111, 76, 97, 114, 103, 101])) (fCons (fC (.str [115, 105, 103, 110, 115])) (fCons (fC (.int 20000)) (fNil)))))))) (gSeq (gRet (fC (.bl false))) (gNx)) (gNx)) (gSeq (gFor (fIt (fTup (fCons (fC .non) (fCons (fC (.int 0)) (fCons (fTup (fNil)) (fCons (fTup (fCons (fC (.str [97])) (fNil))) (fCons (fLst (fCons (fC (.str [97])) (fNil))) (fNil)))))))) (tgName 9) (gSeq (gIf (fB (f2 opNe (fHeard 2 7 told__law_heard hs__law_heard (fDef 1 h_tokens (fCons (fVar 9) (fNil)))) (fTup (fCons (fC (.str [78, 111, 116, 104, 105, 110, 103])) (fNil))))) (gSeq (gRet (fC (.bl false))) (gNx)) (gNx)) (gNx))) (gSeq (gRet (fC (.bl true))) (gNx))))))
def h_law : List D → St → Out D := runF false 10 b_law
theorem sc_law : FnScope N_law ["script"] (defScope st_law) := ⟨rfl, rfl, rfl, by decide +kernel, rfl, by decide +kernel, by decide +kernel⟩
theorem w_law (T : TX K mg v S) {fd__law_alike : FuncData} (G__law_alike : FnG P w K mg base true 1 v.f__law_alike fd__law_alike ["found", "due"] (spD S K 2 h__law_alike)) (B__law_alike : Binds K fd__law_alike ["found", "due"] []) {fd__law_bag : FuncData} (G__law_bag : FnG P w K mg base false 1 v.f__law_bag fd__law_bag ["script"] (spD S K 1 h__law_bag)) (B__law_bag : Binds K fd__law_bag ["script"] []) {fd__law_some : FuncData} (G__law_some : FnG P w K mg base false 2 v.f__law_some fd__law_some ["bag", "things"] (spD S K 2 h__law_some)) (B__law_some : Binds K fd__law_some ["bag", "things"] []) {fd__law_take : FuncData} (G__law_take : FnG P w K mg base false 1 v.f__law_take fd__law_take ["bag", "many"] (spD S K 2 h__law_take)) (B__law_take : Binds K fd__law_take ["bag", "many"] []) {fd__law_tokens : FuncData} (G__law_tokens : FnG P w K mg base false 4 v.f__law_tokens fd__law_tokens ["text"] (spD S K 1 h__law_tokens)) (B__law_tokens : Binds K fd__law_tokens ["text"] []) {fd__law_words : FuncData} (G__law_words : FnG P w K mg base false 1 v.f__law_words fd__law_words [] (spD S K 0 h__law_words)) (B__law_words : Binds K fd__law_words [] []) {fd_tokens : FuncData} (G_tokens : FnG P w K mg base false 4 v.f_tokens fd_tokens ["text"] (spD S K 1 h_tokens)) (B_tokens : Binds K fd_tokens ["text"] []) {f tc : Addr} {kV doc pm ct oc : Value} {an od : Option Addr} {osl : Array (Option Value)} (lk : K.lookup f = some ⟨oc, od, .func (PySem.W.fnOf "law" "law" (defArgs st_law) (defBody st_law) (defScope st_law) .none kV doc pm an (.ref tc) ct), osl⟩) (hcd : PySem.W.codeIn K (.ref tc) "law" = true) {fdh : FuncData} (Fh : L2.Fun K "_law_heard" "_law_heard" st__law_heard v.f__law_heard fdh) (Bh : Binds K fdh ["call"] []) {tP : Addr} (TB : LamX.TabB base mg tc tP) (hmT : (tP, ("law.<locals>.<lambda>" : Str)) ∈ S.T) (hu : ∀ p ∈ S.T, p.1 = tP → p.2 = ("law.<locals>.<lambda>" : Str)) :
    FnG P w K mg base true 7 f (PySem.W.fnOf "law" "law" (defArgs st_law) (defBody st_law) (defScope st_law) .none kV doc pm an (.ref tc) ct) ["script"] (spD S K 1 h_law) := by
  obtain ⟨och, odh, kVh, doch, pmh, anh, cdvh, cth, oslh, eh, lkh, hch⟩ := Fh.ex
  subst eh
  have SC := sc_law
  exact fnG_of (kp := false) (b := b_law) (N := N_law) (ps := ["script"]) lk hcd SC fun A fr s H E hg hr => ss_cons (s_set (i := 1) SC.nd rfl (.inl rfl) (s_call (ps := ["script"]) (h := h__law_bag) (G__law_bag.up (by decide)) (by intro z; cases z) hr rfl T.g__law_bag T.kf__law_bag B__law_bag (takes_of rfl rfl rfl rfl) (s_cons (s_var (i := 0) rfl (.inl rfl) rfl rfl) (s_nil) rfl)) rfl (.inl rfl)) (ss_cons (s_for (passes_of rfl) rfl (s_rg1 rfl T.n_range (s_cons (s_int) (s_nil) rfl) rfl) (t_name SC.nd rfl (.inl rfl) (.inl rfl)) (ss_cons (s_set (i := 3) SC.nd rfl (.inl rfl) (s_bin o_add (s_call0 (h := h__law_words) (G__law_words.up (by decide)) (by intro z; cases z) hr rfl T.g__law_words T.kf__law_words B__law_words (takes_of rfl rfl rfl rfl)) (s_lst (s_cons (s_strL (by decide +kernel)) (s_cons (s_strL (by decide +kernel)) (s_cons (s_strL (by decide +kernel)) (s_cons (s_strL (by decide +kernel)) (s_cons (s_strL (by decide +kernel)) (s_cons (s_strL (by decide +kernel)) (s_cons (s_strL (by decide +kernel)) (s_cons (s_strL (by decide +kernel)) (s_cons (s_strL (by decide +kernel)) (s_cons (s_strL (by decide +kernel)) (s_cons (s_strL (by decide +kernel)) (s_cons (s_strL (by decide +kernel)) (s_nil) rfl) rfl) rfl) rfl) rfl) rfl) rfl) rfl) rfl) rfl) rfl) rfl))) rfl (.inl rfl)) (ss_cons (s_set (i := 4) SC.nd rfl (.inl rfl) (s_lst (s_cons (s_strL (by decide +kernel)) (s_cons (s_strL (by decide +kernel)) (s_cons (s_strL (by decide +kernel)) (s_cons (s_strL (by decide +kernel)) (s_cons (s_strL (by decide +kernel)) (s_cons (s_strL (by decide +kernel)) (s_cons (s_strL (by decide +kernel)) (s_cons (s_strL (by decide +kernel)) (s_cons (s_strL (by decide +kernel)) (s_cons (s_strL (by decide +kernel)) (s_nil) rfl) rfl) rfl) rfl) rfl) rfl) rfl) rfl) rfl) rfl)) rfl (.inl rfl)) (ss_cons (s_set (i := 5) SC.nd rfl (.inl rfl) (s_boxE (s_nil)) rfl (.inl rfl)) (ss_cons (s_for (passes_of rfl) rfl (s_rg1 rfl T.n_range (s_cons (s_call (ps := ["bag", "many"]) (h := h__law_take) (G__law_take.up (by decide)) (by intro z; cases z) hr rfl T.g__law_take T.kf__law_take B__law_take (takes_of rfl rfl rfl rfl) (s_cons (s_var (i := 1) rfl (.inl rfl) rfl rfl) (s_cons (s_int) (s_nil) rfl) rfl)) (s_nil) rfl) rfl) (t_name SC.nd rfl (.inl rfl) (.inl rfl)) (ss_cons (s_expr (s_mtL PySem.F.slot_list_append PySem.F.type_list_append o_append (s_var (i := 5) rfl (.inl rfl) rfl rfl) (s_cons (s_bin o_add (s_call (ps := ["bag", "things"]) (h := h__law_some) (G__law_some.up (by decide)) (by intro z; cases z) hr rfl T.g__law_some T.kf__law_some B__law_some (takes_of rfl rfl rfl rfl) (s_cons (s_var (i := 1) rfl (.inl rfl) rfl rfl) (s_cons (s_if (s_cmpT o_gt rfl (s_call (ps := ["bag", "many"]) (h := h__law_take) (G__law_take.up (by decide)) (by intro z; cases z) hr rfl T.g__law_take T.kf__law_take B__law_take (takes_of rfl rfl rfl rfl) (s_cons (s_var (i := 1) rfl (.inl rfl) rfl rfl) (s_cons (s_int) (s_nil) rfl) rfl)) (s_int)) (s_var (i := 3) rfl (.inl rfl) rfl rfl) (s_var (i := 4) rfl (.inl rfl) rfl rfl)) (s_nil) rfl) rfl)) (s_call (ps := ["bag", "things"]) (h := h__law_some) (G__law_some.up (by decide)) (by intro z; cases z) hr rfl T.g__law_some T.kf__law_some B__law_some (takes_of rfl rfl rfl rfl) (s_cons (s_var (i := 1) rfl (.inl rfl) rfl rfl) (s_cons (s_lst (s_cons (s_strL (by decide +kernel)) (s_cons (s_strL (by decide +kernel)) (s_cons (s_strL (by decide +kernel)) (s_cons (s_strL (by decide +kernel)) (s_cons (s_strL (by decide +kernel)) (s_cons (s_strL (by decide +kernel)) (s_nil) rfl) rfl) rfl) rfl) rfl) rfl)) (s_nil) rfl) rfl))) (s_nil) rfl) rfl rfl rfl rfl rfl) rfl) (ss_nil)) (fun _ => rfl)) (ss_cons (s_set (i := 7) SC.nd rfl (.inl rfl) (s_mtS PySem.F.slot_str_join PySem.F.type_str_join o_join (s_strL (by decide +kernel)) (s_cons (s_var (i := 5) rfl (.inl rfl) rfl rfl) (s_nil) rfl) rfl rfl rfl rfl rfl) rfl (.inl rfl)) (ss_cons (s_iff (s_notT (s_val (s_call (ps := ["found", "due"]) (h := h__law_alike) (G__law_alike.up (by decide)) (fun _ => hg rfl) hr rfl T.g__law_alike T.kf__law_alike B__law_alike (takes_of rfl rfl rfl rfl) (s_cons (s_call (ps := ["text"]) (h := h_tokens) (G_tokens.up (by decide)) (by intro z; cases z) hr rfl T.g_tokens T.kf_tokens B_tokens (takes_of rfl rfl rfl rfl) (s_cons (s_var (i := 7) rfl (.inl rfl) rfl rfl) (s_nil) rfl)) (s_cons (s_callTy o_tup rfl T.n_tuple (by kernel_rfl) (s_cons (s_call (ps := ["text"]) (h := h__law_tokens) (G__law_tokens.up (by decide)) (by intro z; cases z) hr rfl T.g__law_tokens T.kf__law_tokens B__law_tokens (takes_of rfl rfl rfl rfl) (s_cons (s_var (i := 7) rfl (.inl rfl) rfl rfl) (s_nil) rfl)) (s_nil) rfl) (by decide) (by decide) rfl rfl) (s_nil) rfl) rfl)) (fun _ => rfl))) (ss_cons (s_ret (s_bl)) (ss_nil)) (ss_nil)) (ss_nil))))))) (fun _ => rfl)) (ss_cons (s_set (i := 8) SC.nd rfl (.inr rfl) (s_bin o_add (s_bin o_mul (s_strL (by decide +kernel)) (s_int)) (s_strL (by decide +kernel))) rfl (.inl rfl)) (ss_cons (s_iff (PW.pt (s_orT (s_notT (s_val (s_call (ps := ["found", "due"]) (h := h__law_alike) (G__law_alike.up (by decide)) (fun _ => hg rfl) hr rfl T.g__law_alike T.kf__law_alike B__law_alike (takes_of rfl rfl rfl rfl) (s_cons (s_call (ps := ["text"]) (h := h_tokens) (G_tokens.up (by decide)) (by intro z; cases z) hr rfl T.g_tokens T.kf_tokens B_tokens (takes_of rfl rfl rfl rfl) (s_cons (s_var (i := 8) rfl (.inr (.inl rfl)) rfl rfl) (s_nil) rfl)) (s_cons (s_tup (s_cons (s_tup (s_cons (s_strL (by decide +kernel)) (s_cons (s_strL (by decide +kernel)) (s_cons (s_int) (s_cons (s_int) (s_nil) rfl) rfl) rfl) rfl)) (s_cons (s_tup (s_cons (s_strL (by decide +kernel)) (s_cons (s_strL (by decide +kernel)) (s_cons (s_int) (s_cons (s_int) (s_nil) rfl) rfl) rfl) rfl)) (s_nil) rfl) rfl)) (s_nil) rfl) rfl)) (fun _ => rfl))) (pw_or1 (s_cmpT (o_ne hr.units) rfl (s_heard (Ng := N__law_heard) (tl := told__law_heard) (nc := 7) (l := hs__law_heard) (by decide +kernel) rfl T.g__law_heard T.kf__law_heard lkh hch Bh sc__law_heard rfl (.inl rfl) (fun _ => rfl) (fun s H => hd__law_heard T s H) TB rfl hmT hu hr (LamX.lamS_by (sc := defScope st_law) (by decide +kernel)) rfl (fun _ _ _ _ _ => rfl) (fun A outer s H E f c' hr => s_call (ps := ["text"]) (h := h_tokens) (G_tokens.up (by decide)) (by intro z; cases z) hr rfl T.g_tokens T.kf_tokens B_tokens (takes_of rfl rfl rfl rfl) (s_cons (s_bin o_add (s_var (i := 8) rfl (.inr (.inr rfl)) rfl rfl) (s_strL (by decide +kernel))) (s_nil) rfl))) (s_tup (s_cons (s_strL (by decide +kernel)) (s_cons (s_strL (by decide +kernel)) (s_cons (s_int) (s_nil) rfl) rfl) rfl)))))) (ss_cons (s_ret (s_bl)) (ss_nil)) (ss_nil)) (ss_cons (s_for (passes_of rfl) rfl (s_it (s_tup (s_cons (s_non) (s_cons (s_int) (s_cons (s_tup (s_nil)) (s_cons (s_tup (s_cons (s_strL (by decide +kernel)) (s_nil) rfl)) (s_cons (s_lst (s_cons (s_strL (by decide +kernel)) (s_nil) rfl)) (s_nil) rfl) rfl) rfl) rfl) rfl))) (t_name SC.nd rfl (.inr rfl) (.inl rfl)) (ss_cons (s_iff (s_cmpT (o_ne hr.units) rfl (s_heard (Ng := N__law_heard) (tl := told__law_heard) (nc := 7) (l := hs__law_heard) (by decide +kernel) rfl T.g__law_heard T.kf__law_heard lkh hch Bh sc__law_heard rfl (.inl rfl) (fun _ => rfl) (fun s H => hd__law_heard T s H) TB rfl hmT hu hr (LamX.lamS_by (sc := defScope st_law) (by decide +kernel)) rfl (fun _ _ _ _ _ => rfl) (fun A outer s H E f c' hr => s_call (ps := ["text"]) (h := h_tokens) (G_tokens.up (by decide)) (by intro z; cases z) hr rfl T.g_tokens T.kf_tokens B_tokens (takes_of rfl rfl rfl rfl) (s_cons (s_var (i := 9) rfl (.inr (.inr rfl)) rfl rfl) (s_nil) rfl))) (s_tup (s_cons (s_strL (by decide +kernel)) (s_nil) rfl))) (ss_cons (s_ret (s_bl)) (ss_nil)) (ss_nil)) (ss_nil)) (fun _ => rfl)) (ss_cons (s_ret (s_bl)) (ss_nil))))))
end
section
theorem all_mk {w : World} {q : Program} {K : PySem.W.Frag} {hp : Heap} {mg : Str → Option Value} {fa : Addr}
    {fend_of_run : Addr} {odend_of_run anend_of_run : Option Addr} {slend_of_run : Array (Option Value)} {ocend_of_run kVend_of_run dcend_of_run pmend_of_run cdend_of_run ctend_of_run : Value}
    {fis_figures : Addr} {odis_figures anis_figures : Option Addr} {slis_figures : Array (Option Value)} {ocis_figures kVis_figures dcis_figures pmis_figures cdis_figures ctis_figures : Value}
    {fis_name : Addr} {odis_name anis_name : Option Addr} {slis_name : Array (Option Value)} {ocis_name kVis_name dcis_name pmis_name cdis_name ctis_name : Value}
    {frun_token : Addr} {odrun_token anrun_token : Option Addr} {slrun_token : Array (Option Value)} {ocrun_token kVrun_token dcrun_token pmrun_token cdrun_token ctrun_token : Value}
    {ftoken_at : Addr} {odtoken_at antoken_at : Option Addr} {sltoken_at : Array (Option Value)} {octoken_at kVtoken_at dctoken_at pmtoken_at cdtoken_at cttoken_at : Value}
    {ftokens : Addr} {odtokens antokens : Option Addr} {sltokens : Array (Option Value)} {octokens kVtokens dctokens pmtokens cdtokens cttokens : Value}
    {f_law_words : Addr} {od_law_words an_law_words : Option Addr} {sl_law_words : Array (Option Value)} {oc_law_words kV_law_words dc_law_words pm_law_words cd_law_words ct_law_words : Value}
    {f_law_is_name : Addr} {od_law_is_name an_law_is_name : Option Addr} {sl_law_is_name : Array (Option Value)} {oc_law_is_name kV_law_is_name dc_law_is_name pm_law_is_name cd_law_is_name ct_law_is_name : Value}
    {f_law_bag : Addr} {od_law_bag an_law_bag : Option Addr} {sl_law_bag : Array (Option Value)} {oc_law_bag kV_law_bag dc_law_bag pm_law_bag cd_law_bag ct_law_bag : Value}
    {f_law_take : Addr} {od_law_take an_law_take : Option Addr} {sl_law_take : Array (Option Value)} {oc_law_take kV_law_take dc_law_take pm_law_take cd_law_take ct_law_take : Value}
    {f_law_some : Addr} {od_law_some an_law_some : Option Addr} {sl_law_some : Array (Option Value)} {oc_law_some kV_law_some dc_law_some pm_law_some cd_law_some ct_law_some : Value}
    {f_law_alike : Addr} {od_law_alike an_law_alike : Option Addr} {sl_law_alike : Array (Option Value)} {oc_law_alike kV_law_alike dc_law_alike pm_law_alike cd_law_alike ct_law_alike : Value}
    {f_law_run : Addr} {od_law_run an_law_run : Option Addr} {sl_law_run : Array (Option Value)} {oc_law_run kV_law_run dc_law_run pm_law_run cd_law_run ct_law_run : Value}
    {f_law_tokens : Addr} {od_law_tokens an_law_tokens : Option Addr} {sl_law_tokens : Array (Option Value)} {oc_law_tokens kV_law_tokens dc_law_tokens pm_law_tokens cd_law_tokens ct_law_tokens : Value}
    {f_law_heard : Addr} {od_law_heard an_law_heard : Option Addr} {sl_law_heard : Array (Option Value)} {oc_law_heard kV_law_heard dc_law_heard pm_law_heard cd_law_heard ct_law_heard : Value}
    {flaw : Addr} {odlaw anlaw : Option Addr} {sllaw : Array (Option Value)} {oclaw kVlaw dclaw pmlaw ctlaw : Value}
    {tc tP : Addr} {te : Value} {td : Option Addr} {tv : Array Value} {ts : Array (Option Value)}
    {uDIGITS : Value}
    {uLETTERS : Value}
    {uMOST_FIGURES : Value}
    {uMOST_LETTERS : Value}
    {uMOST_SIGNS : Value}
    {aRESERVED : Addr} {ddRESERVED : Option Addr} {itsRESERVED : Array Value} {usRESERVED : List Value} {nRESERVED : Nat} {slRESERVED : Array (Option Value)}
    {cBadText : Addr}
    {cBadKind : Addr}
    {cBadWeb : Addr}
    {cBadProgram : Addr}
    {cNoCommand : Addr}
    {cNothing : Addr}
    {cTooLarge : Addr}
    {iTooLarge DTooLarge cdaTooLarge ccTooLarge : Addr} {odITooLarge anITooLarge cddTooLarge cldTooLarge : Option Addr} {slITooLarge ccsTooLarge cslTooLarge : Array (Option Value)} {ocITooLarge kVITooLarge dcITooLarge pmITooLarge ctITooLarge cclTooLarge clTooLarge : Value} {vcTooLarge : Array Value} {fileTooLarge : Str} {tfTooLarge : Tok} {bmTooLarge : List Value} {nmTooLarge qnTooLarge : Str} {NTooLarge : Addr} {bsTooLarge sbTooLarge : List Value} {snTooLarge : List Str} {abTooLarge : Bool} {colTooLarge : Option Bool} {ddTooLarge : Option Addr} {k0TooLarge k1TooLarge k2TooLarge k3TooLarge k5TooLarge : Option Value}
    (hans : ∀ ns : List Int, ns.length ≤ 63 → (∀ z ∈ ns, Builtin.Int.intBits z ≤ 1048576) → ∃ st, h_law [.lsk (ns.map MP.D.int)] st0 = .ok (.bl true) st) (X : K.In hp) (G : hp.Ns mainGlobals mg) (hfa : mg "law" = some (.ref fa)) (OT : OwnTabs q mg K hp) (hrec : ((recsOf q).any fun e => e.name == ("law" : Str)) = true)
    (aend_of_run : PySem.W.nsIn K mainGlobals "end_of_run" = some (some (.ref fend_of_run)))
    (lend_of_run : K.lookup fend_of_run = some ⟨ocend_of_run, odend_of_run, .func (PySem.W.fnOf "end_of_run" "end_of_run" (defArgs st_end_of_run) (defBody st_end_of_run) (defScope st_end_of_run) .none kVend_of_run dcend_of_run pmend_of_run anend_of_run cdend_of_run ctend_of_run), slend_of_run⟩)
    (eend_of_run : PySem.W.codeIn K cdend_of_run "end_of_run" = true)
    (kend_of_run : PySem.W.keepIn K (.ref fend_of_run) = true)
    (ais_figures : PySem.W.nsIn K mainGlobals "is_figures" = some (some (.ref fis_figures)))
    (lis_figures : K.lookup fis_figures = some ⟨ocis_figures, odis_figures, .func (PySem.W.fnOf "is_figures" "is_figures" (defArgs st_is_figures) (defBody st_is_figures) (defScope st_is_figures) .none kVis_figures dcis_figures pmis_figures anis_figures cdis_figures ctis_figures), slis_figures⟩)
    (eis_figures : PySem.W.codeIn K cdis_figures "is_figures" = true)
    (kis_figures : PySem.W.keepIn K (.ref fis_figures) = true)
    (ais_name : PySem.W.nsIn K mainGlobals "is_name" = some (some (.ref fis_name)))
    (lis_name : K.lookup fis_name = some ⟨ocis_name, odis_name, .func (PySem.W.fnOf "is_name" "is_name" (defArgs st_is_name) (defBody st_is_name) (defScope st_is_name) .none kVis_name dcis_name pmis_name anis_name cdis_name ctis_name), slis_name⟩)
    (eis_name : PySem.W.codeIn K cdis_name "is_name" = true)
    (kis_name : PySem.W.keepIn K (.ref fis_name) = true)
    (arun_token : PySem.W.nsIn K mainGlobals "run_token" = some (some (.ref frun_token)))
    (lrun_token : K.lookup frun_token = some ⟨ocrun_token, odrun_token, .func (PySem.W.fnOf "run_token" "run_token" (defArgs st_run_token) (defBody st_run_token) (defScope st_run_token) .none kVrun_token dcrun_token pmrun_token anrun_token cdrun_token ctrun_token), slrun_token⟩)
    (erun_token : PySem.W.codeIn K cdrun_token "run_token" = true)
    (krun_token : PySem.W.keepIn K (.ref frun_token) = true)
    (atoken_at : PySem.W.nsIn K mainGlobals "token_at" = some (some (.ref ftoken_at)))
    (ltoken_at : K.lookup ftoken_at = some ⟨octoken_at, odtoken_at, .func (PySem.W.fnOf "token_at" "token_at" (defArgs st_token_at) (defBody st_token_at) (defScope st_token_at) .none kVtoken_at dctoken_at pmtoken_at antoken_at cdtoken_at cttoken_at), sltoken_at⟩)
    (etoken_at : PySem.W.codeIn K cdtoken_at "token_at" = true)
    (ktoken_at : PySem.W.keepIn K (.ref ftoken_at) = true)
    (atokens : PySem.W.nsIn K mainGlobals "tokens" = some (some (.ref ftokens)))
    (ltokens : K.lookup ftokens = some ⟨octokens, odtokens, .func (PySem.W.fnOf "tokens" "tokens" (defArgs st_tokens) (defBody st_tokens) (defScope st_tokens) .none kVtokens dctokens pmtokens antokens cdtokens cttokens), sltokens⟩)
    (etokens : PySem.W.codeIn K cdtokens "tokens" = true)
    (ktokens : PySem.W.keepIn K (.ref ftokens) = true)
    (a_law_words : PySem.W.nsIn K mainGlobals "_law_words" = some (some (.ref f_law_words)))
    (l_law_words : K.lookup f_law_words = some ⟨oc_law_words, od_law_words, .func (PySem.W.fnOf "_law_words" "_law_words" (defArgs st__law_words) (defBody st__law_words) (defScope st__law_words) .none kV_law_words dc_law_words pm_law_words an_law_words cd_law_words ct_law_words), sl_law_words⟩)
    (e_law_words : PySem.W.codeIn K cd_law_words "_law_words" = true)
    (k_law_words : PySem.W.keepIn K (.ref f_law_words) = true)
    (a_law_is_name : PySem.W.nsIn K mainGlobals "_law_is_name" = some (some (.ref f_law_is_name)))
    (l_law_is_name : K.lookup f_law_is_name = some ⟨oc_law_is_name, od_law_is_name, .func (PySem.W.fnOf "_law_is_name" "_law_is_name" (defArgs st__law_is_name) (defBody st__law_is_name) (defScope st__law_is_name) .none kV_law_is_name dc_law_is_name pm_law_is_name an_law_is_name cd_law_is_name ct_law_is_name), sl_law_is_name⟩)
    (e_law_is_name : PySem.W.codeIn K cd_law_is_name "_law_is_name" = true)
    (k_law_is_name : PySem.W.keepIn K (.ref f_law_is_name) = true)
    (a_law_bag : PySem.W.nsIn K mainGlobals "_law_bag" = some (some (.ref f_law_bag)))
    (l_law_bag : K.lookup f_law_bag = some ⟨oc_law_bag, od_law_bag, .func (PySem.W.fnOf "_law_bag" "_law_bag" (defArgs st__law_bag) (defBody st__law_bag) (defScope st__law_bag) .none kV_law_bag dc_law_bag pm_law_bag an_law_bag cd_law_bag ct_law_bag), sl_law_bag⟩)
    (e_law_bag : PySem.W.codeIn K cd_law_bag "_law_bag" = true)
    (k_law_bag : PySem.W.keepIn K (.ref f_law_bag) = true)
    (a_law_take : PySem.W.nsIn K mainGlobals "_law_take" = some (some (.ref f_law_take)))
    (l_law_take : K.lookup f_law_take = some ⟨oc_law_take, od_law_take, .func (PySem.W.fnOf "_law_take" "_law_take" (defArgs st__law_take) (defBody st__law_take) (defScope st__law_take) .none kV_law_take dc_law_take pm_law_take an_law_take cd_law_take ct_law_take), sl_law_take⟩)
    (e_law_take : PySem.W.codeIn K cd_law_take "_law_take" = true)
    (k_law_take : PySem.W.keepIn K (.ref f_law_take) = true)
    (a_law_some : PySem.W.nsIn K mainGlobals "_law_some" = some (some (.ref f_law_some)))
    (l_law_some : K.lookup f_law_some = some ⟨oc_law_some, od_law_some, .func (PySem.W.fnOf "_law_some" "_law_some" (defArgs st__law_some) (defBody st__law_some) (defScope st__law_some) .none kV_law_some dc_law_some pm_law_some an_law_some cd_law_some ct_law_some), sl_law_some⟩)
    (e_law_some : PySem.W.codeIn K cd_law_some "_law_some" = true)
    (k_law_some : PySem.W.keepIn K (.ref f_law_some) = true)
    (a_law_alike : PySem.W.nsIn K mainGlobals "_law_alike" = some (some (.ref f_law_alike)))
    (l_law_alike : K.lookup f_law_alike = some ⟨oc_law_alike, od_law_alike, .func (PySem.W.fnOf "_law_alike" "_law_alike" (defArgs st__law_alike) (defBody st__law_alike) (defScope st__law_alike) .none kV_law_alike dc_law_alike pm_law_alike an_law_alike cd_law_alike ct_law_alike), sl_law_alike⟩)
    (e_law_alike : PySem.W.codeIn K cd_law_alike "_law_alike" = true)
    (k_law_alike : PySem.W.keepIn K (.ref f_law_alike) = true)
    (a_law_run : PySem.W.nsIn K mainGlobals "_law_run" = some (some (.ref f_law_run)))
    (l_law_run : K.lookup f_law_run = some ⟨oc_law_run, od_law_run, .func (PySem.W.fnOf "_law_run" "_law_run" (defArgs st__law_run) (defBody st__law_run) (defScope st__law_run) .none kV_law_run dc_law_run pm_law_run an_law_run cd_law_run ct_law_run), sl_law_run⟩)
    (e_law_run : PySem.W.codeIn K cd_law_run "_law_run" = true)
    (k_law_run : PySem.W.keepIn K (.ref f_law_run) = true)
    (a_law_tokens : PySem.W.nsIn K mainGlobals "_law_tokens" = some (some (.ref f_law_tokens)))
    (l_law_tokens : K.lookup f_law_tokens = some ⟨oc_law_tokens, od_law_tokens, .func (PySem.W.fnOf "_law_tokens" "_law_tokens" (defArgs st__law_tokens) (defBody st__law_tokens) (defScope st__law_tokens) .none kV_law_tokens dc_law_tokens pm_law_tokens an_law_tokens cd_law_tokens ct_law_tokens), sl_law_tokens⟩)
    (e_law_tokens : PySem.W.codeIn K cd_law_tokens "_law_tokens" = true)
    (k_law_tokens : PySem.W.keepIn K (.ref f_law_tokens) = true)
    (a_law_heard : PySem.W.nsIn K mainGlobals "_law_heard" = some (some (.ref f_law_heard)))
    (l_law_heard : K.lookup f_law_heard = some ⟨oc_law_heard, od_law_heard, .func (PySem.W.fnOf "_law_heard" "_law_heard" (defArgs st__law_heard) (defBody st__law_heard) (defScope st__law_heard) .none kV_law_heard dc_law_heard pm_law_heard an_law_heard cd_law_heard ct_law_heard), sl_law_heard⟩)
    (e_law_heard : PySem.W.codeIn K cd_law_heard "_law_heard" = true)
    (k_law_heard : PySem.W.keepIn K (.ref f_law_heard) = true)
    (alaw : PySem.W.nsIn K mainGlobals "law" = some (some (.ref flaw)))
    (llaw : K.lookup flaw = some ⟨oclaw, odlaw, .func (PySem.W.fnOf "law" "law" (defArgs st_law) (defBody st_law) (defScope st_law) .none kVlaw dclaw pmlaw anlaw (.ref tc) ctlaw), sllaw⟩)
    (elaw : PySem.W.codeIn K (.ref tc) "law" = true)
    (klaw : PySem.W.keepIn K (.ref flaw) = true)
    (t1 : K.lookup tc = some ⟨te, td, .fields tv, ts⟩)
    (t2 : tv[11]? = some (.ref tP))
    (t3 : K.lookup tP = none)
    (t4 : PySem.W.codeHdIn K tc tP = true)
    (cDIGITS : PySem.W.nsIn K mainGlobals "DIGITS" = some (some uDIGITS))
    (dDIGITS : atomD uDIGITS = some d_DIGITS)
    (cLETTERS : PySem.W.nsIn K mainGlobals "LETTERS" = some (some uLETTERS))
    (dLETTERS : atomD uLETTERS = some d_LETTERS)
    (cMOST_FIGURES : PySem.W.nsIn K mainGlobals "MOST_FIGURES" = some (some uMOST_FIGURES))
    (dMOST_FIGURES : atomD uMOST_FIGURES = some d_MOST_FIGURES)
    (cMOST_LETTERS : PySem.W.nsIn K mainGlobals "MOST_LETTERS" = some (some uMOST_LETTERS))
    (dMOST_LETTERS : atomD uMOST_LETTERS = some d_MOST_LETTERS)
    (cMOST_SIGNS : PySem.W.nsIn K mainGlobals "MOST_SIGNS" = some (some uMOST_SIGNS))
    (dMOST_SIGNS : atomD uMOST_SIGNS = some d_MOST_SIGNS)
    (cRESERVED : PySem.W.nsIn K mainGlobals "RESERVED" = some (some (.ref aRESERVED)))
    (kRESERVED : K.lookup aRESERVED = some ⟨.type "tuple", ddRESERVED, .seq itsRESERVED nRESERVED, slRESERVED⟩)
    (iRESERVED : itsRESERVED.toList = usRESERVED)
    (dRESERVED : atomsD usRESERVED = some d_RESERVED)
    (mRESERVED : usRESERVED.length ≤ 16777216)
    (nabs : PySem.W.nsIn K mainGlobals "abs" = some none)
    (nall : PySem.W.nsIn K mainGlobals "all" = some none)
    (nint : PySem.W.nsIn K mainGlobals "int" = some none)
    (nisinstance : PySem.W.nsIn K mainGlobals "isinstance" = some none)
    (nlen : PySem.W.nsIn K mainGlobals "len" = some none)
    (nrange : PySem.W.nsIn K mainGlobals "range" = some none)
    (nrepr : PySem.W.nsIn K mainGlobals "repr" = some none)
    (nstr : PySem.W.nsIn K mainGlobals "str" = some none)
    (ntuple : PySem.W.nsIn K mainGlobals "tuple" = some none)
    (nsuper : PySem.W.nsIn K mainGlobals "super" = some none)
    (gBadText : PySem.W.nsIn K mainGlobals "BadText" = some (some (.ref cBadText)))
    (gBadKind : PySem.W.nsIn K mainGlobals "BadKind" = some (some (.ref cBadKind)))
    (gBadWeb : PySem.W.nsIn K mainGlobals "BadWeb" = some (some (.ref cBadWeb)))
    (gBadProgram : PySem.W.nsIn K mainGlobals "BadProgram" = some (some (.ref cBadProgram)))
    (gNoCommand : PySem.W.nsIn K mainGlobals "NoCommand" = some (some (.ref cNoCommand)))
    (gNothing : PySem.W.nsIn K mainGlobals "Nothing" = some (some (.ref cNothing)))
    (gTooLarge : PySem.W.nsIn K mainGlobals "TooLarge" = some (some (.ref cTooLarge)))
    (xm : ((List.range 7).all fun c => (List.range 7).all fun d => decide (PySem.W.exmOne K (.ref ((fun c => ([cBadText, cBadKind, cBadWeb, cBadProgram, cNoCommand, cNothing, cTooLarge] : List Addr).getD c 0) c)) (.ref ((fun c => ([cBadText, cBadKind, cBadWeb, cBadProgram, cNoCommand, cNothing, cTooLarge] : List Addr).getD c 0) d)) = some (decide (c = d)))) = true)
    (opq : PySem.W.nsIn K PySem.cStatics "thirdparty.any" = some none)
    (xNothing : PySem.W.excIn K cNothing ([.type "ValueError", .type "Exception", .type "BaseException", .type "object"]) "ValueError.__new__" = true)
    (kcNothing : PySem.W.keepIn K (.ref cNothing) = true)
    (sbNothing : PySem.W.subIn K (.ref cNothing) (.type "BaseException") = some true)
    (tbNothing : PySem.W.typeIn K (.ref cNothing) = some (.type "type"))
    (fiTooLarge : PySem.W.findIn K (.ref cTooLarge) "__init__" = some (some (.ref iTooLarge)))
    (tiTooLarge : PySem.W.typeIn K (.ref iTooLarge) = some (.type "function"))
    (liTooLarge : K.lookup iTooLarge = some ⟨ocITooLarge, odITooLarge, .func (PySem.W.ksFn "__init__" "TooLarge.__init__" (defArgs (inClass (top 10) 0)) (defBody (inClass (top 10) 0)) (defScope (inClass (top 10) 0)) .none kVITooLarge dcITooLarge pmITooLarge anITooLarge (.ref cdaTooLarge) ctITooLarge ccTooLarge), slITooLarge⟩)
    (eiTooLarge : PySem.W.codeIn K (.ref cdaTooLarge) "TooLarge.__init__" = true)
    (lcTooLarge : K.lookup ccTooLarge = some ⟨clTooLarge, cldTooLarge, .cell (some (.ref DTooLarge)), cslTooLarge⟩)
    (isTooLarge : (PySem.W.clsIn K DTooLarge).isSome = true)
    (ldTooLarge : K.lookup cdaTooLarge = some ⟨cclTooLarge, cddTooLarge, .fields vcTooLarge, ccsTooLarge⟩)
    (v2TooLarge : vcTooLarge[2]? = some (.str fileTooLarge tfTooLarge))
    (feTooLarge : ((PySem.Challenge.rw_mostwebs_k02_tokens_with_their_places.prog.main.file : Str) == fileTooLarge) = true)
    (lsTooLarge : K.lookup cTooLarge = some (excClassObj nmTooLarge qnTooLarge cTooLarge NTooLarge bsTooLarge bmTooLarge true snTooLarge sbTooLarge abTooLarge colTooLarge ddTooLarge k0TooLarge k1TooLarge k2TooLarge k3TooLarge k5TooLarge "ValueError.__new__"))
    (rvTooLarge : PySem.HandSPX.refsVE bmTooLarge = true)
    (saTooLarge : PySem.W.findIn K (.ref cTooLarge) "__setattr__" = some (some (.builtin "object.__setattr__")))
    (sbTooLarge_ : PySem.W.subIn K (.ref cTooLarge) (.type "BaseException") = some true)
    (tbTooLarge_ : PySem.W.typeIn K (.ref cTooLarge) = some (.type "type"))
    (kcTooLarge : PySem.W.keepIn K (.ref cTooLarge) = true)
    (mrTooLarge : PySem.W.mroIn K cTooLarge (.ref DTooLarge) = some true)
    (suTooLarge : PySem.W.ks_superIn K cTooLarge DTooLarge "__init__" = some (some (.builtin "ValueError.__init__")))
    (svTooLarge : PySem.W.subIn K (.ref cTooLarge) (.type "ValueError") = some true)
    (nfTooLarge_what : PySem.W.findIn K (.ref cTooLarge) "what" = some none)
    (nfTooLarge_limit : PySem.W.findIn K (.ref cTooLarge) "limit" = some none)
    (xfTooLarge : L2.xfB K cTooLarge = true) :
    LawG PySem.Challenge.rw_mostwebs_k02_tokens_with_their_places w K 7 63 "script" mg fa hp := by
  have efa := hfa.symm.trans (PySem.W.mg_of X G alaw)
  cases efa
  obtain ⟨v, ev⟩ : ∃ v : Vv, v = ⟨fend_of_run, fis_figures, fis_name, frun_token, ftoken_at, ftokens, f_law_words, f_law_is_name, f_law_bag, f_law_take, f_law_some, f_law_alike, f_law_run, f_law_tokens, f_law_heard, fa, uDIGITS, uLETTERS, uMOST_FIGURES, uMOST_LETTERS, uMOST_SIGNS, aRESERVED, ddRESERVED, usRESERVED, nRESERVED, slRESERVED, cBadText, cBadKind, cBadWeb, cBadProgram, cNoCommand, cNothing, cTooLarge, iTooLarge, DTooLarge⟩ := ⟨_, rfl⟩
  obtain ⟨S, eS⟩ : ∃ S : Se, S = ⟨⟨(fun c => ([cBadText, cBadKind, cBadWeb, cBadProgram, cNoCommand, cNothing, cTooLarge] : List Addr).getD c 0), (fun c => ([["line", "column"], ["where", "fault"], ["where", "fault"], ["where", "fault"], ["line"], [], ["what", "limit"]] : List (List Str)).getD c [])⟩, [(tP, ("law.<locals>.<lambda>" : Str))]⟩ := ⟨_, rfl⟩
  have oexTooLarge : OexC K cTooLarge := ⟨⟨_, _, _, _, _, _, _, _, _, _, _, _, _, _, _, lsTooLarge, rvTooLarge⟩, saTooLarge, sbTooLarge_, tbTooLarge_, kcTooLarge⟩
  have iniTooLarge : InitC K cTooLarge DTooLarge ["what", "limit"] := ⟨oexTooLarge, mrTooLarge, suTooLarge, svTooLarge, by simp only [List.mem_cons, List.not_mem_nil, or_false, forall_eq_or_imp, forall_eq]; exact ⟨nfTooLarge_what, nfTooLarge_limit⟩⟩
  have T : TX K mg v S := by
    subst ev; subst eS
    exact ⟨PySem.W.mg_of X G aend_of_run,
      kend_of_run,
      PySem.W.mg_of X G ais_figures,
      kis_figures,
      PySem.W.mg_of X G ais_name,
      kis_name,
      PySem.W.mg_of X G arun_token,
      krun_token,
      PySem.W.mg_of X G atoken_at,
      ktoken_at,
      PySem.W.mg_of X G atokens,
      ktokens,
      PySem.W.mg_of X G a_law_words,
      k_law_words,
      PySem.W.mg_of X G a_law_is_name,
      k_law_is_name,
      PySem.W.mg_of X G a_law_bag,
      k_law_bag,
      PySem.W.mg_of X G a_law_take,
      k_law_take,
      PySem.W.mg_of X G a_law_some,
      k_law_some,
      PySem.W.mg_of X G a_law_alike,
      k_law_alike,
      PySem.W.mg_of X G a_law_run,
      k_law_run,
      PySem.W.mg_of X G a_law_tokens,
      k_law_tokens,
      PySem.W.mg_of X G a_law_heard,
      k_law_heard,
      PySem.W.mg_of X G alaw,
      klaw,
      PySem.W.mg_of X G cDIGITS,
      dDIGITS,
      PySem.W.mg_of X G cLETTERS,
      dLETTERS,
      PySem.W.mg_of X G cMOST_FIGURES,
      dMOST_FIGURES,
      PySem.W.mg_of X G cMOST_LETTERS,
      dMOST_LETTERS,
      PySem.W.mg_of X G cMOST_SIGNS,
      dMOST_SIGNS,
      PySem.W.mg_of X G cRESERVED,
      (by have z := iRESERVED; subst z; exact kRESERVED),
      dRESERVED,
      mRESERVED,
      PySem.W.mg_none_of X G nabs,
      PySem.W.mg_none_of X G nall,
      PySem.W.mg_none_of X G nint,
      PySem.W.mg_none_of X G nisinstance,
      PySem.W.mg_none_of X G nlen,
      PySem.W.mg_none_of X G nrange,
      PySem.W.mg_none_of X G nrepr,
      PySem.W.mg_none_of X G nstr,
      PySem.W.mg_none_of X G ntuple,
      PySem.W.mg_of X G gBadText,
      rfl,
      rfl,
      PySem.W.mg_of X G gBadKind,
      rfl,
      rfl,
      PySem.W.mg_of X G gBadWeb,
      rfl,
      rfl,
      PySem.W.mg_of X G gBadProgram,
      rfl,
      rfl,
      PySem.W.mg_of X G gNoCommand,
      rfl,
      rfl,
      PySem.W.mg_of X G gNothing,
      rfl,
      rfl,
      PySem.W.mg_of X G gTooLarge,
      rfl,
      rfl,
      (fun a ha b hb => of_decide_eq_true (List.all_eq_true.mp (List.all_eq_true.mp xm a (List.mem_range.mpr ha)) b (List.mem_range.mpr hb))),
      xfB_ok xfTooLarge,
      nfTooLarge_what,
      nfTooLarge_limit,
      xNothing,
      kcNothing,
      sbNothing,
      tbNothing,
      iniTooLarge,
      fiTooLarge,
      tiTooLarge⟩
  subst ev; subst eS
  have Fend_of_run := fun_mk (st := st_end_of_run) lend_of_run eend_of_run kend_of_run
  have Bend_of_run := Fend_of_run.binds (ps := ["text", "begin"]) fun _ _ _ _ _ _ us hl => match us, hl with | [_, _], _ => rfl
  have Fis_figures := fun_mk (st := st_is_figures) lis_figures eis_figures kis_figures
  have Bis_figures := Fis_figures.binds (ps := ["run", "most"]) fun _ _ _ _ _ _ us hl => match us, hl with | [_, _], _ => rfl
  have Fis_name := fun_mk (st := st_is_name) lis_name eis_name kis_name
  have Bis_name := Fis_name.binds (ps := ["thing"]) fun _ _ _ _ _ _ us hl => match us, hl with | [_], _ => rfl
  have Frun_token := fun_mk (st := st_run_token) lrun_token erun_token krun_token
  have Brun_token := Frun_token.binds (ps := ["run"]) fun _ _ _ _ _ _ us hl => match us, hl with | [_], _ => rfl
  have Ftoken_at := fun_mk (st := st_token_at) ltoken_at etoken_at ktoken_at
  have Btoken_at := Ftoken_at.binds (ps := ["text", "begin"]) fun _ _ _ _ _ _ us hl => match us, hl with | [_, _], _ => rfl
  have Ftokens := fun_mk (st := st_tokens) ltokens etokens ktokens
  have Btokens := Ftokens.binds (ps := ["text"]) fun _ _ _ _ _ _ us hl => match us, hl with | [_], _ => rfl
  have F_law_words := fun_mk (st := st__law_words) l_law_words e_law_words k_law_words
  have B_law_words := F_law_words.binds (ps := []) fun _ _ _ _ _ _ us hl => match us, hl with | [], _ => rfl
  have F_law_is_name := fun_mk (st := st__law_is_name) l_law_is_name e_law_is_name k_law_is_name
  have B_law_is_name := F_law_is_name.binds (ps := ["thing"]) fun _ _ _ _ _ _ us hl => match us, hl with | [_], _ => rfl
  have F_law_bag := fun_mk (st := st__law_bag) l_law_bag e_law_bag k_law_bag
  have B_law_bag := F_law_bag.binds (ps := ["script"]) fun _ _ _ _ _ _ us hl => match us, hl with | [_], _ => rfl
  have F_law_take := fun_mk (st := st__law_take) l_law_take e_law_take k_law_take
  have B_law_take := F_law_take.binds (ps := ["bag", "many"]) fun _ _ _ _ _ _ us hl => match us, hl with | [_, _], _ => rfl
  have F_law_some := fun_mk (st := st__law_some) l_law_some e_law_some k_law_some
  have B_law_some := F_law_some.binds (ps := ["bag", "things"]) fun _ _ _ _ _ _ us hl => match us, hl with | [_, _], _ => rfl
  have F_law_alike := fun_mk (st := st__law_alike) l_law_alike e_law_alike k_law_alike
  have B_law_alike := F_law_alike.binds (ps := ["found", "due"]) fun _ _ _ _ _ _ us hl => match us, hl with | [_, _], _ => rfl
  have F_law_run := fun_mk (st := st__law_run) l_law_run e_law_run k_law_run
  have B_law_run := F_law_run.binds (ps := ["run"]) fun _ _ _ _ _ _ us hl => match us, hl with | [_], _ => rfl
  have F_law_tokens := fun_mk (st := st__law_tokens) l_law_tokens e_law_tokens k_law_tokens
  have B_law_tokens := F_law_tokens.binds (ps := ["text"]) fun _ _ _ _ _ _ us hl => match us, hl with | [_], _ => rfl
  have F_law_heard := fun_mk (st := st__law_heard) l_law_heard e_law_heard k_law_heard
  have B_law_heard := F_law_heard.binds (ps := ["call"]) fun _ _ _ _ _ _ us hl => match us, hl with | [_], _ => rfl
  refine ⟨PySem.W.fnOf "law" "law" (defArgs st_law) (defBody st_law) (defScope st_law) .none kVlaw dclaw pmlaw anlaw (.ref tc) ctlaw, [(tc, tP)], ⟨⟨(fun c => ([cBadText, cBadKind, cBadWeb, cBadProgram, cNoCommand, cNothing, cTooLarge] : List Addr).getD c 0), (fun c => ([["line", "column"], ["where", "fault"], ["where", "fault"], ["where", "fault"], ["line"], [], ["what", "limit"]] : List (List Str)).getD c [])⟩, [(tP, ("law.<locals>.<lambda>" : Str))]⟩, h_law, fun p hp => ?_, fun p hp => ?_, fun p hp => ?_, fun s u => .of_eq rfl, fun p hp => ?_, hans, fun base KB GB TBs => ?_⟩
  · rw [List.mem_singleton.mp hp]; exact OT "law" _ hrec hfa tc tP _ _ te td tv ts llaw rfl rfl t1 t2
  · rw [List.mem_singleton.mp hp]; exact t3
  · rw [List.mem_singleton.mp hp]; exact PySem.W.codeHd_of_K X t4
  · rw [List.mem_singleton.mp hp]; exact ⟨_, List.mem_singleton.mpr rfl, rfl⟩
  · have SUTooLarge : SupK PySem.Challenge.rw_mostwebs_k02_tokens_with_their_places.prog K mg ["self", "what", "limit"] "TooLarge.__init__" (defScope (inClass (top 10) 0)) (defArgs (inClass (top 10) 0)) DTooLarge cdaTooLarge ccTooLarge := ⟨eiTooLarge, ⟨rfl, rfl, rfl, by decide +kernel, by decide +kernel, by decide +kernel, by decide +kernel, rfl, rfl⟩, ⟨_, _, _, lcTooLarge⟩, Option.isSome_iff_exists.mp isTooLarge, ⟨_, _, _, _, _, _, ldTooLarge, v2TooLarge, feTooLarge⟩, by decide +kernel, PySem.W.mg_none_of X G nsuper, opq, ⟨_, rfl, rfl⟩⟩
    have ITooLarge := fn_init2 (CX := L2.CX PySem.Challenge.rw_mostwebs_k02_tokens_with_their_places.prog w) (w := w) (base := base) (k := 0) SUTooLarge (f1 := "what") (f2 := "limit") liTooLarge (fun _ => rfl) rfl rfl rfl rfl rfl rfl
    have BITooLarge : Binds K _ ["self", "what", "limit"] [] := .all (fd := PySem.W.ksFn "__init__" "TooLarge.__init__" (defArgs (inClass (top 10) 0)) (defBody (inClass (top 10) 0)) (defScope (inClass (top 10) 0)) .none kVITooLarge dcITooLarge pmITooLarge anITooLarge (.ref cdaTooLarge) ctITooLarge ccTooLarge) fun us hl => match us, hl with | [_, _, _], _ => rfl
    have Gend_of_run := w_end_of_run (P := PySem.Challenge.rw_mostwebs_k02_tokens_with_their_places.prog) (w := w) (base := base) T   Fend_of_run
    have Gis_figures := w_is_figures (P := PySem.Challenge.rw_mostwebs_k02_tokens_with_their_places.prog) (w := w) (base := base) T   Fis_figures
    have Gis_name := w_is_name (P := PySem.Challenge.rw_mostwebs_k02_tokens_with_their_places.prog) (w := w) (base := base) T   Fis_name
    have Grun_token := w_run_token (P := PySem.Challenge.rw_mostwebs_k02_tokens_with_their_places.prog) (w := w) (base := base) T Gis_figures Bis_figures Gis_name Bis_name  Frun_token
    have Gtoken_at := w_token_at (P := PySem.Challenge.rw_mostwebs_k02_tokens_with_their_places.prog) (w := w) (base := base) T Gend_of_run Bend_of_run Grun_token Brun_token  Ftoken_at
    have Gtokens := w_tokens (P := PySem.Challenge.rw_mostwebs_k02_tokens_with_their_places.prog) (w := w) (base := base) T Gtoken_at Btoken_at ITooLarge BITooLarge Ftokens
    have G_law_words := w__law_words (P := PySem.Challenge.rw_mostwebs_k02_tokens_with_their_places.prog) (w := w) (base := base) T   F_law_words
    have G_law_is_name := w__law_is_name (P := PySem.Challenge.rw_mostwebs_k02_tokens_with_their_places.prog) (w := w) (base := base) T G_law_words B_law_words  F_law_is_name
    have G_law_bag := w__law_bag (P := PySem.Challenge.rw_mostwebs_k02_tokens_with_their_places.prog) (w := w) (base := base) T   F_law_bag
    have G_law_take := w__law_take (P := PySem.Challenge.rw_mostwebs_k02_tokens_with_their_places.prog) (w := w) (base := base) T   F_law_take
    have G_law_some := w__law_some (P := PySem.Challenge.rw_mostwebs_k02_tokens_with_their_places.prog) (w := w) (base := base) T G_law_take B_law_take  F_law_some
    have G_law_alike := w__law_alike (P := PySem.Challenge.rw_mostwebs_k02_tokens_with_their_places.prog) (w := w) (base := base) T   F_law_alike
    have G_law_run := w__law_run (P := PySem.Challenge.rw_mostwebs_k02_tokens_with_their_places.prog) (w := w) (base := base) T G_law_is_name B_law_is_name G_law_words B_law_words  F_law_run
    have G_law_tokens := w__law_tokens (P := PySem.Challenge.rw_mostwebs_k02_tokens_with_their_places.prog) (w := w) (base := base) T G_law_run B_law_run  F_law_tokens
    exact w_law (P := PySem.Challenge.rw_mostwebs_k02_tokens_with_their_places.prog) (w := w) (base := base) T G_law_alike B_law_alike G_law_bag B_law_bag G_law_some B_law_some G_law_take B_law_take G_law_tokens B_law_tokens G_law_words B_law_words Gtokens Btokens llaw elaw F_law_heard B_law_heard (TBs _ (List.mem_singleton.mpr rfl)) (List.mem_singleton.mpr rfl) (fun p hp _ => by rw [List.mem_singleton.mp hp])
end
end K02

set_option maxRecDepth 100000
set_option maxHeartbeats 1000000
/-! ZA: k02, what its little defs reckon. -/
namespace K02
open PySem MP

def isL (c : Nat) : Bool := decide (97 ≤ c) && decide (c ≤ 122)
def isG (c : Nat) : Bool := decide (48 ≤ c) && decide (c ≤ 57)
def isLG (c : Nat) : Bool := isL c || isG c
def RS : List (List Nat) := [[97, 108, 108], [97, 110, 100], [97, 110, 115, 119, 101, 114], [98, 97, 99, 107], [98, 111, 116, 104], [99, 111, 108, 111, 117, 114], [101, 108, 115, 101], [101, 110, 100], [105, 102], [105, 110], [105, 115], [107, 105, 110, 100], [109, 101, 110, 117], [110, 111, 110, 101], [110, 111, 116], [111, 102], [111, 110], [111, 110, 101], [111, 114], [111, 118, 101, 114], [112, 108, 97, 99, 101, 115], [112, 114, 111, 103, 114, 97, 109], [114, 101, 108, 97, 116, 105, 111, 110], [115, 97, 109, 101], [115, 101, 116], [115, 104, 97, 114, 101], [115, 111, 109, 101], [115, 116, 105, 108, 108], [116, 105, 101], [116, 111], [119, 97, 121, 115], [119, 101, 98], [119, 104, 105, 108, 101], [119, 105, 116, 104], [120], [121], [121, 101, 115], [122]]
def inRS (r : List Nat) : Bool := RS.contains r
theorem inRS_eq (r : List Nat) : RS.contains r = inRS r := rfl
theorem RS_map : d_RESERVED = RS.map .str := rfl
theorem los_strs {n : Nat} {L : List (List Nat)} : D.los n (L.map .str) = true := los_iff.mpr fun d hd => by
  obtain ⟨c, _, rfl⟩ := List.mem_map.mp hd
  rfl
theorem memL (c : Nat) : decide (c ∈ ([97, 98, 99, 100, 101, 102, 103, 104, 105, 106, 107, 108, 109, 110, 111, 112, 113, 114, 115, 116, 117, 118, 119, 120, 121, 122] : List Nat)) = isL c := by
  unfold isL
  rw [Bool.eq_iff_iff]
  simp
  omega
theorem memG (c : Nat) : decide (c ∈ ([48, 49, 50, 51, 52, 53, 54, 55, 56, 57] : List Nat)) = isG c := by
  unfold isG
  rw [Bool.eq_iff_iff]
  simp
  omega
theorem memLG (c : Nat) : decide (c ∈ ([97, 98, 99, 100, 101, 102, 103, 104, 105, 106, 107, 108, 109, 110, 111, 112, 113, 114, 115, 116, 117, 118, 119, 120, 121, 122, 48, 49, 50, 51, 52, 53, 54, 55, 56, 57] : List Nat)) = isLG c := by
  unfold isLG isL isG
  rw [Bool.eq_iff_iff]
  simp
  omega
theorem inL (c : Nat) (st : MP.St) : opIn (.str [c]) d_LETTERS st = .ok (.bl (isL c)) st := by rw [← memL]; rfl
theorem notInL (c : Nat) (st : MP.St) : opNotIn (.str [c]) d_LETTERS st = .ok (.bl !(isL c)) st := by rw [← memL]; rfl
theorem inG (c : Nat) (st : MP.St) : opIn (.str [c]) d_DIGITS st = .ok (.bl (isG c)) st := by rw [← memG]; rfl
def LG : D := .str [97, 98, 99, 100, 101, 102, 103, 104, 105, 106, 107, 108, 109, 110, 111, 112, 113, 114, 115, 116, 117, 118, 119, 120, 121, 122, 48, 49, 50, 51, 52, 53, 54, 55, 56, 57]
theorem addLG (st : MP.St) : opAdd d_LETTERS d_DIGITS st = .ok LG st := rfl
theorem inLG (c : Nat) (st : MP.St) : opIn (.str [c]) LG st = .ok (.bl (isLG c)) st := by rw [← memLG]; rfl
theorem le_sign (a c : Nat) (st : MP.St) : opLe (.str [a]) (.str [c]) st = .ok (.bl (decide (a ≤ c))) st := by
  simp only [opOrd]
  have : ([c] : List Nat) < [a] ↔ c < a := by
    constructor
    · intro h
      cases h with
      | rel h => exact h
      | cons h => cases h
    · exact fun h => .rel h
  congr 2
  rw [Bool.eq_iff_iff]
  simp [this]
theorem isStr (st : MP.St) (r : List Nat) : isI (tabT "str") st (.str r) = some true := by
  show tabT "str" "str" = some true
  decide +kernel
theorem words_ok (st : MP.St) : h__law_words [] st = .ok (.lst (RS.map .str)) st := by
  refine run_pure ?_ los_strs
  unfold b__law_words
  have e : ∀ l : List Nat, l = [97, 108, 108, 32, 97, 110, 100, 32, 97, 110, 115, 119, 101, 114, 32, 98, 97, 99, 107, 32, 98, 111, 116, 104, 32, 99, 111, 108, 111, 117, 114, 32, 101, 108, 115, 101, 32, 101, 110, 100, 32, 105, 102, 32, 105, 110, 32, 105, 115, 32, 107, 105, 110, 100, 32, 109, 101, 110, 117, 32, 110, 111, 110, 101, 32, 110, 111, 116, 32, 111, 102, 32, 111, 110, 32, 111, 110, 101, 32, 111, 114, 32, 111, 118, 101, 114, 32, 112, 108, 97, 99, 101, 115, 32, 112, 114, 111, 103, 114, 97, 109, 32, 114, 101, 108, 97, 116, 105, 111, 110, 32, 115, 97, 109, 101, 32, 115, 101, 116, 32, 115, 104, 97, 114, 101, 32, 115, 111, 109, 101, 32, 115, 116, 105, 108, 108, 32, 116, 105, 101, 32, 116, 111, 32, 119, 97, 121, 115, 32, 119, 101, 98, 32, 119, 104, 105, 108, 101, 32, 119, 105, 116, 104, 32, 120, 32, 121, 32, 121, 101, 115, 32, 122] → mSplit (.str l) [.str [32]] (enter st) = .ok (.lst (RS.map .str)) (enter st) := fun l el => by
    have e1 : TL.spl [32] 0 [] l = RS := by rw [el]; decide +kernel
    have e2 : l.length + 2 ≤ 16777216 := by rw [el]; decide
    have e3 : ([32] : List Nat).all (· < 256) = true := by decide
    simp only [mSplit, e1, e2, e3, List.isEmpty_cons, and_self, if_true]
  simp only [gSeq, gRet, fMtS, fC, fCons, fNil, Out.bind_ok, isS, if_true, e _ rfl, Out.toS_ok, SO.seq_ret]
def nameB : List Nat → Bool
  | [] => false
  | c :: r => decide (r.length < 8) && (isL c && !(inRS (c :: r)))
theorem bls_map {α : Type} (L : List α) (f : α → Bool) : bls (L.map fun c => .bl (f c)) = some (L.map f) := by
  induction L with
  | nil => rfl
  | cons c L ih => simp [bls, ih]
theorem is_name_ok {c : Nat} {r : List Nat} (h : ∀ x ∈ c :: r, isLG x = true) (hl : (c :: r).length ≤ 16777216) (st : MP.St) : h_is_name [.str (c :: r)] st = .ok (.bl (nameB (c :: r))) st := by
  refine run_pure ?_ rfl
  unfold b_is_name
  have e1 : ∀ st : MP.St, opIdx (.str (c :: r)) (.int 0) st = .ok (.str [c]) st := fun st => opIdx_str0 hl
  have e2 : ∀ st : MP.St, cLen [.str (c :: r)] st = .ok (.int ((c :: r).length : Nat)) st := fun st => cLen_str hl
  have e3 : ∀ st : MP.St, opNotIn (.str (c :: r)) (.tup d_RESERVED) st = .ok (.bl !(inRS (c :: r))) st := fun st => by rw [RS_map]; exact opNotIn_tup
  have e4 : ∀ st : MP.St, (fLcL (fLc (fIt (fVar 0)) (tgName 1) (fun _ st => .ok true st) (f2 opIn (fVar 1) (f2 opAdd (fC d_LETTERS) (fC d_DIGITS))) [1])) [some (.str (c :: r)), none] st = .ok (.lst ((c :: r).map fun x => .bl true)) st := fun st => by
    rw [lc_signs (s := c :: r) (fun _ => true) (fun x => .bl true) (by simp [fIt, fVar, itemsOf]) (fun x hx => rfl) (fun x hx _ => by simp [f2, fVar, fC, wipeE, addLG, inLG, h x hx]) hl]
    rw [List.filter_eq_self.mpr (fun _ _ => rfl)]
  have e5 : bls ((c :: r).map fun x => .bl true) = some ((c :: r).map fun _ => true) := bls_map _ _
  have e6 : ∀ (a : Int) st, opLe (.int 1) (.int a) st = .ok (.bl (decide (1 ≤ a))) st := fun a st => rfl
  have e7 : ∀ (a : Int) st, opLe (.int a) d_MOST_LETTERS st = .ok (.bl (decide (a ≤ 8))) st := fun a st => rfl
  have e8 : ((c :: r).map fun _ => true).all id = true := by simp
  generalize hN : inRS (c :: r) = bN at e3
  generalize hL : ((c :: r).map fun x => D.bl true) = lL at e4 e5
  generalize hM : ((c :: r).map fun _ => true) = lM at e5 e8
  by_cases h1 : r.length < 8
  · cases h2 : isL c with
    | true => simp [gSeq, gIf, gRet, gNx, fOrT, fNotT, fB, fIsi, fVar, isStr, fChain, fC, fCall, fCons, fNil, e2, e6, e7, h1, f2, e1, notInL, h2, fAnd, e3, e4, cBls, lqOf, lstOf, e5, e8, nameB, hN, show (1 : Int) ≤ (r.length : Int) + 1 from by omega, show (r.length : Int) + 1 ≤ 8 from by omega]; cases bN <;> rfl
    | false => simp [gSeq, gIf, gRet, gNx, fOrT, fNotT, fB, fIsi, fVar, isStr, fChain, fC, fCall, fCons, fNil, e2, e6, e7, h1, f2, e1, notInL, h2, fAnd, e3, e4, cBls, lqOf, lstOf, e5, e8, nameB, hN, show (1 : Int) ≤ (r.length : Int) + 1 from by omega, show (r.length : Int) + 1 ≤ 8 from by omega]
  · simp [gSeq, gIf, gRet, gNx, fOrT, fNotT, fB, fIsi, fVar, isStr, fChain, fC, fCall, fCons, fNil, e2, e6, e7, h1, f2, nameB, show (1 : Int) ≤ (r.length : Int) + 1 from by omega, show ¬ (r.length : Int) + 1 ≤ 8 from by omega]
def numB : List Nat → Bool
  | [] => false
  | c :: r => (c :: r).all isG && (decide (r.length < 4) && (decide (c :: r = [48]) || !decide ([c] = [48])))
def valN (r : List Nat) : Int := (NumText.digitsVal r : Nat)
theorem all_of {n : Nat} (L : List Bool) (st : MP.St) {x : D} {l : List D} (h1 : lqOf st x = some l) (h2 : bls l = some L) : (cBls fun bs => bs.all id) [x] st = .ok (.bl (L.all id)) st := by
  simp [cBls, h1, h2]
theorem is_figures_ok {c : Nat} {r : List Nat} (hl : (c :: r).length ≤ 16777216) (st : MP.St) : h_is_figures [.str (c :: r), .int 4] st = .ok (.bl (numB (c :: r))) st := by
  refine run_pure ?_ rfl
  unfold b_is_figures
  have e1 : ∀ st : MP.St, opIdx (.str (c :: r)) (.int 0) st = .ok (.str [c]) st := fun st => opIdx_str0 hl
  have e2 : ∀ st : MP.St, cLen [.str (c :: r)] st = .ok (.int ((c :: r).length : Nat)) st := fun st => cLen_str hl
  have e4 : ∀ st : MP.St, (fLcL (fLc (fIt (fVar 0)) (tgName 2) (fun _ st => .ok true st) (f2 opIn (fVar 2) (fC d_DIGITS)) [2])) [some (.str (c :: r)), some (.int 4), none] st = .ok (.lst ((c :: r).map fun x => .bl (isG x))) st := fun st => by
    rw [lc_signs (s := c :: r) (fun _ => true) (fun x => .bl (isG x)) (by simp [fIt, fVar, itemsOf]) (fun x hx => rfl) (fun x hx _ => by simp [f2, fVar, fC, wipeE, inG]) hl]
    rw [List.filter_eq_self.mpr (fun _ _ => rfl)]
  have e5 : ∀ st : MP.St, (cBls fun bs => bs.all id) [.lst ((c :: r).map fun x => .bl (isG x))] st = .ok (.bl ((c :: r).all isG)) st := fun st => by
    rw [all_of (n := 0) _ st rfl (bls_map (c :: r) isG), List.all_map]; rfl
  have e6 : ∀ (a : Int) st, opLe (.int 1) (.int a) st = .ok (.bl (decide (1 ≤ a))) st := fun a st => rfl
  have e7 : ∀ (a : Int) st, opLe (.int a) (.int 4) st = .ok (.bl (decide (a ≤ 4))) st := fun a st => rfl
  generalize hA : (c :: r).all isG = bA at e5
  generalize ((c :: r).map fun x => D.bl (isG x)) = lL at e4 e5
  simp only [numB]
  rw [hA]
  cases bA with
  | true =>
    by_cases h1 : r.length < 4
    · have eZ : ∀ st : MP.St, opEq (.str (c :: r)) (.str [48]) st = .ok (.bl (decide (c :: r = [48]))) st := fun st => opEq_str
      have eY : ∀ st : MP.St, opNe (.str [c]) (.str [48]) st = .ok (.bl !(decide ([c] = [48]))) st := fun st => opNe_str
      generalize decide (c :: r = [48]) = bZ at *
      generalize decide ([c] = [48]) = bY at *
      simp [gSeq, gIf, gRet, gNx, fOrT, fNotT, fB, fVar, fChain, fC, fCall, fCons, fNil, e2, e6, e7, h1, f2, e1, e4, e5, fOr, eZ, eY, show (1 : Int) ≤ (r.length : Int) + 1 from by omega, show (r.length : Int) + 1 ≤ 4 from by omega]
      cases bZ <;> rfl
    · simp [gSeq, gIf, gRet, gNx, fOrT, fNotT, fB, fVar, fChain, fC, fCall, fCons, fNil, e2, e6, e7, h1, f2, e1, e4, e5, show (1 : Int) ≤ (r.length : Int) + 1 from by omega, show ¬ (r.length : Int) + 1 ≤ 4 from by omega]
  | false => simp [gSeq, gIf, gRet, gNx, fOrT, fNotT, fB, fVar, fChain, fC, fCall, fCons, fNil, f2, e4, e5]
theorem intOf_ok {r : List Nat} (h : r.all isG = true) (h1 : r ≠ []) (h2 : r.length ≤ 640) (st : MP.St) : cInt [.str r] st = .ok (.int (valN r)) st := by
  have z : intOf r = some (valN r) := by
    unfold intOf
    refine PySem.intText_digits (x := ⟨r.toArray⟩) ?_ (by simpa using h1) (by simp [Str.length]; omega)
    intro c hc
    have := List.all_eq_true.mp h c (by simpa using hc)
    simpa [isG] using this
  simp [cInt, z, h2]
/-- the word, the content of letters and figures that stand together -/
def runT (r : List Nat) : List D :=
  if inRS r = true then [.str [107, 101, 121], .str r] else if nameB r = true then [.str [110, 97, 109, 101], .str r] else if numB r = true then [.str [110, 117, 109, 98, 101, 114], .int (valN r)] else [.str [98, 97, 100], .str []]
theorem runT_nr (r : List Nat) : D.nrs (runT r) = true := by
  unfold runT
  split
  · rfl
  · split
    · rfl
    · split <;> rfl
theorem runT_len (r : List Nat) : (runT r).length = 2 := by
  unfold runT
  split
  · rfl
  · split
    · rfl
    · split <;> rfl
theorem numB_dig {r : List Nat} (h : numB r = true) : r.all isG = true ∧ r.length ≤ 4 := by
  cases r with
  | nil => simp [numB] at h
  | cons c r =>
    unfold numB at h
    simp only [Bool.and_eq_true, decide_eq_true_eq] at h
    exact ⟨h.1, by simp only [List.length_cons]; omega⟩
theorem run_token_ok {c : Nat} {r : List Nat} (h : ∀ x ∈ c :: r, isLG x = true) (hl : (c :: r).length ≤ 16777216) (st : MP.St) : h_run_token [.str (c :: r)] st = .ok (.tup (runT (c :: r))) st := by
  refine run_pure ?_ (nrs_los _ _ (runT_nr _))
  unfold b_run_token
  have e1 : ∀ st : MP.St, opIn (.str (c :: r)) (.tup d_RESERVED) st = .ok (.bl (inRS (c :: r))) st := fun st => by rw [RS_map, ← inRS_eq]; exact opIn_tup
  have e2 := is_name_ok h hl
  have e3 := is_figures_ok hl
  have e4 := fun h => intOf_ok (r := c :: r) h (by simp)
  have e5 := numB_dig (r := c :: r)
  unfold runT
  generalize c :: r = q at *
  cases h1 : inRS q with
  | true => simp [gSeq, gIf, gRet, gNx, fB, f2, fVar, fC, e1, h1, fTup, fCons, fNil]
  | false =>
    cases h2 : nameB q with
    | true => simp [gSeq, gIf, gRet, gNx, fB, f2, fVar, fC, e1, h1, fTup, fCons, fNil, fDef, e2, h2]
    | false =>
      cases h3 : numB q with
      | true =>
        obtain ⟨d1, d2⟩ := e5 h3
        simp [gSeq, gIf, gRet, gNx, fB, f2, fVar, fC, e1, h1, fTup, fCons, fNil, fDef, e2, h2, fIf, e3, h3, fCall, e4 d1 (by omega)]
      | false => simp [gSeq, gIf, gRet, gNx, fB, f2, fVar, fC, e1, h1, fTup, fCons, fNil, fDef, e2, h2, fIf, e3, h3]
theorem law_is_name_ok {c : Nat} {r : List Nat} (h : ∀ x ∈ c :: r, isLG x = true) (hl : (c :: r).length ≤ 16777216) (st : MP.St) : h__law_is_name [.str (c :: r)] st = .ok (.bl (nameB (c :: r))) st := by
  refine run_pure ?_ rfl
  unfold b__law_is_name
  have e1 : ∀ st : MP.St, opIdx (.str (c :: r)) (.int 0) st = .ok (.str [c]) st := fun st => opIdx_str0 hl
  have e2 : ∀ st : MP.St, cLen [.str (c :: r)] st = .ok (.int ((c :: r).length : Nat)) st := fun st => cLen_str hl
  have e3 : ∀ st : MP.St, opIn (.str (c :: r)) (.lst (RS.map .str)) st = .ok (.bl (inRS (c :: r))) st := fun st => by rw [← inRS_eq]; exact opIn_lst
  have e4 : ∀ st : MP.St, (fLcL (fLc (fIt (fVar 0)) (tgName 1) (fNotT (fOrT (fB (fChain opLe opLe (fC (.str [97])) (fVar 1) (fC (.str [122])))) (fB (fChain opLe opLe (fC (.str [48])) (fVar 1) (fC (.str [57])))))) (fVar 1) [1])) [some (.str (c :: r)), none] st = .ok (.lst []) st := fun st => by
    rw [lc_signs (s := c :: r) (fun x => !isLG x) (fun x => .str [x]) (by simp [fIt, fVar, itemsOf]) (fun x hx => by
      simp [fNotT, fOrT, fB, fChain, fC, fVar, wipeE, le_sign, isLG, isL, isG]
      by_cases a : 97 ≤ x <;> by_cases b : x ≤ 122 <;> by_cases c : 48 ≤ x <;> by_cases d : x ≤ 57 <;> simp [a, b, c, d]) (fun x hx _ => by simp [fVar, wipeE]) hl]
    rw [List.filter_eq_nil_iff.mpr (fun x hx => by simp [h x hx])]
    rfl
  have e6 : ∀ (a : Int) st, opLe (.int 1) (.int a) st = .ok (.bl (decide (1 ≤ a))) st := fun a st => rfl
  have e7 : ∀ (a : Int) st, opLe (.int a) (.int 8) st = .ok (.bl (decide (a ≤ 8))) st := fun a st => rfl
  have e8 : ∀ st : MP.St, opEq (.lst []) (.lst []) st = .ok (.bl true) st := fun st => rfl
  have e9 := words_ok
  have e10 : ∀ st : MP.St, (fDef 0 h__law_words fNil) [some (.str (c :: r)), none] st = .ok (.lst (RS.map .str)) st := fun st => by simp [fDef, fNil, e9]
  have e11 : ∀ st : MP.St, (fChain opLe opLe (fC (.str [97])) (fC (.str [c])) (fC (.str [122]))) [] st = .ok (.bl (isL c)) st := fun st => by
    simp [fChain, fC, le_sign, isL]
    by_cases a : 97 ≤ c <;> simp [a]
  generalize hN : inRS (c :: r) = bN at e3
  by_cases h1 : r.length < 8
  · have hL : isL c = (decide (97 ≤ c) && decide (c ≤ 122)) := rfl
    by_cases a : 97 ≤ c <;> by_cases b : c ≤ 122 <;> cases bN <;>
    simp [gSeq, gIf, gRet, gNx, fOrT, fNotT, fB, fIsi, fVar, isStr, fChain, fC, fCall, fCons, fNil, e2, e6, e7, h1, f2, e1, fAnd, e3, e4, nameB, hN, le_sign, hL, a, b, e10, fLst, e8, show (1 : Int) ≤ (r.length : Int) + 1 from by omega, show (r.length : Int) + 1 ≤ 8 from by omega]
  · simp [gSeq, gIf, gRet, gNx, fOrT, fNotT, fB, fIsi, fVar, isStr, fChain, fC, fCall, fCons, fNil, e2, e6, e7, h1, f2, nameB, show (1 : Int) ≤ (r.length : Int) + 1 from by omega, show ¬ (r.length : Int) + 1 ≤ 8 from by omega]
end K02

set_option maxRecDepth 100000
set_option maxHeartbeats 1000000
/-! ZB: k02, the law's own parting of runs; the program's tokens one by one. -/
namespace K02
open PySem MP
theorem law_run_ok {c : Nat} {r : List Nat} (h : ∀ x ∈ c :: r, isLG x = true) (hl : (c :: r).length ≤ 16777216) (st : MP.St) : h__law_run [.str (c :: r)] st = .ok (.tup (runT (c :: r))) st := by
  refine run_pure ?_ (nrs_los _ _ (runT_nr _))
  unfold b__law_run
  have e0 : ∀ ρ (st : MP.St), (fDef 0 h__law_words fNil) ρ st = .ok (.lst (RS.map .str)) st := fun ρ st => by simp [fDef, fNil, words_ok]
  have e1 : ∀ st : MP.St, opIn (.str (c :: r)) (.lst (RS.map .str)) st = .ok (.bl (inRS (c :: r))) st := fun st => by rw [← inRS_eq]; exact opIn_lst
  have e2 := law_is_name_ok h hl
  have e4 := fun h => intOf_ok (r := c :: r) h (by simp)
  have e5 := numB_dig (r := c :: r)
  have e6 : ∀ st : MP.St, (fLcL (fLc (fIt (fVar 0)) (tgName 1) (fNotT (fB (fChain opLe opLe (fC (.str [48])) (fVar 1) (fC (.str [57]))))) (fVar 1) [1])) [some (.str (c :: r)), none] st = .ok (.lst (((c :: r).filter fun x => !isG x).map fun x => .str [x])) st := fun st => by
    rw [lc_signs (s := c :: r) (fun x => !isG x) (fun x => .str [x]) (by simp [fIt, fVar, itemsOf]) (fun x hx => by
      simp [fNotT, fB, fChain, fC, fVar, wipeE, le_sign, isG]
      by_cases c : 48 ≤ x <;> by_cases d : x ≤ 57 <;> simp [c, d]) (fun x hx _ => by simp [fVar, wipeE]) hl]
  have nb : D.pl (.lst (((c :: r).filter fun x => !isG x).map fun x => .str [x])) = true := by
    simp only [D.pl, pls_iff]
    intro d hd
    obtain ⟨x, hx, rfl⟩ := List.mem_map.mp hd
    have hx := h x (List.mem_filter.mp hx).1
    simp only [isLG, isL, isG, Bool.or_eq_true, Bool.and_eq_true, decide_eq_true_eq] at hx
    simp [D.pl]; omega
  have e7 : ∀ st : MP.St, opEq (.lst (((c :: r).filter fun x => !isG x).map fun x => .str [x])) (.lst []) st = .ok (.bl ((c :: r).all isG)) st := fun st => by
    have a1 := top_pl (st := st) nb
    have a2 : (D.lst (((c :: r).filter fun x => !isG x).map fun x => .str [x])).dp ≤ 64 := by
      simp only [D.dp]
      have := dps_le (n := 0) (ds := ((c :: r).filter fun x => !isG x).map fun x => D.str [x]) (fun d hd => by
        obtain ⟨x, hx, rfl⟩ := List.mem_map.mp hd
        exact Nat.le_refl _)
      omega
    have a3 := shp_of nb a2
    have hall : (c :: r).all isG = ((c :: r).filter fun x => !isG x).isEmpty := by
      generalize c :: r = q
      induction q with
      | nil => rfl
      | cons x q ih => by_cases hx : isG x = true <;> simp [hx] <;> simpa using ih
    rw [hall]
    generalize ((c :: r).filter fun x => !isG x) = L at *
    unfold opEq eqD
    simp only [eqS, a1, a3]
    cases L with
    | nil => rfl
    | cons x L =>
      have b1 : shp (MP.top st (D.lst [])) = true := rfl
      simp only [b1, and_self, if_true]
      rfl
  have e8 : ∀ st : MP.St, opIdx (.str (c :: r)) (.int 0) st = .ok (.str [c]) st := fun st => opIdx_str0 hl
  have e9 : ∀ st : MP.St, cLen [.str (c :: r)] st = .ok (.int ((c :: r).length : Nat)) st := fun st => cLen_str hl
  have eZ : ∀ st : MP.St, opEq (.str (c :: r)) (.str [48]) st = .ok (.bl (decide (c :: r = [48]))) st := fun st => opEq_str
  have eY : ∀ st : MP.St, opNe (.str [c]) (.str [48]) st = .ok (.bl !(decide ([c] = [48]))) st := fun st => opNe_str
  have e10 : ∀ (a : Int) st, opLe (.int a) (.int 4) st = .ok (.bl (decide (a ≤ 4))) st := fun a st => rfl
  have hN : numB (c :: r) = ((c :: r).all isG && (decide (((c :: r).length : Int) ≤ 4) && (decide (c :: r = [48]) || !decide ([c] = [48])))) := by
    have : decide (r.length < 4) = decide (((c :: r).length : Int) ≤ 4) := by
      rw [Bool.eq_iff_iff]; simp; omega
    simp only [numB, this]
  unfold runT
  rw [hN] at e5 ⊢
  have e6' : ∀ st : MP.St, (f2 opEq (fLcL (fLc (fIt (fVar 0)) (tgName 1) (fNotT (fB (fChain opLe opLe (fC (.str [48])) (fVar 1) (fC (.str [57]))))) (fVar 1) [1])) (fLst fNil)) [some (.str (c :: r)), none] st = .ok (.bl ((c :: r).all isG)) st := fun st => by
    unfold f2
    rw [e6]
    simp [fLst, fNil]
    simpa using e7 st
  clear e6 nb e7
  have ew := words_ok
  generalize hG : (f2 opEq (fLcL (fLc (fIt (fVar 0)) (tgName 1) (fNotT (fB (fChain opLe opLe (fC (.str [48])) (fVar 1) (fC (.str [57]))))) (fVar 1) [1])) (fLst fNil)) = gg at *
  generalize ((c :: r).length : Int) = n at *
  generalize (c :: r).all isG = bA at *
  generalize decide (c :: r = [48]) = bZ at *
  generalize decide ([c] = [48]) = bY at *
  generalize c :: r = q at *
  cases h1 : inRS q with
  | true => simp [gSeq, gIf, gRet, gNx, fB, f2, fVar, ew, e1, h1, fTup, fCons, fNil, fC, fDef]
  | false =>
    cases h2 : nameB q with
    | true => simp [gSeq, gIf, gRet, gNx, fB, f2, fVar, fC, ew, e1, h1, fTup, fCons, fNil, fDef, e2, h2]
    | false =>
      have e5' : (bA && (decide (n ≤ 4) && (bZ || !bY))) = true → bA = true ∧ q.length ≤ 4 := e5
      cases bA with
      | false => simp [gSeq, gIf, gRet, gNx, fB, f2, fVar, fC, ew, e1, h1, fTup, fCons, fNil, fDef, e2, h2, fAndT, e6']
      | true =>
        by_cases hn : n ≤ 4
        · cases bZ with
          | true =>
            obtain ⟨_, d2⟩ := e5' (by simp [hn])
            have e4 := e4 rfl (by omega)
            simp [gSeq, gIf, gRet, gNx, fB, f2, fVar, fC, ew, e1, h1, fTup, fCons, fNil, fDef, e2, h2, fAndT, e6', fOrT, e9, fCall, e10, hn, eZ, e8, eY, e4]
          | false =>
            cases bY with
            | true => simp [gSeq, gIf, gRet, gNx, fB, f2, fVar, fC, ew, e1, h1, fTup, fCons, fNil, fDef, e2, h2, fAndT, e6', fOrT, e9, fCall, e10, hn, eZ, e8, eY]
            | false =>
              obtain ⟨_, d2⟩ := e5' (by simp [hn])
              have e4 := e4 rfl (by omega)
              simp [gSeq, gIf, gRet, gNx, fB, f2, fVar, fC, ew, e1, h1, fTup, fCons, fNil, fDef, e2, h2, fAndT, e6', fOrT, e9, fCall, e10, hn, eZ, e8, eY, e4]
        · simp [gSeq, gIf, gRet, gNx, fB, f2, fVar, fC, ew, e1, h1, fTup, fCons, fNil, fDef, e2, h2, fAndT, e6', fOrT, e9, fCall, e10, hn]
end K02

set_option maxRecDepth 100000
set_option maxHeartbeats 1000000
/-! ZC: k02, where a run ends, the token at a place. -/
namespace K02
open PySem MP
/-- the while's test, its body -/
def cE : MP.Env → MP.St → Out Bool := fAndT (fB (f2 opLt (fVar 2) (fCall cLen (fCons (fVar 0) (fNil))))) (fB (f2 opIn (f2 opIdx (fVar 0) (fVar 2)) (f2 opAdd (fC d_LETTERS) (fC d_DIGITS))))
def uE : MP.Env → MP.St → SO := gSeq (gSet 2 (f2 opAdd (fVar 2) (fC (.int 1)))) (gNx)
theorem cE_in {t : List Nat} {e : Nat} {b : MP.D} {st : MP.St} (ht : t.length ≤ 16777216) (h : e < t.length) : cE [some (.str t), some b, some (.int e)] st = .ok (isLG t[e]) st := by
  simp [cE, fAndT, fB, f2, fVar, fCall, fCons, fNil, cLen, opLt, opOrd, ht, h, fC, addLG, opIdx_str ht h, inLG]
theorem cE_out {t : List Nat} {e : Nat} {b : MP.D} {st : MP.St} (ht : t.length ≤ 16777216) (h : ¬ e < t.length) : cE [some (.str t), some b, some (.int e)] st = .ok false st := by
  simp [cE, fAndT, fB, f2, fVar, fCall, fCons, fNil, cLen, opLt, opOrd, ht, h]
theorem uE_do {t : List Nat} {e : Nat} {b : MP.D} {st : MP.St} : uE [some (.str t), some b, some (.int e)] st = .nx [some (.str t), some b, some (.int (e + 1 : Nat))] st := by
  simp [uE, gSeq, gSet, f2, fVar, fC, opAdd, gNx]
theorem eor_loop (t : List Nat) (ht : t.length ≤ 16777216) (b : MP.D) (st : MP.St) : ∀ (n e : Nat), t.length - e < n →
    gWh cE uE n [some (.str t), some b, some (.int e)] st = .nx [some (.str t), some b, some (.int (e + ((t.drop e).takeWhile isLG).length : Nat))] st := by
  intro n
  induction n with
  | zero => intro e h; omega
  | succ n ih =>
    intro e hn
    unfold gWh
    by_cases h : e < t.length
    · rw [cE_in ht h, Out.toS_ok, uE_do]
      have ed : t.drop e = t[e] :: t.drop (e + 1) := List.drop_eq_getElem_cons h
      cases hc : isLG t[e] with
      | true =>
        simp only [if_true]
        rw [ih (e + 1) (by omega), ed, List.takeWhile_cons, hc]
        simp only [if_true, List.length_cons]
        rw [show e + 1 + (List.takeWhile isLG (List.drop (e + 1) t)).length = e + ((List.takeWhile isLG (List.drop (e + 1) t)).length + 1) from by omega]
      | false =>
        rw [ed, List.takeWhile_cons, hc]
        simp
    · rw [cE_out ht h, List.drop_eq_nil_of_le (by omega)]
      simp
theorem end_of_run_ok {t : List Nat} (ht : t.length ≤ 900000) {a : Nat} (st : MP.St) : h_end_of_run [.str t, .int (a : Int)] st = .ok (.int ((a + ((t.drop a).takeWhile isLG).length : Nat) : Int)) st := by
  refine run_pure ?_ rfl
  have z := eor_loop t (by omega) (.int (a : Int)) (enter st) 1000000 a (by omega)
  have e : b_end_of_run = gSeq (gSet 2 (fVar 1)) (gSeq (gWhile (fun _ _ => 1000000) cE uE) (gSeq (gRet (fVar 2)) gNx)) := rfl
  rw [e]
  unfold gWhile
  simp only [gSeq, gSet, fVar, List.map_cons, List.map_nil, List.length_cons, List.length_nil, List.replicate, List.cons_append, List.nil_append, List.getElem?_cons_succ, List.getElem?_cons_zero, Out.toS_ok, List.set_cons_succ, List.set_cons_zero, SO.seq_nx]
  rw [z]
  rfl
def wordR (r : List Nat) : List Nat := if inRS r = true then [107, 101, 121] else if nameB r = true then [110, 97, 109, 101] else if numB r = true then [110, 117, 109, 98, 101, 114] else [98, 97, 100]
def contR (r : List Nat) : D := if inRS r = true then .str r else if nameB r = true then .str r else if numB r = true then .int (valN r) else .str []
theorem runT_eq (r : List Nat) : runT r = [.str (wordR r), contR r] := by
  unfold runT wordR contR
  split
  · rfl
  · split
    · rfl
    · split <;> rfl
theorem contR_nr (r : List Nat) : (contR r).nr = true := by
  unfold contR
  split
  · rfl
  · split
    · rfl
    · split <;> rfl
theorem takeWhile_mem {p : Nat → Bool} {x : Nat} : ∀ {l : List Nat}, x ∈ l.takeWhile p → p x = true
  | [], h => by cases h
  | y :: l, h => by
    rw [List.takeWhile_cons] at h
    by_cases hy : p y = true
    · rw [if_pos hy] at h
      rcases List.mem_cons.mp h with rfl | h
      · exact hy
      · exact takeWhile_mem h
    · rw [if_neg hy] at h; cases h
def badW : List Nat := [98, 97, 100]
/-- what token_at tells: the word, the content, where it ends -/
def atT (t : List Nat) (a : Nat) (x : Nat) : List D :=
  if x = 10 then [.str [108, 105, 110, 101], .str [], .int (a + 1)]
  else if x = 40 ∨ x = 41 then [.str [109, 97, 114, 107], .str [x], .int (a + 1)]
  else if isLG x = true then [.str (wordR ((t.drop a).takeWhile isLG)), contR ((t.drop a).takeWhile isLG), .int ((a + ((t.drop a).takeWhile isLG).length : Nat) : Int)]
  else [.str badW, .str [], .int a]
theorem token_at_ok {t : List Nat} (ht : t.length ≤ 900000) {a : Nat} (h : a < t.length) (st : MP.St) : h_token_at [.str t, .int (a : Int)] st = .ok (.tup (atT t a t[a])) st := by
  have hnr : D.nrs (atT t a t[a]) = true := by
    unfold atT
    split
    · rfl
    · split
      · rfl
      · split
        · simp [D.nrs, D.nr, contR_nr]
        · rfl
  refine run_pure ?_ (nrs_los _ _ hnr)
  unfold b_token_at
  have ix : ∀ st : MP.St, opIdx (.str t) (.int (a : Int)) st = .ok (.str [t[a]]) st := fun st => opIdx_str (by omega) h
  have eo := end_of_run_ok ht (a := a)
  have ed : t.drop a = t[a] :: t.drop (a + 1) := List.drop_eq_getElem_cons h
  have hr : ∀ x ∈ (t.drop a).takeWhile isLG, isLG x = true := fun x hx => takeWhile_mem hx
  have hlen : a + ((t.drop a).takeWhile isLG).length ≤ t.length := by
    have := (List.takeWhile_sublist (l := t.drop a) isLG).length_le
    rw [List.length_drop] at this; omega
  have htk : (t.drop a).take ((t.drop a).takeWhile isLG).length = (t.drop a).takeWhile isLG := (List.prefix_iff_eq_take.mp (List.takeWhile_prefix isLG)).symm
  have hz : isLG t[a] = false → (t.drop a).takeWhile isLG = [] := fun hx => by rw [ed, List.takeWhile_cons, hx]; rfl
  have hp : isLG t[a] = true → ∃ q, (t.drop a).takeWhile isLG = t[a] :: q := fun hx => by rw [ed, List.takeWhile_cons, hx]; exact ⟨_, rfl⟩
  unfold atT
  generalize hq : (t.drop a).takeWhile isLG = q at *
  generalize hx : t[a] = x at *
  have ein : ∀ st : MP.St, opIn (.str [x]) (.str [40, 41]) st = .ok (.bl (decide (x = 40 ∨ x = 41))) st := fun st => by rw [opIn_sign]; simp
  by_cases h1 : x = 10
  · simp [gSeq, gIf, gRet, gNx, fB, f2, fVar, fC, ix, opEq_str, h1, fTup, fCons, fNil, opAdd]
  · by_cases h2 : x = 40 ∨ x = 41
    · simp [gSeq, gIf, gRet, gNx, fB, f2, fVar, fC, ix, opEq_str, h1, fTup, fCons, fNil, opAdd, ein, h2]
    · cases h3 : isLG x with
      | false =>
        have q0 := hz h3
        subst q0
        simp [gSeq, gIf, gRet, gNx, fB, f2, fVar, fC, ix, opEq_str, h1, fTup, fCons, fNil, opAdd, ein, h2, gSet, fDef, eo, fIf, opOrd, badW]
      | true =>
        obtain ⟨q', rfl⟩ := hp h3
        have er := run_token_ok hr (by omega)
        have ec : ∀ st : MP.St, opSlc (.str t) (some (a : Int)) (some ((a + (x :: q').length : Nat) : Int)) st = .ok (.str (x :: q')) st := fun st => by
          have : cut t (some (a : Int)) (some ((a + (x :: q').length : Nat) : Int)) = x :: q' := by
            rw [cut_nat (by omega) hlen, Nat.add_sub_cancel_left, htk]
          simp only [opSlc, this, show t.length ≤ 16777216 from by omega, if_true]
        have gt : ∀ st : MP.St, opGt (.int ((a + (x :: q').length : Nat) : Int)) (.int (a : Int)) st = .ok (.bl true) st := fun st => by
          simp [opOrd]; omega
        have ad : ∀ (st : MP.St) (k : Int), opAdd (.tup (runT (x :: q'))) (.tup [.int k]) st = .ok (.tup [.str (wordR (x :: q')), contR (x :: q'), .int k]) st := fun st k => by
          rw [runT_eq]; rfl
        generalize ((a + (x :: q').length : Nat) : Int) = e at *
        simp [gSeq, gIf, gRet, gNx, fB, f2, fVar, fC, ix, opEq_str, h1, fTup, fCons, fNil, ein, h2, gSet, fDef, eo, fIf, gt, fSlc, fPart, ec, er, ad]
end K02

set_option maxRecDepth 100000
set_option maxHeartbeats 1000000
/-! ZD: k02, the tokens of a text, sign by sign; the law's own loop. -/
namespace K02
open PySem MP
abbrev Lex := List D × Option (Int × Int)
def cons (t : D) (r : Lex) : Lex := (t :: r.1, r.2)
def tokR (r : List Nat) (l c : Int) : D := .tup [.str (wordR r), contR r, .int l, .int (c - (r.length : Int))]
def badR (r : List Nat) : Bool := decide (wordR r = badW)
def lineT (l c : Int) : D := .tup [.str [108, 105, 110, 101], .str [], .int l, .int c]
def markT (x : Nat) (l c : Int) : D := .tup [.str [109, 97, 114, 107], .str [x], .int l, .int c]
def badT (l c : Int) : D := .tup [.str badW, .str [], .int l, .int c]
def endT (l c : Int) : D := .tup [.str [101, 110, 100], .str [], .int l, .int c]
def flush (run : List Nat) (l c : Int) (r : Lex) : Lex := if run = [] then r else if badR run = true then ([tokR run l c], none) else cons (tokR run l c) r
def lex (run : List Nat) : List Nat → Int → Int → Lex
  | [], l, c => flush run l c ([], some (l, c))
  | x :: xs, l, c => if isLG x = true then lex (run ++ [x]) xs l (c + 1) else flush run l c (
      if x = 10 then cons (lineT l c) (lex [] xs (l + 1) 1)
      else if x = 32 then lex [] xs l (c + 1)
      else if x = 40 ∨ x = 41 then cons (markT x l c) (lex [] xs l (c + 1))
      else ([badT l c], none))
def toks (t : List Nat) : List D := match lex [] t 1 1 with
  | (ts, some (l, c)) => ts ++ [endT l c]
  | (ts, none) => ts
theorem tokR_nr (r : List Nat) (l c : Int) : (tokR r l c).nr = true := by simp [tokR, D.nr, D.nrs, contR_nr]

/-! ### the law's loop -/
def A1 : MP.Env → MP.St → SO := gIf (fOrT (fB (fChain opLe opLe (fC (.str [97])) (fVar 5) (fC (.str [122])))) (fB (fChain opLe opLe (fC (.str [48])) (fVar 5) (fC (.str [57]))))) (gSeq (gSet 4 (f2 opAdd (fVar 4) (fVar 5))) (gSeq (gAug 3 (fun x y => x + y) (fC (.int 1))) (gSeq (gCont) (gNx)))) (gNx)
def A2 : MP.Env → MP.St → SO := gIf (fB (f2 opNe (fVar 4) (fC (.str [])))) (gSeq (gExpr (fMtL mAppend (fVar 1) (fCons (f2 opAdd (fDef 1 h__law_run (fCons (fVar 4) (fNil))) (fTup (fCons (fVar 2) (fCons (f2 opSub (fVar 3) (fCall cLen (fCons (fVar 4) (fNil)))) (fNil))))) (fNil)))) (gSeq (gSet 4 (fC (.str []))) (gSeq (gIf (fB (f2 opEq (f2 opIdx (f2 opIdx (fVar 1) (f1 opNeg (fC (.int 1)))) (fC (.int 0))) (fC (.str [98, 97, 100])))) (gSeq (gRet (fVar 1)) (gNx)) (gNx)) (gNx)))) (gNx)
def A3 : MP.Env → MP.St → SO := gIf (fB (f2 opEq (fVar 5) (fC (.str [10])))) (gSeq (gExpr (fMtL mAppend (fVar 1) (fCons (fTup (fCons (fC (.str [108, 105, 110, 101])) (fCons (fC (.str [])) (fCons (fVar 2) (fCons (fVar 3) (fNil)))))) (fNil)))) (gSeq (gPar 2 3 (fCons (f2 opAdd (fVar 2) (fC (.int 1))) (fCons (fC (.int 1)) (fNil)))) (gSeq (gCont) (gNx)))) (gNx)
def A4 : MP.Env → MP.St → SO := gIf (fB (f2 opNe (fVar 5) (fC (.str [32])))) (gSeq (gExpr (fMtL mAppend (fVar 1) (fCons (f2 opAdd (fIf (fB (f2 opIn (fVar 5) (fC (.str [40, 41])))) (fTup (fCons (fC (.str [109, 97, 114, 107])) (fCons (fVar 5) (fNil)))) (fTup (fCons (fC (.str [98, 97, 100])) (fCons (fC (.str [])) (fNil))))) (fTup (fCons (fVar 2) (fCons (fVar 3) (fNil))))) (fNil)))) (gSeq (gIf (fB (f2 opEq (f2 opIdx (f2 opIdx (fVar 1) (f1 opNeg (fC (.int 1)))) (fC (.int 0))) (fC (.str [98, 97, 100])))) (gSeq (gRet (fVar 1)) (gNx)) (gNx)) (gNx))) (gNx)
def A5 : MP.Env → MP.St → SO := gSeq (gAug 3 (fun x y => x + y) (fC (.int 1))) (gNx)
def bodyL : MP.Env → MP.St → SO := gSeq A1 (gSeq A2 (gSeq A3 (gSeq A4 A5)))
abbrev envL (t : D) (k : Nat) (l c : Int) (run : List Nat) (x : Nat) : MP.Env := [some t, some (.ref k), some (.int l), some (.int c), some (.str run), some (.str [x])]
theorem isLG_def (x : Nat) : isLG x = (decide (97 ≤ x) && decide (x ≤ 122) || decide (48 ≤ x) && decide (x ≤ 57)) := rfl
theorem A1_yes {t : D} {k : Nat} {l c : Int} {run : List Nat} {x : Nat} {st : MP.St} (h : isLG x = true) (hl : run.length + 1 ≤ 16777216) : A1 (envL t k l c run x) st = .cont (envL t k l (c + 1) (run ++ [x]) x) st := by
  rw [isLG_def] at h
  by_cases a : 97 ≤ x <;> by_cases b : x ≤ 122 <;> by_cases d : 48 ≤ x <;> by_cases e : x ≤ 57 <;>
  simp [A1, gIf, fOrT, fB, fChain, fC, fVar, le_sign, a, b, d, e, gSeq, gSet, f2, opAdd, hl, gAug, gCont] <;> simp [a, b, d, e] at h
theorem A1_no {t : D} {k : Nat} {l c : Int} {run : List Nat} {x : Nat} {st : MP.St} (h : isLG x = false) : A1 (envL t k l c run x) st = .nx (envL t k l c run x) st := by
  rw [isLG_def] at h
  by_cases a : 97 ≤ x <;> by_cases b : x ≤ 122 <;> by_cases d : 48 ≤ x <;> by_cases e : x ≤ 57 <;>
  simp [A1, gIf, fOrT, fB, fChain, fC, fVar, le_sign, a, b, d, e, gNx] <;> simp [a, b, d, e] at h
theorem last_word {os : List O} {fl : List (Nat × Bool)} {acc : List D} {w : List Nat} {q : List D} :
    (f2 opIdx (f2 opIdx (fVar 1) (f1 opNeg (fC (.int 1)))) (fC (.int 0))) = (f2 opIdx (f2 opIdx (fVar 1) (f1 opNeg (fC (.int 1)))) (fC (.int 0))) := rfl
theorem opIdx_last {os : List O} {fl : List (Nat × Bool)} {acc : List D} {y : D} : opIdx (.ref os.length) (.int (-1)) ⟨os ++ [.lst (acc ++ [y])], fl⟩ = .ok y ⟨os ++ [.lst (acc ++ [y])], fl⟩ := by
  simp [opIdx, seqOf, lstOf, atI_last]
theorem opIdx_word {w : List Nat} {q : List D} {st : MP.St} : opIdx (.tup (.str w :: q)) (.int 0) st = .ok (.str w) st := by
  simp [opIdx, seqOf, atI_zero]
theorem A2_no {t : D} {k : Nat} {l c : Int} {x : Nat} {st : MP.St} : A2 (envL t k l c [] x) st = .nx (envL t k l c [] x) st := by
  simp [A2, gIf, fB, f2, fVar, fC, opNe_str, gNx]
theorem isL_ref {os : List O} {fl : List (Nat × Bool)} {acc : List D} : MP.isL ⟨os ++ [.lst acc], fl⟩ (.ref os.length) = true := by simp [MP.isL, lqOf, lstOf]
theorem A2_yes {t : D} {l c : Int} {run : List Nat} {x : Nat} {os : List O} {fl : List (Nat × Bool)} {acc : List D} (hr : run ≠ []) (hlg : ∀ x ∈ run, isLG x = true) (hl : run.length ≤ 16777216) (ha : D.nrs acc = true) (hal : acc.length < 16777216) :
    A2 (envL t os.length l c run x) ⟨os ++ [.lst acc], fl⟩ = if badR run = true then .ret (.ref os.length) ⟨os ++ [.lst (acc ++ [tokR run l c])], fl⟩ else .nx (envL t os.length l c [] x) ⟨os ++ [.lst (acc ++ [tokR run l c])], fl⟩ := by
  have er : ∀ st : MP.St, h__law_run [.str run] st = .ok (.tup (runT run)) st := by
    cases run with
    | nil => exact absurd rfl hr
    | cons y q => exact law_run_ok hlg hl
  have ad : ∀ (st : MP.St) (a b : D), opAdd (.tup (runT run)) (.tup [a, b]) st = .ok (.tup [.str (wordR run), contR run, a, b]) st := fun st a b => by
    rw [runT_eq]; rfl
  have hn : D.nrs (acc ++ [tokR run l c]) = true := by rw [nrs_append, ha]; simp [D.nrs, tokR_nr]
  have ap := append_last (os := os) (fl := fl) hn hal
  have il := opIdx_last (os := os) (fl := fl) (acc := acc) (y := tokR run l c)
  have iw : ∀ st : MP.St, opIdx (tokR run l c) (.int 0) st = .ok (.str (wordR run)) st := fun st => opIdx_word
  have ht : D.tup [.str (wordR run), contR run, .int l, .int (c - (run.length : Int))] = tokR run l c := rfl
  have ew : ∀ st : MP.St, opEq (.str (wordR run)) (.str [98, 97, 100]) st = .ok (.bl (badR run)) st := fun st => opEq_str
  simp [A2, gIf, fB, f2, fVar, fC, opNe_str, hr, gSeq, gExpr, fMtL, isL_ref, fCons, fNil, fDef, er, fTup, fCall, cLen_str hl, opI, ad, ht, ap, gSet, f1, opNeg, il, iw, ew, gRet, gNx]
  cases badR run <;> rfl
/-- behind the run -/
def rest3 (x : Nat) (l c : Int) : Lex := if x = 10 then ([lineT l c], some (l + 1, 1)) else if x = 32 then ([], some (l, c + 1)) else if x = 40 ∨ x = 41 then ([markT x l c], some (l, c + 1)) else ([badT l c], none)
theorem T3 {t : D} {l c : Int} {x : Nat} {os : List O} {fl : List (Nat × Bool)} {acc : List D} (ha : D.nrs acc = true) (hal : acc.length < 16777216) :
    (match rest3 x l c with
    | (ts, some (l', c')) => (gSeq A3 (gSeq A4 A5)) (envL t os.length l c [] x) ⟨os ++ [.lst acc], fl⟩ = .nx (envL t os.length l' c' [] x) ⟨os ++ [.lst (acc ++ ts)], fl⟩ ∨ (gSeq A3 (gSeq A4 A5)) (envL t os.length l c [] x) ⟨os ++ [.lst acc], fl⟩ = .cont (envL t os.length l' c' [] x) ⟨os ++ [.lst (acc ++ ts)], fl⟩
    | (ts, none) => (gSeq A3 (gSeq A4 A5)) (envL t os.length l c [] x) ⟨os ++ [.lst acc], fl⟩ = .ret (.ref os.length) ⟨os ++ [.lst (acc ++ ts)], fl⟩) := by
  have hn : ∀ y : D, y.nr = true → D.nrs (acc ++ [y]) = true := fun y hy => by rw [nrs_append, ha]; simp [D.nrs, hy]
  have ap := fun y hy => append_last (os := os) (fl := fl) (hn y hy) hal
  unfold rest3
  by_cases h1 : x = 10
  · have ap := ap (lineT l c) rfl
    have ht : D.tup [.str [108, 105, 110, 101], .str [], .int l, .int c] = lineT l c := rfl
    simp [h1, gSeq, A3, gIf, fB, f2, fVar, fC, opEq_str, gExpr, fMtL, isL_ref, fCons, fNil, fTup, ht, ap, gPar, opAdd, gCont]
  · by_cases h2 : x = 32
    · simp [h2, gSeq, A3, A4, A5, gIf, fB, f2, fVar, fC, opEq_str, opNe_str, gNx, gAug]
    · have ein : ∀ st : MP.St, opIn (.str [x]) (.str [40, 41]) st = .ok (.bl (decide (x = 40 ∨ x = 41))) st := fun st => by rw [opIn_sign]; simp
      have add2 : ∀ (st : MP.St) (a b e f : D), opAdd (.tup [a, b]) (.tup [e, f]) st = .ok (.tup [a, b, e, f]) st := fun st a b e f => rfl
      by_cases h3 : x = 40 ∨ x = 41
      · have ht : D.tup [.str [109, 97, 114, 107], .str [x], .int l, .int c] = markT x l c := rfl
        have ap := ap (markT x l c) rfl
        have il := opIdx_last (os := os) (fl := fl) (acc := acc) (y := markT x l c)
        have iw : ∀ st : MP.St, opIdx (markT x l c) (.int 0) st = .ok (.str [109, 97, 114, 107]) st := fun st => opIdx_word
        simp [h1, h2, h3, gSeq, A3, A4, A5, gIf, fB, f2, fVar, fC, opEq_str, opNe_str, gNx, gAug, gExpr, fMtL, isL_ref, fCons, fNil, fIf, ein, fTup, add2, ht, ap, f1, opNeg, il, iw]
      · have ht : D.tup [.str [98, 97, 100], .str [], .int l, .int c] = badT l c := rfl
        have ap := ap (badT l c) rfl
        have il := opIdx_last (os := os) (fl := fl) (acc := acc) (y := badT l c)
        have iw : ∀ st : MP.St, opIdx (badT l c) (.int 0) st = .ok (.str [98, 97, 100]) st := fun st => opIdx_word
        simp [h1, h2, h3, gSeq, A3, A4, A5, gIf, fB, f2, fVar, fC, opEq_str, opNe_str, gNx, gAug, gExpr, fMtL, isL_ref, fCons, fNil, fIf, ein, fTup, add2, ht, ap, f1, opNeg, il, iw, gRet]
end K02

set_option maxRecDepth 100000
set_option maxHeartbeats 1000000
/-! ZE: k02, both loops part a text alike. -/
namespace K02
open PySem MP
theorem lex_runs : ∀ (r run xs : List Nat) (l c : Int), (∀ x ∈ r, isLG x = true) → lex run (r ++ xs) l c = lex (run ++ r) xs l (c + (r.length : Int))
  | [], run, xs, l, c, _ => by simp
  | x :: r, run, xs, l, c, h => by
    rw [List.cons_append, lex, if_pos (h x List.mem_cons_self), lex_runs r _ xs l (c + 1) fun y hy => h y (List.mem_cons_of_mem _ hy)]
    simp only [List.append_assoc, List.singleton_append, List.length_cons]
    congr 1
    push_cast; omega
theorem lex_stop {run xs : List Nat} {l c : Int} (h : ∀ x q, xs = x :: q → isLG x = false) : lex run xs l c = flush run l c (lex [] xs l c) := by
  cases xs with
  | nil => simp [lex, flush]
  | cons x q =>
    have hx := h x q rfl
    simp [lex, hx, flush]
def restL (xs : List Nat) : Lex → Lex
  | (ts, some (l, c)) => (ts ++ (lex [] xs l c).1, (lex [] xs l c).2)
  | (ts, none) => (ts, none)
theorem lex_rest {x : Nat} {run xs : List Nat} {l c : Int} (h : isLG x = false) : lex run (x :: xs) l c = flush run l c (restL xs (rest3 x l c)) := by
  rw [lex, if_neg (by simp [h])]
  congr 1
  unfold rest3
  split
  · rfl
  · split
    · simp [restL]
    · split <;> rfl
/-! ### the law's loop -/
def outL (t : D) (os : List O) (fl : List (Nat × Bool)) (acc : List D) (r : Lex) : SO := match r.2 with
  | some (l, c) => .nx [some t, some (.ref os.length), some (.int (l + 1)), some (.int 1), some (.str []), some (.str [10])] ⟨os ++ [.lst (acc ++ r.1 ++ [lineT l c])], fl⟩
  | none => .ret (.ref os.length) ⟨os ++ [.lst (acc ++ r.1)], fl⟩
theorem outL_cons {t : D} {os : List O} {fl : List (Nat × Bool)} {acc : List D} {k : D} {r : Lex} : outL t os fl acc (cons k r) = outL t os fl (acc ++ [k]) r := by
  simp [outL, cons]
theorem loopL {t : D} {os : List O} {fl : List (Nat × Bool)} : ∀ (cs run : List Nat) (acc : List D) (l c : Int) (sg : Option D), (∀ x ∈ run, isLG x = true) → run.length + cs.length < 16777216 → D.nrs acc = true → acc.length + 2 * cs.length + 2 < 16777216 →
    gLoop (tgName 5) bodyL ((cs ++ [10]).map fun c => .str [c]) [some t, some (.ref os.length), some (.int l), some (.int c), some (.str run), sg] ⟨os ++ [.lst acc], fl⟩ = outL t os fl acc (lex run cs l c) := by
  intro cs
  induction cs with
  | nil =>
    intro run acc l c sg hr hl ha hal
    simp only [List.nil_append, List.map_cons, List.map_nil, gLoop, tgName, List.set_cons_succ, List.set_cons_zero]
    have a1 := A1_no (t := t) (k := os.length) (l := l) (c := c) (run := run) (x := 10) (st := ⟨os ++ [.lst acc], fl⟩) rfl
    simp only [bodyL, gSeq, a1, SO.seq_nx]
    have t3 := fun (acc : List D) ha hal => T3 (t := t) (l := l) (c := c) (x := 10) (os := os) (fl := fl) (acc := acc) ha hal
    simp only [rest3, if_true] at t3
    simp only [lex, flush]
    by_cases hrun : run = []
    · subst hrun
      rw [A2_no, SO.seq_nx, if_pos rfl]
      rcases t3 acc ha (by omega) with z | z
      · rw [z]; simp [outL]
      · rw [z]; simp [outL]
    · rw [A2_yes hrun hr (by omega) ha (by omega), if_neg hrun]
      cases hb : badR run with
      | true => simp [outL]
      | false =>
        have hn : D.nrs (acc ++ [tokR run l c]) = true := by rw [nrs_append, ha]; simp [D.nrs, tokR_nr]
        simp only [Bool.false_eq_true, if_false, SO.seq_nx]
        rcases t3 (acc ++ [tokR run l c]) hn (by simp; omega) with z | z
        · rw [z]; simp [outL, cons]
        · rw [z]; simp [outL, cons]
  | cons x cs ih =>
    intro run acc l c sg hr hl ha hal
    simp only [List.length_cons] at hl hal
    simp only [List.cons_append, List.map_cons, gLoop, tgName, List.set_cons_succ, List.set_cons_zero]
    cases hx : isLG x with
    | true =>
      have a1 := A1_yes (t := t) (k := os.length) (l := l) (c := c) (run := run) (x := x) (st := ⟨os ++ [.lst acc], fl⟩) hx (by omega)
      simp only [bodyL, gSeq, a1, SO.seq_cont]
      have z := ih (run ++ [x]) acc l (c + 1) (some (.str [x])) (fun y hy => by
        rcases List.mem_append.mp hy with h | h
        · exact hr y h
        · rw [List.mem_singleton.mp h]; exact hx) (by simp; omega) ha (by omega)
      rw [lex, if_pos hx, ← z]
      rfl
    | false =>
      have a1 := A1_no (t := t) (k := os.length) (l := l) (c := c) (run := run) (x := x) (st := ⟨os ++ [.lst acc], fl⟩) hx
      simp only [bodyL, gSeq, a1, SO.seq_nx]
      rw [lex_rest hx]
      -- behind the run
      have behind : ∀ acc : List D, D.nrs acc = true → acc.length + 2 * cs.length + 3 < 16777216 → (match (gSeq A3 (gSeq A4 A5) (envL t os.length l c [] x) ⟨os ++ [.lst acc], fl⟩) with
          | .nx ρ' st' => gLoop (tgName 5) bodyL ((cs ++ [10]).map fun c => .str [c]) ρ' st'
          | .cont ρ' st' => gLoop (tgName 5) bodyL ((cs ++ [10]).map fun c => .str [c]) ρ' st'
          | .brk ρ' st' => .nx ρ' st'
          | x => x) = outL t os fl acc (restL cs (rest3 x l c)) := fun acc ha hal => by
        have t3 := T3 (t := t) (l := l) (c := c) (x := x) (os := os) (fl := fl) (acc := acc) ha (by omega)
        have rnr : D.nrs (rest3 x l c).1 = true ∧ (rest3 x l c).1.length ≤ 1 := by
          unfold rest3
          split
          · exact ⟨rfl, Nat.le_refl _⟩
          · split
            · exact ⟨rfl, by simp⟩
            · split <;> exact ⟨rfl, Nat.le_refl _⟩
        generalize rest3 x l c = r3 at t3 rnr
        obtain ⟨ts, p⟩ := r3
        cases p with
        | none =>
          rw [t3]
          rfl
        | some p =>
          obtain ⟨l', c'⟩ := p
          have z := ih [] (acc ++ ts) l' c' (some (.str [x])) (fun _ h => by cases h) (by simp; omega) (by rw [nrs_append, ha, rnr.1]; rfl) (by have := rnr.2; simp only at this; simp; omega)
          have zz : outL t os fl (acc ++ ts) (lex [] cs l' c') = outL t os fl acc (restL cs (ts, some (l', c'))) := by
            simp [outL, restL]
          rcases t3 with t3 | t3
          · rw [t3, ← zz, ← z]
          · rw [t3, ← zz, ← z]
      by_cases hrun : run = []
      · subst hrun
        rw [A2_no, SO.seq_nx]
        simp only [flush, if_true]
        exact behind acc ha (by omega)
      · rw [A2_yes hrun hr (by omega) ha (by omega)]
        unfold flush
        rw [if_neg hrun]
        cases hb : badR run with
        | true => simp [outL]
        | false =>
          have hn : D.nrs (acc ++ [tokR run l c]) = true := by rw [nrs_append, ha]; simp [D.nrs, tokR_nr]
          simp only [Bool.false_eq_true, if_false, SO.seq_nx]
          rw [outL_cons]
          exact behind _ hn (by simp; omega)
end K02

set_option maxRecDepth 100000
set_option maxHeartbeats 1000000
/-! ZF: k02, both partings give the same tokens. -/
namespace K02
open PySem MP
theorem run_thaw {n : Nat} {b : MP.Env → MP.St → SO} {ds : List D} {st : MP.St} {l : List D} (h : b (ds.map some ++ List.replicate (n - ds.length) none) (enter st) = .ret (.ref st.objs.length) ⟨st.objs ++ [.lst l], (st.objs.length, false) :: st.fls⟩) (hl : D.nrs l = true) :
    runF false n b ds st = .ok (.lst l) st := by
  unfold runF
  rw [h]
  unfold ended leave thaw
  simp [D.lo, nrs_los _ _ hl]
theorem lex_facts : ∀ (t run : List Nat) (l c : Int), D.nrs (lex run t l c).1 = true ∧ (lex run t l c).1.length ≤ 2 * t.length + 1
  | [], run, l, c => by
    unfold lex flush
    split
    · exact ⟨rfl, by simp⟩
    · split
      · simp [D.nrs, tokR_nr]
      · simp [cons, D.nrs, tokR_nr]
  | x :: t, run, l, c => by
    cases hx : isLG x with
    | true =>
      rw [lex, if_pos hx]
      have := lex_facts t (run ++ [x]) l (c + 1)
      exact ⟨this.1, by simp only [List.length_cons]; omega⟩
    | false =>
      rw [lex_rest hx]
      have rnr : D.nrs (rest3 x l c).1 = true ∧ (rest3 x l c).1.length ≤ 1 := by
        unfold rest3
        split
        · exact ⟨rfl, Nat.le_refl _⟩
        · split
          · exact ⟨rfl, by simp⟩
          · split <;> exact ⟨rfl, Nat.le_refl _⟩
      have hr : D.nrs (restL t (rest3 x l c)).1 = true ∧ (restL t (rest3 x l c)).1.length ≤ 2 * t.length + 2 := by
        generalize rest3 x l c = r3 at rnr
        obtain ⟨ts, p⟩ := r3
        simp only at rnr
        cases p with
        | none => exact ⟨rnr.1, by simp only [restL]; omega⟩
        | some p =>
          obtain ⟨l', c'⟩ := p
          have := lex_facts t [] l' c'
          exact ⟨by simp only [restL]; rw [nrs_append, rnr.1, this.1]; rfl, by simp only [restL, List.length_append]; omega⟩
      unfold flush
      split
      · exact ⟨hr.1, by simp only [List.length_cons]; omega⟩
      · split
        · simp [D.nrs, tokR_nr]
        · exact ⟨by simp [cons, D.nrs, tokR_nr, hr.1], by simp only [cons, List.length_cons]; omega⟩
theorem law_tokens_ok {t : List Nat} (ht : t.length ≤ 900000) (st : MP.St) : h__law_tokens [.str t] st = .ok (.lst (toks t)) st := by
  have e : b__law_tokens = gSeq (gAsg (fTup (fCons (fBox (fNil)) (fCons (fC (.int 1)) (fCons (fC (.int 1)) (fCons (fC (.str [])) (fNil)))))) (tgTup 4 (tgCons (tgName 1) (tgCons (tgName 2) (tgCons (tgName 3) (tgCons (tgName 4) (tgNil))))))) (gSeq (gFor (fIt (f2 opAdd (fVar 0) (fC (.str [10])))) (tgName 5) bodyL) (gSeq (gRet (f2 opAdd (fSlc (fVar 1) (fNoP) (fPart (f1 opNeg (fC (.int 1))))) (fLst (fCons (f2 opAdd (fTup (fCons (fC (.str [101, 110, 100])) (fCons (fC (.str [])) (fNil)))) (fSlc (f2 opIdx (fVar 1) (f1 opNeg (fC (.int 1)))) (fPart (fC (.int 2))) (fNoP))) (fNil))))) (gNx))) := rfl
  have z := loopL (t := .str t) (os := st.objs) (fl := (st.objs.length, false) :: st.fls) t [] [] 1 1 none (fun _ h => by cases h) (by simp; omega) rfl (by simp; omega)
  obtain ⟨q1, q2⟩ := lex_facts t [] 1 1
  unfold toks
  generalize lex [] t 1 1 = r at *
  obtain ⟨ts, p⟩ := r
  have ad : ∀ st : MP.St, opAdd (.str t) (.str [10]) st = .ok (.str (t ++ [10])) st := fun st => by simp [opAdd]; omega
  have start : ∀ k, (gAsg (fTup (fCons (fBox (fNil)) (fCons (fC (.int 1)) (fCons (fC (.int 1)) (fCons (fC (.str [])) (fNil)))))) (tgTup 4 (tgCons (tgName 1) (tgCons (tgName 2) (tgCons (tgName 3) (tgCons (tgName 4) (tgNil)))))) ) [some (.str t), none, none, none, none, none] (enter st) = k → k = .nx [some (.str t), some (.ref st.objs.length), some (.int 1), some (.int 1), some (.str []), none] ⟨st.objs ++ [.lst []], (st.objs.length, false) :: st.fls⟩ := fun k hk => by
    rw [← hk]
    simp [gAsg, fTup, fCons, fBox, fNil, fC, tgTup, tgCons, tgName, tgNil, enter, MP.St.push]
  have e0 : List.map some [D.str t] ++ List.replicate (6 - [D.str t].length) none = [some (.str t), none, none, none, none, none] := rfl
  have loop : gFor (fIt (f2 opAdd (fVar 0) (fC (.str [10])))) (tgName 5) bodyL [some (.str t), some (.ref st.objs.length), some (.int 1), some (.int 1), some (.str []), none] ⟨st.objs ++ [.lst []], (st.objs.length, false) :: st.fls⟩ = outL (.str t) st.objs ((st.objs.length, false) :: st.fls) [] (ts, p) := by
    rw [← z]
    simp [gFor, fIt, f2, fVar, fC, ad, itemsOf]
  cases p with
  | none =>
    refine run_thaw ?_ q1
    rw [e, e0, gSeq, start _ rfl, SO.seq_nx, gSeq, loop]
    simp [outL]
  | some p =>
    obtain ⟨l, c⟩ := p
    have hn : D.nrs (ts ++ [endT l c]) = true := by rw [nrs_append, q1]; rfl
    refine run_own (more := [.lst (ts ++ [lineT l c])]) ?_ (nrs_los _ _ hn)
    rw [e, e0, gSeq, start _ rfl, SO.seq_nx, gSeq, loop]
    have il := opIdx_last (os := st.objs) (fl := (st.objs.length, false) :: st.fls) (acc := ts) (y := lineT l c)
    have sl : opSlc (.ref st.objs.length) none (some (-1)) ⟨st.objs ++ [.lst (ts ++ [lineT l c])], (st.objs.length, false) :: st.fls⟩ = .ok (.lst ts) ⟨st.objs ++ [.lst (ts ++ [lineT l c])], (st.objs.length, false) :: st.fls⟩ := by
      simp [opSlc, lqOf, lstOf, cut_init]
    have s2 : ∀ st : MP.St, opSlc (lineT l c) (some 2) none st = .ok (.tup [.int l, .int c]) st := fun st => rfl
    have a2 : ∀ st : MP.St, opAdd (.tup [.str [101, 110, 100], .str []]) (.tup [.int l, .int c]) st = .ok (endT l c) st := fun st => rfl
    have a3 : ∀ st : MP.St, opAdd (.lst ts) (.lst [endT l c]) st = .ok (.lst (ts ++ [endT l c])) st := fun st => by
      simp [opAdd, lstOf]; simp only at q2; omega
    simp [outL, gSeq, gRet, f2, fSlc, fVar, fNoP, fPart, f1, opNeg, fC, sl, fLst, fCons, fNil, fTup, il, s2, a2, a3]
end K02

set_option maxRecDepth 100000
set_option maxHeartbeats 1000000
/-! ZG: k02, the program's tokens. -/
namespace K02
open PySem MP
def cP : MP.Env → MP.St → Out Bool := fB (f2 opLt (fVar 2) (fCall cLen (fCons (fVar 0) (fNil))))
def P1 : MP.Env → MP.St → SO := gAsg (fDef 2 h_token_at (fCons (fVar 0) (fCons (fVar 2) (fNil)))) (tgTup 3 (tgCons (tgName 5) (tgCons (tgName 6) (tgCons (tgName 7) (tgNil)))))
def P2 : MP.Env → MP.St → SO := gExpr (fMtL mAppend (fVar 1) (fCons (fTup (fCons (fVar 5) (fCons (fVar 6) (fCons (fVar 3) (fCons (f2 opAdd (f2 opSub (fVar 2) (fVar 4)) (fC (.int 1))) (fNil)))))) (fNil)))
def P3 : MP.Env → MP.St → SO := gSeq (gIf (fB (f2 opEq (fVar 5) (fC (.str [98, 97, 100])))) (gSeq (gRet (fCall cTup (fCons (fVar 1) (fNil)))) (gNx)) (gNx)) (gSeq (gSet 2 (fVar 7)) (gSeq (gIf (fB (f2 opEq (fVar 5) (fC (.str [108, 105, 110, 101])))) (gSeq (gPar 3 4 (fCons (f2 opAdd (fVar 3) (fC (.int 1))) (fCons (fVar 7) (fNil)))) (gNx)) (gNx)) (gNx)))
def bodyP : MP.Env → MP.St → SO := gSeq (gIf (fB (f2 opEq (f2 opIdx (fVar 0) (fVar 2)) (fC (.str [32])))) (gSeq (gSet 2 (f2 opAdd (fVar 2) (fC (.int 1)))) (gNx)) (gSeq P1 (gSeq P2 P3))) (gNx)
abbrev envP (t : List Nat) (k : Nat) (a l f : Int) (w ct e : Option D) : MP.Env := [some (.str t), some (.ref k), some (.int a), some (.int l), some (.int f), w, ct, e]
/-- a token that is none of a blank -/
theorem stepP {t : List Nat} (ht : t.length ≤ 900000) {os : List O} {fl : List (Nat × Bool)} {acc : List D} {a : Nat} {l f : Int} {w ct e : Option D} (h : a < t.length) (ha : D.nrs acc = true) (hal : acc.length < 16777216) (h32 : t[a] ≠ 32)
    {wd : List Nat} {c : D} {en : Int} (hat : atT t a t[a] = [.str wd, c, .int en]) (hc : c.nr = true) :
    bodyP (envP t os.length a l f w ct e) ⟨os ++ [.lst acc], fl⟩ =
      if wd = badW then .ret (.tup (acc ++ [.tup [.str wd, c, .int l, .int (a - f + 1)]])) ⟨os ++ [.lst (acc ++ [.tup [.str wd, c, .int l, .int (a - f + 1)]])], fl⟩
      else if wd = [108, 105, 110, 101] then .nx (envP t os.length en (l + 1) en (some (.str wd)) (some c) (some (.int en))) ⟨os ++ [.lst (acc ++ [.tup [.str wd, c, .int l, .int (a - f + 1)]])], fl⟩
      else .nx (envP t os.length en l f (some (.str wd)) (some c) (some (.int en))) ⟨os ++ [.lst (acc ++ [.tup [.str wd, c, .int l, .int (a - f + 1)]])], fl⟩ := by
  have ix : ∀ st : MP.St, opIdx (.str t) (.int (a : Int)) st = .ok (.str [t[a]]) st := fun st => opIdx_str (by omega) h
  have tk := token_at_ok ht h
  rw [hat] at tk
  have hn : D.nrs (acc ++ [.tup [.str wd, c, .int l, .int (a - f + 1)]]) = true := by rw [nrs_append, ha]; simp [D.nrs, D.nr, hc]
  have ap := append_last (os := os) (fl := fl) hn hal
  have tp : cTup [.ref os.length] ⟨os ++ [.lst (acc ++ [.tup [.str wd, c, .int l, .int (a - f + 1)]])], fl⟩ = .ok (.tup (acc ++ [.tup [.str wd, c, .int l, .int (a - f + 1)]])) ⟨os ++ [.lst (acc ++ [.tup [.str wd, c, .int l, .int (a - f + 1)]])], fl⟩ := by
    simp [cTup, lqOf, lstOf]
  generalize acc ++ [D.tup [.str wd, c, .int l, .int (a - f + 1)]] = acc' at *
  have e32 : ∀ st : MP.St, opEq (.str [t[a]]) (.str [32]) st = .ok (.bl false) st := fun st => by rw [opEq_str]; simp [h32]
  unfold badW
  by_cases h1 : wd = [98, 97, 100]
  · subst h1; simp [bodyP, P1, P2, P3, gSeq, gIf, fB, f2, fVar, fC, ix, e32, gAsg, fDef, fCons, fNil, tk, tgTup, tgCons, tgName, tgNil, gExpr, fMtL, isL_ref, fTup, opI, opAdd, ap, opEq_str, gRet, fCall, tp]
  · by_cases h2 : wd = [108, 105, 110, 101]
    · subst h2; simp [bodyP, P1, P2, P3, gSeq, gIf, fB, f2, fVar, fC, ix, e32, gAsg, fDef, fCons, fNil, tk, tgTup, tgCons, tgName, tgNil, gExpr, fMtL, isL_ref, fTup, opI, opAdd, ap, opEq_str, gNx, gSet, gPar]
    · simp [bodyP, P1, P2, P3, gSeq, gIf, fB, f2, fVar, fC, ix, e32, gAsg, fDef, fCons, fNil, tk, tgTup, tgCons, tgName, tgNil, gExpr, fMtL, isL_ref, fTup, opI, opAdd, ap, opEq_str, h1, h2, gNx, gSet, gPar]
theorem cP_in {t : List Nat} {k : Nat} {a : Nat} {l f : Int} {w ct e : Option D} {st : MP.St} (ht : t.length ≤ 900000) : cP (envP t k a l f w ct e) st = .ok (decide (a < t.length)) st := by
  simp [cP, fB, f2, fVar, fCall, fCons, fNil, cLen_str (show t.length ≤ 16777216 by omega), opOrd]
def outP (t : List Nat) (os : List O) (fl : List (Nat × Bool)) (acc : List D) (r : Lex) (s : SO) : Prop := match r.2 with
  | some (l, c) => ∃ f w ct e, s = .nx (envP t os.length t.length l f w ct e) ⟨os ++ [.lst (acc ++ r.1)], fl⟩ ∧ (t.length : Int) - f + 1 = c
  | none => s = .ret (.tup (acc ++ r.1)) ⟨os ++ [.lst (acc ++ r.1)], fl⟩
theorem outP_cons {t : List Nat} {os : List O} {fl : List (Nat × Bool)} {acc : List D} {k : D} {r : Lex} {s : SO} : outP t os fl acc (cons k r) s ↔ outP t os fl (acc ++ [k]) r s := by
  simp [outP, cons]
theorem word_not_line (r : List Nat) : wordR r ≠ [108, 105, 110, 101] := by
  unfold wordR
  split
  · decide
  · split
    · decide
    · split <;> decide
theorem dropWhile_head {p : Nat → Bool} {x : Nat} {q : List Nat} : ∀ {l : List Nat}, l.dropWhile p = x :: q → p x = false
  | [], h => by cases h
  | y :: l, h => by
    rw [List.dropWhile_cons] at h
    by_cases hy : p y = true
    · rw [if_pos hy] at h
      exact dropWhile_head h
    · rw [if_neg hy] at h
      cases h
      simpa using hy
theorem loopP {t : List Nat} (ht : t.length ≤ 900000) {os : List O} {fl : List (Nat × Bool)} : ∀ (n a : Nat) (acc : List D) (l f : Int) (w ct e : Option D), a ≤ t.length → t.length - a < n → D.nrs acc = true → acc.length ≤ a →
    outP t os fl acc (lex [] (t.drop a) l (a - f + 1)) (gWh cP bodyP n (envP t os.length a l f w ct e) ⟨os ++ [.lst acc], fl⟩) := by
  intro n
  induction n with
  | zero => intro a acc l f w ct e h0 h; omega
  | succ n ih =>
    intro a acc l f w ct e h0 hn ha hal
    unfold gWh
    rw [cP_in ht, Out.toS_ok]
    by_cases h : a < t.length
    · rw [decide_eq_true h, if_pos rfl]
      have ed : t.drop a = t[a] :: t.drop (a + 1) := List.drop_eq_getElem_cons h
      by_cases h32 : t[a] = 32
      · have b : bodyP (envP t os.length a l f w ct e) ⟨os ++ [.lst acc], fl⟩ = .nx (envP t os.length ((a + 1 : Nat) : Int) l f w ct e) ⟨os ++ [.lst acc], fl⟩ := by
          have ix : ∀ st : MP.St, opIdx (.str t) (.int (a : Int)) st = .ok (.str [32]) st := fun st => by rw [opIdx_str (by omega) h, h32]
          simp [bodyP, gSeq, gIf, fB, f2, fVar, fC, ix, opEq_str, gSet, opAdd, gNx]
        rw [b]
        have z := ih (a + 1) acc l f w ct e (by omega) (by omega) ha (by omega)
        rw [ed, h32, lex_rest (by rfl)]
        simp only [flush, if_true, rest3, show ¬ (32 : Nat) = 10 by decide, if_false, restL, List.nil_append]
        rw [show (a : Int) - f + 1 + 1 = ((a + 1 : Nat) : Int) - f + 1 from by push_cast; omega]
        exact z
      · -- a token
        by_cases h10 : t[a] = 10
        · have hat : atT t a t[a] = [.str [108, 105, 110, 101], .str [], .int (a + 1)] := by simp [atT, h10]
          rw [stepP ht h ha (by omega) h32 hat rfl, if_neg (by decide), if_pos rfl]
          have z := ih (a + 1) (acc ++ [lineT l (a - f + 1)]) (l + 1) (a + 1) (some (.str [108, 105, 110, 101])) (some (.str [])) (some (.int (a + 1))) (by omega) (by omega) (by rw [nrs_append, ha]; rfl) (by simp; omega)
          rw [ed, h10, lex_rest (by rfl)]
          simp only [flush, if_true, rest3]
          have e1 : restL (t.drop (a + 1)) ([lineT l (a - f + 1)], some (l + 1, 1)) = cons (lineT l (a - f + 1)) (lex [] (t.drop (a + 1)) (l + 1) 1) := rfl
          rw [e1, outP_cons]
          rw [show ((a + 1 : Nat) : Int) - (a + 1) + 1 = 1 from by push_cast; omega] at z
          exact z
        · by_cases hm : t[a] = 40 ∨ t[a] = 41
          · have hat : atT t a t[a] = [.str [109, 97, 114, 107], .str [t[a]], .int (a + 1)] := by simp [atT, h10, hm]
            have hlg : isLG t[a] = false := by rcases hm with q | q <;> rw [q] <;> rfl
            rw [stepP ht h ha (by omega) h32 hat rfl, if_neg (by decide), if_neg (by decide)]
            have z := ih (a + 1) (acc ++ [markT t[a] l (a - f + 1)]) l f (some (.str [109, 97, 114, 107])) (some (.str [t[a]])) (some (.int (a + 1))) (by omega) (by omega) (by rw [nrs_append, ha]; rfl) (by simp; omega)
            rw [ed, lex_rest hlg]
            simp only [flush, if_true, rest3, h10, h32, hm, if_false]
            have e1 : restL (t.drop (a + 1)) ([markT t[a] l (a - f + 1)], some (l, a - f + 1 + 1)) = cons (markT t[a] l (a - f + 1)) (lex [] (t.drop (a + 1)) l (a - f + 1 + 1)) := rfl
            rw [e1, outP_cons, show (a : Int) - f + 1 + 1 = ((a + 1 : Nat) : Int) - f + 1 from by push_cast; omega]
            exact z
          · cases hlg : isLG t[a] with
            | false =>
              have hat : atT t a t[a] = [.str badW, .str [], .int a] := by simp [atT, h10, hm, hlg]
              rw [stepP ht h ha (by omega) h32 hat rfl, if_pos rfl, ed, lex_rest hlg]
              simp only [flush, if_true, rest3, h10, h32, hm, if_false]
              rfl
            | true =>
              have hat : atT t a t[a] = [.str (wordR ((t.drop a).takeWhile isLG)), contR ((t.drop a).takeWhile isLG), .int ((a + ((t.drop a).takeWhile isLG).length : Nat) : Int)] := by simp [atT, h10, hm, hlg]
              rw [stepP ht h ha (by omega) h32 hat (contR_nr _)]
              have hr : ∀ x ∈ (t.drop a).takeWhile isLG, isLG x = true := fun x hx => takeWhile_mem hx
              have hsplit : (t.drop a).takeWhile isLG ++ (t.drop a).dropWhile isLG = t.drop a := List.takeWhile_append_dropWhile
              have hW : t.drop (a + ((t.drop a).takeWhile isLG).length) = (t.drop a).dropWhile isLG := by
                rw [← List.drop_drop]
                conv => lhs; arg 2; rw [← hsplit]
                exact List.drop_left
              have hstop : ∀ x q, (t.drop a).dropWhile isLG = x :: q → isLG x = false := fun x q => dropWhile_head
              have hne : (t.drop a).takeWhile isLG ≠ [] := by rw [ed, List.takeWhile_cons, hlg]; exact List.cons_ne_nil _ _
              have hlen : a + ((t.drop a).takeWhile isLG).length ≤ t.length := by
                have := (List.takeWhile_sublist (l := t.drop a) isLG).length_le
                rw [List.length_drop] at this; omega
              have hpos : 0 < ((t.drop a).takeWhile isLG).length := List.length_pos_iff.mpr hne
              generalize (t.drop a).takeWhile isLG = r at *
              generalize (t.drop a).dropWhile isLG = W at *
              rw [← hsplit]
              rw [lex_runs r [] _ l _ hr, List.nil_append, lex_stop hstop]
              unfold flush
              rw [if_neg hne]
              have ht2 : D.tup [.str (wordR r), contR r, .int l, .int ((a : Int) - f + 1)] = tokR r l ((a : Int) - f + 1 + (r.length : Int)) := by
                unfold tokR
                rw [show (a : Int) - f + 1 + (r.length : Int) - (r.length : Int) = (a : Int) - f + 1 from by omega]
              rw [ht2]
              cases hb : badR r with
              | true =>
                have : wordR r = badW := of_decide_eq_true hb
                rw [if_pos this]
                rfl
              | false =>
                have : wordR r ≠ badW := of_decide_eq_false hb
                rw [if_neg this, if_neg (word_not_line r), if_neg (by decide), outP_cons]
                have z := ih (a + r.length) (acc ++ [tokR r l ((a : Int) - f + 1 + (r.length : Int))]) l f (some (.str (wordR r))) (some (contR r)) (some (.int ((a + r.length : Nat) : Int))) hlen (by omega) (by rw [nrs_append, ha]; simp [D.nrs, tokR_nr]) (by simp; omega)
                rw [hW, show ((a + r.length : Nat) : Int) - f + 1 = (a : Int) - f + 1 + (r.length : Int) from by push_cast; omega] at z
                exact z
    · rw [decide_eq_false h, if_neg (by decide), List.drop_eq_nil_of_le (by omega)]
      have : a = t.length := by omega
      subst this
      simp only [lex, flush, if_true]
      exact ⟨f, w, ct, e, by simp, rfl⟩
end K02

set_option maxRecDepth 100000
set_option maxHeartbeats 1000000
/-! ZH: k02, tokens and its refusals; tokens show. -/
namespace K02
open PySem MP
theorem run_exc {n : Nat} {b : MP.Env → MP.St → SO} {ds : List D} {st : MP.St} {c : Nat} {fs : List D} (h : b (ds.map some ++ List.replicate (n - ds.length) none) (enter st) = .exc c fs (enter st)) (hd : D.nrs fs = true) : runF false n b ds st = .exc c fs st := by
  unfold runF
  rw [h]
  unfold ended leaveX enter
  simp [nrs_los _ _ hd]
def Q1 : MP.Env → MP.St → SO := gIf (fNotT (fB (fIsi (tabT "str") (fVar 0)))) (gSeq (gRaise0 5) (gNx)) (gNx)
def Q2 : MP.Env → MP.St → SO := gIf (fB (f2 opGt (fCall cLen (fCons (fVar 0) (fNil))) (fC d_MOST_SIGNS))) (gSeq (gRaise 6 2 (fCons (fC (.str [115, 105, 103, 110, 115])) (fCons (fC d_MOST_SIGNS) (fNil)))) (gNx)) (gNx)
def Q3 : MP.Env → MP.St → SO := gAsg (fTup (fCons (fC (.int 0)) (fCons (fC (.int 1)) (fCons (fC (.int 0)) (fNil))))) (tgTup 3 (tgCons (tgName 2) (tgCons (tgName 3) (tgCons (tgName 4) (tgNil)))))
def Q4 : MP.Env → MP.St → SO := gSeq (gExpr (fMtL mAppend (fVar 1) (fCons (fTup (fCons (fC (.str [101, 110, 100])) (fCons (fC (.str [])) (fCons (fVar 3) (fCons (f2 opAdd (f2 opSub (fVar 2) (fVar 4)) (fC (.int 1))) (fNil)))))) (fNil)))) (gSeq (gRet (fCall cTup (fCons (fVar 1) (fNil)))) (gNx))
theorem b_tokens_eq : b_tokens = gSeq Q1 (gSeq Q2 (gSeq (gSet 1 (fBox (fNil))) (gSeq Q3 (gSeq (gWhile (fun _ _ => 1000000) cP bodyP) Q4)))) := rfl
theorem Q1_str {r : List Nat} {ρ : MP.Env} {st : MP.St} : Q1 (some (.str r) :: ρ) st = .nx (some (.str r) :: ρ) st := by
  simp [Q1, gIf, fNotT, fB, fIsi, fVar, isStr, gNx]
theorem tokens_ok {t : List Nat} (ht : t.length ≤ 20000) (st : MP.St) : h_tokens [.str t] st = .ok (.tup (toks t)) st := by
  obtain ⟨q1, q2⟩ := lex_facts t [] 1 1
  have z := loopP (t := t) (by omega) (os := st.objs) (fl := (st.objs.length, false) :: st.fls) 1000000 0 [] 1 0 none none none (by omega) (by omega) rfl (by simp)
  simp only [List.drop_zero] at z
  rw [show ((0 : Nat) : Int) - 0 + 1 = 1 from rfl] at z
  have q2e : ∀ ρ, Q2 (some (.str t) :: ρ) (enter st) = .nx (some (.str t) :: ρ) (enter st) := fun ρ => by
    simp [Q2, gIf, fB, f2, fVar, fCall, fCons, fNil, cLen_str (show t.length ≤ 16777216 by omega), fC, opOrd, gNx]
    have : ¬ (20000 : Int) < (t.length : Int) := by omega
    simp [this]
  have box : (gSet 1 (fBox fNil)) [some (.str t), none, none, none, none, none, none, none] (enter st) = .nx [some (.str t), some (.ref st.objs.length), none, none, none, none, none, none] ⟨st.objs ++ [.lst []], (st.objs.length, false) :: st.fls⟩ := by
    simp [gSet, fBox, fNil, enter, MP.St.push]
  have q3 : Q3 [some (.str t), some (.ref st.objs.length), none, none, none, none, none, none] ⟨st.objs ++ [.lst []], (st.objs.length, false) :: st.fls⟩ = .nx (envP t st.objs.length (0 : Nat) 1 0 none none none) ⟨st.objs ++ [.lst []], (st.objs.length, false) :: st.fls⟩ := by
    simp [Q3, gAsg, fTup, fCons, fC, fNil, tgTup, tgCons, tgName, tgNil]
  have e0 : List.map some [D.str t] ++ List.replicate (8 - [D.str t].length) none = [some (.str t), none, none, none, none, none, none, none] := rfl
  unfold outP at z
  unfold toks
  generalize hs : gWh cP bodyP 1000000 (envP t st.objs.length (0 : Nat) 1 0 none none none) ⟨st.objs ++ [.lst []], (st.objs.length, false) :: st.fls⟩ = s at z
  generalize lex [] t 1 1 = r at *
  obtain ⟨ts, p⟩ := r
  cases p with
  | none =>
    refine run_own (more := [.lst ts]) ?_ (nrs_los _ _ q1)
    rw [b_tokens_eq, e0, gSeq, Q1_str, SO.seq_nx, gSeq, q2e, SO.seq_nx, gSeq, box, SO.seq_nx, gSeq, q3, SO.seq_nx, gSeq, gWhile, hs]
    simp only at z
    rw [z]
    rfl
  | some p =>
    obtain ⟨l, c⟩ := p
    obtain ⟨f, w, ct, e, z1, z2⟩ := z
    have hn : D.nrs (ts ++ [endT l c]) = true := by rw [nrs_append, q1]; rfl
    refine run_own (more := [.lst (ts ++ [endT l c])]) ?_ (nrs_los _ _ hn)
    rw [b_tokens_eq, e0, gSeq, Q1_str, SO.seq_nx, gSeq, q2e, SO.seq_nx, gSeq, box, SO.seq_nx, gSeq, q3, SO.seq_nx, gSeq, gWhile, hs, z1, SO.seq_nx]
    have ap := append_last (os := st.objs) (fl := (st.objs.length, false) :: st.fls) hn (by simp only at q2; omega)
    have ht2 : D.tup [.str [101, 110, 100], .str [], .int l, .int ((t.length : Int) - f + 1)] = endT l c := by rw [z2]; rfl
    have tp : cTup [.ref st.objs.length] ⟨st.objs ++ [.lst (ts ++ [endT l c])], (st.objs.length, false) :: st.fls⟩ = .ok (.tup (ts ++ [endT l c])) ⟨st.objs ++ [.lst (ts ++ [endT l c])], (st.objs.length, false) :: st.fls⟩ := by
      simp [cTup, lqOf, lstOf]
    simp only [List.nil_append]
    generalize ts ++ [endT l c] = acc' at *
    simp [Q4, gSeq, gExpr, fMtL, fVar, isL_ref, fCons, fNil, fTup, fC, f2, opI, opAdd, ht2, ap, gRet, fCall, tp]
theorem tokens_long {t : List Nat} (ht : 20000 < t.length) (h2 : t.length ≤ 16777216) (st : MP.St) : h_tokens [.str t] st = .exc 6 [.str [115, 105, 103, 110, 115], .int 20000] st := by
  refine run_exc ?_ rfl
  have q2e : ∀ ρ, Q2 (some (.str t) :: ρ) (enter st) = .exc 6 [.str [115, 105, 103, 110, 115], .int 20000] (enter st) := fun ρ => by
    have : (20000 : Int) < (t.length : Int) := by omega
    simp [Q2, gIf, fB, f2, fVar, fCall, fCons, fNil, cLen_str h2, fC, opOrd, this, gSeq, gRaise]
  have e0 : List.map some [D.str t] ++ List.replicate (8 - [D.str t].length) none = [some (.str t), none, none, none, none, none, none, none] := rfl
  rw [b_tokens_eq, e0, gSeq, Q1_str, SO.seq_nx, gSeq, q2e]
  rfl
theorem tokens_odd {d : D} {st : MP.St} (h : isI (tabT "str") (enter st) d = some false) : h_tokens [d] st = .exc 5 [] st := by
  refine run_exc ?_ rfl
  have q1e : ∀ ρ, Q1 (some d :: ρ) (enter st) = .exc 5 [] (enter st) := fun ρ => by
    simp [Q1, gIf, fNotT, fB, fIsi, fVar, h, gSeq, gRaise0]
  have e0 : List.map some [d] ++ List.replicate (8 - [d].length) none = [some d, none, none, none, none, none, none, none] := rfl
  rw [b_tokens_eq, e0, gSeq, q1e]
  rfl
/-! ### tokens show -/
theorem digits_bound : ∀ (r : List Nat) (a : Nat), r.all isG = true → r.foldl (fun acc c => acc * 10 + (c - 48)) a < (a + 1) * 10 ^ r.length
  | [], a, _ => by simp
  | c :: r, a, h => by
    simp only [List.all_cons, Bool.and_eq_true] at h
    have hc : c - 48 ≤ 9 := by
      have := h.1
      simp only [isG, Bool.and_eq_true, decide_eq_true_eq] at this
      omega
    have z := digits_bound r (a * 10 + (c - 48)) h.2
    simp only [List.foldl_cons, List.length_cons]
    refine Nat.lt_of_lt_of_le z ?_
    rw [Nat.pow_succ, show (a + 1) * (10 ^ r.length * 10) = ((a + 1) * 10) * 10 ^ r.length from by rw [Nat.mul_assoc, Nat.mul_comm 10]]
    exact Nat.mul_le_mul_right _ (by omega)
theorem RS_short {r : List Nat} (h : inRS r = true) : r.length ≤ 8 ∧ (r.all fun c => decide (c < 1114112)) = true := by
  have a : (RS.all fun r => decide (r.length ≤ 8) && (r.all fun c => decide (c < 1114112))) = true := by decide +kernel
  have z := List.all_eq_true.mp a r (by simpa [inRS] using h)
  simpa using z
theorem contR_ok {r : List Nat} (h : ∀ x ∈ r, isLG x = true) : (contR r).pl = true ∧ (contR r).wt ≤ 64 ∧ (contR r).dp = 0 := by
  unfold contR
  by_cases h1 : inRS r = true
  · rw [if_pos h1]
    obtain ⟨a, b⟩ := RS_short h1
    exact ⟨b, by simp only [D.wt]; omega, rfl⟩
  · rw [if_neg h1]
    by_cases h2 : nameB r = true
    · rw [if_pos h2]
      refine ⟨?_, ?_, rfl⟩
      · simp only [D.pl, List.all_eq_true, decide_eq_true_eq]
        intro c hc
        have := h c hc
        simp only [isLG, isL, isG, Bool.or_eq_true, Bool.and_eq_true, decide_eq_true_eq] at this
        omega
      · cases r with
        | nil => simp [nameB] at h2
        | cons c r =>
          simp only [nameB, Bool.and_eq_true, decide_eq_true_eq] at h2
          simp only [D.wt, List.length_cons]; omega
    · rw [if_neg h2]
      by_cases h3 : numB r = true
      · rw [if_pos h3]
        obtain ⟨a, b⟩ := numB_dig h3
        refine ⟨?_, Nat.le_refl _, rfl⟩
        have z := digits_bound r 0 a
        have z2 : (0 + 1) * 10 ^ r.length ≤ 10 ^ 4 := by rw [Nat.zero_add, Nat.one_mul]; exact Nat.pow_le_pow_right (by decide) b
        simp only [D.pl, decide_eq_true_eq]
        have : valN r = (r.foldl (fun acc c => acc * 10 + (c - 48)) 0 : Nat) := rfl
        rw [this, Int.natAbs_natCast]
        omega
      · rw [if_neg h3]
        exact ⟨rfl, by decide, rfl⟩
def TokOk (d : D) : Prop := d.pl = true ∧ d.wt ≤ 220 ∧ d.dp ≤ 1
theorem tok_ok {w : List Nat} {x : D} {l c : Int} (hw : w.length ≤ 6) (hw2 : (w.all fun c => decide (c < 1114112)) = true) (hx : x.pl = true ∧ x.wt ≤ 64 ∧ x.dp = 0) (hl : 0 ≤ l ∧ l ≤ 1000000000) (hc : 0 ≤ c ∧ c ≤ 1000000000) : TokOk (.tup [.str w, x, .int l, .int c]) := by
  refine ⟨?_, ?_, ?_⟩
  · have h1 : l.natAbs < 10 ^ 12 := by omega
    have h2 : c.natAbs < 10 ^ 12 := by omega
    simp [D.pl, D.pls, hx.1, hw2, h1, h2]
  · simp only [D.wt, D.wts]; omega
  · simp [D.dp, D.dps, hx.2.2]
theorem wordR_ok (r : List Nat) : (wordR r).length ≤ 6 ∧ ((wordR r).all fun c => decide (c < 1114112)) = true := by
  unfold wordR
  split
  · decide
  · split
    · decide
    · split <;> decide
theorem lex_ok : ∀ (t run : List Nat) (l c : Int), (∀ x ∈ run, isLG x = true) → 0 ≤ l → (run.length : Int) ≤ c → l + t.length ≤ 1000000000 → c + t.length ≤ 1000000000 → 1 + t.length ≤ 1000000000 → (∀ d ∈ (lex run t l c).1, TokOk d) ∧ ∀ l' c', (lex run t l c).2 = some (l', c') → (0 ≤ l' ∧ l' ≤ 1000000000) ∧ 0 ≤ c' ∧ c' ≤ 1000000000 := by
  have tk : ∀ (run : List Nat) (l c : Int), (∀ x ∈ run, isLG x = true) → 0 ≤ l → (run.length : Int) ≤ c → l ≤ 1000000000 → c ≤ 1000000000 → TokOk (tokR run l c) := fun run l c h h0 h1 h2 h3 => tok_ok (wordR_ok run).1 (wordR_ok run).2 (contR_ok h) ⟨h0, h2⟩ ⟨by omega, by omega⟩
  have fl : ∀ (run : List Nat) (l c : Int) (r : Lex), (∀ x ∈ run, isLG x = true) → 0 ≤ l → (run.length : Int) ≤ c → l ≤ 1000000000 → c ≤ 1000000000 → ((∀ d ∈ r.1, TokOk d) ∧ ∀ l' c', r.2 = some (l', c') → (0 ≤ l' ∧ l' ≤ 1000000000) ∧ 0 ≤ c' ∧ c' ≤ 1000000000) →
      ((∀ d ∈ (flush run l c r).1, TokOk d) ∧ ∀ l' c', (flush run l c r).2 = some (l', c') → (0 ≤ l' ∧ l' ≤ 1000000000) ∧ 0 ≤ c' ∧ c' ≤ 1000000000) := fun run l c r h h0 h1 h2 h3 hr => by
    unfold flush
    split
    · exact hr
    · split
      · exact ⟨fun d hd => by rw [List.mem_singleton.mp hd]; exact tk run l c h h0 h1 h2 h3, fun _ _ e => by cases e⟩
      · refine ⟨fun d hd => ?_, hr.2⟩
        rcases List.mem_cons.mp hd with rfl | hd
        · exact tk run l c h h0 h1 h2 h3
        · exact hr.1 d hd
  intro t
  induction t with
  | nil =>
    intro run l c h h0 h1 h2 h3 h4
    rw [lex]
    simp only [List.length_nil] at h2 h3
    exact fl run l c _ h h0 h1 (by omega) (by omega) ⟨fun d hd => (List.not_mem_nil hd).elim, fun l' c' e => (by cases e; exact ⟨⟨h0, by omega⟩, by omega, by omega⟩)⟩
  | cons x t ih =>
    intro run l c h h0 h1 h2 h3 h4
    simp only [List.length_cons, Int.natCast_add, Int.cast_ofNat_Int] at h2 h3 h4
    cases hx : isLG x with
    | true =>
      rw [lex, if_pos hx]
      exact ih (run ++ [x]) l (c + 1) (fun y hy => by
        rcases List.mem_append.mp hy with q | q
        · exact h y q
        · rw [List.mem_singleton.mp q]; exact hx) h0 (by simp; omega) (by omega) (by omega) (by omega)
    | false =>
      rw [lex, if_neg (by simp [hx])]
      refine fl run l c _ h h0 h1 (by omega) (by omega) ?_
      split
      · have z := ih [] (l + 1) 1 (fun _ q => by cases q) (by omega) (by simp) (by omega) (by omega) (by omega)
        refine ⟨fun d hd => ?_, z.2⟩
        rcases List.mem_cons.mp hd with rfl | hd
        · exact tok_ok (by decide) (by decide) ⟨rfl, by decide, rfl⟩ ⟨h0, by omega⟩ ⟨by omega, by omega⟩
        · exact z.1 d hd
      · split
        · exact ih [] l (c + 1) (fun _ q => by cases q) h0 (by simp; omega) (by omega) (by omega) (by omega)
        · split
          · rename_i hm
            have z := ih [] l (c + 1) (fun _ q => by cases q) h0 (by simp; omega) (by omega) (by omega) (by omega)
            refine ⟨fun d hd => ?_, z.2⟩
            rcases List.mem_cons.mp hd with rfl | hd
            · refine tok_ok (by decide) (by decide) ⟨?_, by simp [D.wt], rfl⟩ ⟨h0, by omega⟩ ⟨by omega, by omega⟩
              rcases hm with rfl | rfl <;> rfl
            · exact z.1 d hd
          · exact ⟨fun d hd => by rw [List.mem_singleton.mp hd]; exact tok_ok (by decide) (by decide) ⟨rfl, by decide, rfl⟩ ⟨h0, by omega⟩ ⟨by omega, by omega⟩, fun _ _ e => by cases e⟩
theorem toks_show {t : List Nat} (ht : t.length ≤ 2000) : (D.tup (toks t)).pl = true ∧ (D.tup (toks t)).wt ≤ 1048576 ∧ (D.tup (toks t)).dp ≤ 64 := by
  have z := lex_ok t [] 1 1 (fun _ q => by cases q) (by decide) (by decide) (by omega) (by omega) (by omega)
  have q := (lex_facts t [] 1 1).2
  have all : ∀ d ∈ toks t, TokOk d := by
    unfold toks
    generalize lex [] t 1 1 = r at *
    obtain ⟨ts, p⟩ := r
    cases p with
    | none => exact z.1
    | some p =>
      obtain ⟨l, c⟩ := p
      intro d hd
      rcases List.mem_append.mp hd with hd | hd
      · exact z.1 d hd
      · rw [List.mem_singleton.mp hd]
        obtain ⟨a, b⟩ := z.2 l c rfl
        exact tok_ok (by decide) (by decide) ⟨rfl, by decide, rfl⟩ a b
  have len : (toks t).length ≤ 2 * t.length + 2 := by
    unfold toks
    generalize lex [] t 1 1 = r at *
    obtain ⟨ts, p⟩ := r
    cases p with
    | none => simp only at q ⊢; omega
    | some p => simp only [List.length_append, List.length_singleton] at q ⊢; omega
  refine ⟨by simp only [D.pl]; exact pls_iff.mpr fun d hd => (all d hd).1, ?_, ?_⟩
  · simp only [D.wt]
    have := wts_le (n := 220) fun d hd => (all d hd).2.1
    have h2 : (toks t).length * (220 + 1) ≤ 4002 * 221 := Nat.mul_le_mul_right _ (by omega)
    omega
  · simp only [D.dp]
    have := dps_le (n := 1) fun d hd => (all d hd).2.2
    omega
end K02

set_option maxRecDepth 100000
set_option maxHeartbeats 1000000
/-! ZI: k02, the law. -/
namespace K02
open PySem MP
theorem bag_left {os Ps : List O} {n : Nat} (B : Bag os 0 n) : Bag (os ++ Ps) 0 n := by
  obtain ⟨b0, b1, b2, cs, e, r⟩ := B.ex
  refine ⟨b0, b1, b2, cs, ?_, r⟩
  obtain ⟨h, _⟩ := List.getElem?_eq_some_iff.mp e
  rw [List.getElem?_append_left h]; exact e
theorem bag_pos {os : List O} {n : Nat} (B : Bag os 0 n) : 0 < os.length := by
  obtain ⟨b0, b1, b2, cs, e, r⟩ := B.ex
  exact (List.getElem?_eq_some_iff.mp e).1
theorem bag_right {os Ps : List O} {n : Nat} (h : 0 < os.length) (B : Bag (os ++ Ps) 0 n) : Bag os 0 n := by
  obtain ⟨b0, b1, b2, cs, e, r⟩ := B.ex
  refine ⟨b0, b1, b2, cs, ?_, r⟩
  rw [List.getElem?_append_left h] at e; exact e
theorem take_at {os Ps : List O} {fl : List (Nat × Bool)} {n : Nat} {many : Int} (B : Bag os 0 n) (hn : n < 2 ^ 64) (h0 : 0 < many) (h1 : many < 2 ^ 200) :
    ∃ (d : Int) (os' : List O), h__law_take [.ref 0, .int many] ⟨os ++ Ps, fl⟩ = .ok (.int d) ⟨os' ++ Ps, fl⟩ ∧ 0 ≤ d ∧ d < many ∧ os'.length = os.length ∧ Bag os' 0 (n + 1) := by
  have hp := bag_pos B
  obtain ⟨d, o, e, a, b, B'⟩ := take_ok (st := ⟨os ++ Ps, fl⟩) (bag_left B) hn h0 h1
  simp only [List.set_append_left _ _ hp] at e B'
  exact ⟨d, os.set 0 o, e, a, b, by simp, bag_right (by simpa using hp) B'⟩
theorem some_at {os Ps : List O} {fl : List (Nat × Bool)} {n : Nat} {L : List (List Nat)} (B : Bag os 0 n) (hn : n < 2 ^ 64) (h0 : L ≠ []) (hl : L.length ≤ 1000) :
    ∃ (w : List Nat) (os' : List O), w ∈ L ∧ h__law_some [.ref 0, .lst (L.map .str)] ⟨os ++ Ps, fl⟩ = .ok (.str w) ⟨os' ++ Ps, fl⟩ ∧ os'.length = os.length ∧ Bag os' 0 (n + 1) := by
  have hp := bag_pos B
  have nr : D.nrs (L.map .str) = true := by
    clear h0 hl
    induction L with
    | nil => rfl
    | cons x l ih => simpa [D.nrs, D.nr] using ih
  obtain ⟨d, o, hd, e, B'⟩ := some_ok (st := ⟨os ++ Ps, fl⟩) (ds := L.map .str) (.inl rfl) (bag_left B) hn (by simpa using h0) (by simp; omega) nr
  obtain ⟨w, hw, rfl⟩ := List.mem_map.mp hd
  simp only [List.set_append_left _ _ hp] at e B'
  exact ⟨w, os.set 0 o, hw, e, by simp, bag_right (by simpa using hp) B'⟩
def WX : List (List Nat) := [[97], [98, 55], [108, 111, 110, 103, 110, 97, 109, 101], [110, 97, 109, 101, 57], [48], [55], [50, 48], [57, 57, 57, 57], [40], [41], [10], [10]]
def WL : List (List Nat) := RS ++ WX
def OL : List (List Nat) := [[48, 48], [48, 55], [49, 48, 48, 48, 48], [55, 97], [116, 111, 111, 108, 111, 110, 103, 110, 97, 109, 101], [65], [45], [58], [120, 49], [120, 121, 122]]
def BL : List (List Nat) := [[32], [32], [32], [32, 32], [], [10]]
def bodyI : MP.Env → MP.St → SO := (gSeq (gExpr (fMtL mAppend (fVar 5) (fCons (f2 opAdd (fDef 2 h__law_some (fCons (fVar 1) (fCons (fIf (fB (f2 opGt (fDef 2 h__law_take (fCons (fVar 1) (fCons (fC (.int 12)) (fNil)))) (fC (.int 0)))) (fVar 3) (fVar 4)) (fNil)))) (fDef 2 h__law_some (fCons (fVar 1) (fCons (fLst (fCons (fC (.str [32])) (fCons (fC (.str [32])) (fCons (fC (.str [32])) (fCons (fC (.str [32, 32])) (fCons (fC (.str [])) (fCons (fC (.str [10])) (fNil)))))))) (fNil))))) (fNil)))) (gNx))
abbrev envI (scr : D) (k : Nat) (e2 e6 e7 : Option D) : MP.Env := [some scr, some (.ref 0), e2, some (.lst (WL.map .str)), some (.lst (OL.map .str)), some (.ref k), e6, e7, none, none]
theorem stepI {scr : D} {os : List O} {fl : List (Nat × Bool)} {acc : List (List Nat)} {n : Nat} {e2 e6 e7 : Option D} (B : Bag os 0 n) (hn : n + 3 < 2 ^ 64) (ha : acc.length < 10000) :
    ∃ (os' : List O) (w : List Nat), bodyI (envI scr os.length e2 e6 e7) ⟨os ++ [.lst (acc.map .str)], fl⟩ = .nx (envI scr os'.length e2 e6 e7) ⟨os' ++ [.lst ((acc ++ [w]).map .str)], fl⟩ ∧ os'.length = os.length ∧ Bag os' 0 (n + 3) ∧ w.length ≤ 14 := by
  obtain ⟨d, o1, t1, d0, d1, l1, B1⟩ := take_at (Ps := [.lst (acc.map .str)]) (fl := fl) (many := 12) B (by omega) (by decide) (by decide)
  have hL : ∃ L : List (List Nat), (L = WL ∨ L = OL) ∧ (if 0 < d then D.lst (WL.map .str) else .lst (OL.map .str)) = .lst (L.map .str) := by
    by_cases h : 0 < d
    · exact ⟨WL, .inl rfl, by rw [if_pos h]⟩
    · exact ⟨OL, .inr rfl, by rw [if_neg h]⟩
  obtain ⟨L, hL, eL⟩ := hL
  have hLn : L ≠ [] ∧ L.length ≤ 1000 ∧ ∀ w ∈ L, w.length ≤ 12 := by
    have a : (WL ≠ [] ∧ WL.length ≤ 1000 ∧ (WL.all fun w => decide (w.length ≤ 12)) = true) := by decide +kernel
    have b : (OL ≠ [] ∧ OL.length ≤ 1000 ∧ (OL.all fun w => decide (w.length ≤ 12)) = true) := by decide +kernel
    rcases hL with rfl | rfl
    · exact ⟨a.1, a.2.1, fun w hw => of_decide_eq_true (List.all_eq_true.mp a.2.2 w hw)⟩
    · exact ⟨b.1, b.2.1, fun w hw => of_decide_eq_true (List.all_eq_true.mp b.2.2 w hw)⟩
  obtain ⟨w1, o2, m1, t2, l2, B2⟩ := some_at (Ps := [.lst (acc.map .str)]) (fl := fl) B1 (by omega) hLn.1 hLn.2.1
  obtain ⟨w2, o3, m2, t3, l3, B3⟩ := some_at (Ps := [.lst (acc.map .str)]) (fl := fl) (L := BL) B2 (by omega) (by decide) (by decide)
  have hw1 := hLn.2.2 w1 m1
  have hw2 : w2.length ≤ 2 := by
    have b : (BL.all fun w => decide (w.length ≤ 2)) = true := by decide
    exact of_decide_eq_true (List.all_eq_true.mp b w2 m2)
  refine ⟨o3, w1 ++ w2, ?_, by omega, B3, by rw [List.length_append]; omega⟩
  have hBL : D.lst [.str [32], .str [32], .str [32], .str [32, 32], .str [], .str [10]] = .lst (BL.map .str) := rfl
  have gt : ∀ st : MP.St, opGt (.int d) (.int 0) st = .ok (.bl (decide (0 < d))) st := fun st => rfl
  have hn2 : D.nrs (acc.map .str ++ [.str (w1 ++ w2)]) = true := by
    rw [nrs_append]
    have : D.nrs (acc.map .str) = true := by
      clear t1 t2 t3 ha
      induction acc with
      | nil => rfl
      | cons x l ih => simpa [D.nrs, D.nr] using ih
    rw [this]; rfl
  have ap := append_last (os := o3) (fl := fl) hn2 (by simp; omega)
  have ad : ∀ st : MP.St, opAdd (.str w1) (.str w2) st = .ok (.str (w1 ++ w2)) st := fun st => by simp [opAdd]; omega
  have hk : os.length = o3.length := by omega
  have il : MP.isL ⟨os ++ [.lst (acc.map .str)], fl⟩ (.ref os.length) = true := isL_ref
  rw [← hk] at ap
  rw [hk] at il ap ⊢
  generalize BL.map D.str = dB at *
  by_cases h : 0 < d
  · rw [if_pos h] at eL
    rw [← eL] at t2
    simp [bodyI, gSeq, gExpr, fMtL, fVar, il, fCons, fNil, f2, fDef, fIf, fB, fC, t1, gt, h, t2, fLst, hBL, t3, ad, ap, gNx]
  · rw [if_neg h] at eL
    rw [← eL] at t2
    simp [bodyI, gSeq, gExpr, fMtL, fVar, il, fCons, fNil, f2, fDef, fIf, fB, fC, t1, gt, h, t2, fLst, hBL, t3, ad, ap, gNx]
theorem innerI {scr : D} {fl : List (Nat × Bool)} {e2 e7 : Option D} : ∀ (ds : List D) (os : List O) (acc : List (List Nat)) (n : Nat) (e6 : Option D), Bag os 0 n → n + 3 * ds.length < 2 ^ 64 → acc.length + ds.length < 10000 → (∀ w ∈ acc, w.length ≤ 14) →
    ∃ (os' : List O) (acc' : List (List Nat)) (e6' : Option D), gLoop (tgName 6) bodyI ds (envI scr os.length e2 e6 e7) ⟨os ++ [.lst (acc.map .str)], fl⟩ = .nx (envI scr os'.length e2 e6' e7) ⟨os' ++ [.lst (acc'.map .str)], fl⟩ ∧ os'.length = os.length ∧ Bag os' 0 (n + 3 * ds.length) ∧ acc'.length = acc.length + ds.length ∧ ∀ w ∈ acc', w.length ≤ 14
  | [], os, acc, n, e6, B, _, _, h => ⟨os, acc, e6, rfl, rfl, B, rfl, h⟩
  | d :: ds, os, acc, n, e6, B, hn, ha, h => by
    simp only [List.length_cons] at hn ha
    obtain ⟨o1, w, s1, l1, B1, hw⟩ := stepI (scr := scr) (fl := fl) (acc := acc) (e2 := e2) (e6 := some d) (e7 := e7) B (by omega) (by omega)
    obtain ⟨o2, acc', e6', s2, l2, B2, la, hw2⟩ := innerI (scr := scr) (fl := fl) (e2 := e2) (e7 := e7) ds o1 (acc ++ [w]) (n + 3) (some d) B1 (by omega) (by simp; omega) (fun v hv => by
      rcases List.mem_append.mp hv with q | q
      · exact h v q
      · rw [List.mem_singleton.mp q]; exact hw)
    refine ⟨o2, acc', e6', ?_, by omega, by rw [List.length_cons, show n + 3 * (ds.length + 1) = n + 3 + 3 * ds.length by omega]; exact B2, by rw [la]; simp; omega, hw2⟩
    simp only [gLoop, tgName, List.set_cons_succ, List.set_cons_zero]
    rw [s1]
    exact s2
theorem join_len : ∀ (L : List (List Nat)), (∀ w ∈ L, w.length ≤ 14) → (L.map (·.length)).sum ≤ 14 * L.length ∧ (TL.joinL [] L).length = (L.map (·.length)).sum
  | [], _ => by simp [TL.joinL]
  | [w], h => by have := h w List.mem_cons_self; simp [TL.joinL]; omega
  | w :: v :: L, h => by
    have := h w List.mem_cons_self
    obtain ⟨a, b⟩ := join_len (v :: L) fun x hx => h x (List.mem_cons_of_mem _ hx)
    simp only [TL.joinL, List.nil_append, List.length_append, List.map_cons, List.sum_cons, List.length_cons] at a b ⊢
    rw [b]; exact ⟨by omega, rfl⟩
theorem strsOf_map (L : List (List Nat)) : strsOf (L.map .str) = some L := by
  induction L with
  | nil => rfl
  | cons w L ih => simp [strsOf, ih]
theorem law_alike_ok {d : D} {st : MP.St} (h : d.pl = true) (hw : d.wt ≤ 1048576) (hd : d.dp ≤ 64) : h__law_alike [d, d] st = .ok (.bl true) st := by
  refine run_pure ?_ rfl
  have z := alike_self (st := enter st) h hw hd
  unfold b__law_alike
  simp only [gSeq, gRet]
  have e0 : List.map some [d, d] ++ List.replicate (2 - [d, d].length) none = [some d, some d] := rfl
  rw [e0, z]
  rfl
end K02

set_option maxRecDepth 100000
set_option maxHeartbeats 1000000
/-! ZJ: k02, the law answers yes. -/
namespace K02
open PySem MP
theorem bag_le {os : List O} {i n m : Nat} (B : Bag os i n) (h : n ≤ m) : Bag os i m := by
  obtain ⟨b0, b1, b2, cs, e, p0, p1, p2, p3, p4, p5, p6⟩ := B.ex
  exact ⟨b0, b1, b2, cs, e, p0, p1, p2, p3, by omega, p5, p6⟩
def W3 : MP.Env → MP.St → SO := gSet 3 (f2 opAdd (fDef 0 h__law_words fNil) (fLst (fCons (fC (.str [97])) (fCons (fC (.str [98, 55])) (fCons (fC (.str [108, 111, 110, 103, 110, 97, 109, 101])) (fCons (fC (.str [110, 97, 109, 101, 57])) (fCons (fC (.str [48])) (fCons (fC (.str [55])) (fCons (fC (.str [50, 48])) (fCons (fC (.str [57, 57, 57, 57])) (fCons (fC (.str [40])) (fCons (fC (.str [41])) (fCons (fC (.str [10])) (fCons (fC (.str [10])) (fNil)))))))))))))))
def W4 : MP.Env → MP.St → SO := gSet 4 (fLst (fCons (fC (.str [48, 48])) (fCons (fC (.str [48, 55])) (fCons (fC (.str [49, 48, 48, 48, 48])) (fCons (fC (.str [55, 97])) (fCons (fC (.str [116, 111, 111, 108, 111, 110, 103, 110, 97, 109, 101])) (fCons (fC (.str [65])) (fCons (fC (.str [45])) (fCons (fC (.str [58])) (fCons (fC (.str [120, 49])) (fCons (fC (.str [120, 121, 122])) (fNil))))))))))))
def W6 : MP.Env → MP.St → SO := gFor (fRg1 (fCons (fDef 2 h__law_take (fCons (fVar 1) (fCons (fC (.int 30)) (fNil)))) (fNil))) (tgName 6) bodyI
def W7 : MP.Env → MP.St → SO := gSeq (gSet 7 (fMtS mJoin (fC (.str [])) (fCons (fVar 5) (fNil)))) (gSeq (gIf (fNotT (fB (fDef 2 h__law_alike (fCons (fDef 1 h_tokens (fCons (fVar 7) (fNil))) (fCons (fCall cTup (fCons (fDef 1 h__law_tokens (fCons (fVar 7) (fNil))) (fNil))) (fNil)))))) (gSeq (gRet (fC (.bl false))) (gNx)) (gNx)) (gNx))
def bodyT : MP.Env → MP.St → SO := gSeq W3 (gSeq W4 (gSeq (gSet 5 (fBox (fNil))) (gSeq W6 W7)))
theorem stepT {scr : D} {os : List O} {fl : List (Nat × Bool)} {n : Nat} {e2 e3 e4 e5 e6 e7 : Option D} (B : Bag os 0 n) (hn : n + 100 < 2 ^ 64) :
    ∃ (os' : List O) (e3' e4' e5' e6' e7' : Option D), bodyT [some scr, some (.ref 0), e2, e3, e4, e5, e6, e7, none, none] ⟨os, fl⟩ = .nx [some scr, some (.ref 0), e2, e3', e4', e5', e6', e7', none, none] ⟨os', fl⟩ ∧ Bag os' 0 (n + 100) := by
  have w3 : W3 [some scr, some (.ref 0), e2, e3, e4, e5, e6, e7, none, none] ⟨os, fl⟩ = .nx [some scr, some (.ref 0), e2, some (.lst (WL.map .str)), e4, e5, e6, e7, none, none] ⟨os, fl⟩ := by
    have a : ∀ st : MP.St, opAdd (.lst (RS.map .str)) (.lst [.str [97], .str [98, 55], .str [108, 111, 110, 103, 110, 97, 109, 101], .str [110, 97, 109, 101, 57], .str [48], .str [55], .str [50, 48], .str [57, 57, 57, 57], .str [40], .str [41], .str [10], .str [10]]) st = .ok (.lst (WL.map .str)) st := fun st => rfl
    simp [W3, gSet, f2, fDef, fNil, words_ok, fLst, fCons, fC, a]
  have w4 : W4 [some scr, some (.ref 0), e2, some (.lst (WL.map .str)), e4, e5, e6, e7, none, none] ⟨os, fl⟩ = .nx [some scr, some (.ref 0), e2, some (.lst (WL.map .str)), some (.lst (OL.map .str)), e5, e6, e7, none, none] ⟨os, fl⟩ := rfl
  have w5 : (gSet 5 (fBox fNil)) [some scr, some (.ref 0), e2, some (.lst (WL.map .str)), some (.lst (OL.map .str)), e5, e6, e7, none, none] ⟨os, fl⟩ = .nx (envI scr os.length e2 e6 e7) ⟨os ++ [.lst []], fl⟩ := by
    simp [gSet, fBox, fNil, MP.St.push]
  obtain ⟨d, o1, t1, d0, d1, l1, B1⟩ := take_at (Ps := [.lst []]) (fl := fl) (many := 30) B (by omega) (by decide) (by decide)
  have hlen : (rg 0 d.toNat).length ≤ 30 := by simp [rg]; omega
  obtain ⟨o2, acc, e6', t2, l2, B2, la, ha⟩ := innerI (scr := scr) (fl := fl) (e2 := e2) (e7 := e7) (rg 0 d.toNat) o1 [] (n + 1) e6 B1 (by omega) (by simp; omega) (fun _ q => by cases q)
  have w6 : W6 (envI scr os.length e2 e6 e7) ⟨os ++ [.lst []], fl⟩ = .nx (envI scr o2.length e2 e6' e7) ⟨o2 ++ [.lst (acc.map .str)], fl⟩ := by
    rw [← t2, l1]
    have c : (-4611686018427387904 ≤ d ∧ d < 4611686018427387904) := by omega
    simp [W6, gFor, fRg1, fCons, fDef, fVar, fC, fNil, t1, c]
  obtain ⟨j1, j2⟩ := join_len acc ha
  have jn : ∀ fl, mJoin (.str []) [.ref o2.length] ⟨o2 ++ [.lst (acc.map .str)], fl⟩ = .ok (.str (TL.joinL [] acc)) ⟨o2 ++ [.lst (acc.map .str)], fl⟩ := fun fl => by
    simp only [mJoin, seqOf, lstOf, List.getElem?_concat_length, Option.bind_some, strsOf_map, List.length_nil, Nat.mul_zero, Nat.add_zero]
    rw [if_pos (by simp only [List.length_nil] at la; omega)]
  have ht : (TL.joinL [] acc).length ≤ 2000 := by simp only [List.length_nil] at la; omega
  obtain ⟨s1, s2, s3⟩ := toks_show ht
  have tk := tokens_ok (show (TL.joinL [] acc).length ≤ 20000 by omega)
  have tl := law_tokens_ok (show (TL.joinL [] acc).length ≤ 900000 by omega)
  have al := fun st : MP.St => law_alike_ok (st := st) s1 s2 s3
  have tp : ∀ st : MP.St, cTup [.lst (toks (TL.joinL [] acc))] st = .ok (.tup (toks (TL.joinL [] acc))) st := fun st => rfl
  refine ⟨o2 ++ [.lst (acc.map .str)], some (.lst (WL.map .str)), some (.lst (OL.map .str)), some (.ref o2.length), e6', some (.str (TL.joinL [] acc)), ?_, bag_left (bag_le B2 (by omega))⟩
  rw [bodyT, gSeq, w3, SO.seq_nx, gSeq, w4, SO.seq_nx, gSeq, w5, SO.seq_nx, gSeq, w6, SO.seq_nx]
  simp [W7, gSeq, gSet, fMtS, fC, isS, fCons, fVar, fNil, jn, gIf, fNotT, fB, fDef, tk, fCall, tl, tp, al, gNx]
theorem loopT {scr : D} {fl : List (Nat × Bool)} : ∀ (ds : List D) (os : List O) (n : Nat) (e2 e3 e4 e5 e6 e7 : Option D), Bag os 0 n → n + 100 * ds.length < 2 ^ 64 →
    ∃ (os' : List O) (e2' e3' e4' e5' e6' e7' : Option D), gLoop (tgName 2) bodyT ds [some scr, some (.ref 0), e2, e3, e4, e5, e6, e7, none, none] ⟨os, fl⟩ = .nx [some scr, some (.ref 0), e2', e3', e4', e5', e6', e7', none, none] ⟨os', fl⟩
  | [], os, n, e2, e3, e4, e5, e6, e7, B, _ => ⟨os, e2, e3, e4, e5, e6, e7, rfl⟩
  | d :: ds, os, n, e2, e3, e4, e5, e6, e7, B, hn => by
    simp only [List.length_cons] at hn
    obtain ⟨os1, f3, f4, f5, f6, f7, s1, B1⟩ := stepT (scr := scr) (fl := fl) (e2 := some d) (e3 := e3) (e4 := e4) (e5 := e5) (e6 := e6) (e7 := e7) B (by omega)
    obtain ⟨os2, g2, g3, g4, g5, g6, g7, s2⟩ := loopT (scr := scr) (fl := fl) ds os1 (n + 100) (some d) f3 f4 f5 f6 f7 B1 (by omega)
    refine ⟨os2, g2, g3, g4, g5, g6, g7, ?_⟩
    simp only [gLoop, tgName, List.set_cons_succ, List.set_cons_zero]
    rw [s1]
    exact s2
/-! ### the long text, the odd things -/
def blanks (n : Nat) : List Nat := List.replicate n 32
theorem lex_blanks : ∀ (n : Nat) (l c : Int), lex [] (blanks n ++ [97]) l c = ([tokR [97] l (c + n + 1)], some (l, c + n + 1))
  | 0, l, c => by
    have h1 : badR [97] = false := by decide +kernel
    have : lex [] [97] l c = flush [97] l (c + 1) ([], some (l, c + 1)) := rfl
    simp only [blanks, List.replicate, List.nil_append]
    rw [this]
    unfold flush
    rw [if_neg (List.cons_ne_nil _ _), h1]
    simp [cons]
  | n + 1, l, c => by
    have : blanks (n + 1) ++ [97] = 32 :: (blanks n ++ [97]) := rfl
    rw [this, lex, if_neg (by decide)]
    simp only [flush, if_true, show ¬ (32 : Nat) = 10 by decide, if_false]
    rw [lex_blanks n l (c + 1), show c + 1 + (n : Int) + 1 = c + ((n + 1 : Nat) : Int) + 1 from by push_cast; omega]
theorem toks_long : toks (blanks 19999 ++ [97]) = [.tup [.str [110, 97, 109, 101], .str [97], .int 1, .int 20000], .tup [.str [101, 110, 100], .str [], .int 1, .int 20001]] := by
  unfold toks
  rw [lex_blanks]
  have h1 : wordR [97] = [110, 97, 109, 101] := by decide +kernel
  have h2 : contR [97] = .str [97] := by
    have a : inRS [97] = false := by decide +kernel
    have b : nameB [97] = true := by decide +kernel
    unfold contR
    rw [a, b]; rfl
  simp only [tokR, h1, h2]
  rfl
theorem long_len : (blanks 19999 ++ [97]).length = 20000 := by rw [List.length_append, blanks, List.length_replicate]; rfl
theorem heard6 {st : MP.St} : heardB 2 7 told__law_heard hs__law_heard (.exc 6 [.str [115, 105, 103, 110, 115], .int 20000] st) = .ok (.tup [.str [84, 111, 111, 76, 97, 114, 103, 101], .str [115, 105, 103, 110, 115], .int 20000]) st := rfl
theorem heard5 {st : MP.St} : heardB 2 7 told__law_heard hs__law_heard (.exc 5 [] st) = .ok (.tup [.str [78, 111, 116, 104, 105, 110, 103]]) st := rfl
def V8 : MP.Env → MP.St → SO := gSet 8 (f2 opAdd (f2 opMul (fC (.str [32])) (fC (.int 19999))) (fC (.str [97])))
def V9 : MP.Env → MP.St → SO := gIf (fOrT (fNotT (fB (fDef 2 h__law_alike (fCons (fDef 1 h_tokens (fCons (fVar 8) (fNil))) (fCons (fTup (fCons (fTup (fCons (fC (.str [110, 97, 109, 101])) (fCons (fC (.str [97])) (fCons (fC (.int 1)) (fCons (fC (.int 20000)) (fNil)))))) (fCons (fTup (fCons (fC (.str [101, 110, 100])) (fCons (fC (.str [])) (fCons (fC (.int 1)) (fCons (fC (.int 20001)) (fNil)))))) (fNil)))) (fNil)))))) (fB (f2 opNe (fHeard 2 7 told__law_heard hs__law_heard (fDef 1 h_tokens (fCons (f2 opAdd (fVar 8) (fC (.str [32]))) (fNil)))) (fTup (fCons (fC (.str [84, 111, 111, 76, 97, 114, 103, 101])) (fCons (fC (.str [115, 105, 103, 110, 115])) (fCons (fC (.int 20000)) (fNil)))))))) (gSeq (gRet (fC (.bl false))) (gNx)) (gNx)
def bodyN : MP.Env → MP.St → SO := gSeq (gIf (fB (f2 opNe (fHeard 2 7 told__law_heard hs__law_heard (fDef 1 h_tokens (fCons (fVar 9) (fNil)))) (fTup (fCons (fC (.str [78, 111, 116, 104, 105, 110, 103])) (fNil))))) (gSeq (gRet (fC (.bl false))) (gNx)) (gNx)) (gNx)
def itN : MP.Env → MP.St → Out (List D) := fIt (fTup (fCons (fC .non) (fCons (fC (.int 0)) (fCons (fTup (fNil)) (fCons (fTup (fCons (fC (.str [97])) (fNil))) (fCons (fLst (fCons (fC (.str [97])) (fNil))) (fNil)))))))
theorem b_law_eq : b_law = gSeq (gSet 1 (fDef 1 h__law_bag (fCons (fVar 0) (fNil)))) (gSeq (gFor (fRg1 (fCons (fC (.int 6)) (fNil))) (tgName 2) bodyT) (gSeq V8 (gSeq V9 (gSeq (gFor itN (tgName 9) bodyN) (gSeq (gRet (fC (.bl true))) gNx))))) := rfl
abbrev envE (scr : D) (e2 e3 e4 e5 e6 e7 e8 e9 : Option D) : MP.Env := [some scr, some (.ref 0), e2, e3, e4, e5, e6, e7, e8, e9]
theorem V8_ok {scr : D} {e2 e3 e4 e5 e6 e7 : Option D} {st : MP.St} : V8 (envE scr e2 e3 e4 e5 e6 e7 none none) st = .nx (envE scr e2 e3 e4 e5 e6 e7 (some (.str (blanks 19999 ++ [97]))) none) st := by
  have m : opMul (.str [32]) (.int 19999) st = .ok (.str (blanks 19999)) st := by
    have hf : ∀ n : Nat, (List.replicate n [32]).flatten = blanks n := fun n => by
      induction n with
      | zero => rfl
      | succ n ih => rw [List.replicate_succ, List.flatten_cons, ih]; rfl
    have hr : (19999 : Int).toNat = 19999 := rfl
    unfold opMul
    simp only [hr, hf]
    rw [if_pos (by decide)]
  have a : opAdd (.str (blanks 19999)) (.str [97]) st = .ok (.str (blanks 19999 ++ [97])) st := by
    unfold opAdd
    simp only
    rw [if_pos (by rw [blanks, List.length_replicate]; decide)]
  generalize blanks 19999 = bl at *
  simp [V8, gSet, f2, fC, m, a]
def dT : D := .tup [.tup [.str [110, 97, 109, 101], .str [97], .int 1, .int 20000], .tup [.str [101, 110, 100], .str [], .int 1, .int 20001]]
def dL : D := .tup [.str [84, 111, 111, 76, 97, 114, 103, 101], .str [115, 105, 103, 110, 115], .int 20000]
theorem V9_gen {scr : D} {e2 e3 e4 e5 e6 e7 : Option D} {st : MP.St} {bl bl2 : List Nat} (tk : ∀ st, h_tokens [.str bl] st = .ok dT st) (ad : ∀ st, opAdd (.str bl) (.str [32]) st = .ok (.str bl2) st) (tl : ∀ st, h_tokens [.str bl2] st = .exc 6 [.str [115, 105, 103, 110, 115], .int 20000] st) :
    V9 (envE scr e2 e3 e4 e5 e6 e7 (some (.str bl)) none) st = .nx (envE scr e2 e3 e4 e5 e6 e7 (some (.str bl)) none) st := by
  have al : ∀ st : MP.St, h__law_alike [dT, dT] st = .ok (.bl true) st := fun st => law_alike_ok (by decide) (by decide) (by decide)
  have ne : ∀ st : MP.St, opNe dL dL st = .ok (.bl false) st := fun st => opNe_self (by decide) (by decide)
  have e1 : D.tup [.tup [.str [110, 97, 109, 101], .str [97], .int 1, .int 20000], .tup [.str [101, 110, 100], .str [], .int 1, .int 20001]] = dT := rfl
  have e2 : D.tup [.str [84, 111, 111, 76, 97, 114, 103, 101], .str [115, 105, 103, 110, 115], .int 20000] = dL := rfl
  have h6 := @heard6
  rw [e2] at h6
  simp [V9, gIf, fOrT, fNotT, fB, fDef, fCons, fVar, fNil, tk, fTup, fC, e1, al, f2, fHeard, ad, tl, h6, e2, ne, gNx]
theorem long_tokens (st : MP.St) : h_tokens [.str (blanks 19999 ++ [97])] st = .ok dT st := by
  have z := tokens_ok (t := blanks 19999 ++ [97]) (Nat.le_of_eq long_len) st
  rw [toks_long] at z
  exact z
theorem long_more : (blanks 19999 ++ [97] ++ [32]).length = 20001 := by
  rw [List.length_append, long_len]; rfl
theorem opAdd_str {a b : List Nat} {st : MP.St} (h : (a ++ b).length ≤ 16777216) : opAdd (.str a) (.str b) st = .ok (.str (a ++ b)) st := by
  rw [List.length_append] at h
  simp only [opAdd, h, if_true]
theorem V9_ok {scr : D} {e2 e3 e4 e5 e6 e7 : Option D} {st : MP.St} : V9 (envE scr e2 e3 e4 e5 e6 e7 (some (.str (blanks 19999 ++ [97]))) none) st = .nx (envE scr e2 e3 e4 e5 e6 e7 (some (.str (blanks 19999 ++ [97]))) none) st :=
  V9_gen long_tokens (fun st => opAdd_str (by rw [long_more]; decide)) (tokens_long (by rw [long_more]; decide) (by rw [long_more]; decide))
theorem stepN {scr : D} {e2 e3 e4 e5 e6 e7 e8 : Option D} {d : D} {st : MP.St} (h : isI (tabT "str") (enter st) d = some false) : bodyN (envE scr e2 e3 e4 e5 e6 e7 e8 (some d)) st = .nx (envE scr e2 e3 e4 e5 e6 e7 e8 (some d)) st := by
  have tk := tokens_odd h
  have ne : opNe (.tup [.str [78, 111, 116, 104, 105, 110, 103]]) (.tup [.str [78, 111, 116, 104, 105, 110, 103]]) st = .ok (.bl false) st := opNe_self (by decide) (by decide)
  simp [bodyN, gSeq, gIf, fB, f2, fHeard, fDef, fCons, fVar, fNil, tk, heard5, fTup, fC, ne, gNx]
theorem law_yes {ns : List Int} (h : ns.length ≤ 63) : ∃ st, h_law [.lsk (ns.map D.int)] st0 = .ok (.bl true) st := by
  obtain ⟨o, eb, B⟩ := bag_ok h (enter st0)
  have B : Bag [o] 0 0 := B
  have eb : h__law_bag [.lsk (ns.map D.int)] (enter st0) = .ok (.ref 0) ⟨[o], (enter st0).fls⟩ := eb
  obtain ⟨os', e2, e3, e4, e5, e6, e7, s⟩ := loopT (scr := .lsk (ns.map D.int)) (fl := (enter st0).fls) (rg 0 6) [o] 0 none none none none none none B (by decide)
  refine ⟨{ objs := os'.take 0, fls := [] }, ?_⟩
  refine run_end (n := 10) (b := b_law) (ds := [.lsk (ns.map D.int)]) (st := st0) (d := .bl true) (objs := os') ?_ rfl
  have e0 : List.map some [D.lsk (ns.map D.int)] ++ List.replicate (10 - [D.lsk (ns.map D.int)].length) none = [some (.lsk (ns.map D.int)), none, none, none, none, none, none, none, none, none] := rfl
  have s1 : (gSet 1 (fDef 1 h__law_bag (fCons (fVar 0) (fNil)))) [some (.lsk (ns.map D.int)), none, none, none, none, none, none, none, none, none] (enter st0) = .nx [some (.lsk (ns.map D.int)), some (.ref 0), none, none, none, none, none, none, none, none] ⟨[o], (enter st0).fls⟩ := by
    simp [gSet, fDef, fCons, fVar, fNil, eb]
  have s2 : (gFor (fRg1 (fCons (fC (.int 6)) (fNil))) (tgName 2) bodyT) [some (.lsk (ns.map D.int)), some (.ref 0), none, none, none, none, none, none, none, none] ⟨[o], (enter st0).fls⟩ = .nx [some (.lsk (ns.map D.int)), some (.ref 0), e2, e3, e4, e5, e6, e7, none, none] ⟨os', (enter st0).fls⟩ := by
    rw [← s]
    rfl
  have tb : ∀ t : String, t = "NoneType" ∨ t = "int" ∨ t = "tuple" ∨ t = "list" → tabT "str" t = some false := fun t ht => by
    rcases ht with rfl | rfl | rfl | rfl <;> decide +kernel
  have s3 : ∀ e8, (gFor itN (tgName 9) bodyN) (envE (.lsk (ns.map D.int)) e2 e3 e4 e5 e6 e7 e8 none) ⟨os', (enter st0).fls⟩ = .nx (envE (.lsk (ns.map D.int)) e2 e3 e4 e5 e6 e7 e8 (some (.lst [.str [97]]))) ⟨os', (enter st0).fls⟩ := fun e8 => by
    have it : ∀ ρ st, itN ρ st = .ok [.non, .int 0, .tup [], .tup [.str [97]], .lst [.str [97]]] st := fun ρ st => rfl
    simp only [gFor, it, Out.toS_ok, gLoop, tgName, List.set_cons_succ, List.set_cons_zero]
    rw [stepN (d := .non) (tb "NoneType" (by simp))]
    simp only [List.set_cons_succ, List.set_cons_zero]
    rw [stepN (d := .int 0) (tb "int" (by simp))]
    simp only [List.set_cons_succ, List.set_cons_zero]
    rw [stepN (d := .tup []) (tb "tuple" (by simp))]
    simp only [List.set_cons_succ, List.set_cons_zero]
    rw [stepN (d := .tup [.str [97]]) (tb "tuple" (by simp))]
    simp only [List.set_cons_succ, List.set_cons_zero]
    rw [stepN (d := .lst [.str [97]]) (tb "list" (by simp))]
  rw [b_law_eq, e0, gSeq, s1, SO.seq_nx, gSeq, s2, SO.seq_nx, gSeq, V8_ok, SO.seq_nx, gSeq, V9_ok, SO.seq_nx, gSeq, s3, SO.seq_nx]
  rfl
end K02

set_option maxHeartbeats 4000000
open PySem PySem.W PyProof.Rows in
set_option maxRecDepth 100000 in
set_option maxHeartbeats 0 in
theorem PySem.Challenge.cw_mostwebs_k02_tokens_with_their_places_holds : PySem.Challenge.rw_mostwebs_k02_tokens_with_their_places.Holds := by
  w_on; o_law; k_head; (case hw => w_witness2)
  k_fill
  refine MP.walk_mpT (l := PySem.Challenge.rw_mostwebs_k02_tokens_with_their_places) (n := 63) (k := 7) (x := "script") rfl (by decide) rfl ⟨rfl, by decide, by decide⟩ (fun w h Y => PySem.W.km_in_of Y) ?F
  case F =>
    intro w mg fa h Y KX G hmg OT
    refine' K02.all_mk (fun ns h _ => K02.law_yes h) KX G hmg OT ?hrec ?zaend_of_run ?zlend_of_run ?zeend_of_run ?zkend_of_run ?zais_figures ?zlis_figures ?zeis_figures ?zkis_figures ?zais_name ?zlis_name ?zeis_name ?zkis_name ?zarun_token ?zlrun_token ?zerun_token ?zkrun_token ?zatoken_at ?zltoken_at ?zetoken_at ?zktoken_at ?zatokens ?zltokens ?zetokens ?zktokens ?za_law_words ?zl_law_words ?ze_law_words ?zk_law_words ?za_law_is_name ?zl_law_is_name ?ze_law_is_name ?zk_law_is_name ?za_law_bag ?zl_law_bag ?ze_law_bag ?zk_law_bag ?za_law_take ?zl_law_take ?ze_law_take ?zk_law_take ?za_law_some ?zl_law_some ?ze_law_some ?zk_law_some ?za_law_alike ?zl_law_alike ?ze_law_alike ?zk_law_alike ?za_law_run ?zl_law_run ?ze_law_run ?zk_law_run ?za_law_tokens ?zl_law_tokens ?ze_law_tokens ?zk_law_tokens ?za_law_heard ?zl_law_heard ?ze_law_heard ?zk_law_heard ?zalaw ?zllaw ?zelaw ?zklaw ?zt1 ?zt2 ?zt3 ?zt4 ?zcDIGITS ?zdDIGITS ?zcLETTERS ?zdLETTERS ?zcMOST_FIGURES ?zdMOST_FIGURES ?zcMOST_LETTERS ?zdMOST_LETTERS ?zcMOST_SIGNS ?zdMOST_SIGNS ?zcRESERVED ?zkRESERVED ?ziRESERVED ?zdRESERVED ?zmRESERVED ?znabs ?znall ?znint ?znisinstance ?znlen ?znrange ?znrepr ?znstr ?zntuple ?znsuper ?zgBadText ?zgBadKind ?zgBadWeb ?zgBadProgram ?zgNoCommand ?zgNothing ?zgTooLarge ?zxm ?zopq ?zxNothing ?zkcNothing ?zsbNothing ?ztbNothing ?zfiTooLarge ?ztiTooLarge ?zliTooLarge ?zeiTooLarge ?zlcTooLarge ?zisTooLarge ?zldTooLarge ?zv2TooLarge ?zfeTooLarge ?zlsTooLarge ?zrvTooLarge ?zsaTooLarge ?zsbTooLarge_ ?ztbTooLarge_ ?zkcTooLarge ?zmrTooLarge ?zsuTooLarge ?zsvTooLarge ?znfTooLarge_what ?znfTooLarge_limit ?zxfTooLarge
    (case hrec => first | rfl | decide +kernel | kernel_rfl)
    (case zaend_of_run => k_is)
    (case zlend_of_run => k_is)
    (case zeend_of_run => k_is)
    (case zkend_of_run => k_is)
    (case zais_figures => k_is)
    (case zlis_figures => k_is)
    (case zeis_figures => k_is)
    (case zkis_figures => k_is)
    (case zais_name => k_is)
    (case zlis_name => k_is)
    (case zeis_name => k_is)
    (case zkis_name => k_is)
    (case zarun_token => k_is)
    (case zlrun_token => k_is)
    (case zerun_token => k_is)
    (case zkrun_token => k_is)
    (case zatoken_at => k_is)
    (case zltoken_at => k_is)
    (case zetoken_at => k_is)
    (case zktoken_at => k_is)
    (case zatokens => k_is)
    (case zltokens => k_is)
    (case zetokens => k_is)
    (case zktokens => k_is)
    (case za_law_words => k_is)
    (case zl_law_words => k_is)
    (case ze_law_words => k_is)
    (case zk_law_words => k_is)
    (case za_law_is_name => k_is)
    (case zl_law_is_name => k_is)
    (case ze_law_is_name => k_is)
    (case zk_law_is_name => k_is)
    (case za_law_bag => k_is)
    (case zl_law_bag => k_is)
    (case ze_law_bag => k_is)
    (case zk_law_bag => k_is)
    (case za_law_take => k_is)
    (case zl_law_take => k_is)
    (case ze_law_take => k_is)
    (case zk_law_take => k_is)
    (case za_law_some => k_is)
    (case zl_law_some => k_is)
    (case ze_law_some => k_is)
    (case zk_law_some => k_is)
    (case za_law_alike => k_is)
    (case zl_law_alike => k_is)
    (case ze_law_alike => k_is)
    (case zk_law_alike => k_is)
    (case za_law_run => k_is)
    (case zl_law_run => k_is)
    (case ze_law_run => k_is)
    (case zk_law_run => k_is)
    (case za_law_tokens => k_is)
    (case zl_law_tokens => k_is)
    (case ze_law_tokens => k_is)
    (case zk_law_tokens => k_is)
    (case za_law_heard => k_is)
    (case zl_law_heard => k_is)
    (case ze_law_heard => k_is)
    (case zk_law_heard => k_is)
    (case zalaw => k_is)
    (case zllaw => k_is)
    (case zelaw => k_is)
    (case zklaw => k_is)
    (case zt1 => k_is)
    (case zt2 => rfl)
    (case zt3 => kernel_rfl)
    (case zt4 => kernel_rfl)
    (case zcDIGITS => k_is)
    (case zdDIGITS => first | rfl | decide +kernel | kernel_rfl)
    (case zcLETTERS => k_is)
    (case zdLETTERS => first | rfl | decide +kernel | kernel_rfl)
    (case zcMOST_FIGURES => k_is)
    (case zdMOST_FIGURES => first | rfl | decide +kernel | kernel_rfl)
    (case zcMOST_LETTERS => k_is)
    (case zdMOST_LETTERS => first | rfl | decide +kernel | kernel_rfl)
    (case zcMOST_SIGNS => k_is)
    (case zdMOST_SIGNS => first | rfl | decide +kernel | kernel_rfl)
    (case zcRESERVED => k_is)
    (case zkRESERVED => k_is)
    (case ziRESERVED => rfl)
    (case zdRESERVED => first | rfl | decide +kernel | kernel_rfl)
    (case zmRESERVED => decide +kernel)
    (case znabs => k_is)
    (case znall => k_is)
    (case znint => k_is)
    (case znisinstance => k_is)
    (case znlen => k_is)
    (case znrange => k_is)
    (case znrepr => k_is)
    (case znstr => k_is)
    (case zntuple => k_is)
    (case znsuper => k_is)
    (case zgBadText => k_is)
    (case zgBadKind => k_is)
    (case zgBadWeb => k_is)
    (case zgBadProgram => k_is)
    (case zgNoCommand => k_is)
    (case zgNothing => k_is)
    (case zgTooLarge => k_is)
    (case zxm => kernel_rfl)
    (case zopq => k_is)
    (case zxNothing => first | k_is | kernel_rfl)
    (case zkcNothing => k_is)
    (case zsbNothing => first | k_is | kernel_rfl)
    (case ztbNothing => first | k_is | kernel_rfl)
    (case zfiTooLarge => k_is)
    (case ztiTooLarge => first | k_is | kernel_rfl)
    (case zliTooLarge => k_is)
    (case zeiTooLarge => k_is)
    (case zlcTooLarge => k_is)
    (case zisTooLarge => kernel_rfl)
    (case zldTooLarge => k_is)
    (case zv2TooLarge => rfl)
    (case zfeTooLarge => first | rfl | decide +kernel)
    (case zlsTooLarge => first | k_is | kernel_rfl)
    (case zrvTooLarge => first | rfl | decide +kernel)
    (case zsaTooLarge => k_is)
    (case zsbTooLarge_ => first | k_is | kernel_rfl)
    (case ztbTooLarge_ => first | k_is | kernel_rfl)
    (case zkcTooLarge => k_is)
    (case zmrTooLarge => first | k_is | kernel_rfl)
    (case zsuTooLarge => first | ks_is | kernel_rfl)
    (case zsvTooLarge => first | k_is | kernel_rfl)
    (case znfTooLarge_what => k_is)
    (case znfTooLarge_limit => k_is)
    (case zxfTooLarge => kernel_rfl)

